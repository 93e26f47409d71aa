/- The law FnExactLessString answers true for all strings: the program's LessString and the reference's compare byte by byte alike. No condition beyond the form's own reach. -/
import Derived.Test.YtalionklcgdhiaaPFnExactLessStringx1
namespace Go.Proofs.Ytalionklcgdhiaa.Pure
open Go.RowKit Go.Proofs.Ytalionklcgdhiaa.PFnExactLessString Go.Proofs.YtalionklcgdhiaaW.PrintWords Go.Proofs.YtalionklcgdhiaaW.PrintLast

theorem FnExactLessString : laws_FnExactLessString.Pure := by
  intro a b _ _
  unfold laws_FnExactLessString.f spec_LessString.f impl_LessString.f
  split
  · rfl
  · split
    · rfl
    · simp

end Go.Proofs.Ytalionklcgdhiaa.Pure
