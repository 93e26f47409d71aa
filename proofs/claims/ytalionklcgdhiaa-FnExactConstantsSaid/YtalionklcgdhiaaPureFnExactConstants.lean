/- The law FnExactConstants answers true: every exported constant has the value that the document gives. No condition. -/
import Derived.Test.YtalionklcgdhiaaPFnExactConstantsx1
namespace Go.Proofs.Ytalionklcgdhiaa.Pure
open Go.RowKit Go.Proofs.Ytalionklcgdhiaa.PFnExactConstants Go.Proofs.YtalionklcgdhiaaW.PrintWords Go.Proofs.YtalionklcgdhiaaW.PrintLast

theorem FnExactConstants : laws_FnExactConstants.Pure := by
  unfold laws_FnExactConstants.Pure laws_FnExactConstants.f
  rfl

end Go.Proofs.Ytalionklcgdhiaa.Pure
