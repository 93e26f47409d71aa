/- The law FnExactIsValidContainer answers true for every container: the program's IsValidContainer and the reference's ask the same of the identifier, the size, the weight, the cargo and the port. No condition beyond the form's own reach. -/
import Derived.Test.YtalionklcgdhiaaSFnExactIsValidContainer
import Derived.Test.YtalionklcgdhiaaMGood
namespace Go.Proofs.Ytalionklcgdhiaa.Pure
open Go.RowKit Go.Proofs.Ytalionklcgdhiaa.X Go.Proofs.YtalionklcgdhiaaW.PrintWords Go.Proofs.YtalionklcgdhiaaW.PrintLast
theorem FnExactIsValidContainer : laws_FnExactIsValidContainer.Pure := by
  intro a s w c p ha hs hw hc hp
  refine ⟨15, ?_⟩
  have hz : a.size ≤ 9223372036854775807 := ha
  unfold laws_FnExactIsValidContainer.f laws_szContainer.f laws_toContainer.f spec_IsValidContainer.f
  rw [w64 (by omega) (by omega)]
  by_cases h : (1048576 : Int) - (a.size : Int) < 0
  · simp [h]
  · simp only [if_neg h, Option.bind_some]
    rw [spec_good _ _ _ _ _ 15 (by omega), impl_good _ _ _ _ _ 15 (by omega)]
    simp
end Go.Proofs.Ytalionklcgdhiaa.Pure
