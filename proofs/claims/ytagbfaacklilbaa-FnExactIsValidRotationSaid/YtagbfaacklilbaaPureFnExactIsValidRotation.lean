/- The law FnExactIsValidRotation answers true for every rotation: the program's IsValidRotation and the reference's ask the same of the calls. No condition beyond the form's own reach. -/
import Derived.Test.YtagbfaacklilbaaSFnExactIsValidRotation
import Derived.Test.YtagbfaacklilbaaMRotLaw
namespace Go.Proofs.Ytagbfaacklilbaa.Pure
open Go.RowKit Go.Proofs.Ytagbfaacklilbaa.X Go.Proofs.YtagbfaacklilbaaW.PrintWords Go.Proofs.YtagbfaacklilbaaW.PrintLast
set_option linter.unusedVariables false
set_option linter.unusedSimpArgs false
theorem FnExactIsValidRotation : laws_FnExactIsValidRotation.Pure := by
  intro a b ha hb
  refine ⟨1048600, ?_⟩
  have ha1 := ha.1
  have hb1 := hb.1
  unfold laws_FnExactIsValidRotation.f
  by_cases h : (a.length : Int) + b.length ≤ 1048576
  · rw [szRotation_small a b _ h (by omega)]
    simp only [Option.bind_some]
    rw [if_neg (by omega), toRotation_ends a b h _ (by omega)]
    simp only [Option.bind_some, spec_IsValidRotation.f]
    rw [spec_goodR _ _ _ (by omega), impl_goodR _ _ _ (by omega)]
    simp only [Option.bind_some, bne_self_eq_false, Bool.false_eq_true, if_false]
    rw [eqRotation_refl a b (by omega) (by omega) _ (by omega)]
    rfl
  · rw [szRotation_large a b _ ha1 hb1 (by omega) (by omega) h]
    rfl
end Go.Proofs.Ytagbfaacklilbaa.Pure
