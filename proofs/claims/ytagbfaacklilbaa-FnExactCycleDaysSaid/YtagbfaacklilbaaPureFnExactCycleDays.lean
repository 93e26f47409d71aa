/- The law FnExactCycleDays answers true for every rotation: the program's CycleDays and the reference's both add up the days of a valid rotation. No condition beyond the form's own reach. -/
import Derived.Test.YtagbfaacklilbaaSFnExactCycleDays
import Derived.Test.YtagbfaacklilbaaMCycle
namespace Go.Proofs.Ytagbfaacklilbaa.Pure
open Go.RowKit Go.Proofs.Ytagbfaacklilbaa.X Go.Proofs.YtagbfaacklilbaaW.PrintWords Go.Proofs.YtagbfaacklilbaaW.PrintLast
set_option linter.unusedVariables false
set_option linter.unusedSimpArgs false
theorem FnExactCycleDays : laws_FnExactCycleDays.Pure := by
  intro a b ha hb
  refine ⟨1048600, ?_⟩
  have ha1 := ha.1
  have hb1 := hb.1
  unfold laws_FnExactCycleDays.f
  by_cases h : (a.length : Int) + b.length ≤ 1048576
  · rw [szRotation_small a b _ h (by omega)]
    simp only [Option.bind_some]
    rw [if_neg (by omega), toRotation_ends a b h _ (by omega)]
    simp only [Option.bind_some]
    rw [spec_cycle _ _ _ (by omega), impl_cycle _ _ _ (by omega)]
    simp only [Option.bind_some, if_true, bne_self_eq_false, laws_FnExactCycleDays.j0, Bool.false_eq_true, if_false]
    rw [toRotation_ends a b h _ (by omega)]
    simp only [Option.bind_some]
    rw [eqRotation_refl a b (by omega) (by omega) _ (by omega)]
    rfl
  · rw [szRotation_large a b _ ha1 hb1 (by omega) (by omega) h]
    rfl
end Go.Proofs.Ytagbfaacklilbaa.Pure
