/- The law FnExactBestLoading answers true for every rotation and two ports: the program's BestLoading and the reference's find the same call and the same days. No condition beyond the form's own reach. -/
import Derived.Test.YtagbfaacklilbaaSFnExactBestLoading
import Derived.Test.YtagbfaacklilbaaMBest
namespace Go.Proofs.Ytagbfaacklilbaa.Pure
open Go.RowKit Go.Proofs.Ytagbfaacklilbaa.X Go.Proofs.YtagbfaacklilbaaW.PrintWords Go.Proofs.YtagbfaacklilbaaW.PrintLast
set_option linter.unusedVariables false
set_option linter.unusedSimpArgs false
theorem FnExactBestLoading : laws_FnExactBestLoading.Pure := by
  intro a b i t ha hb _ _
  refine ⟨1048600, ?_⟩
  have ha1 := ha.1
  have hb1 := hb.1
  unfold laws_FnExactBestLoading.f
  by_cases h : (a.length : Int) + b.length ≤ 1048576
  · obtain ⟨r, e1, e2⟩ := best_both a b i t 1048600 (by omega)
    rw [szRotation_small a b _ h (by omega)]
    simp only [Option.bind_some]
    rw [if_neg (by omega), toRotation_ends a b h _ (by omega)]
    simp only [Option.bind_some, e1, e2, if_true, bne_self_eq_false, laws_FnExactBestLoading.j0, Bool.false_eq_true, if_false]
    rw [toRotation_ends a b h _ (by omega)]
    simp only [Option.bind_some]
    rw [eqRotation_refl a b (by omega) (by omega) _ (by omega)]
    rfl
  · rw [szRotation_large a b _ ha1 hb1 (by omega) (by omega) h]
    rfl
end Go.Proofs.Ytagbfaacklilbaa.Pure
