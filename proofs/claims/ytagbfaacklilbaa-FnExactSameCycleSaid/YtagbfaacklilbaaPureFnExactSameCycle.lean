/- The law FnExactSameCycle answers true for every two rotations: the program's SameCycle and the reference's agree. No condition beyond the form's own reach. -/
import Derived.Test.YtagbfaacklilbaaSFnExactSameCycle
import Derived.Test.YtagbfaacklilbaaMSame
namespace Go.Proofs.Ytagbfaacklilbaa.Pure
open Go.RowKit Go.Proofs.Ytagbfaacklilbaa.X Go.Proofs.YtagbfaacklilbaaW.PrintWords Go.Proofs.YtagbfaacklilbaaW.PrintLast
set_option linter.unusedVariables false
set_option linter.unusedSimpArgs false
theorem FnExactSameCycle : laws_FnExactSameCycle.Pure := by
  intro a b c d ha hb hc hd
  refine ⟨1048600, ?_⟩
  have ha1 := ha.1
  have hb1 := hb.1
  have hc1 := hc.1
  have hd1 := hd.1
  unfold laws_FnExactSameCycle.f
  by_cases h : (a.length : Int) + b.length ≤ 1048576
  · rw [szRotation_small a b _ h (by omega)]
    simp only [Option.bind_some]
    rw [if_neg (by omega)]
    by_cases h2 : (c.length : Int) + d.length ≤ 1048576 - a.length - b.length
    · rw [szRotation_small c d _ h2 (by omega)]
      simp only [Option.bind_some]
      obtain ⟨e1, e2⟩ := same_ends a b c d 1048600 (by omega)
      rw [if_neg (by omega), toRotation_ends a b h _ (by omega), toRotation_ends c d (by omega) _ (by omega)]
      simp only [Option.bind_some, e1, e2, bne_self_eq_false, Bool.false_eq_true, if_false, laws_FnExactSameCycle.j0]
      rw [toRotation_ends a b h _ (by omega), toRotation_ends c d (by omega) _ (by omega)]
      simp only [Option.bind_some]
      rw [eqRotation_refl a b (by omega) (by omega) _ (by omega), eqRotation_refl c d (by omega) (by omega) _ (by omega)]
      rfl
    · rw [szRotation_large c d _ hc1 hd1 (by omega) (by omega) h2]
      rfl
  · rw [szRotation_large a b _ ha1 hb1 (by omega) (by omega) h]
    rfl
end Go.Proofs.Ytagbfaacklilbaa.Pure
