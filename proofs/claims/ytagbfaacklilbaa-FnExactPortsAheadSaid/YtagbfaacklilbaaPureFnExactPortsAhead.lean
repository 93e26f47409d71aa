/- The law FnExactPortsAhead answers true for every rotation and call: the program's PortsAhead and the reference's list the same ports; the program's list is memory of its own. No condition beyond the form's own reach. -/
import Derived.Test.YtagbfaacklilbaaSFnExactPortsAhead
import Derived.Test.YtagbfaacklilbaaMAhead
namespace Go.Proofs.Ytagbfaacklilbaa.Pure
open Go.RowKit Go.Proofs.Ytagbfaacklilbaa.X Go.Proofs.YtagbfaacklilbaaW.PrintWords Go.Proofs.YtagbfaacklilbaaW.PrintLast
set_option linter.unusedVariables false
set_option linter.unusedSimpArgs false
theorem FnExactPortsAhead : laws_FnExactPortsAhead.Pure := by
  intro a b i ha hb _
  refine ⟨1048600, ?_⟩
  have ha1 := ha.1
  have hb1 := hb.1
  unfold laws_FnExactPortsAhead.f
  by_cases h : (a.length : Int) + b.length ≤ 1048576
  · obtain ⟨e1, e2⟩ := ahead_ends a b i 1048600 (by omega)
    obtain ⟨_, e3⟩ := ahead_ends a b i 1048598 (by omega)
    have hl := aheadW_len a b i
    generalize aheadW a b i = r at e1 e2 e3 hl
    obtain ⟨xs, ok⟩ := r
    simp only at hl
    rw [szRotation_small a b _ h (by omega)]
    simp only [Option.bind_some]
    rw [if_neg (by omega), toRotation_ends a b h _ (by omega)]
    simp only [Option.bind_some, e1, e2]
    rw [eqIntS_refl xs (by omega) _ (by omega)]
    simp only [Option.bind_some, if_true, bne_self_eq_false, laws_FnExactPortsAhead.j0, laws_FnExactPortsAhead.j1, laws_FnExactPortsAhead.j2, Bool.false_eq_true, if_false]
    rw [toRotation_ends a b h _ (by omega)]
    simp only [Option.bind_some]
    rw [eqRotation_refl a b (by omega) (by omega) _ (by omega)]
    simp only [Option.bind_some, if_true]
    rw [markRotation_ends a b 1 (by omega) (by omega) (by omega) (by omega) _ (by omega)]
    simp only [Option.bind_some]
    rw [if_neg (by omega), eqIntS_refl xs (by omega) _ (by omega)]
    simp only [Option.bind_some, if_true, Bool.false_eq_true, if_false]
    rw [markIntS_ends xs 1 (by omega) (by omega) _ (by omega)]
    simp only [Option.bind_some]
    rw [heldIntS_ends xs.length 1 (by omega) (by omega) _ (by omega)]
    simp only [Option.bind_some, if_true]
    rw [if_neg (by omega), toRotation_ends a b h _ (by omega)]
    simp only [Option.bind_some, e3]
    rw [eqIntS_refl xs (by omega) _ (by omega)]
    simp only [Option.bind_some, if_true, bne_self_eq_false, Bool.false_eq_true, if_false]
    rw [heldIntS_ends xs.length 1 (by omega) (by omega) _ (by omega)]
    simp only [Option.bind_some, if_true]
    rw [if_neg (by omega)]
  · rw [szRotation_large a b _ ha1 hb1 (by omega) (by omega) h]
    rfl
end Go.Proofs.Ytagbfaacklilbaa.Pure
