/- The law FnExactRotationText answers true for every rotation. No condition beyond the form's own reach. -/
import Derived.Test.YtfindomajbjacaaDoorSFnExactRotationText
import Derived.Test.YtfindomajbjacaaDoorMRotLaw
import Derived.Test.YtfindomajbjacaaDoorMRText
namespace Go.Proofs.YtfindomajbjacaaDoor.Pure
open Go.RowKit Go.Proofs.YtfindomajbjacaaDoor.X Go.Proofs.YtfindomajbjacaaDoorW.PrintWords Go.Proofs.YtfindomajbjacaaDoorW.PrintLast
set_option linter.unusedVariables false
set_option linter.unusedSimpArgs false
theorem good_small {ps ds : List Int} (h : goodR ps ds = true) : smallL ps ∧ smallL ds := by
  have hl := goodR_len h
  refine ⟨fun i => ?_, fun i => ?_⟩
  · by_cases hi : i < ps.length
    · have := goodR_at h i hi; omega
    · rw [List.getD_eq_getElem?_getD, List.getElem?_eq_none (by omega)]; show _ ≤ (0 : Int) ∧ (0 : Int) ≤ _; omega
  · by_cases hi : i < ps.length
    · have := goodR_at h i hi; omega
    · rw [List.getD_eq_getElem?_getD, List.getElem?_eq_none (by omega)]; show _ ≤ (0 : Int) ∧ (0 : Int) ≤ _; omega
theorem FnExactRotationText : laws_FnExactRotationText.Pure := by
  intro a b ha hb
  refine ⟨1048600 + 1, ?_⟩
  have ha1 := ha.1
  have hb1 := hb.1
  unfold laws_FnExactRotationText.f
  by_cases h : (a.length : Int) + b.length ≤ 1048576
  · rw [szRotation_small a b _ h (by omega)]
    simp only [Option.bind_some]
    rw [if_neg (by omega), toRotation_ends a b h _ (by omega)]
    simp only [Option.bind_some, spec_RotationText.f, impl_RotationText.f]
    rw [spec_goodR _ _ _ (by omega), impl_goodR _ _ _ (by omega), Option.bind_some, Option.bind_some]
    by_cases hg : goodR a b = true
    · obtain ⟨h1, h2⟩ := good_small hg
      obtain ⟨l1, l2, l3⟩ := goodR_len hg
      have e1 := spec_rot_loop a b h1 h2 (by omega) l3 a.length (1048600 + 1) 0 (by omega) (by omega)
      have e2 := impl_rot_loop a b h1 h2 (by omega) l3 a.length (1048600 + 1) 0 (by omega) (by omega)
      rw [rotT_zero] at e1
      rw [if_pos hg, if_pos hg, show (0 : Int) = ((0 : Nat) : Int) from rfl, e1, Option.bind_some]
      unfold impl_rotationText.f
      rw [show ([] : List ByteArray) = partsT a b 0 from rfl, show (0 : Int) = ((0 : Nat) : Int) from rfl, e2]
      simp only [Option.bind_some, if_true, bne_self_eq_false, laws_FnExactRotationText.j0, Bool.false_eq_true, if_false]
      rw [toRotation_ends a b h _ (by omega)]
      simp only [Option.bind_some]
      rw [eqRotation_refl a b (by omega) (by omega) _ (by omega)]
      rfl
    · rw [if_neg hg, if_neg hg]
      simp only [Option.bind_some, if_true, bne_self_eq_false, laws_FnExactRotationText.j0, Bool.false_eq_true, if_false]
      rw [toRotation_ends a b h _ (by omega)]
      simp only [Option.bind_some]
      rw [eqRotation_refl a b (by omega) (by omega) _ (by omega)]
      rfl
  · rw [szRotation_large a b _ ha1 hb1 (by omega) (by omega) h]
    rfl
end Go.Proofs.YtfindomajbjacaaDoor.Pure
