/- The law FnExactContainerText answers true for every container. No condition beyond the form's own reach. -/
import Derived.Test.YtfindomajbjacaaDoorSFnExactContainerText
import Derived.Test.YtfindomajbjacaaDoorMCText
namespace Go.Proofs.YtfindomajbjacaaDoor.Pure
open Go.RowKit Go.Proofs.YtfindomajbjacaaDoor.X Go.Proofs.YtfindomajbjacaaDoorW.PrintWords Go.Proofs.YtfindomajbjacaaDoorW.PrintLast
set_option linter.unusedVariables false
set_option linter.unusedSimpArgs false
theorem good_parts {a : ByteArray} {s w c p : Int} (h : goodB a s w c p = true) : (1 ≤ s ∧ s ≤ 2) ∧ (1 ≤ w ∧ w ≤ 32000) ∧ (1 ≤ c ∧ c ≤ 3) ∧ (1 ≤ p ∧ p ≤ 9) := by
  unfold goodB inB at h
  simp only [Bool.and_eq_true, decide_eq_true_eq] at h
  exact ⟨h.1.1.1.2, h.1.1.2, h.1.2, h.2⟩
theorem FnExactContainerText : laws_FnExactContainerText.Pure := by
  intro a s w c p ha hs hw hc hp
  refine ⟨40, ?_⟩
  have hz : a.size ≤ 9223372036854775807 := ha
  unfold laws_FnExactContainerText.f laws_szContainer.f laws_toContainer.f spec_ContainerText.f impl_ContainerText.f
  rw [w64 (by omega) (by omega)]
  by_cases h : (1048576 : Int) - (a.size : Int) < 0
  · rw [if_pos h, Option.bind_some, if_pos (by decide)]
  · rw [if_neg h, Option.bind_some, if_neg h]
    simp only [Option.bind_some]
    rw [spec_good _ _ _ _ _ 40 (by omega), impl_good _ _ _ _ _ 40 (by omega), Option.bind_some, Option.bind_some]
    by_cases hg : goodB a s w c p = true
    · obtain ⟨h1, h2, h3, h4⟩ := good_parts hg
      rw [if_pos hg, if_pos hg, l4Text_ends a s w c p (by omega) h1 (by omega) h3 (by omega) 40 (by omega), containerText_ends a s w c p (by omega) h1 (by omega) h3 (by omega)]
      simp only [Option.bind_some, if_true, bne_self_eq_false, Bool.false_eq_true, if_false]
    · rw [if_neg hg, if_neg hg]
      simp only [Option.bind_some, if_true, bne_self_eq_false, Bool.false_eq_true, if_false]
end Go.Proofs.YtfindomajbjacaaDoor.Pure
