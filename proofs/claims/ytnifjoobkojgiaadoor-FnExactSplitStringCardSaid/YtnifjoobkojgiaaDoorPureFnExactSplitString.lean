/- The law FnExactSplitString answers true for every text and sign. No condition beyond the form's own. -/
import Derived.Test.YtnifjoobkojgiaaDoorSFnExactSplitString
import Derived.Test.YtnifjoobkojgiaaDoorMStrM
import Derived.Test.YtnifjoobkojgiaaDoorMSplit
import Derived.Test.YtnifjoobkojgiaaDoorGSplit
namespace Go.Proofs.YtnifjoobkojgiaaDoor.Pure
open Go.RowKit Go.Proofs.YtnifjoobkojgiaaDoor.X Go.Proofs.YtnifjoobkojgiaaDoorW.PrintWords Go.Proofs.YtnifjoobkojgiaaDoorW.PrintLast
set_option linter.unusedSimpArgs false
theorem split_same (s : ByteArray) (c : UInt8) (hx : s.size ≤ 1048576) (k : Nat) (hk : 1048577 ≤ k) : ∃ ys, spec_l1Split.f k s (c.toNat : Int) = some ys ∧ strings_Split.f s ⟨#[c]⟩ = some ys ∧ ys.length ≤ s.size + 1 := by
  obtain ⟨ys, h1, h2, h3⟩ := l1Split_ends s c hx k hk
  refine ⟨ys, h1, ?_, h3⟩
  unfold strings_Split.f
  rw [if_pos ⟨rfl, hx⟩]
  refine congrArg some (map_bs_inj _ _ ?_)
  rw [h2]
  exact (Lib.splitB_data ⟨#[c]⟩ 0 (Lib.countB s ⟨#[c]⟩) s).trans (splitK_eq c (bs s).length (bs s) (Nat.le_refl _))
theorem both (s sep : ByteArray) (k : Nat) (hk : 1048577 ≤ k) : ∃ ys b, spec_SplitString.f k s sep = some (ys, b) ∧ impl_SplitString.f s sep = some (ys, b) ∧ ys.length ≤ 1048576 := by
  unfold spec_SplitString.f impl_SplitString.f
  by_cases h1 : (sep.size : Int) = 1
  · rw [if_pos h1, if_pos h1]
    by_cases h2 : (s.size : Int) > 4000
    · rw [if_pos h2, if_pos h2]
      exact ⟨[], false, rfl, rfl, by simp⟩
    · rw [if_neg h2, if_neg h2, if_pos (by omega)]
      obtain ⟨c, rfl⟩ := Lib.one_byte sep (by omega)
      obtain ⟨ys, e1, e2, e3⟩ := split_same s c (by omega) k hk
      rw [show bt (⟨#[c]⟩ : ByteArray) 0 = (c.toNat : Int) from rfl, e1, e2]
      exact ⟨ys, true, rfl, rfl, by omega⟩
  · rw [if_neg h1, if_neg h1]
    by_cases h2 : (s.size : Int) > 4000
    · rw [if_pos h2]
      exact ⟨[], false, rfl, rfl, by simp⟩
    · rw [if_neg h2]
      exact ⟨[], false, rfl, rfl, by simp⟩
theorem law_ends (s sep : ByteArray) (r : List ByteArray) (b : Bool) (hr : r.length ≤ 1048576) (he : impl_SplitString.f s sep = some (r, b)) (k : Nat) (hk : 1048700 ≤ k) :
    laws_FnExactSplitString.j0 (k + 2) s sep r b r false = some true := by
  obtain ⟨t, ht⟩ := marks
  have s2 : ¬ (1 + (r.length : Int) < 0) := by omega
  simp only [laws_FnExactSplitString.j0, Bool.false_eq_true, if_false]
  rw [markStringS_ends t ht r 1 (by omega) (by omega) _ (by omega)]
  simp only [Option.bind_some]
  rw [heldStringS_ends t ht r.length 1 (by omega) (by omega) _ (by omega)]
  simp only [Option.bind_some]
  rw [if_neg s2, if_true, he]
  simp only [Option.bind_some]
  rw [eqStringS_refl r hr _ (by omega)]
  simp only [Option.bind_some, if_true, bne_self_eq_false, laws_FnExactSplitString.j1, Bool.false_eq_true, if_false]
  rw [heldStringS_ends t ht r.length 1 (by omega) (by omega) _ (by omega)]
  simp only [Option.bind_some]
  rw [if_neg s2, if_true]
theorem FnExactSplitString : laws_FnExactSplitString.Pure := by
  intro s sep _ _
  refine ⟨1048700 + 2, ?_⟩
  obtain ⟨r, b, e1, e2, hr⟩ := both s sep (1048700 + 2) (by omega)
  have hlaw := law_ends s sep r b hr e2 1048700 (by omega)
  unfold laws_FnExactSplitString.f
  by_cases h : (s.size : Int) > 1048576
  · rw [if_pos h]
  by_cases h2 : (sep.size : Int) > 1048576
  · rw [if_neg h, if_pos h2]
  rw [if_neg h, if_neg h2, e1, e2]
  simp only [Option.bind_some]
  rw [eqStringS_refl r hr _ (by omega)]
  simp only [Option.bind_some, if_true, bne_self_eq_false]
  exact hlaw
end Go.Proofs.YtnifjoobkojgiaaDoor.Pure
