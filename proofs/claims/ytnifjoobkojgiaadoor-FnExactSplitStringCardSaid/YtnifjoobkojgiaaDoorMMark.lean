/- What the laws' marks come to: the marks' texts are a function that is not looked into. -/
import Derived.Test.YtnifjoobkojgiaaDoorMBase
import Derived.Test.YtnifjoobkojgiaaDoorFbText
namespace Go.Proofs.YtnifjoobkojgiaaDoor.X
open Go.RowKit Go.Proofs.YtnifjoobkojgiaaDoorW.PrintWords Go.Proofs.YtnifjoobkojgiaaDoorW.PrintLast
set_option linter.unusedVariables false
set_option linter.unusedSimpArgs false

/-- The text of a mark is what t says, for small marks and enough rounds. -/
def Marks (t : Int → ByteArray) : Prop := ∀ x k, 0 ≤ x → x ≤ 1000000000000 → 20 ≤ k → laws_markText.f k x = some (t x)
theorem strOfNums_one (x : Int) : (strOfNums [x]).size = 1 := rfl
theorem markText_loop (d : Nat) : ∀ (k : Nat) (x : Int) (s : ByteArray), 0 ≤ x → x ≤ 1000000000000000 → x < 10 ^ d → d < k → s.size + d ≤ 100 → ∃ t, laws_markText.l0 k x s = some t := by
  induction d with
  | zero =>
    intro k x s h0 hm h1 hk hs
    obtain ⟨k, rfl⟩ := kpos hk
    simp only [laws_markText.l0]
    have : ¬ x > 0 := by simp at h1; omega
    rw [if_neg this, if_pos (by omega)]
    exact ⟨_, rfl⟩
  | succ d ih =>
    intro k x s h0 hm h1 hk hs
    obtain ⟨k, rfl⟩ := kpos hk
    simp only [laws_markText.l0, Option.bind_some]
    by_cases h : x > 0
    · rw [if_pos h, strOfNums_one, if_pos (by omega)]
      have e : Int.tdiv x 10 = x / 10 := Int.tdiv_eq_ediv_of_nonneg h0
      have hx2 : x < 10 ^ d * 10 := by rw [← Int.pow_succ]; exact h1
      rw [e]
      rw [w64 (x := x / 10) (by omega) (by omega)]
      exact ih k _ _ (by omega) (by omega) (by omega) (by omega) (by rw [ByteArray.size_append, strOfNums_one]; omega)
    · rw [if_neg h, if_pos (by omega)]
      exact ⟨_, rfl⟩
theorem markText_some (x : Int) (h0 : 0 ≤ x) (hx : x ≤ 1000000000000) : ∃ t, laws_markText.f 20 x = some t := by
  unfold laws_markText.f
  split
  · exact ⟨_, rfl⟩
  · exact markText_loop 13 20 x _ h0 (by omega) (by omega) (by omega) (by decide)
theorem markText_up (x : Int) (t : ByteArray) (h : laws_markText.f 20 x = some t) (j : Nat) : laws_markText.f (20 + j) x = some t := by
  induction j with
  | zero => exact h
  | succ j ih => exact laws_markText.mono _ _ _ ih
theorem marks : ∃ t, Marks t := by
  refine ⟨fun x => (laws_markText.f 20 x).getD ⟨#[]⟩, ?_⟩
  intro x k h0 hx hk
  obtain ⟨t, ht⟩ := markText_some x h0 hx
  obtain ⟨j, rfl⟩ : ∃ j, k = 20 + j := ⟨k - 20, by omega⟩
  rw [markText_up x t ht j]
  show _ = some ((laws_markText.f 20 x).getD ⟨#[]⟩)
  rw [ht]
  rfl
end Go.Proofs.YtnifjoobkojgiaaDoor.X
