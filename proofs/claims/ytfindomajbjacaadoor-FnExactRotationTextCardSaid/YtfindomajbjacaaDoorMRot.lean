/- What the printed functions on rotations come to: is a rotation valid, the way between two calls, the next call at a port. -/
import Derived.Test.YtfindomajbjacaaDoorMRange
import Derived.Test.YtfindomajbjacaaDoorMRotM
import Derived.Test.YtfindomajbjacaaDoorGl3Good
import Derived.Test.YtfindomajbjacaaDoorGIsValidRotation
namespace Go.Proofs.YtfindomajbjacaaDoor.X
open Go.RowKit Go.Proofs.YtfindomajbjacaaDoorW.PrintWords Go.Proofs.YtfindomajbjacaaDoorW.PrintLast
set_option linter.unusedVariables false
set_option linter.unusedSimpArgs false

theorem spec_goodR (ps ds : List Int) (k : Nat) (hk : 15 ≤ k) : spec_l3Good.f k ps ds = some (goodR ps ds) := rfl
theorem impl_goodR (ps ds : List Int) (k : Nat) (hk : 15 ≤ k) : impl_IsValidRotation.f k ps ds = some (goodR ps ds) := rfl

theorem goodR_len {ps ds : List Int} (h : goodR ps ds = true) : 1 ≤ ps.length ∧ ps.length ≤ 12 ∧ ds.length = ps.length := by
  unfold goodR at h
  simp only [Bool.and_eq_true, inB_iff, decide_eq_true_eq] at h
  omega
theorem okFromR_at {ps ds : List Int} (d : Nat) : ∀ i, okFromR ps ds d i = true → ∀ j, i ≤ j → j < i + d → okCall ps ds j = true := by
  induction d with
  | zero => intro i _ j h1 h2; omega
  | succ d ih =>
    intro i h j h1 h2
    simp only [okFromR, Bool.and_eq_true] at h
    by_cases e : j = i
    · rw [e]; exact h.1
    · exact ih (i + 1) h.2 j (by omega) (by omega)
theorem goodR_call {ps ds : List Int} (h : goodR ps ds = true) (i : Nat) (hi : i < ps.length) : okCall ps ds i = true := by
  unfold goodR at h
  simp only [Bool.and_eq_true] at h
  exact okFromR_at ps.length 0 h.2 i (by omega) (by omega)
theorem goodR_at {ps ds : List Int} (h : goodR ps ds = true) (i : Nat) (hi : i < ps.length) : 1 ≤ ps.getD i 0 ∧ ps.getD i 0 ≤ 9 ∧ 1 ≤ ds.getD i 0 ∧ ds.getD i 0 ≤ 40 := by
  have := goodR_call h i hi
  unfold okCall at this
  simp only [Bool.and_eq_true, inB_iff] at this
  omega
theorem okFromR_mk {ps ds : List Int} (d : Nat) : ∀ i, (∀ j, i ≤ j → j < i + d → okCall ps ds j = true) → okFromR ps ds d i = true := by
  induction d with
  | zero => intro i _; rfl
  | succ d ih =>
    intro i h
    simp only [okFromR, Bool.and_eq_true]
    exact ⟨h i (by omega) (by omega), ih (i + 1) (fun j h1 h2 => h j (by omega) (by omega))⟩

end Go.Proofs.YtfindomajbjacaaDoor.X
