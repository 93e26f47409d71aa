/- What the printed functions on rotations come to: is a rotation valid, the way between two calls, the next call at a port. -/
import Derived.Test.YtlldonokjgoajaaMRange
import Derived.Test.YtlldonokjgoajaaMRotM
import Derived.Test.YtlldonokjgoajaaGl3Good
import Derived.Test.YtlldonokjgoajaaGIsValidRotation
import Derived.Test.YtlldonokjgoajaaFspecl3Asked
import Derived.Test.YtlldonokjgoajaaGisCall
import Derived.Test.YtlldonokjgoajaaFbWays
namespace Go.Proofs.Ytlldonokjgoajaa.X
open Go.RowKit Go.Proofs.YtlldonokjgoajaaW.PrintWords Go.Proofs.YtlldonokjgoajaaW.PrintLast
set_option linter.unusedVariables false
set_option linter.unusedSimpArgs false

theorem spec_goodR (ps ds : List Int) (k : Nat) (hk : 15 ≤ k) : spec_l3Good.f k ps ds = some (goodR ps ds) := rfl
theorem impl_goodR (ps ds : List Int) (k : Nat) (hk : 15 ≤ k) : impl_IsValidRotation.f k ps ds = some (goodR ps ds) := rfl

theorem goodR_len {ps ds : List Int} (h : goodR ps ds = true) : 1 ≤ ps.length ∧ ps.length ≤ 12 ∧ ds.length = ps.length := by
  unfold goodR at h
  simp only [Bool.and_eq_true, inB_iff, decide_eq_true_eq] at h
  omega
theorem okFromR_at {ps ds : List Int} (d : Nat) : ∀ i, okFromR ps ds d i = true → ∀ j, i ≤ j → j < i + d → okCall ps ds j = true := by
  induction d with
  | zero => intro i _ j h1 h2; omega
  | succ d ih =>
    intro i h j h1 h2
    simp only [okFromR, Bool.and_eq_true] at h
    by_cases e : j = i
    · rw [e]; exact h.1
    · exact ih (i + 1) h.2 j (by omega) (by omega)
theorem goodR_call {ps ds : List Int} (h : goodR ps ds = true) (i : Nat) (hi : i < ps.length) : okCall ps ds i = true := by
  unfold goodR at h
  simp only [Bool.and_eq_true] at h
  exact okFromR_at ps.length 0 h.2 i (by omega) (by omega)
theorem goodR_at {ps ds : List Int} (h : goodR ps ds = true) (i : Nat) (hi : i < ps.length) : 1 ≤ ps.getD i 0 ∧ ps.getD i 0 ≤ 9 ∧ 1 ≤ ds.getD i 0 ∧ ds.getD i 0 ≤ 40 := by
  have := goodR_call h i hi
  unfold okCall at this
  simp only [Bool.and_eq_true, inB_iff] at this
  omega
theorem okFromR_mk {ps ds : List Int} (d : Nat) : ∀ i, (∀ j, i ≤ j → j < i + d → okCall ps ds j = true) → okFromR ps ds d i = true := by
  induction d with
  | zero => intro i _; rfl
  | succ d ih =>
    intro i h
    simp only [okFromR, Bool.and_eq_true]
    exact ⟨h i (by omega) (by omega), ih (i + 1) (fun j h1 h2 => h j (by omega) (by omega))⟩

/-- Is a rotation valid, and are the numbers calls of it? -/
def callB (ps ds : List Int) (i : Int) : Bool := goodR ps ds && inB i 0 ((ps.length : Int) - 1)
theorem isCall_ends (ps ds l : List Int) (k : Nat) (hk : 15 ≤ k) : impl_isCall.f k ps ds l = some (goodR ps ds && l.all fun x => inB x 0 ((ps.length : Int) - 1)) := by
  unfold impl_isCall.f
  rw [impl_goodR _ _ _ hk]
  simp only [Option.bind_some]
  cases goodR ps ds with
  | false => rfl
  | true =>
    simp only [if_true, Bool.true_and]
    congr 1
    rw [Bool.eq_iff_iff]
    simp
theorem isCall_one (ps ds : List Int) (i : Int) (k : Nat) (hk : 15 ≤ k) : impl_isCall.f k ps ds [i] = some (callB ps ds i) := by
  rw [isCall_ends _ _ _ _ hk]
  simp [callB]
theorem isCall_two (ps ds : List Int) (i j : Int) (k : Nat) (hk : 15 ≤ k) : impl_isCall.f k ps ds [i, j] = some (callB ps ds i && callB ps ds j) := by
  rw [isCall_ends _ _ _ _ hk]
  simp only [callB, List.all_cons, List.all_nil, Bool.and_true]
  cases goodR ps ds <;> simp
theorem asked_ends (ps ds : List Int) (i : Int) (k : Nat) (hk : 15 ≤ k) : spec_l3Asked.f k ps ds i = some (callB ps ds i) := by
  unfold spec_l3Asked.f callB
  rw [spec_goodR _ _ _ hk]
  simp only [Option.bind_some, l1In_ends]
  cases hg : goodR ps ds with
  | false => rfl
  | true =>
    have := goodR_len hg
    rw [if_pos rfl, w64 (by omega) (by omega)]
    rfl
theorem callB_nat {ps ds : List Int} {i : Int} (h : callB ps ds i = true) : goodR ps ds = true ∧ ∃ n : Nat, i = (n : Int) ∧ n < ps.length := by
  unfold callB at h
  rw [Bool.and_eq_true, inB_iff] at h
  exact ⟨h.1, i.toNat, by omega, by omega⟩
end Go.Proofs.Ytlldonokjgoajaa.X
