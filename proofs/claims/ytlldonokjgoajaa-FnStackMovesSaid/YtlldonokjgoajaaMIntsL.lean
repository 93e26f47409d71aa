/- What the printed functions on lists of whole numbers come to: comparison, membership, the place of a number. -/
import Derived.Test.YtlldonokjgoajaaMBase
import Derived.Test.YtlldonokjgoajaaFbList
namespace Go.Proofs.Ytlldonokjgoajaa.X
open Go.RowKit Go.Proofs.YtlldonokjgoajaaW.PrintWords Go.Proofs.YtlldonokjgoajaaW.PrintLast
set_option linter.unusedVariables false
set_option linter.unusedSimpArgs false

theorem l1Same_loop (xs ys : List Int) (hl : ys.length = xs.length) (hx : xs.length ≤ 9223372036854775807) (d : Nat) : ∀ (k n : Nat), n + d = xs.length → d < k → spec_l1Same.l0 k xs ys (n : Int) = some (decide (xs.drop n = ys.drop n)) := by
  induction d with
  | zero =>
    intro k n hn hk
    obtain ⟨k, rfl⟩ := kpos hk
    simp only [spec_l1Same.l0]
    rw [if_neg (by omega), List.drop_of_length_le (by omega), List.drop_of_length_le (by omega)]
    rfl
  | succ d ih =>
    intro k n hn hk
    obtain ⟨k, rfl⟩ := kpos hk
    have hlt : n < xs.length := by omega
    have hn1 := ih k (n + 1) (by omega) (by omega)
    simp only [spec_l1Same.l0]
    rw [if_pos (by omega), if_pos (by omega), if_pos (by omega), wnext hlt hx, hn1, getD_cons (z := (0 : Int)) hlt, getD_cons (xs := ys) (n := n) (z := (0 : Int)) (by omega), rd_nat, rd_nat]
    by_cases h : xs.getD n 0 = ys.getD n 0
    · rw [if_pos h, dec_cons_pos h]
    · rw [if_neg h, dec_cons_neg h]
theorem l1Same_ends (xs ys : List Int) (hx : xs.length ≤ 9223372036854775807) (k : Nat) (hk : xs.length < k) : spec_l1Same.f k xs ys = some (decide (xs = ys)) := by
  unfold spec_l1Same.f
  by_cases hl : (xs.length : Int) = (ys.length : Int)
  · rw [if_pos hl]
    have := l1Same_loop xs ys (by omega) hx xs.length k 0 (by omega) hk
    simpa using this
  · rw [if_neg hl]
    have : ¬ xs = ys := fun h => hl (by rw [h])
    simp [this]
theorem l1Has_loop (xs : List Int) (x : Int) (hx : xs.length ≤ 9223372036854775807) (d : Nat) : ∀ (k n : Nat), n + d = xs.length → d < k → spec_l1Has.l0 k xs x (n : Int) = some (decide (x ∈ xs.drop n)) := by
  induction d with
  | zero =>
    intro k n hn hk
    obtain ⟨k, rfl⟩ := kpos hk
    simp only [spec_l1Has.l0]
    rw [if_neg (by omega), List.drop_of_length_le (by omega)]
    simp
  | succ d ih =>
    intro k n hn hk
    obtain ⟨k, rfl⟩ := kpos hk
    have hlt : n < xs.length := by omega
    have hn1 := ih k (n + 1) (by omega) (by omega)
    simp only [spec_l1Has.l0]
    rw [if_pos (by omega), if_pos (by omega), wnext hlt hx, hn1, getD_cons (z := (0 : Int)) hlt, rd_nat]
    by_cases h : xs.getD n 0 = x
    · rw [if_pos h, dec_mem_pos h.symm]
    · rw [if_neg h, dec_mem_neg (fun e => h e.symm)]
theorem l1Has_ends (xs : List Int) (x : Int) (hx : xs.length ≤ 9223372036854775807) (k : Nat) (hk : xs.length < k) : spec_l1Has.f k xs x = some (decide (x ∈ xs)) := by
  unfold spec_l1Has.f
  have := l1Has_loop xs x hx xs.length k 0 (by omega) hk
  simpa using this
/-- Where a number stands first in a list, counted from i on; -1 if it doesn't. -/
def whereI (x : Int) : List Int → Int → Int
  | [], _ => -1
  | y :: l, i => if x = y then i else whereI x l (i + 1)
theorem whereI_iff (x : Int) : ∀ (l : List Int) (i : Int), 0 ≤ i → (0 ≤ whereI x l i ↔ x ∈ l)
  | [], i, h => by simp [whereI]
  | y :: l, i, h => by
    simp only [whereI, List.mem_cons]
    by_cases e : x = y
    · simp [e, h]
    · rw [if_neg e, whereI_iff x l (i + 1) (by omega)]
      simp [e]
theorem Index_loop (xs : List Int) (x : Int) (hx : xs.length ≤ 9223372036854775807) (d : Nat) : ∀ (k n : Nat), n + d = xs.length → d < k → slices_Index_int_int.l0 k xs x (xs.length : Int) (n : Int) = some (whereI x (xs.drop n) (n : Int)) := by
  induction d with
  | zero =>
    intro k n hn hk
    obtain ⟨k, rfl⟩ := kpos hk
    simp only [slices_Index_int_int.l0]
    rw [if_neg (by omega), List.drop_of_length_le (by omega)]
    rfl
  | succ d ih =>
    intro k n hn hk
    obtain ⟨k, rfl⟩ := kpos hk
    have hlt : n < xs.length := by omega
    have hn1 := ih k (n + 1) (by omega) (by omega)
    simp only [slices_Index_int_int.l0]
    rw [if_pos (by omega), if_pos (by omega), if_pos (by omega), wnext hlt hx, hn1, getD_cons (z := (0 : Int)) hlt, rd_nat]
    simp only [whereI]
    split
    · rfl
    · congr 2
theorem Index_ends (xs : List Int) (x : Int) (hx : xs.length ≤ 9223372036854775807) (k : Nat) (hk : xs.length < k) : slices_Index_int_int.f k xs x = some (whereI x xs 0) := by
  unfold slices_Index_int_int.f
  have := Index_loop xs x hx xs.length k 0 (by omega) hk
  simpa using this
theorem Contains_ends (xs : List Int) (x : Int) (hx : xs.length ≤ 9223372036854775807) (k : Nat) (hk : xs.length < k) : slices_Contains_int_int.f k xs x = some (decide (x ∈ xs)) := by
  unfold slices_Contains_int_int.f
  rw [Index_ends xs x hx k hk]
  simp only [Option.bind_some]
  congr 1
  rw [Bool.eq_iff_iff, decide_eq_true_eq, decide_eq_true_eq]
  exact whereI_iff x xs 0 (by omega)
end Go.Proofs.Ytlldonokjgoajaa.X
