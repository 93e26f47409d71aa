/- Plain lemmas about whole numbers that don't wrap, lists that are read by an index, lists that are filled by an index. No Go in them. -/
import Derived.Test.YtfindomajbjacaaGreatDoorX0
import Derived.Test.YtfindomajbjacaaGreatDoorOpen
namespace Go.Proofs.YtfindomajbjacaaGreatDoor.X
open Go.RowKit Go.Proofs.YtfindomajbjacaaGreatDoorW.PrintWords Go.Proofs.YtfindomajbjacaaGreatDoorW.PrintLast
set_option linter.unusedVariables false
set_option linter.unusedSimpArgs false

theorem w64 {x : Int} (h0 : -9223372036854775808 ≤ x) (h1 : x ≤ 9223372036854775807) : wrap64 x = x := by
  unfold wrap64
  omega
theorem wnext {n m : Nat} (h : n < m) (hm : m ≤ 9223372036854775807) : wrap64 ((n : Int) + 1) = ((n + 1 : Nat) : Int) := by
  rw [w64 (by omega) (by omega)]
  omega
theorem kpos {d k : Nat} (h : d < k) : ∃ m, k = m + 1 := ⟨k - 1, by omega⟩
theorem getD_cons {α : Type} {xs : List α} {z : α} {n : Nat} (h : n < xs.length) : xs.drop n = xs.getD n z :: xs.drop (n + 1) := by
  rw [List.drop_eq_getElem_cons h, List.getD_eq_getElem?_getD, List.getElem?_eq_getElem h]
  rfl
theorem getD_mem {α : Type} {xs : List α} {z : α} {n : Nat} (h : n < xs.length) : xs.getD n z ∈ xs := by
  rw [List.getD_eq_getElem?_getD, List.getElem?_eq_getElem h]
  exact List.getElem_mem h
theorem take_succ_getD {α : Type} {xs : List α} {z : α} {n : Nat} (h : n < xs.length) : xs.take (n + 1) = xs.take n ++ [xs.getD n z] := by
  rw [List.take_succ_eq_append_getElem h, List.getD_eq_getElem?_getD, List.getElem?_eq_getElem h]
  rfl
theorem set_take {α : Type} {ys : List α} {n : Nat} (v : α) (h : n < ys.length) : (ys.set n v).take (n + 1) = ys.take n ++ [v] := by
  rw [List.take_succ_eq_append_getElem (by simpa using h)]
  simp [List.take_set_of_le]
theorem rd_nat (xs : List Int) (n : Nat) : rd xs (n : Int) = xs.getD n 0 := rfl
theorem dec_cons_pos {α : Type} [DecidableEq α] {x y : α} {a b : List α} (h : x = y) : decide (x :: a = y :: b) = decide (a = b) := by
  rw [Bool.eq_iff_iff, decide_eq_true_eq, decide_eq_true_eq, List.cons.injEq]
  exact ⟨fun z => z.2, fun z => ⟨h, z⟩⟩
theorem dec_cons_neg {α : Type} [DecidableEq α] {x y : α} {a b : List α} (h : ¬ x = y) : decide (x :: a = y :: b) = false := by
  rw [decide_eq_false_iff_not, List.cons.injEq]
  exact fun z => h z.1
theorem dec_mem_pos {α : Type} [DecidableEq α] {x y : α} {a : List α} (h : x = y) : decide (x ∈ y :: a) = true := by
  rw [decide_eq_true_eq, h]
  exact List.mem_cons_self
theorem dec_mem_neg {α : Type} [DecidableEq α] {x y : α} {a : List α} (h : ¬ x = y) : decide (x ∈ y :: a) = decide (x ∈ a) := by
  rw [Bool.eq_iff_iff, decide_eq_true_eq, decide_eq_true_eq, List.mem_cons]
  exact ⟨fun z => z.resolve_left h, fun z => .inr z⟩
/-- A loop that fills a row by an index: what the row is behind it. -/
theorem fill_step {α β : Type} {xs : List α} {ys : List β} {z : α} {n : Nat} (conv : α → β) (hl : ys.length = xs.length) (h : n < xs.length) (hy : ys.take n = (xs.take n).map conv) :
    (ys.set n (conv (xs.getD n z))).take (n + 1) = (xs.take (n + 1)).map conv ∧ (ys.set n (conv (xs.getD n z))).length = xs.length := by
  refine ⟨?_, by simpa using hl⟩
  rw [set_take _ (by omega), hy, take_succ_getD (z := z) h]
  simp
theorem fill_end {α β : Type} {xs : List α} {ys : List β} {n : Nat} (conv : α → β) (hl : ys.length = xs.length) (h : xs.length ≤ n) (hy : ys.take n = (xs.take n).map conv) : ys = xs.map conv := by
  rw [List.take_of_length_le (by omega), List.take_of_length_le h] at hy
  exact hy
end Go.Proofs.YtfindomajbjacaaGreatDoor.X
