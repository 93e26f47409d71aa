/- Where the place of a number lies; the size of a yard of which one stack is another. -/
import Derived.Test.YtlldonokjgoajaaMYardQ
import Derived.Test.YtlldonokjgoajaaMOwn
namespace Go.Proofs.Ytlldonokjgoajaa.X
open Go.RowKit Go.Proofs.YtlldonokjgoajaaW.PrintWords Go.Proofs.YtlldonokjgoajaaW.PrintLast
set_option linter.unusedVariables false
set_option linter.unusedSimpArgs false
theorem whereI_rng (x : Int) : ∀ (l : List Int) (i : Int), whereI x l i = -1 ∨ ∃ t : Nat, whereI x l i = i + t ∧ t < l.length
  | [], i => .inl rfl
  | y :: l, i => by
    simp only [whereI]
    by_cases e : x = y
    · rw [if_pos e]; exact .inr ⟨0, by simp, by simp⟩
    · rw [if_neg e]
      rcases whereI_rng x l (i + 1) with h | ⟨t, h, ht⟩
      · exact .inl h
      · exact .inr ⟨t + 1, by rw [h]; omega, by simp; omega⟩
theorem findY_rng (x : Int) : ∀ (ss : List (List Int)) (i : Int), findY x ss i = (-1, -1) ∨ ∃ n t : Nat, findY x ss i = (i + (n : Int), (t : Int)) ∧ n < ss.length ∧ t < (ss.getD n []).length
  | [], i => .inl rfl
  | s :: r, i => by
    simp only [findY]
    by_cases h : 0 ≤ whereI x s 0
    · rw [if_pos h]
      rcases whereI_rng x s 0 with e | ⟨t, e, ht⟩
      · omega
      · exact .inr ⟨0, t, by rw [e]; simp, by simp, by simpa using ht⟩
    · rw [if_neg h]
      rcases findY_rng x r (i + 1) with e | ⟨n, t, e, hn, ht⟩
      · exact .inl e
      · exact .inr ⟨n + 1, t, by rw [e]; simp; omega, by simp; omega, by simpa using ht⟩
theorem tot_set (y : List Int) : ∀ (l : List (List Int)) (i : Nat), tot (l.set i y) ≤ tot l + y.length
  | [], i => by simp [tot]
  | s :: r, 0 => by simp only [List.set_cons_zero, tot]; omega
  | s :: r, i + 1 => by have := tot_set y r i; simp only [List.set_cons_succ, tot]; omega
end Go.Proofs.Ytlldonokjgoajaa.X
