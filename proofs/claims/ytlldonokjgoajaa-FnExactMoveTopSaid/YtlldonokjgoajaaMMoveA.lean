/- What MoveTop answers: the program's and the reference's alike. -/
import Derived.Test.YtlldonokjgoajaaMYardD
import Derived.Test.YtlldonokjgoajaaMOwn
import Derived.Test.YtlldonokjgoajaaGl5Move
import Derived.Test.YtlldonokjgoajaaGimplMove
import Derived.Test.YtlldonokjgoajaaFspecMoveTop
namespace Go.Proofs.Ytlldonokjgoajaa.X
open Go.RowKit Go.Proofs.YtlldonokjgoajaaW.PrintWords Go.Proofs.YtlldonokjgoajaaW.PrintLast
set_option linter.unusedVariables false
set_option linter.unusedSimpArgs false
def moveA (ss : List (List Int)) (a1 a2 : Int) : List (List Int) × Int × Bool :=
  if stackB ss a1 = true ∧ stackB ss a2 = true ∧ a1 ≠ a2 ∧ (ss.getD a1.toNat []).length ≠ 0 ∧ (ss.getD a2.toNat []).length ≠ 4 then (moveL ss a1.toNat a2.toNat, topY (ss.getD a1.toNat []), true) else ([], 0, false)
theorem moveO_good {ss : List (List Int)} (h : goodY ss = true) (f t : Nat) (hf : f < ss.length) (ht : t < ss.length) (hp : 0 < (ss.getD f []).length) : moveO ss (f : Int) (t : Int) = some (moveL ss f t) := by
  have h1 := goodY_row h f
  have h2 := goodY_row (cut_good h hf hp) t
  unfold moveO
  rw [Int.toNat_natCast, Int.toNat_natCast, if_pos ⟨by omega, by omega, by omega, by omega, hp, by omega, by omega⟩]
theorem l5Move_good {ss : List (List Int)} (h : goodY ss = true) (f t : Nat) (hf : f < ss.length) (ht : t < ss.length) (hp : 0 < (ss.getD f []).length) (k : Nat) (hk : 200 ≤ k) : spec_l5Move.f k ss (f : Int) (t : Int) = some (moveL ss f t) := by
  unfold spec_l5Move.f
  rw [(own_ends ss h k hk).1, Option.bind_some, moveO_good h f t hf ht hp]
theorem move_both (ss : List (List Int)) (a1 a2 : Int) (k : Nat) (hk : 200 ≤ k) : spec_MoveTop.f k ss a1 a2 = some (moveA ss a1 a2) ∧ impl_MoveTop.f k ss a1 a2 = some (moveA ss a1 a2) := by
  unfold spec_MoveTop.f impl_MoveTop.f moveA
  rw [l5Stack_ends _ _ _ hk, l5Stack_ends _ _ _ hk, hasStack_two]
  simp only [Option.bind_some]
  by_cases h1 : stackB ss a1 = true
  · by_cases h2 : stackB ss a2 = true
    · obtain ⟨hg, f, rfl, hf⟩ := stackB_nat h1
      obtain ⟨_, t, rfl, ht⟩ := stackB_nat h2
      have h4 := goodY_row hg f
      have h5 := goodY_row hg t
      have p1 : 0 ≤ (f : Int) := by omega
      have p2 : (f : Int) < (ss.length : Int) := by omega
      have p3 : 0 ≤ (t : Int) := by omega
      have p4 : (t : Int) < (ss.length : Int) := by omega
      simp only [h1, h2, Bool.and_self, Bool.true_eq_false, if_true, if_false, if_pos p1, if_pos p2, if_pos p3, if_pos p4, if_pos (And.intro p1 p2), if_pos (And.intro p3 p4), rdL_nat, Int.toNat_natCast, true_and]
      by_cases he : (f : Int) = (t : Int)
      · rw [if_pos he, if_pos he, if_neg (fun h => h.1 he)]
        exact ⟨rfl, rfl⟩
      · rw [if_neg he, if_neg he]
        by_cases e1 : (ss.getD f []).length = 0
        · have e1' : ((ss.getD f []).length : Int) = 0 := by omega
          simp only [e1, if_true, ne_eq, not_true, false_and, and_false, if_false]
          exact ⟨by rfl, trivial⟩
        · have e1' : ¬ ((ss.getD f []).length : Int) = 0 := by omega
          simp only [e1', e1, if_false]
          by_cases e2 : (ss.getD t []).length = 4
          · have e2' : ((ss.getD t []).length : Int) = 4 := by omega
            simp only [e2, if_true, ne_eq, not_true, false_and, and_false, if_false]
            exact ⟨by rfl, trivial⟩
          · have w1 : wrap64 (((ss.getD f []).length : Int) - 1) = (((ss.getD f []).length - 1 : Nat) : Int) := by rw [w64 (by omega) (by omega)]; omega
            have e2' : ¬ ((ss.getD t []).length : Int) = 4 := by omega
            simp only [e2', e2, if_false]
            rw [if_pos ⟨he, fun h_ => e1 h_, fun h_ => e2 h_⟩, l5Move_good hg f t hf ht (by omega) k hk, (own_ends ss hg k hk).2, Option.bind_some, Option.bind_some, moveO_good hg f t hf ht (by omega), Option.bind_some]
            have g1 : 0 ≤ (((ss.getD f []).length - 1 : Nat) : Int) := by omega
            have g2 : (((ss.getD f []).length - 1 : Nat) : Int) < ((ss.getD f []).length : Int) := by omega
            have g3 : topY (ss.getD f []) = (ss.getD f []).getD ((ss.getD f []).length - 1) 0 := by unfold topY; rw [if_neg e1]
            simp only [w1, g1, g2, if_true, rd_nat, g3, and_self]
    · simp only [h1, h2, if_true, if_false, Bool.and_false, Bool.and_true, true_and, false_and, Bool.false_eq_true, and_false, and_self]
  · simp only [h1, if_false, Bool.false_and, false_and, Bool.false_eq_true, if_true, and_self]
theorem moveA_small (ss : List (List Int)) (a1 a2 : Int) : (moveA ss a1 a2).1.length ≤ 1048576 ∧ tot (moveA ss a1 a2).1 ≤ 1048576 := by
  unfold moveA
  split
  · rename_i h
    obtain ⟨h1, h2, h3, h4, h5⟩ := h
    obtain ⟨hg, f, rfl, hf⟩ := stackB_nat h1
    obtain ⟨_, t, rfl, ht⟩ := stackB_nat h2
    simp only [Int.toNat_natCast] at h4 h5
    have hm := move_good hg hf ht (by omega) (by omega) h5
    have := goodY_tot hm
    have := goodY_len hm
    simp only [Int.toNat_natCast]
    omega
  · simp [tot]
end Go.Proofs.Ytlldonokjgoajaa.X
