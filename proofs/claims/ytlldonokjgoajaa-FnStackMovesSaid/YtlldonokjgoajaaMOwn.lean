/- What the printed copies of a yard come to: the yard itself. -/
import Derived.Test.YtlldonokjgoajaaMYardQ
import Derived.Test.YtlldonokjgoajaaGClone
import Derived.Test.YtlldonokjgoajaaFspecl1Own
import Derived.Test.YtlldonokjgoajaaFbYard
namespace Go.Proofs.Ytlldonokjgoajaa.X
open Go.RowKit Go.Proofs.YtlldonokjgoajaaW.PrintWords Go.Proofs.YtlldonokjgoajaaW.PrintLast
set_option linter.unusedVariables false
set_option linter.unusedSimpArgs false
theorem l1Own_ends (l : List Int) (h : l.length ≤ 1048576) : spec_l1Own.f l = some l := by
  unfold spec_l1Own.f
  simp only [Option.bind_some]
  rw [if_pos (by simp; omega)]
  rfl
theorem own_loops (ss : List (List Int)) (h6 : ss.length ≤ 6) (h4 : ∀ n, (ss.getD n []).length ≤ 4) (d : Nat) : ∀ (k i : Nat), i + d = ss.length → d < k →
    spec_l5Own.l0 k (i : Int) ss (ss.take i) = some ss ∧ impl_ownYard.l0 k ss (ss.length : Int) (i : Int) (ss.take i) = some ss := by
  induction d with
  | zero =>
    intro k i hi hk
    obtain ⟨k, rfl⟩ := kpos hk
    simp only [spec_l5Own.l0, impl_ownYard.l0]
    rw [if_neg (by omega), if_neg (by omega), List.take_of_length_le (by omega)]
    exact ⟨rfl, rfl⟩
  | succ d ih =>
    intro k i hi hk
    obtain ⟨k, rfl⟩ := kpos hk
    have hlt : i < ss.length := by omega
    have hr := h4 i
    obtain ⟨i1, i2⟩ := ih k (i + 1) (by omega) (by omega)
    rw [take_succ_getD (z := ([] : List Int)) hlt] at i1 i2
    have p1 : (i : Int) < (ss.length : Int) := by omega
    have p2 : 0 ≤ (i : Int) := by omega
    have p3 : (ss.take i).length < 5864062014805 := by rw [List.length_take]; omega
    simp only [spec_l5Own.l0, impl_ownYard.l0, if_pos p1, if_pos p2, if_pos p3]
    rw [rdL_nat, l1Own_ends _ (by omega), Clone_ends _ (by omega)]
    simp only [Option.bind_some, if_pos p3, wnext hlt (show ss.length ≤ 9223372036854775807 by omega)]
    exact ⟨i1, i2⟩
theorem own_ends (ss : List (List Int)) (h : goodY ss = true) (k : Nat) (hk : 200 ≤ k) : spec_l5Own.f k ss = some ss ∧ impl_ownYard.f k ss = some ss := by
  have h6 := goodY_len h
  have := own_loops ss (by omega) (goodY_row h) ss.length k 0 (by omega) (by omega)
  rw [show ((0 : Nat) : Int) = 0 from rfl, List.take_zero] at this
  exact this
theorem tot_rows (l : List (List Int)) (h : ∀ n, (l.getD n []).length ≤ 4) : tot l ≤ 4 * l.length := by
  induction l with
  | nil => simp [tot]
  | cons s r ih =>
    have h0 := h 0
    have hr := ih (fun n => by simpa using h (n + 1))
    simp only [tot, List.length_cons, List.getD_cons_zero] at h0 ⊢
    omega
theorem goodY_tot {ss : List (List Int)} (h : goodY ss = true) : tot ss ≤ 24 := by
  have h6 := goodY_len h
  have := tot_rows ss (goodY_row h)
  omega
end Go.Proofs.Ytlldonokjgoajaa.X
