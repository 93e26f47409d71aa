/- Valid yards: the reference's test of a yard; how much a yard holds. -/
import Derived.Test.YtlldonokjgoajaaMIntsL
import Derived.Test.YtlldonokjgoajaaMYardM
import Derived.Test.YtlldonokjgoajaaGIsValidYard
import Derived.Test.YtlldonokjgoajaaFbYard
namespace Go.Proofs.Ytlldonokjgoajaa.X
open Go.RowKit Go.Proofs.YtlldonokjgoajaaW.PrintWords Go.Proofs.YtlldonokjgoajaaW.PrintLast
set_option linter.unusedVariables false
set_option linter.unusedSimpArgs false

def tot : List (List Int) → Nat
  | [] => 0
  | s :: r => s.length + tot r
theorem tot_drop (l : List (List Int)) : ∀ n, tot (l.drop n) ≤ tot l := by
  induction l with
  | nil => intro n; simp [tot]
  | cons s r ih =>
    intro n
    cases n with
    | zero => simp
    | succ n => have := ih n; simp only [List.drop_succ_cons, tot]; omega
theorem tot_get (l : List (List Int)) (n : Nat) (h : n < l.length) : (l.getD n []).length ≤ tot l := by
  have := tot_drop l n
  rw [getD_cons (z := ([] : List Int)) h] at this
  simp only [tot] at this
  omega
theorem rdL_nat (xs : List (List Int)) (n : Nat) : rd_L2 xs (n : Int) = xs.getD n [] := rfl

/-! ### the reference's test of a yard -/
theorem has_contains (t : List Int) (x : Int) : decide (x ∈ t) = t.contains x := by simp
theorem l5Good_loop (ss : List (List Int)) (h6 : ss.length ≤ 6) (d : Nat) : ∀ (k i : Nat) (t : List Int), i + d = ss.length → t.length ≤ 4 * i → 100 + 6 * d ≤ k →
    spec_l5Good.l0 k t (i : Int) ss = some (goodRows t (ss.drop i)) := by
  induction d with
  | zero =>
    intro k i t hi ht hk
    obtain ⟨k, rfl⟩ := kpos (d := 0) (k := k) (by omega)
    simp only [spec_l5Good.l0]
    rw [if_neg (by omega), List.drop_of_length_le (by omega)]
    rfl
  | succ d ih =>
    intro k i t hi ht hk
    obtain ⟨k, rfl⟩ := kpos (d := 0) (k := k) (by omega)
    have hlt : i < ss.length := by omega
    simp only [spec_l5Good.l0]
    rw [if_pos (by omega), if_pos (by omega), getD_cons (z := ([] : List Int)) hlt, rdL_nat]
    obtain ⟨s, hs⟩ : ∃ s, ss.getD i [] = s := ⟨_, rfl⟩
    rw [hs]
    simp only [goodRows]
    by_cases h4 : 4 < s.length
    · rw [if_pos (show (s.length : Int) > 4 by omega), if_pos h4]
    · rw [if_neg (show ¬ (s.length : Int) > 4 by omega), if_neg h4]
      have inner : ∀ (e k j : Nat) (u : List Int), j + e = s.length → u.length = t.length + j → 101 + 6 * d + e ≤ k →
          spec_l5Good.l1 k u (i : Int) (j : Int) ss = some (match seeRow u (s.drop j) with | none => false | some v => goodRows v (ss.drop (i + 1))) := by
        intro e
        induction e with
        | zero =>
          intro k j u hj hu hk
          obtain ⟨k, rfl⟩ := kpos (d := 0) (k := k) (by omega)
          simp only [spec_l5Good.l1, rdL_nat, hs]
          rw [if_pos (by omega), if_pos (by omega), if_neg (by omega), wnext hlt (by omega), ih k (i + 1) u (by omega) (by omega) (by omega), show s.drop j = [] from List.drop_of_length_le (by omega)]
          rfl
        | succ e ihe =>
          intro k j u hj hu hk
          obtain ⟨k, rfl⟩ := kpos (d := 0) (k := k) (by omega)
          have hjt : j < s.length := by omega
          simp only [spec_l5Good.l1, rdL_nat, hs]
          rw [if_pos (by omega), if_pos (by omega), if_pos (by omega), if_pos (by omega), rd_nat, l1In_ends, getD_cons (z := (0 : Int)) hjt]
          simp only [Option.bind_some, seeRow]
          by_cases b1 : inB (s.getD j 0) 1 99 = true
          · rw [if_pos b1, if_pos b1, l1Has_ends _ _ (by omega) k (by omega), has_contains]
            simp only [Option.bind_some]
            by_cases b2 : u.contains (s.getD j 0) = true
            · rw [if_pos b2, if_pos b2]
            · rw [if_neg b2, if_neg b2, if_pos (by omega), wnext hjt (by omega), ihe k (j + 1) _ (by omega) (by simp; omega) (by omega)]
          · rw [if_neg b1, if_neg b1]
      have := inner s.length k 0 t (by omega) (by omega) (by omega)
      rw [show ((0 : Nat) : Int) = 0 from rfl, List.drop_zero] at this
      exact this
theorem spec_goodY (ss : List (List Int)) (k : Nat) (hk : 200 ≤ k) : spec_l5Good.f k ss = some (goodY ss) := by
  unfold spec_l5Good.f goodY
  rw [l1In_ends]
  simp only [Option.bind_some]
  by_cases h : inB (ss.length : Int) 1 6 = true
  · have h6 : ss.length ≤ 6 := by rw [inB_iff] at h; omega
    rw [if_pos h, h]
    have := l5Good_loop ss h6 ss.length k 0 [] (by omega) (by simp) (by omega)
    rw [show ((0 : Nat) : Int) = 0 from rfl, List.drop_zero] at this
    rw [this]
    rfl
  · rw [if_neg h]
    simp [h]
theorem goodY_len {ss : List (List Int)} (h : goodY ss = true) : 1 ≤ ss.length ∧ ss.length ≤ 6 := by
  unfold goodY at h
  simp only [Bool.and_eq_true, inB_iff] at h
  omega
theorem goodRows_row : ∀ (ss : List (List Int)) (t : List Int) (n : Nat), goodRows t ss = true → (ss.getD n []).length ≤ 4
  | [], t, n, h => by simp
  | s :: r, t, n, h => by
    simp only [goodRows] at h
    split at h
    · cases h
    · rename_i h4
      cases n with
      | zero => simpa using h4
      | succ n =>
        split at h
        · cases h
        · simpa using goodRows_row r _ n h
theorem goodY_row {ss : List (List Int)} (h : goodY ss = true) (n : Nat) : (ss.getD n []).length ≤ 4 := by
  unfold goodY at h
  simp only [Bool.and_eq_true] at h
  exact goodRows_row ss [] n h.2
end Go.Proofs.Ytlldonokjgoajaa.X
