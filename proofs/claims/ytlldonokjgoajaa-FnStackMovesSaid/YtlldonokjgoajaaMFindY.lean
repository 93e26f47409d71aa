/- Where a number lies in a yard: the reference's search and the program's. -/
import Derived.Test.YtlldonokjgoajaaMYardG
import Derived.Test.YtlldonokjgoajaaFbYard
namespace Go.Proofs.Ytlldonokjgoajaa.X
open Go.RowKit Go.Proofs.YtlldonokjgoajaaW.PrintWords Go.Proofs.YtlldonokjgoajaaW.PrintLast
set_option linter.unusedVariables false
set_option linter.unusedSimpArgs false
def findY (x : Int) : List (List Int) → Int → Int × Int
  | [], _ => (-1, -1)
  | s :: r, i => if 0 ≤ whereI x s 0 then (i, whereI x s 0) else findY x r (i + 1)
theorem placeOf_loop (ss : List (List Int)) (x : Int) (hx : ss.length ≤ 1048576) (hs : tot ss ≤ 1048576) (d : Nat) : ∀ (k i : Nat), i + d = ss.length → 1048577 + d < k →
    impl_placeOf.l0 k x ss (ss.length : Int) (i : Int) = some (findY x (ss.drop i) (i : Int)) := by
  induction d with
  | zero =>
    intro k i hi hk
    obtain ⟨k, rfl⟩ := kpos hk
    simp only [impl_placeOf.l0]
    rw [if_neg (by omega), List.drop_of_length_le (by omega)]
    rfl
  | succ d ih =>
    intro k i hi hk
    obtain ⟨k, rfl⟩ := kpos hk
    have hlt : i < ss.length := by omega
    have hg := tot_get ss i hlt
    simp only [impl_placeOf.l0]
    rw [if_pos (by omega), if_pos (by omega), if_pos (by omega), rdL_nat, Index_ends _ _ (by omega) k (by omega), getD_cons (z := ([] : List Int)) hlt]
    simp only [Option.bind_some, findY, ge_iff_le]
    by_cases h : 0 ≤ whereI x (ss.getD i []) 0
    · rw [if_pos h, if_pos h]
    · rw [if_neg h, if_neg h, wnext hlt (by omega), ih k (i + 1) (by omega) (by omega)]
      congr 2
theorem placeOf_ends (ss : List (List Int)) (x : Int) (hx : ss.length ≤ 1048576) (hs : tot ss ≤ 1048576) (k : Nat) (hk : 2097160 ≤ k) : impl_placeOf.f k ss x = some (findY x ss 0) := by
  unfold impl_placeOf.f
  have := placeOf_loop ss x hx hs ss.length k 0 (by omega) (by omega)
  rw [show ((0 : Nat) : Int) = 0 from rfl, List.drop_zero] at this
  exact this
theorem l5Find_loop (ss : List (List Int)) (x : Int) (hx : ss.length ≤ 1048576) (hs : tot ss ≤ 1048576) (d : Nat) : ∀ (k i : Nat), i + d = ss.length → 2 * d + tot (ss.drop i) < k →
    spec_l5Find.l0 k x (i : Int) ss = some (findY x (ss.drop i) (i : Int)) := by
  induction d with
  | zero =>
    intro k i hi hk
    obtain ⟨k, rfl⟩ := kpos hk
    simp only [spec_l5Find.l0]
    rw [if_neg (by omega), List.drop_of_length_le (by omega)]
    rfl
  | succ d ih =>
    intro k i hi hk
    obtain ⟨k, rfl⟩ := kpos hk
    have hlt : i < ss.length := by omega
    have hg := tot_get ss i hlt
    have ht : tot (ss.drop i) = (ss.getD i []).length + tot (ss.drop (i + 1)) := by rw [getD_cons (z := ([] : List Int)) hlt]; rfl
    rw [getD_cons (z := ([] : List Int)) hlt]
    simp only [spec_l5Find.l0, findY]
    rw [if_pos (by omega)]
    rw [ht] at hk
    obtain ⟨s, hss⟩ : ∃ s, ss.getD i [] = s := ⟨_, rfl⟩
    rw [hss] at hg hk ⊢
    have inner : ∀ (e k j : Nat), j + e = s.length → e + 2 * d + tot (ss.drop (i + 1)) + 1 < k →
        spec_l5Find.l1 k x (i : Int) (j : Int) ss = some (if 0 ≤ whereI x (s.drop j) (j : Int) then ((i : Int), whereI x (s.drop j) (j : Int)) else findY x (ss.drop (i + 1)) ((i : Int) + 1)) := by
      intro e
      induction e with
      | zero =>
        intro k j hj hk
        obtain ⟨k, rfl⟩ := kpos hk
        simp only [spec_l5Find.l1, rdL_nat, hss]
        rw [if_pos (by omega), if_pos (by omega), if_neg (by omega), wnext hlt (by omega), ih k (i + 1) (by omega) (by omega), show s.drop j = [] from List.drop_of_length_le (by omega)]
        rfl
      | succ e ihe =>
        intro k j hj hk
        obtain ⟨k, rfl⟩ := kpos hk
        have hjt : j < s.length := by omega
        simp only [spec_l5Find.l1, rdL_nat, hss]
        rw [if_pos (by omega), if_pos (by omega), if_pos (by omega), if_pos (by omega), rd_nat]
        have hw : whereI x (s.drop j) (j : Int) = if x = s.getD j 0 then (j : Int) else whereI x (s.drop (j + 1)) ((j : Int) + 1) := by rw [getD_cons (z := (0 : Int)) hjt]; rfl
        by_cases b : s.getD j 0 = x
        · rw [if_pos b.symm] at hw
          rw [if_pos b, hw, if_pos (by omega)]
        · rw [if_neg (fun e => b e.symm)] at hw
          rw [if_neg b, wnext hjt (by omega), ihe k (j + 1) (by omega) (by omega), hw]
          rfl
    have := inner s.length k 0 (by omega) (by omega)
    rw [show ((0 : Nat) : Int) = 0 from rfl, List.drop_zero] at this
    exact this
theorem l5Find_ends (ss : List (List Int)) (x : Int) (hx : ss.length ≤ 1048576) (hs : tot ss ≤ 1048576) (k : Nat) (hk : 3145800 ≤ k) : spec_l5Find.f k ss x = some (findY x ss 0) := by
  unfold spec_l5Find.f
  have := l5Find_loop ss x hx hs ss.length k 0 (by omega) (by have := tot_drop ss 0; omega)
  rw [show ((0 : Nat) : Int) = 0 from rfl, List.drop_zero] at this
  exact this
end Go.Proofs.Ytlldonokjgoajaa.X
