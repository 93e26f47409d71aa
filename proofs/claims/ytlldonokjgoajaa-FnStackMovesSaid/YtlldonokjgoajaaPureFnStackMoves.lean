/- The law FnStackMoves answers true for every code. No condition beyond the form's own. -/
import Derived.Test.YtlldonokjgoajaaFlawsFnStackMoves
import Derived.Test.YtlldonokjgoajaaOpen
import Derived.Test.YtlldonokjgoajaaMYardD
import Derived.Test.YtlldonokjgoajaaMOwn
import Derived.Test.YtlldonokjgoajaaGl5Move
import Derived.Test.YtlldonokjgoajaaGimplMove
import Derived.Test.YtlldonokjgoajaaFspecMoveTop
import Derived.Test.YtlldonokjgoajaaMYardG
import Derived.Test.YtlldonokjgoajaaFbV
import Derived.Test.YtlldonokjgoajaaGClone
import Derived.Test.YtlldonokjgoajaaFspecBlockersOf
import Derived.Test.YtlldonokjgoajaaFimplBlockersOf
import Derived.Test.YtlldonokjgoajaaFimplPlaceOf
import Derived.Test.YtlldonokjgoajaaMBase
import Derived.Test.YtlldonokjgoajaaFbCur
import Derived.Test.YtlldonokjgoajaaGspoilt
import Derived.Laws.BitsAllLaws
import Derived.Laws.Bits64
import Derived.Test.YtlldonokjgoajaaMYardQ
import Derived.Test.YtlldonokjgoajaaFspecl1Curyard
import Derived.Test.YtlldonokjgoajaaFspecl1CuranyYard
import Derived.Test.YtlldonokjgoajaaGnumberIn
import Derived.Test.YtlldonokjgoajaaFspecDrawMoveTop
import Derived.Test.YtlldonokjgoajaaFspecDrawPlaceOf
import Derived.Test.YtlldonokjgoajaaFspecDrawBlockersOf
import Derived.Test.YtlldonokjgoajaaFspecDrawSameYard
import Derived.Test.YtlldonokjgoajaaMSameY
-- Written by a program of ours (wip/bin/rows.py). Not trusted: Lean checks it.
namespace Go.Proofs.Ytlldonokjgoajaa.X
open Go.RowKit Go.Proofs.YtlldonokjgoajaaW.PrintWords Go.Proofs.YtlldonokjgoajaaW.PrintLast
/-- The law's one pure statement. -/
def lw.Pure : Prop := ∀ (l0 : (List Int)), (WL WU8) l0 → ∃ k, lw.f k l0 = some true
end Go.Proofs.Ytlldonokjgoajaa.X
/- What MoveTop answers: the program's and the reference's alike. -/
namespace Go.Proofs.Ytlldonokjgoajaa.X
open Go.RowKit Go.Proofs.YtlldonokjgoajaaW.PrintWords Go.Proofs.YtlldonokjgoajaaW.PrintLast
set_option linter.unusedVariables false
set_option linter.unusedSimpArgs false
def moveA (ss : List (List Int)) (a1 a2 : Int) : List (List Int) × Int × Bool :=
  if stackB ss a1 = true ∧ stackB ss a2 = true ∧ a1 ≠ a2 ∧ (ss.getD a1.toNat []).length ≠ 0 ∧ (ss.getD a2.toNat []).length ≠ 4 then (moveL ss a1.toNat a2.toNat, topY (ss.getD a1.toNat []), true) else ([], 0, false)
theorem moveO_good {ss : List (List Int)} (h : goodY ss = true) (f t : Nat) (hf : f < ss.length) (ht : t < ss.length) (hp : 0 < (ss.getD f []).length) : moveO ss (f : Int) (t : Int) = some (moveL ss f t) := by
  have h1 := goodY_row h f
  have h2 := goodY_row (cut_good h hf hp) t
  unfold moveO
  rw [Int.toNat_natCast, Int.toNat_natCast, if_pos ⟨by omega, by omega, by omega, by omega, hp, by omega, by omega⟩]
theorem l5Move_good {ss : List (List Int)} (h : goodY ss = true) (f t : Nat) (hf : f < ss.length) (ht : t < ss.length) (hp : 0 < (ss.getD f []).length) (k : Nat) (hk : 200 ≤ k) : spec_l5Move.f k ss (f : Int) (t : Int) = some (moveL ss f t) := by
  unfold spec_l5Move.f
  rw [(own_ends ss h k hk).1, Option.bind_some, moveO_good h f t hf ht hp]
theorem move_both (ss : List (List Int)) (a1 a2 : Int) (k : Nat) (hk : 200 ≤ k) : spec_MoveTop.f k ss a1 a2 = some (moveA ss a1 a2) ∧ impl_MoveTop.f k ss a1 a2 = some (moveA ss a1 a2) := by
  unfold spec_MoveTop.f impl_MoveTop.f moveA
  rw [l5Stack_ends _ _ _ hk, l5Stack_ends _ _ _ hk, hasStack_two]
  simp only [Option.bind_some]
  by_cases h1 : stackB ss a1 = true
  · by_cases h2 : stackB ss a2 = true
    · obtain ⟨hg, f, rfl, hf⟩ := stackB_nat h1
      obtain ⟨_, t, rfl, ht⟩ := stackB_nat h2
      have h4 := goodY_row hg f
      have h5 := goodY_row hg t
      have p1 : 0 ≤ (f : Int) := by omega
      have p2 : (f : Int) < (ss.length : Int) := by omega
      have p3 : 0 ≤ (t : Int) := by omega
      have p4 : (t : Int) < (ss.length : Int) := by omega
      simp only [h1, h2, Bool.and_self, Bool.true_eq_false, if_true, if_false, if_pos p1, if_pos p2, if_pos p3, if_pos p4, if_pos (And.intro p1 p2), if_pos (And.intro p3 p4), rdL_nat, Int.toNat_natCast, true_and]
      by_cases he : (f : Int) = (t : Int)
      · rw [if_pos he, if_pos he, if_neg (fun h => h.1 he)]
        exact ⟨rfl, rfl⟩
      · rw [if_neg he, if_neg he]
        by_cases e1 : (ss.getD f []).length = 0
        · have e1' : ((ss.getD f []).length : Int) = 0 := by omega
          simp only [e1, if_true, ne_eq, not_true, false_and, and_false, if_false]
          exact ⟨by rfl, trivial⟩
        · have e1' : ¬ ((ss.getD f []).length : Int) = 0 := by omega
          simp only [e1', e1, if_false]
          by_cases e2 : (ss.getD t []).length = 4
          · have e2' : ((ss.getD t []).length : Int) = 4 := by omega
            simp only [e2, if_true, ne_eq, not_true, false_and, and_false, if_false]
            exact ⟨by rfl, trivial⟩
          · have w1 : wrap64 (((ss.getD f []).length : Int) - 1) = (((ss.getD f []).length - 1 : Nat) : Int) := by rw [w64 (by omega) (by omega)]; omega
            have e2' : ¬ ((ss.getD t []).length : Int) = 4 := by omega
            simp only [e2', e2, if_false]
            rw [if_pos ⟨he, fun h_ => e1 h_, fun h_ => e2 h_⟩, l5Move_good hg f t hf ht (by omega) k hk, (own_ends ss hg k hk).2, Option.bind_some, Option.bind_some, moveO_good hg f t hf ht (by omega), Option.bind_some]
            have g1 : 0 ≤ (((ss.getD f []).length - 1 : Nat) : Int) := by omega
            have g2 : (((ss.getD f []).length - 1 : Nat) : Int) < ((ss.getD f []).length : Int) := by omega
            have g3 : topY (ss.getD f []) = (ss.getD f []).getD ((ss.getD f []).length - 1) 0 := by unfold topY; rw [if_neg e1]
            simp only [w1, g1, g2, if_true, rd_nat, g3, and_self]
    · simp only [h1, h2, if_true, if_false, Bool.and_false, Bool.and_true, true_and, false_and, Bool.false_eq_true, and_false, and_self]
  · simp only [h1, if_false, Bool.false_and, false_and, Bool.false_eq_true, if_true, and_self]
theorem moveA_small (ss : List (List Int)) (a1 a2 : Int) : (moveA ss a1 a2).1.length ≤ 1048576 ∧ tot (moveA ss a1 a2).1 ≤ 1048576 := by
  unfold moveA
  split
  · rename_i h
    obtain ⟨h1, h2, h3, h4, h5⟩ := h
    obtain ⟨hg, f, rfl, hf⟩ := stackB_nat h1
    obtain ⟨_, t, rfl, ht⟩ := stackB_nat h2
    simp only [Int.toNat_natCast] at h4 h5
    have hm := move_good hg hf ht (by omega) (by omega) h5
    have := goodY_tot hm
    have := goodY_len hm
    simp only [Int.toNat_natCast]
    omega
  · simp [tot]
end Go.Proofs.Ytlldonokjgoajaa.X
/- What the laws' comparison of yards comes to: a yard is as itself. -/
namespace Go.Proofs.Ytlldonokjgoajaa.X
open Go.RowKit Go.Proofs.YtlldonokjgoajaaW.PrintWords Go.Proofs.YtlldonokjgoajaaW.PrintLast
set_option linter.unusedVariables false
set_option linter.unusedSimpArgs false
theorem vInts_loop (xs : List Int) (hx : xs.length ≤ 1048576) (d : Nat) : ∀ (k i : Nat), i + d = xs.length → d < k → laws_vInts.l0 k xs xs (i : Int) = some true := by
  induction d with
  | zero =>
    intro k i hi hk
    obtain ⟨k, rfl⟩ := kpos hk
    simp only [laws_vInts.l0]
    rw [if_neg (by omega)]
  | succ d ih =>
    intro k i hi hk
    obtain ⟨k, rfl⟩ := kpos hk
    have hlt : i < xs.length := by omega
    simp only [laws_vInts.l0]
    rw [if_pos (by omega), if_pos (by omega), if_pos (by omega), if_pos trivial, wnext hlt (by omega)]
    exact ih k (i + 1) (by omega) (by omega)
theorem vInts_refl (xs : List Int) (hx : xs.length ≤ 1048576) (k : Nat) (hk : xs.length < k) : laws_vInts.f k xs xs = some true := by
  unfold laws_vInts.f
  rw [if_pos rfl]
  have := vInts_loop xs hx xs.length k 0 (by omega) (by omega)
  rw [show ((0 : Nat) : Int) = 0 from rfl] at this
  exact this
theorem vTable_loop (ss : List (List Int)) (hx : ss.length ≤ 1048576) (hs : tot ss ≤ 1048576) (d : Nat) : ∀ (k i : Nat), i + d = ss.length → 1048577 + d < k → laws_vTable.l0 k ss ss (i : Int) = some true := by
  induction d with
  | zero =>
    intro k i hi hk
    obtain ⟨k, rfl⟩ := kpos hk
    simp only [laws_vTable.l0]
    rw [if_neg (by omega)]
  | succ d ih =>
    intro k i hi hk
    obtain ⟨k, rfl⟩ := kpos hk
    have hlt : i < ss.length := by omega
    have hg := tot_get ss i hlt
    simp only [laws_vTable.l0]
    rw [if_pos (by omega), if_pos (by omega), if_pos (by omega), rdL_nat, vInts_refl _ (by omega) k (by omega), Option.bind_some, if_pos rfl, wnext hlt (by omega)]
    exact ih k (i + 1) (by omega) (by omega)
theorem vYard_refl (ss : List (List Int)) (hx : ss.length ≤ 1048576) (hs : tot ss ≤ 1048576) (k : Nat) (hk : 2097160 ≤ k) : laws_vYard.f k ss ss = some true := by
  unfold laws_vYard.f laws_vTable.f
  rw [if_pos rfl]
  have := vTable_loop ss hx hs ss.length k 0 (by omega) (by omega)
  rw [show ((0 : Nat) : Int) = 0 from rfl] at this
  rw [this]
  rfl
end Go.Proofs.Ytlldonokjgoajaa.X
/- What BlockersOf and PlaceOf answer, plainly: the numbers above a number are those of the higher tiers. -/
namespace Go.Proofs.Ytlldonokjgoajaa.X
open Go.RowKit Go.Proofs.YtlldonokjgoajaaW.PrintWords Go.Proofs.YtlldonokjgoajaaW.PrintLast
set_option linter.unusedVariables false
set_option linter.unusedSimpArgs false
theorem whereI_range (x : Int) : ∀ (l : List Int) (i : Int), whereI x l i = -1 ∨ ∃ t : Nat, whereI x l i = i + t ∧ t < l.length
  | [], i => .inl rfl
  | y :: l, i => by
    simp only [whereI]
    by_cases e : x = y
    · rw [if_pos e]; exact .inr ⟨0, by simp, by simp⟩
    · rw [if_neg e]
      rcases whereI_range x l (i + 1) with h | ⟨t, h, ht⟩
      · exact .inl h
      · exact .inr ⟨t + 1, by rw [h]; omega, by simp; omega⟩
theorem findY_range (x : Int) : ∀ (ss : List (List Int)) (i : Int), findY x ss i = (-1, -1) ∨ ∃ n t : Nat, findY x ss i = (i + (n : Int), (t : Int)) ∧ n < ss.length ∧ t < (ss.getD n []).length
  | [], i => .inl rfl
  | s :: r, i => by
    simp only [findY]
    by_cases h : 0 ≤ whereI x s 0
    · rw [if_pos h]
      rcases whereI_range x s 0 with e | ⟨t, e, ht⟩
      · omega
      · exact .inr ⟨0, t, by rw [e]; simp, by simp, by simpa using ht⟩
    · rw [if_neg h]
      rcases findY_range x r (i + 1) with e | ⟨n, t, e, hn, ht⟩
      · exact .inl e
      · exact .inr ⟨n + 1, t, by rw [e]; simp; omega, by simp; omega, by simpa using ht⟩
theorem Reverse_small (l : List Int) (h : l.length ≤ 3) (k : Nat) : slices_Reverse_int_int.f (k + 3) l = some l.reverse := by
  have e0 : wrap64 (-1) = -1 := w64 (by omega) (by omega)
  have e1 : wrap64 0 = 0 := w64 (by omega) (by omega)
  have e2 : wrap64 1 = 1 := w64 (by omega) (by omega)
  have e3 : wrap64 2 = 2 := w64 (by omega) (by omega)
  match l, h with
  | [], _ => simp [slices_Reverse_int_int.f, slices_Reverse_int_int.l0, e0]
  | [a], _ => simp [slices_Reverse_int_int.f, slices_Reverse_int_int.l0, e1]
  | [a, b], _ => simp [slices_Reverse_int_int.f, slices_Reverse_int_int.l0, e1, e2, rd]
  | [a, b, c], _ => simp [slices_Reverse_int_int.f, slices_Reverse_int_int.l0, e1, e2, e3, rd]
  | a :: b :: c :: d :: l, h => simp at h
theorem BlockersOf_loop (ss : List (List Int)) (n t : Nat) (R : List Int) (hn : n < ss.length) (hR : rd_L2 ss (n : Int) = R) (h4 : R.length ≤ 4) (d : Nat) : ∀ (k : Nat) (acc : List Int), t + d < R.length → d < k → acc.length ≤ 10 - d →
    spec_BlockersOf.l0 k acc (n : Int) (t : Int) ((t + d : Nat) : Int) ss = some (acc ++ ((R.drop (t + 1)).take d).reverse, true) := by
  induction d with
  | zero =>
    intro k acc h1 hk ha
    obtain ⟨k, rfl⟩ := kpos hk
    simp only [spec_BlockersOf.l0]
    rw [if_neg (by omega)]
    simp
  | succ d ih =>
    intro k acc h1 hk ha
    obtain ⟨k, rfl⟩ := kpos hk
    simp only [spec_BlockersOf.l0, hR]
    rw [if_pos (by omega), if_pos (by omega), if_pos (by omega), if_pos (by omega), if_pos (by omega), if_pos (by omega), rd_nat, w64 (by omega) (by omega), show ((t + (d + 1) : Nat) : Int) - 1 = ((t + d : Nat) : Int) by omega, ih k _ (by omega) (by omega) (by simp; omega), take_succ_getD (z := (0 : Int)) (by rw [List.length_drop]; omega)]
    simp only [List.reverse_append, List.reverse_singleton, List.append_assoc, List.singleton_append]
    rw [show (R.drop (t + 1)).getD d 0 = R.getD (t + (d + 1)) 0 by rw [List.getD_eq_getElem?_getD, List.getElem?_drop, List.getD_eq_getElem?_getD, show t + 1 + d = t + (d + 1) by omega]]
def aboveY (ss : List (List Int)) (x : Int) : List Int × Bool :=
  if goodY ss = true then (if (findY x ss 0).1 < 0 then ([], false) else (((ss.getD (findY x ss 0).1.toNat []).drop ((findY x ss 0).2.toNat + 1)).reverse, true)) else ([], false)
def placeA (ss : List (List Int)) (x : Int) : Int × Int × Bool :=
  if goodY ss = true then (if (findY x ss 0).1 < 0 then (0, 0, false) else ((findY x ss 0).1, (findY x ss 0).2, true)) else (0, 0, false)
theorem block_both (ss : List (List Int)) (x : Int) (hx : ss.length ≤ 1048576) (hs : tot ss ≤ 1048576) (k : Nat) (hk : 3145800 ≤ k) : spec_BlockersOf.f k ss x = some (aboveY ss x) ∧ impl_BlockersOf.f k ss x = some (aboveY ss x) := by
  unfold spec_BlockersOf.f impl_BlockersOf.f aboveY
  rw [l5Find_ends _ _ hx hs _ hk, placeOf_ends _ _ hx hs _ (by omega)]
  simp only [Option.bind_some, impl_IsValidYard.f]
  rw [spec_goodY _ _ (by omega)]
  simp only [Option.bind_some]
  obtain ⟨k, rfl⟩ : ∃ m, k = m + 12 := ⟨k - 12, by omega⟩
  by_cases h : goodY ss = true
  · rw [if_pos h, if_pos h, if_pos h]
    rcases findY_range x ss 0 with e | ⟨n, t, e, hn, ht⟩
    · rw [e]
      simp only [spec_BlockersOf.j0, impl_BlockersOf.j0]
      exact ⟨by simp, by simp⟩
    · rw [e]
      have h4 := goodY_row h n
      have p0 : ¬ ((n : Int) < 0) := by omega
      have p1 : 0 ≤ (n : Int) := by omega
      have p2 : (n : Int) < (ss.length : Int) := by omega
      simp only [spec_BlockersOf.j0, impl_BlockersOf.j0, Int.zero_add, decide_eq_false p0, Bool.false_eq_true, if_false, if_pos p1, if_pos p2, if_neg p0, Int.toNat_natCast]
      obtain ⟨R, hR⟩ : ∃ R, ss.getD n [] = R := ⟨_, rfl⟩
      rw [hR] at h4 ht ⊢
      have hR' : rd_L2 ss (n : Int) = R := hR
      rw [hR', w64 (x := (R.length : Int) - 1) (by omega) (by omega), w64 (x := (t : Int) + 1) (by omega) (by omega), if_pos (by omega), if_pos (by omega), show ((t : Int) + 1).toNat = t + 1 by omega]
      have hl := BlockersOf_loop ss n t R hn hR' h4 (R.length - 1 - t) (k + 11) [] (by omega) (by omega) (by simp)
      rw [show ((t + (R.length - 1 - t) : Nat) : Int) = (R.length : Int) - 1 by omega, List.take_of_length_le (by rw [List.length_drop]; omega)] at hl
      rw [hl]
      have hc : slices_Clone_int_int.f (R.drop (t + 1)) = some (R.drop (t + 1)) := by
        unfold slices_Clone_int_int.f
        rw [if_pos (by rw [List.length_drop]; omega)]
      rw [hc]
      simp only [Option.bind_some]
      rw [Reverse_small _ (by rw [List.length_drop]; omega) (k + 8)]
      exact ⟨by simp, rfl⟩
  · rw [if_neg h, if_neg h, if_neg h]
    simp only [spec_BlockersOf.j0, impl_BlockersOf.j0]
    exact ⟨by simp, by simp⟩
theorem place_any (ss : List (List Int)) (x : Int) (hx : ss.length ≤ 1048576) (hs : tot ss ≤ 1048576) (k : Nat) (hk : 2097160 ≤ k) : impl_PlaceOf.f k ss x = some (placeA ss x) := by
  unfold impl_PlaceOf.f placeA
  rw [placeOf_ends _ _ hx hs _ hk]
  simp only [Option.bind_some, impl_IsValidYard.f]
  by_cases h : goodY ss = true
  · rw [if_pos h, if_pos h]
    split
    · rfl
    · rfl
  · rw [if_neg h, if_neg h]
/-- The i-th number above a number lies i places below the top. -/
theorem place_above (ss : List (List Int)) (n t : Nat) (hg : goodY ss = true) (hn : n < ss.length) (ht : t < (ss.getD n []).length) (i : Nat) (hi : i < (ss.getD n []).length - (t + 1)) :
    placeA ss ((((ss.getD n []).drop (t + 1)).reverse).getD i 0) = ((n : Int), ((ss.getD n []).length : Int) - 1 - i, true) := by
  obtain ⟨R, hR⟩ : ∃ R, ss.getD n [] = R := ⟨_, rfl⟩
  rw [hR] at ht hi ⊢
  have e1 : ((R.drop (t + 1)).reverse).getD i 0 = R.getD (R.length - 1 - i) 0 := by
    rw [List.getD_eq_getElem?_getD, List.getElem?_reverse (by rw [List.length_drop]; omega), List.getElem?_drop, List.length_drop, List.getD_eq_getElem?_getD]
    congr 2
    omega
  have hf := findY_at (R.getD (R.length - 1 - i) 0) ss 0 n (R.length - 1 - i) ((goodY_iff ss).1 hg).2.2.2 (by rw [hR]; omega) (by rw [hR])
  unfold placeA
  rw [if_pos hg, e1, hf, if_neg (by omega)]
  refine Prod.ext (by simp) (Prod.ext ?_ rfl)
  exact (by omega : ((R.length - 1 - i : Nat) : Int) = (R.length : Int) - 1 - (i : Int))
theorem aboveY_form (ss : List (List Int)) (x : Int) : (aboveY ss x = ([], false) ∧ placeA ss x = (0, 0, false)) ∨
    (goodY ss = true ∧ ∃ n t : Nat, n < ss.length ∧ t < (ss.getD n []).length ∧ aboveY ss x = (((ss.getD n []).drop (t + 1)).reverse, true) ∧ placeA ss x = ((n : Int), (t : Int), true)) := by
  unfold aboveY placeA
  by_cases h : goodY ss = true
  · rw [if_pos h, if_pos h]
    rcases findY_range x ss 0 with e | ⟨n, t, e, hn, ht⟩
    · rw [e]
      exact .inl ⟨if_pos (by decide), if_pos (by decide)⟩
    · rw [e, if_neg (by omega), if_neg (by omega)]
      refine .inr ⟨h, n, t, hn, ht, ?_, ?_⟩
      · simp
      · simp
  · rw [if_neg h, if_neg h]
    exact .inl ⟨rfl, rfl⟩
end Go.Proofs.Ytlldonokjgoajaa.X
/- What the reference's drawing of inputs answers: it always ends, within its bounds. -/
namespace Go.Proofs.Ytlldonokjgoajaa.X
open Go.RowKit Go.Proofs.YtlldonokjgoajaaW.PrintWords Go.Proofs.YtlldonokjgoajaaW.PrintLast
set_option linter.unusedVariables false
set_option linter.unusedSimpArgs false
/-- The bytes of a code. -/
def Byt (l : List Int) : Prop := l.length ≤ 1000000 ∧ ∀ x ∈ l, 0 ≤ x ∧ x ≤ 255
/-- A cursor's place: not behind m. -/
def At (m a : Int) : Prop := 0 ≤ a ∧ a ≤ m
theorem At.up {m n a : Int} (h : At m a) (hm : m ≤ n) : At n a := ⟨h.1, Int.le_trans h.2 hm⟩
theorem byt_rd {l : List Int} (hl : Byt l) (a : Int) (h0 : 0 ≤ a) (h1 : a < (l.length : Int)) : 0 ≤ rd l a ∧ rd l a ≤ 255 := by
  obtain ⟨n, rfl⟩ : ∃ n : Nat, a = n := ⟨a.toNat, by omega⟩
  rw [rd_nat]
  exact hl.2 _ (getD_mem (by omega))
theorem low_byte (z : Int) : 0 ≤ wrap64 (Go.bits .and .u64 (IntKind.u64.wrap z / 1099511627776) 255) ∧ wrap64 (Go.bits .and .u64 (IntKind.u64.wrap z / 1099511627776) 255) ≤ 255 := by
  rw [IntKind.wrap_u64]
  have h0 : 0 ≤ z % 18446744073709551616 / 1099511627776 := by omega
  have h1 : z % 18446744073709551616 / 1099511627776 < 18446744073709551616 := by omega
  rw [u64_and _ _ h0 h1 (by decide) (by decide)]
  have hle : ((z % 18446744073709551616 / 1099511627776).toNat &&& (255 : Int).toNat) ≤ 255 := Nat.and_le_right
  generalize ((z % 18446744073709551616 / 1099511627776).toNat &&& (255 : Int).toNat) = q at hle
  rw [w64 (by omega) (by omega)]
  omega
theorem next_ok {l : List Int} (hl : Byt l) {m a : Int} (ha : At m a) (hm : m ≤ 1000000000000) (s : Int) : ∃ v a' s', spec_l1Cur_next.f l a s = some (v, a', s') ∧ (0 ≤ v ∧ v ≤ 255) ∧ At (m + 1) a' := by
  obtain ⟨h0, h1⟩ := ha
  have hw : wrap64 (a + 1) = a + 1 := w64 (by omega) (by omega)
  have h2 : At (m + 1) (a + 1) := ⟨by omega, by omega⟩
  unfold spec_l1Cur_next.f
  rw [hw]
  by_cases h : a < (l.length : Int)
  · obtain ⟨r0, r1⟩ := byt_rd hl a h0 h
    rw [if_pos h, if_pos h0, if_pos (by omega)]
    exact ⟨_, _, _, rfl, by rw [w64 (by omega) (by omega)]; exact ⟨r0, r1⟩, h2⟩
  · rw [if_neg h, if_neg (by omega)]
    exact ⟨_, _, _, rfl, low_byte _, h2⟩
theorem pick_ok {l : List Int} (hl : Byt l) {m a : Int} (ha : At m a) (hm : m ≤ 100000000000) (s n : Int) : ∃ v a' s', spec_l1Cur_pick.f l a s n = some (v, a', s') ∧ (0 ≤ v ∧ v ≤ 65535 ∧ (1 ≤ n → v < n)) ∧ At (m + 2) a' := by
  unfold spec_l1Cur_pick.f
  by_cases h : n ≤ 1
  · rw [if_pos h]
    exact ⟨_, _, _, rfl, ⟨by omega, by omega, by omega⟩, ha.up (by omega)⟩
  · rw [if_neg h]
    obtain ⟨v, a1, s1, e1, hv, ha1⟩ := next_ok hl ha (by omega) s
    rw [e1, Option.bind_some]
    have hn0 : ¬ n = 0 := by omega
    by_cases h2 : n > 200
    · rw [if_pos h2]
      obtain ⟨v2, a2, s2, e2, hv2, ha2⟩ := next_ok hl ha1 (by omega) s1
      rw [e2, Option.bind_some, if_neg hn0]
      refine ⟨_, _, _, rfl, ?_, ha2.up (by omega)⟩
      rw [w64 (x := v * 256) (by omega) (by omega), w64 (by omega) (by omega)]
      rw [Int.tmod_eq_emod_of_nonneg (by omega)]
      show 0 ≤ (v * 256 + v2) % n ∧ (v * 256 + v2) % n ≤ 65535 ∧ (1 ≤ n → (v * 256 + v2) % n < n)
      have b1 := Int.emod_nonneg (v * 256 + v2) hn0
      have b2 := Int.emod_lt_of_pos (v * 256 + v2) (b := n) (by omega)
      have b3 : (v * 256 + v2) % n ≤ v * 256 + v2 := by
        by_cases hq : v * 256 + v2 < n
        · rw [Int.emod_eq_of_lt (by omega) hq]; exact Int.le_refl _
        · omega
      exact ⟨b1, by omega, fun _ => b2⟩
    · rw [if_neg h2, if_neg hn0]
      refine ⟨_, _, _, rfl, ?_, ha1.up (by omega)⟩
      show 0 ≤ Int.tmod v n ∧ Int.tmod v n ≤ 65535 ∧ (1 ≤ n → Int.tmod v n < n)
      rw [Int.tmod_eq_emod_of_nonneg hv.1]
      have b1 := Int.emod_nonneg v hn0
      have b2 := Int.emod_lt_of_pos v (b := n) (by omega)
      exact ⟨b1, by omega, fun _ => b2⟩
theorem one_ok {l : List Int} (hl : Byt l) {m a : Int} (ha : At m a) (hm : m ≤ 100000000000) (s n : Int) : ∃ v a' s', spec_l1Cur_one.f l a s n = some (v, a', s') ∧ At (m + 2) a' := by
  obtain ⟨v, a1, s1, e1, _, ha1⟩ := pick_ok hl ha hm s n
  exact ⟨_, _, _, by unfold spec_l1Cur_one.f; rw [e1, Option.bind_some], ha1⟩
theorem of_ok {l : List Int} (hl : Byt l) {m a : Int} (ha : At m a) (hm : m ≤ 100000000000) (s : Int) (xs : List ByteArray) (hx : 1 ≤ xs.length) (P : ByteArray → Prop) (hP : ∀ x ∈ xs, P x) : ∃ v a' s', spec_l1Cur_of.f l a s xs = some (v, a', s') ∧ P v ∧ At (m + 2) a' := by
  obtain ⟨v, a1, s1, e1, hv, ha1⟩ := pick_ok hl ha hm s (xs.length : Int)
  refine ⟨_, _, _, by unfold spec_l1Cur_of.f; rw [e1, Option.bind_some, if_pos hv.1, if_pos (hv.2.2 (by omega))], ?_, ha1⟩
  have := hv.2.2 (by omega)
  exact hP _ (getD_mem (by omega))
theorem among_ok {l : List Int} (hl : Byt l) {m a : Int} (ha : At m a) (hm : m ≤ 100000000000) (s : Int) (xs : List Int) (hx : 1 ≤ xs.length) (P : Int → Prop) (hP : ∀ x ∈ xs, P x) : ∃ v a' s', spec_l1Cur_among.f l a s xs = some (v, a', s') ∧ P v ∧ At (m + 2) a' := by
  obtain ⟨v, a1, s1, e1, hv, ha1⟩ := pick_ok hl ha hm s (xs.length : Int)
  refine ⟨_, _, _, by unfold spec_l1Cur_among.f; rw [e1, Option.bind_some, if_pos hv.1, if_pos (hv.2.2 (by omega))], ?_, ha1⟩
  have := hv.2.2 (by omega)
  exact hP _ (getD_mem (by omega))
theorem spoilt_ok {l : List Int} (hl : Byt l) {m a : Int} (ha : At m a) (hm : m ≤ 1000000000) (s : Int) (t w : ByteArray) (hw : 1 ≤ w.size) (ht : t.size ≤ 1000000000) (hws : w.size ≤ 1000000) : ∃ v a' s', spec_l1Cur_spoilt.f l a s t w = some (v, a', s') ∧ v.size ≤ t.size + 1 ∧ At (m + 6) a' := by
  unfold spec_l1Cur_spoilt.f
  by_cases h : t.toList = ([] : List UInt8)
  · rw [if_pos h, if_pos hw]
    exact ⟨_, _, _, rfl, by rw [ByteArray.size_extract]; omega, ha.up (by omega)⟩
  · rw [if_neg h]
    have hpos : 1 ≤ t.size := by
      rcases Nat.eq_zero_or_pos t.size with h0 | h0
      · refine absurd ?_ h
        obtain ⟨d⟩ := t
        have : d.size = 0 := h0
        obtain rfl : d = #[] := Array.eq_empty_of_size_eq_zero this
        unfold ByteArray.toList ByteArray.toList.loop
        rfl
      · exact h0
    obtain ⟨i, a1, s1, e1, hi, ha1⟩ := pick_ok hl ha (by omega) s (t.size : Int)
    obtain ⟨j, a2, s2, e2, hj, ha2⟩ := pick_ok hl ha1 (by omega) s1 (w.size : Int)
    obtain ⟨c, a3, s3, e3, hc, ha3⟩ := pick_ok hl ha2 (by omega) s2 3
    have hj1 := hj.2.2 (by omega)
    have hi1 := hi.2.2 (by omega)
    rw [e1, Option.bind_some]
    simp only
    rw [e2, Option.bind_some]
    simp only
    rw [e3, Option.bind_some]
    simp only
    rw [if_pos ⟨⟨hi.1, hi1⟩, ⟨hj.1, hj1⟩, by omega, by omega⟩]
    refine ⟨_, _, _, rfl, ?_, ha3.up (by omega)⟩
    unfold spoT spoB
    split
    · simp only [ByteArray.size_append, ByteArray.size_extract]; omega
    · split
      · simp only [ByteArray.size_append, ByteArray.size_extract]; omega
      · simp only [ByteArray.size_append, ByteArray.size_extract]; omega
end Go.Proofs.Ytlldonokjgoajaa.X
/- Drawing yards: it always ends; a yard is small. -/
namespace Go.Proofs.Ytlldonokjgoajaa.X
open Go.RowKit Go.Proofs.YtlldonokjgoajaaW.PrintWords Go.Proofs.YtlldonokjgoajaaW.PrintLast
set_option linter.unusedVariables false
set_option linter.unusedSimpArgs false
/-- A small yard: one to four rows of at most four. -/
def SmY (ss : List (List Int)) : Prop := (1 ≤ ss.length ∧ ss.length ≤ 4) ∧ ∀ n, (ss.getD n []).length ≤ 4
theorem getD_set (ss : List (List Int)) (i n : Nat) (y : List Int) : (ss.set i y).getD n [] = if i = n ∧ i < ss.length then y else ss.getD n [] := by
  rw [List.getD_eq_getElem?_getD, List.getElem?_set, List.getD_eq_getElem?_getD]
  by_cases h : i = n
  · subst h
    by_cases h2 : i < ss.length
    · simp [h2]
    · simp [h2]
  · simp [h]
theorem SmY.set {ss : List (List Int)} (h : SmY ss) (i : Nat) (y : List Int) (hy : y.length ≤ 4) : SmY (ss.set i y) := by
  refine ⟨by rw [List.length_set]; exact h.1, fun n => ?_⟩
  rw [getD_set]
  split
  · exact hy
  · exact h.2 n
theorem own_small (ss : List (List Int)) (h6 : ss.length ≤ 6) (h4 : ∀ n, (ss.getD n []).length ≤ 4) (k : Nat) (hk : 200 ≤ k) : spec_l5Own.f k ss = some ss := by
  unfold spec_l5Own.f
  have := (own_loops ss h6 h4 ss.length k 0 (by omega) (by omega)).1
  rw [show ((0 : Nat) : Int) = 0 from rfl] at this
  simpa using this
theorem move_small {ss : List (List Int)} (h : SmY ss) (f t : Nat) (hf : f < ss.length) (ht : t < ss.length) (hne : f ≠ t) (hp : 0 < (ss.getD f []).length) (h4 : (ss.getD t []).length < 4) (k : Nat) (hk : 200 ≤ k) :
    ∃ ys, spec_l5Move.f k ss (f : Int) (t : Int) = some ys ∧ SmY ys := by
  have h1 := h.2 f
  have hc : SmY (cutL ss f) := h.set f _ (by rw [List.length_take]; omega)
  have e : (cutL ss f).getD t [] = ss.getD t [] := by unfold cutL; rw [getD_set, if_neg (fun x => hne x.1)]
  refine ⟨moveL ss f t, ?_, hc.set t _ (by rw [e, List.length_append, List.length_singleton]; omega)⟩
  unfold spec_l5Move.f
  rw [own_small ss (by have := h.1; omega) h.2 k hk, Option.bind_some]
  unfold moveO
  rw [Int.toNat_natCast, Int.toNat_natCast, if_pos ⟨by omega, by omega, by omega, by omega, hp, by omega, by rw [e]; omega⟩]
theorem yard_l2 {l : List Int} (hl : Byt l) (d : Nat) : ∀ (k : Nat) (ss : List (List Int)) (n m a s : Int), SmY ss → n = d → d + 220 < k → At m a → m + 4 * d ≤ 10000000 →
    ∃ ys a' s', spec_l1Cur_yard.l2 k n l a s ss = some (ys, a', s') ∧ SmY ys ∧ At (m + 4 * d) a' := by
  induction d with
  | zero =>
    intro k ss n m a s hs hn hk ha hm
    obtain ⟨k, rfl⟩ := kpos (d := 0) (k := k) (by omega)
    simp only [spec_l1Cur_yard.l2]
    rw [if_neg (by omega), own_small ss (by have := hs.1; omega) hs.2 k (by omega), Option.bind_some]
    exact ⟨_, _, _, rfl, hs, ha.up (by omega)⟩
  | succ d ih =>
    intro k ss n m a s hs hn hk ha hm
    obtain ⟨k, rfl⟩ := kpos (d := 0) (k := k) (by omega)
    obtain ⟨x, a1, s1, e1, hx, ha1⟩ := pick_ok hl ha (by omega) s (ss.length : Int)
    obtain ⟨y, a2, s2, e2, hy, ha2⟩ := pick_ok hl ha1 (by omega) s1 (ss.length : Int)
    have hl1 := hs.1
    have hx2 := hx.2.2 (by omega)
    have hx0 := hx.1
    have hy2 := hy.2.2 (by omega)
    have hy0 := hy.1
    obtain ⟨f, rfl⟩ : ∃ f : Nat, x = f := ⟨x.toNat, by omega⟩
    obtain ⟨t, rfl⟩ : ∃ t : Nat, y = t := ⟨y.toNat, by omega⟩
    have ham : 0 ≤ a ∧ a ≤ m := ha
    have key : ∀ zs, SmY zs → ∃ ys a' s', spec_l1Cur_yard.l2 k (n - 1) l a2 s2 zs = some (ys, a', s') ∧ SmY ys ∧ At (m + 4 * (d + 1 : Nat)) a' := by
      intro zs hz
      obtain ⟨ys, a', s', q1, q2, q3⟩ := ih k zs (n - 1) (m + 2 + 2) a2 s2 hz (by omega) (by omega) ha2 (by omega)
      exact ⟨ys, a', s', q1, q2, q3.up (by omega)⟩
    simp only [spec_l1Cur_yard.l2]
    rw [if_pos (by omega), e1, Option.bind_some]
    dsimp only
    rw [e2, Option.bind_some]
    dsimp only
    rw [w64 (show -9223372036854775808 ≤ n - 1 by omega) (by omega)]
    by_cases h1 : (f : Int) = (t : Int)
    · rw [if_pos h1]
      exact key ss hs
    rw [if_neg h1, if_pos hx0, if_pos hx2]
    by_cases h2 : ((rd_L2 ss (f : Int)).length : Int) > 0
    · rw [if_pos h2, if_pos hy0, if_pos hy2]
      by_cases h3 : ((rd_L2 ss (t : Int)).length : Int) < 4
      · obtain ⟨zs, ez, hz⟩ := move_small hs f t (by omega) (by omega) (by omega) (by rw [rdL_nat] at h2; omega) (by rw [rdL_nat] at h3; omega) k (by omega)
        rw [if_pos h3, ez, Option.bind_some]
        exact key zs hz
      · rw [if_neg h3]
        exact key ss hs
    · rw [if_neg h2]
      exact key ss hs
theorem yard_l1 {l : List Int} (hl : Byt l) (d : Nat) : ∀ (k : Nat) (ss : List (List Int)) (n m a s : Int), SmY ss → n = d → d + 230 < k → At m a → m + 2 * d ≤ 1000000 →
    ∃ ys a' s', spec_l1Cur_yard.l1 k n l a s ss = some (ys, a', s') ∧ SmY ys ∧ At (m + 2 * d + 20) a' := by
  induction d with
  | zero =>
    intro k ss n m a s hs hn hk ha hm
    obtain ⟨k, rfl⟩ := kpos (d := 0) (k := k) (by omega)
    obtain ⟨v, a1, s1, e1, hv, ha1⟩ := pick_ok hl ha (by omega) s 4
    have hv2 := hv.2.2 (by omega)
    have hv0 := hv.1
    obtain ⟨n', rfl⟩ : ∃ n : Nat, v = n := ⟨v.toNat, by omega⟩
    obtain ⟨ys, a', s', q1, q2, q3⟩ := yard_l2 hl n' k ss (n' : Int) _ a1 s1 hs rfl (by omega) ha1 (by omega)
    simp only [spec_l1Cur_yard.l1]
    rw [if_neg (by omega), e1, Option.bind_some]
    exact ⟨ys, a', s', q1, q2, q3.up (by omega)⟩
  | succ d ih =>
    intro k ss n m a s hs hn hk ha hm
    obtain ⟨k, rfl⟩ := kpos (d := 0) (k := k) (by omega)
    obtain ⟨x, a1, s1, e1, hx, ha1⟩ := pick_ok hl ha (by omega) s (ss.length : Int)
    have hl1 := hs.1
    have hx2 := hx.2.2 (by omega)
    have hx0 := hx.1
    obtain ⟨f, rfl⟩ : ∃ f : Nat, x = f := ⟨x.toNat, by omega⟩
    have ham : 0 ≤ a ∧ a ≤ m := ha
    have key : ∀ zs, SmY zs → ∃ ys a' s', spec_l1Cur_yard.l1 k (n - 1) l a1 s1 zs = some (ys, a', s') ∧ SmY ys ∧ At (m + 2 * (d + 1 : Nat) + 20) a' := by
      intro zs hz
      obtain ⟨ys, a', s', q1, q2, q3⟩ := ih k zs (n - 1) (m + 2) a1 s1 hz (by omega) (by omega) ha1 (by omega)
      exact ⟨ys, a', s', q1, q2, q3.up (by omega)⟩
    simp only [spec_l1Cur_yard.l1]
    rw [if_pos (by omega), e1, Option.bind_some]
    dsimp only
    rw [if_pos hx0, if_pos hx2, w64 (show -9223372036854775808 ≤ n - 1 by omega) (by omega)]
    by_cases h3 : ((rd_L2 ss (f : Int)).length : Int) < 4
    · have h4 : (rd_L2 ss (f : Int)).length < 17592186044416 := by omega
      rw [if_pos h3, if_pos h4]
      exact key _ (hs.set _ _ (by rw [List.length_append, List.length_singleton]; omega))
    · rw [if_neg h3]
      exact key ss hs
theorem yard_l0 {l : List Int} (hl : Byt l) (d : Nat) : ∀ (k : Nat) (ss : List (List Int)) (n m a s : Int), (∀ n, (ss.getD n []).length ≤ 4) → 1 ≤ ss.length + d → ss.length + d ≤ 4 → n = d → d + 250 < k → At m a → m ≤ 100000 →
    ∃ ys a' s', spec_l1Cur_yard.l0 k n l a s ss = some (ys, a', s') ∧ SmY ys ∧ At (m + 60) a' := by
  induction d with
  | zero =>
    intro k ss n m a s hs h1 h4 hn hk ha hm
    obtain ⟨k, rfl⟩ := kpos (d := 0) (k := k) (by omega)
    obtain ⟨v, a1, s1, e1, hv, ha1⟩ := pick_ok hl ha (by omega) s 8
    have hv2 := hv.2.2 (by omega)
    have hv0 := hv.1
    obtain ⟨n', rfl⟩ : ∃ n : Nat, v = n := ⟨v.toNat, by omega⟩
    have hw : wrap64 (1 + (n' : Int)) = ((n' + 1 : Nat) : Int) := by rw [w64 (by omega) (by omega)]; omega
    obtain ⟨ys, a', s', q1, q2, q3⟩ := yard_l1 hl (n' + 1) k ss ((n' + 1 : Nat) : Int) _ a1 s1 ⟨by omega, hs⟩ rfl (by omega) ha1 (by omega)
    simp only [spec_l1Cur_yard.l0]
    rw [if_neg (by omega), e1, Option.bind_some]
    dsimp only
    rw [hw]
    exact ⟨ys, a', s', q1, q2, q3.up (by omega)⟩
  | succ d ih =>
    intro k ss n m a s hs h1 h4 hn hk ha hm
    obtain ⟨k, rfl⟩ := kpos (d := 0) (k := k) (by omega)
    simp only [spec_l1Cur_yard.l0]
    rw [if_pos (by omega), if_pos (by omega), w64 (show -9223372036854775808 ≤ n - 1 by omega) (by omega)]
    refine ih k (ss ++ [([] : List Int)]) (n - 1) m a s (fun n => ?_) (by rw [List.length_append, List.length_singleton]; omega) (by rw [List.length_append, List.length_singleton]; omega) (by omega) (by omega) ha hm
    rw [List.getD_eq_getElem?_getD, List.getElem?_append]
    split
    · have := hs n
      rwa [List.getD_eq_getElem?_getD] at this
    · rcases Nat.eq_zero_or_pos (n - ss.length) with e | e
      · rw [e]; simp
      · rw [List.getElem?_eq_none (by rw [List.length_singleton]; omega)]; simp
theorem yard_ok {l : List Int} (hl : Byt l) {m a : Int} (ha : At m a) (hm : m ≤ 10000) (s : Int) (k : Nat) (hk : 300 ≤ k) :
    ∃ ys a' s', spec_l1Cur_yard.f k l a s = some (ys, a', s') ∧ SmY ys ∧ At (m + 70) a' := by
  unfold spec_l1Cur_yard.f
  obtain ⟨v, a1, s1, e1, hv, ha1⟩ := pick_ok hl ha (by omega) s 4
  have hv2 := hv.2.2 (by omega)
  have hv0 := hv.1
  obtain ⟨n', rfl⟩ : ∃ n : Nat, v = n := ⟨v.toNat, by omega⟩
  have hw : wrap64 (1 + (n' : Int)) = ((n' + 1 : Nat) : Int) := by rw [w64 (by omega) (by omega)]; omega
  obtain ⟨ys, a', s', q1, q2, q3⟩ := yard_l0 hl (n' + 1) k [] ((n' + 1 : Nat) : Int) _ a1 s1 (fun n => by simp) (by simp) (by simp; omega) rfl (by omega) ha1 (by omega)
  rw [e1, Option.bind_some]
  dsimp only
  rw [hw]
  exact ⟨ys, a', s', q1, q2, q3.up (by omega)⟩
/-- What a drawn yard may be. -/
def AnY (ss : List (List Int)) : Prop := ss.length ≤ 20 ∧ ∀ n, (ss.getD n []).length ≤ 8
theorem AnY.tot {ss : List (List Int)} (h : AnY ss) : tot ss ≤ 160 := by
  have : ∀ (l : List (List Int)), (∀ n, (l.getD n []).length ≤ 8) → X.tot l ≤ 8 * l.length := by
    intro l
    induction l with
    | nil => intro _; simp [X.tot]
    | cons s r ih =>
      intro h
      have h0 := h 0
      have h1 := ih (fun n => by simpa using h (n + 1))
      simp only [List.getD_cons_zero] at h0
      simp only [X.tot, List.length_cons]
      omega
  have := this ss h.2
  have := h.1
  omega
theorem AnY.snoc {ss : List (List Int)} (h : AnY ss) (y : List Int) (hy : y.length ≤ 8) (hl : ss.length < 20) : AnY (ss ++ [y]) := by
  refine ⟨by rw [List.length_append, List.length_singleton]; omega, fun n => ?_⟩
  rw [List.getD_eq_getElem?_getD, List.getElem?_append]
  split
  · have := h.2 n
    rwa [List.getD_eq_getElem?_getD] at this
  · rcases Nat.eq_zero_or_pos (n - ss.length) with e | e
    · rw [e]; simpa using hy
    · rw [List.getElem?_eq_none (by rw [List.length_singleton]; omega)]; simp
theorem SmY.any {ss : List (List Int)} (h : SmY ss) : AnY ss := ⟨by have := h.1; omega, fun n => by have := h.2 n; omega⟩
theorem AnY.set {ss : List (List Int)} (h : AnY ss) (i : Nat) (y : List Int) (hy : y.length ≤ 8) : AnY (ss.set i y) := by
  refine ⟨by rw [List.length_set]; exact h.1, fun n => ?_⟩
  rw [getD_set]
  split
  · exact hy
  · exact h.2 n
theorem anyYard_l0 {l : List Int} (hl : Byt l) (d : Nat) : ∀ (k : Nat) (ss : List (List Int)) (n m a s : Int), AnY ss → 0 ≤ n → n + d = 8 → ss.length ≤ 4 + (8 - d) → d ≤ 8 → d + 2 < k → At m a → m + 2 * d ≤ 1000000 →
    ∃ ys a' s', spec_l1Cur_anyYard.l0 k n l a s ss = some (ys, a', s') ∧ AnY ys ∧ At (m + 2 * d + 2) a' := by
  induction d with
  | zero =>
    intro k ss n m a s hs h0 hn hx hd hk ha hm
    obtain ⟨k, rfl⟩ := kpos (d := 0) (k := k) (by omega)
    obtain ⟨v, a1, s1, e1, hv, ha1⟩ := pick_ok hl ha (by omega) s 2
    simp only [spec_l1Cur_anyYard.l0]
    rw [e1, Option.bind_some]
    dsimp only
    have hc : ¬ n < 8 := by omega
    by_cases hq : (ss.length : Int) < wrap64 (6 + v)
    · rw [if_pos hq, if_neg hc]
      exact ⟨_, _, _, rfl, hs, ha1.up (by omega)⟩
    · rw [if_neg hq]
      exact ⟨_, _, _, rfl, hs, ha1.up (by omega)⟩
  | succ d ih =>
    intro k ss n m a s hs h0 hn hx hd hk ha hm
    obtain ⟨k, rfl⟩ := kpos (d := 0) (k := k) (by omega)
    obtain ⟨v, a1, s1, e1, hv, ha1⟩ := pick_ok hl ha (by omega) s 2
    simp only [spec_l1Cur_anyYard.l0]
    rw [e1, Option.bind_some]
    dsimp only
    have hc : n < 8 := by omega
    have hc2 : ss.length < 5864062014805 := by omega
    by_cases hq : (ss.length : Int) < wrap64 (6 + v)
    · rw [if_pos hq, if_pos hc, if_pos hc2, w64 (show -9223372036854775808 ≤ n + 1 by omega) (by omega)]
      obtain ⟨ys, a', s', q1, q2, q3⟩ := ih k (ss ++ [([wrap64 (40 + n)] : List Int)]) (n + 1) _ a1 s1 (hs.snoc _ (by simp) (by omega)) (by omega) (by omega) (by rw [List.length_append, List.length_singleton]; omega) (by omega) (by omega) ha1 (by omega)
      exact ⟨ys, a', s', q1, q2, q3.up (by omega)⟩
    · rw [if_neg hq]
      exact ⟨_, _, _, rfl, hs, ha1.up (by omega)⟩
theorem anyYard_ok {l : List Int} (hl : Byt l) {m a : Int} (ha : At m a) (hm : m ≤ 1000) (s : Int) (k : Nat) (hk : 300 ≤ k) :
    ∃ ys a' s', spec_l1Cur_anyYard.f k l a s = some (ys, a', s') ∧ AnY ys ∧ At (m + 100) a' := by
  unfold spec_l1Cur_anyYard.f
  obtain ⟨ss, a1, s1, e1, hs, ha1⟩ := yard_ok hl ha (by omega) s k hk
  have hl1 := hs.1
  rw [e1, Option.bind_some]
  dsimp only
  obtain ⟨x, a2, s2, e2, hx, ha2⟩ := pick_ok hl ha1 (by omega) s1 (ss.length : Int)
  have hx2 := hx.2.2 (by omega)
  have hx0 := hx.1
  rw [e2, Option.bind_some]
  dsimp only
  obtain ⟨y, a3, s3, e3, hy, ha3⟩ := pick_ok hl ha2 (by omega) s2 24
  rw [e3, Option.bind_some]
  dsimp only
  by_cases y0 : y = 0
  · obtain ⟨z, a4, s4, e4, hz, ha4⟩ := among_ok hl ha3 (by omega) s3 ([0, 100, 99, 1] : List Int) (by decide) (fun _ => True) (fun _ _ => trivial)
    obtain ⟨f, rfl⟩ : ∃ f : Nat, x = f := ⟨x.toNat, by omega⟩
    have h4 := hs.2 f
    have h5 : (rd_L2 ss (f : Int)).length < 17592186044416 := by rw [rdL_nat]; omega
    rw [if_pos y0, if_pos hx0, if_pos hx2, e4, Option.bind_some, if_pos h5]
    exact ⟨_, _, _, rfl, hs.any.set _ _ (by rw [List.length_append, List.length_singleton, rdL_nat]; omega), ha4.up (by omega)⟩
  rw [if_neg y0]
  by_cases y1 : y = 1
  · rw [if_pos y1, if_pos hx0, if_pos hx2]
    exact ⟨_, _, _, rfl, hs.any.set _ _ (by decide), ha3.up (by omega)⟩
  rw [if_neg y1]
  by_cases y2 : y = 2
  · rw [if_pos y2]
    exact ⟨_, _, _, rfl, ⟨by simp, fun n => by simp⟩, ha3.up (by omega)⟩
  rw [if_neg y2]
  by_cases y3 : y = 3
  · rw [if_pos y3]
    obtain ⟨ys, a', s', q1, q2, q3⟩ := anyYard_l0 hl 8 k ss 0 _ a3 s3 hs.any (by omega) (by omega) (by omega) (by omega) (by omega) ha3 (by omega)
    exact ⟨ys, a', s', q1, q2, q3.up (by omega)⟩
  rw [if_neg y3]
  exact ⟨_, _, _, rfl, hs.any, ha3.up (by omega)⟩
end Go.Proofs.Ytlldonokjgoajaa.X
/- Drawing yards, moves, numbers of a yard, pairs of yards: it always ends; the yards are small. -/
namespace Go.Proofs.Ytlldonokjgoajaa.X
open Go.RowKit Go.Proofs.YtlldonokjgoajaaW.PrintWords Go.Proofs.YtlldonokjgoajaaW.PrintLast
set_option linter.unusedVariables false
set_option linter.unusedSimpArgs false
theorem own_any_loop (ss : List (List Int)) (h : AnY ss) (d : Nat) : ∀ (k i : Nat), i + d = ss.length → d < k → spec_l5Own.l0 k (i : Int) ss (ss.take i) = some ss := by
  have h20 := h.1
  induction d with
  | zero =>
    intro k i hi hk
    obtain ⟨k, rfl⟩ := kpos hk
    simp only [spec_l5Own.l0]
    rw [if_neg (by omega), List.take_of_length_le (by omega)]
  | succ d ih =>
    intro k i hi hk
    obtain ⟨k, rfl⟩ := kpos hk
    have hlt : i < ss.length := by omega
    have hr := h.2 i
    have i1 := ih k (i + 1) (by omega) (by omega)
    rw [take_succ_getD (z := ([] : List Int)) hlt] at i1
    have p1 : (i : Int) < (ss.length : Int) := by omega
    have p2 : 0 ≤ (i : Int) := by omega
    have p3 : (ss.take i).length < 5864062014805 := by rw [List.length_take]; omega
    simp only [spec_l5Own.l0, if_pos p1, if_pos p2]
    rw [rdL_nat, l1Own_ends _ (by omega)]
    simp only [Option.bind_some, if_pos p3, wnext hlt (show ss.length ≤ 9223372036854775807 by omega)]
    exact i1
theorem own_any (ss : List (List Int)) (h : AnY ss) (k : Nat) (hk : 200 ≤ k) : spec_l5Own.f k ss = some ss := by
  unfold spec_l5Own.f
  have h20 := h.1
  have := own_any_loop ss h ss.length k 0 (by omega) (by omega)
  rw [show ((0 : Nat) : Int) = 0 from rfl] at this
  simpa using this
theorem drawMove {l : List Int} (hl : Byt l) (k : Nat) (hk : 300 ≤ k) : ∃ ss f t, spec_DrawMoveTop.f k l = some (ss, f, t) ∧ AnY ss := by
  unfold spec_DrawMoveTop.f
  obtain ⟨ss, a1, s1, e1, hs, ha1⟩ := anyYard_ok hl (show At 0 0 from ⟨by decide, by decide⟩) (by decide) 0 k hk
  obtain ⟨x, a2, s2, e2, hx, ha2⟩ := pick_ok hl ha1 (by omega) s1 5
  obtain ⟨y, a3, s3, e3, hy, ha3⟩ := pick_ok hl ha2 (by omega) s2 9
  obtain ⟨z, a4, s4, e4, hz, ha4⟩ := pick_ok hl ha3 (by omega) s3 4
  rw [e1, Option.bind_some]
  dsimp only
  rw [e2, Option.bind_some]
  dsimp only
  rw [e3, Option.bind_some]
  dsimp only
  rw [e4, Option.bind_some]
  exact ⟨_, _, _, rfl, hs⟩
theorem number_ok {l : List Int} (hl : Byt l) {m a : Int} (ha : At m a) (hm : m ≤ 100000) (s : Int) (ss : List (List Int)) : ∃ v a' s', spec_l1Cur_numberIn.f l a s ss = some (v, a', s') := by
  unfold spec_l1Cur_numberIn.f
  by_cases h0 : ss.length = 0
  · obtain ⟨x, a1, s1, e1, _, _⟩ := pick_ok hl ha (by omega) s 12
    rw [if_pos h0]
    exact ⟨_, _, _, e1⟩
  rw [if_neg h0]
  obtain ⟨b, a1, s1, e1, ha1⟩ := one_ok hl ha (by omega) s 8
  rw [e1, Option.bind_some]
  dsimp only
  by_cases hb : b = true
  · obtain ⟨x, a2, s2, e2, _, _⟩ := pick_ok hl ha1 (by omega) s1 12
    rw [if_pos hb]
    exact ⟨_, _, _, e2⟩
  rw [if_neg hb]
  obtain ⟨i, a2, s2, e2, hi, ha2⟩ := pick_ok hl ha1 (by omega) s1 (ss.length : Int)
  rw [e2, Option.bind_some]
  dsimp only
  have hi2 := hi.2.2 (by omega)
  rw [if_pos ⟨hi.1, hi2⟩]
  by_cases hz : (rd_L2 ss i).length = 0
  · obtain ⟨x, a3, s3, e3, _, _⟩ := pick_ok hl ha2 (by omega) s2 9
    rw [if_pos hz, e3, Option.bind_some]
    exact ⟨_, _, _, rfl⟩
  · obtain ⟨x, a3, s3, e3, hx, _⟩ := pick_ok hl ha2 (by omega) s2 ((rd_L2 ss i).length : Int)
    have hx2 := hx.2.2 (by omega)
    rw [if_neg hz, e3, Option.bind_some]
    dsimp only
    rw [if_pos ⟨hx.1, hx2⟩]
    exact ⟨_, _, _, rfl⟩
theorem drawBlock {l : List Int} (hl : Byt l) (k : Nat) (hk : 300 ≤ k) : ∃ ss x, spec_DrawBlockersOf.f k l = some (ss, x) ∧ AnY ss := by
  unfold spec_DrawBlockersOf.f spec_DrawPlaceOf.f
  obtain ⟨ss, a1, s1, e1, hs, ha1⟩ := anyYard_ok hl (show At 0 0 from ⟨by decide, by decide⟩) (by decide) 0 k hk
  obtain ⟨v, a2, s2, e2⟩ := number_ok hl ha1 (by omega) s1 ss
  rw [e1, Option.bind_some]
  dsimp only
  rw [e2, Option.bind_some, Option.bind_some]
  exact ⟨_, _, rfl, hs⟩
theorem same_down (ss : List (List Int)) (h : AnY ss) (d : Nat) : ∀ (k : Nat) (out : List (List Int)), d ≤ ss.length → d < k → out.length + d ≤ 20 → ∃ b, spec_DrawSameYard.l0 k ((d : Int) - 1) ss out = some (ss, b) := by
  have h20 := h.1
  induction d with
  | zero =>
    intro k out hd hk ho
    obtain ⟨k, rfl⟩ := kpos hk
    rw [spec_DrawSameYard.l0, if_neg (by omega)]
    exact ⟨_, rfl⟩
  | succ d ih =>
    intro k out hd hk ho
    obtain ⟨k, rfl⟩ := kpos hk
    have hr := h.2 d
    have e : ((d + 1 : Nat) : Int) - 1 = (d : Int) := by omega
    obtain ⟨b, hb⟩ := ih k (out ++ [ss.getD d []]) (by omega) (by omega) (by simp only [List.length_append, List.length_singleton]; omega)
    rw [e, spec_DrawSameYard.l0, if_pos (by omega), if_pos (by omega), if_pos (by omega), rdL_nat, l1Own_ends _ (by omega), Option.bind_some, if_pos (by omega), w64 (by omega) (by omega), hb]
    exact ⟨_, rfl⟩
theorem drawSame {l : List Int} (hl : Byt l) (k : Nat) (hk : 300 ≤ k) : ∃ a b, spec_DrawSameYard.f k l = some (a, b) := by
  unfold spec_DrawSameYard.f
  obtain ⟨ss, a1, s1, e1, hs, ha1⟩ := anyYard_ok hl (show At 0 0 from ⟨by decide, by decide⟩) (by decide) 0 k hk
  obtain ⟨x, a2, s2, e2, hx, ha2⟩ := pick_ok hl ha1 (by omega) s1 4
  obtain ⟨zz, a3, s3, e3, hzz, ha3⟩ := anyYard_ok hl ha2 (by omega) s2 k hk
  have h20 := hs.1
  rw [e1, Option.bind_some]
  dsimp only
  rw [own_any ss hs k (by omega), Option.bind_some, e2, Option.bind_some]
  dsimp only
  by_cases h0 : x = 0
  · rw [if_pos h0, e3, Option.bind_some]
    exact ⟨_, _, rfl⟩
  rw [if_neg h0]
  by_cases h1 : x = 1
  · obtain ⟨b, hb⟩ := same_down ss hs ss.length k [] (by omega) (by omega) (by simp; omega)
    rw [if_pos h1, w64 (by omega) (by omega), hb]
    exact ⟨_, _, rfl⟩
  rw [if_neg h1]
  by_cases h2 : x = 2
  · rw [if_pos h2]
    by_cases h3 : (ss.length : Int) > 0
    · rw [if_pos h3, if_pos (by omega)]
      exact ⟨_, _, rfl⟩
    · rw [if_neg h3]
      exact ⟨_, _, rfl⟩
  rw [if_neg h2]
  exact ⟨_, _, rfl⟩
end Go.Proofs.Ytlldonokjgoajaa.X
namespace Go.Proofs.Ytlldonokjgoajaa.Pure
open Go.RowKit Go.Proofs.Ytlldonokjgoajaa.X Go.Proofs.YtlldonokjgoajaaW.PrintWords Go.Proofs.YtlldonokjgoajaaW.PrintLast
set_option linter.unusedVariables false
set_option linter.unusedSimpArgs false
theorem sameA_comm (a b : List (List Int)) : sameA b a = sameA a b := by
  unfold sameA
  by_cases ha : goodY a = true
  · by_cases hb : goodY b = true
    · simp only [if_pos ha, if_pos hb]
      rw [show decide (sortY b = sortY a) = decide (sortY a = sortY b) from decide_eq_decide.2 ⟨Eq.symm, Eq.symm⟩]
    · simp only [if_pos ha, if_neg hb]
  · by_cases hb : goodY b = true
    · simp only [if_neg ha, if_pos hb]
    · simp only [if_neg ha, if_neg hb]
theorem move_again (ss : List (List Int)) (a1 a2 : Int) (h : (moveA ss a1 a2).2.2 = true) : moveA (moveA ss a1 a2).1 a2 a1 = (ss, (moveA ss a1 a2).2.1, true) ∧ goodY ss = true := by
  unfold moveA at h ⊢
  split at h
  · rename_i hc
    rw [if_pos hc]
    obtain ⟨h1, h2, h3, h4, h5⟩ := hc
    obtain ⟨hg, f, rfl, hf⟩ := stackB_nat h1
    obtain ⟨_, t, rfl, ht⟩ := stackB_nat h2
    simp only [Int.toNat_natCast] at h4 h5 ⊢
    have hne : f ≠ t := fun e => h3 (by rw [e])
    have hm := move_good hg hf ht hne (by omega) h5
    obtain ⟨m1, m2, m3, m4, m5⟩ := move_back hf ht hne (show 0 < (ss.getD f []).length by omega)
    have h6 := goodY_row hg f
    have hs : ∀ n : Nat, n < (moveL ss f t).length → stackB (moveL ss f t) (n : Int) = true := by
      intro n hn
      unfold stackB
      rw [hm, Bool.true_and, inB_iff]
      omega
    rw [if_pos ⟨hs t (by omega), hs f (by omega), fun e => h3 e.symm, by omega, by omega⟩, m1, m2]
    exact ⟨rfl, hg⟩
  · cases h
theorem above_loop {l : List Int} (hl : Byt l) (ss : List (List Int)) (hx : ss.length ≤ 1048576) (hs : tot ss ≤ 1048576) (x : Int) (d : Nat) : ∀ (k i : Nat), i + d = (aboveY ss x).1.length → 3146000 + d < k →
    lw.l0 k l (aboveY ss x).1 (aboveY ss x).2 (placeA ss x).2.1 (placeA ss x).2.2 (i : Int) ss = some true := by
  induction d with
  | zero =>
    intro k i hi hk
    obtain ⟨k, rfl⟩ := kpos (d := 0) (k := k) (by omega)
    obtain ⟨a, b, ed⟩ := drawSame hl k (by omega)
    have e1 : impl_SameYard.f k a b = some (sameA a b) := rfl
    have e2 : impl_SameYard.f k b a = some (sameA a b) := by
      unfold impl_SameYard.f
      rw [sameA_comm]
    have e3 := same_spec a b k (by omega)
    have e4 : (placeA ss x).2.2 = (aboveY ss x).2 := by
      rcases aboveY_form ss x with ⟨f1, f2⟩ | ⟨_, n, t, _, _, f1, f2⟩
      · rw [f1, f2]
      · rw [f1, f2]
    rw [lw.l0, if_neg (by omega), ed, Option.bind_some]
    dsimp only
    rw [e1, e2, e3, e4]
    simp only [Option.bind_some, beq_self_eq_true, if_true]
  | succ d ih =>
    intro k i hi hk
    obtain ⟨k, rfl⟩ := kpos (d := 0) (k := k) (by omega)
    have ih2 := ih k (i + 1) (by omega) (by omega)
    rcases aboveY_form ss x with ⟨f1, f2⟩ | ⟨hg, n, t, hn, ht, f1, f2⟩
    · rw [f1] at hi
      simp at hi
    · have h4 := goodY_row hg n
      rw [f1, f2] at ih2
      rw [f1] at hi
      rw [f1, f2]
      dsimp only at hi ih2 ⊢
      have hlen : ((ss.getD n []).drop (t + 1)).reverse.length = (ss.getD n []).length - (t + 1) := by rw [List.length_reverse, List.length_drop]
      have hp := place_above ss n t hg hn ht i (by omega)
      rw [lw.l0, if_pos (by omega), if_pos (by omega), rd_nat, place_any ss _ hx hs k (by omega), hp, Option.bind_some]
      dsimp only
      rw [if_pos rfl, w64 (x := (t : Int) + _) (by omega) (by omega), w64 (x := (t : Int) + _ - (i : Int)) (by omega) (by omega), if_pos (by omega), wnext (n := i) (m := 100) (by omega) (by omega)]
      exact ih2
theorem j1_true {l : List Int} (hl : Byt l) (k : Nat) (hk : 3146100 ≤ k) : lw.j1 (k + 1) l = some true := by
  obtain ⟨ss, x, ed, hs⟩ := drawBlock hl k (by omega)
  have ht := hs.tot
  have h20 := hs.1
  obtain ⟨b1, b2⟩ := block_both ss x (by omega) (by omega) k (by omega)
  have hlen : (aboveY ss x).1.length ≤ 20 := by
    rcases aboveY_form ss x with ⟨f1, f2⟩ | ⟨hg, n, t, hn, ht, f1, f2⟩
    · rw [f1]; simp
    · rw [f1]
      have h4 := goodY_row hg n
      show (((ss.getD n []).drop (t + 1)).reverse).length ≤ 20
      rw [List.length_reverse, List.length_drop]
      omega
  rw [lw.j1, ed, Option.bind_some]
  dsimp only
  rw [b2, b1, Option.bind_some, Option.bind_some, bne_self_eq_false, if_neg (by decide), vInts_refl _ (by omega) k (by omega), Option.bind_some]
  obtain ⟨k, rfl⟩ := kpos (d := 0) (k := k) (by omega)
  rw [Bool.not_true, lw.j2, if_neg (by decide), place_any ss x (by omega) (by omega) k (by omega), Option.bind_some]
  have := above_loop hl ss (by omega) (by omega) x (aboveY ss x).1.length k 0 (by omega) (by omega)
  rw [show ((0 : Nat) : Int) = 0 from rfl] at this
  exact this
theorem FnStackMoves : lw.Pure := by
  intro l hl
  refine ⟨3146200 + 1, ?_⟩
  unfold lw.f laws_vBig.f
  rw [Option.bind_some]
  by_cases h : (l.length : Int) > 65536
  · rw [if_pos (decide_eq_true h)]
  · rw [if_neg (by simpa using h)]
    have hb : Byt l := ⟨by omega, hl.2⟩
    obtain ⟨ss, f, t, ed, hs⟩ := drawMove hb (3146200 + 1) (by omega)
    obtain ⟨e1, e2⟩ := move_both ss f t (3146200 + 1) (by omega)
    obtain ⟨s1, s2⟩ := moveA_small ss f t
    have hj := j1_true hb 3146199 (by omega)
    rw [ed, Option.bind_some]
    dsimp only
    rw [e2, e1, Option.bind_some, Option.bind_some, bne_self_eq_false, if_neg (by decide), if_pos rfl, vYard_refl _ s1 s2 _ (by omega), Option.bind_some, Bool.not_true, lw.j0, if_neg (by decide)]
    by_cases ho : (moveA ss f t).2.2 = true
    · obtain ⟨m1, hg⟩ := move_again ss f t ho
      have hl6 := goodY_len hg
      have ht6 := goodY_tot hg
      rw [if_pos ho, (move_both (moveA ss f t).1 t f 3146200 (by omega)).2, m1, Option.bind_some]
      dsimp only
      rw [if_pos rfl, if_pos rfl, vYard_refl ss (by omega) (by omega) _ (by omega), Option.bind_some, if_pos rfl]
      exact hj
    · rw [if_neg ho]
      exact hj
end Go.Proofs.Ytlldonokjgoajaa.Pure
