/- The bound on relocations: the reference's three loops, the program's least rank; both count the same. -/
import Derived.Test.YtagbfaacklilbaaMFindY
import Derived.Test.YtagbfaacklilbaaGrelBound
import Derived.Test.YtagbfaacklilbaaFspecl6Bound
import Derived.Test.YtagbfaacklilbaaFspecl6Rank
import Derived.Test.YtagbfaacklilbaaFspecl6Order
import Derived.Test.YtagbfaacklilbaaFspecl6Asked
import Derived.Test.YtagbfaacklilbaaFimplisOrder
import Derived.Test.YtagbfaacklilbaaFspecRelocationBound
import Derived.Test.YtagbfaacklilbaaFimplRelocationBound
namespace Go.Proofs.Ytagbfaacklilbaa.X
open Go.RowKit Go.Proofs.YtagbfaacklilbaaW.PrintWords Go.Proofs.YtagbfaacklilbaaW.PrintLast
set_option linter.unusedVariables false
set_option linter.unusedSimpArgs false
theorem rank_loop (o : List Int) (n : Int) (ho : o.length ≤ 1000000) (d : Nat) : ∀ (k i : Nat), i + d = o.length → d < k → spec_l6Rank.l0 k o n (i : Int) = some ((i + (o.drop i).findIdx (fun x => n == x) : Nat) : Int) := by
  induction d with
  | zero =>
    intro k i hi hk
    obtain ⟨k, rfl⟩ := kpos hk
    simp only [spec_l6Rank.l0]
    rw [if_neg (by omega), List.drop_of_length_le (by omega), List.findIdx_nil, show i + 0 = o.length by omega]
  | succ d ih =>
    intro k i hi hk
    obtain ⟨k, rfl⟩ := kpos (d := 0) (k := k) (by omega)
    have hlt : i < o.length := by omega
    simp only [spec_l6Rank.l0]
    rw [if_pos (by omega), if_pos (by omega), rd_nat, getD_cons (z := (0 : Int)) hlt, wnext hlt (by omega), List.findIdx_cons]
    by_cases h : o.getD i 0 = n
    · rw [if_pos h]
      have hb : (n == o.getD i 0) = true := beq_iff_eq.2 h.symm
      rw [hb]
      simp
    · rw [if_neg h, ih k (i + 1) (by omega) (by omega)]
      have hb : (n == o.getD i 0) = false := beq_eq_false_iff_ne.2 (fun e => h e.symm)
      rw [hb]
      simp only [cond_false]
      congr 2
      omega
theorem rank_ends (o : List Int) (n : Int) (ho : o.length ≤ 1000000) (k : Nat) (hk : o.length < k) : spec_l6Rank.f k o n = some (rankN o n : Int) := by
  unfold spec_l6Rank.f rankN
  have := rank_loop o n ho o.length k 0 (by omega) hk
  rw [show ((0 : Nat) : Int) = 0 from rfl, List.drop_zero, Nat.zero_add] at this
  exact this
/-- Does an earlier number of the row lie below number j of it? -/
def badS (o s : List Int) (j : Nat) : Bool := (s.take j).any (fun x => decide (rankN o x < rankN o (s.getD j 0)))
def cIdx (o s : List Int) : Nat → Nat → Nat
  | _, 0 => 0
  | j, d + 1 => (if badS o s j = true then 1 else 0) + cIdx o s (j + 1) d
def cAll (o : List Int) : List (List Int) → Nat
  | [] => 0
  | s :: r => cIdx o s 1 (s.length - 1) + cAll o r
theorem cIdx_le (o s : List Int) : ∀ d j, cIdx o s j d ≤ d := by
  intro d
  induction d with
  | zero => intro j; exact Nat.le_refl _
  | succ d ih => intro j; have := ih (j + 1); simp only [cIdx]; split <;> omega
set_option maxHeartbeats 400000 in
theorem l2_loop (o : List Int) (ho : o.length ≤ 8) (ss : List (List Int)) (i j : Nat) (s : List Int) (hi : i < ss.length) (hs : ss.getD i [] = s) (hj : j < s.length) (hsl : s.length ≤ 4) (x5 RA RB : Int) (K : Nat) (hK : 20 ≤ K)
    (hA : ∀ k, K ≤ k → spec_l6Bound.l1 k o (wrap64 (x5 + 1)) (i : Int) ((j + 1 : Nat) : Int) ss = some RA) (hB : ∀ k, K ≤ k → spec_l6Bound.l1 k o x5 (i : Int) ((j + 1 : Nat) : Int) ss = some RB) (d : Nat) : ∀ (k m : Nat) (b : Bool), m + d = j → K + d + 1 ≤ k →
    spec_l6Bound.l2 k o x5 (i : Int) (j : Int) b (m : Int) ss = some (if (b || ((s.take j).drop m).any (fun x => decide (rankN o x < rankN o (s.getD j 0)))) = true then RA else RB) := by
  induction d with
  | zero =>
    intro k m b hm hk
    obtain ⟨k, rfl⟩ := kpos (d := 0) (k := k) (by omega)
    have hw : wrap64 ((j : Int) + 1) = ((j + 1 : Nat) : Int) := wnext hj (by omega)
    simp only [spec_l6Bound.l2]
    rw [if_neg (by omega), hw, List.drop_of_length_le (by rw [List.length_take]; omega), List.any_nil, Bool.or_false]
    by_cases hb : b = true
    · rw [if_pos hb, if_pos hb]; exact hA k (by omega)
    · rw [if_neg hb, if_neg hb]; exact hB k (by omega)
  | succ d ih =>
    intro k m b hm hk
    obtain ⟨k, rfl⟩ := kpos (d := 0) (k := k) (by omega)
    have q1 : (0 : Int) ≤ (i : Int) := Int.natCast_nonneg _
    have q2 : (i : Int) < (ss.length : Int) := Int.ofNat_lt.2 hi
    have q3 : (0 : Int) ≤ (m : Int) := Int.natCast_nonneg _
    have q0 : (m : Int) < (j : Int) := Int.ofNat_lt.2 (by omega)
    have q4 : (m : Int) < (s.length : Int) := Int.ofNat_lt.2 (by omega)
    have q5 : (0 : Int) ≤ (j : Int) := Int.natCast_nonneg _
    have q6 : (j : Int) < (s.length : Int) := Int.ofNat_lt.2 hj
    have q7 := rank_ends o (s.getD m 0) (by omega) k (by omega)
    have q8 := rank_ends o (s.getD j 0) (by omega) k (by omega)
    have q9 := fun b => ih k (m + 1) b (by omega) (by omega)
    have hml : m < (s.take j).length := by rw [List.length_take]; omega
    have hw : wrap64 ((m : Int) + 1) = ((m + 1 : Nat) : Int) := wnext (n := m) (m := j) (by omega) (by omega)
    have hD : ((s.take j).drop m) = s.getD m 0 :: (s.take j).drop (m + 1) := by
      rw [getD_cons (z := (0 : Int)) hml]
      congr 1
      rw [List.getD_eq_getElem?_getD, List.getElem?_take, if_pos (by omega), List.getD_eq_getElem?_getD]
    clear ih hA hB
    simp only [spec_l6Bound.l2]
    rw [if_pos q0, hw]
    by_cases hb : b = true
    · rw [if_pos hb, q9 true, hb]
      rfl
    · rw [if_neg hb, if_pos q1, if_pos q2, if_pos q3, rdL_nat, hs, if_pos q4, rd_nat, q7, Option.bind_some, if_pos q5, if_pos q6, rd_nat, q8, Option.bind_some, q9, hD, List.any_cons]
      have e : decide ((rankN o (s.getD m 0) : Int) < (rankN o (s.getD j 0) : Int)) = decide (rankN o (s.getD m 0) < rankN o (s.getD j 0)) := by
        rw [Bool.eq_iff_iff, decide_eq_true_eq, decide_eq_true_eq]; omega
      rw [Bool.not_eq_true] at hb
      rw [e, hb, Bool.false_or]
set_option maxHeartbeats 400000 in
theorem l0_loop (o : List Int) (ho : o.length ≤ 8) (ss : List (List Int)) (hr : ∀ n, (ss.getD n []).length ≤ 4) (hil : ss.length ≤ 6) (D : Nat) : ∀ (i c k : Nat), i + D = ss.length → c + 10 * D ≤ 1000 → 50 * D + 21 ≤ k → spec_l6Bound.l0 k o (c : Int) (i : Int) ss = some ((c + cAll o (ss.drop i) : Nat) : Int) := by
  induction D with
  | zero =>
    intro i c k hi hc hk
    obtain ⟨k, rfl⟩ := kpos (d := 0) (k := k) (by omega)
    simp only [spec_l6Bound.l0]
    rw [if_neg (by omega), List.drop_of_length_le (by omega)]
    rfl
  | succ D ih =>
    intro i c k hi hc hk
    obtain ⟨k, rfl⟩ := kpos (d := 0) (k := k) (by omega)
    have hlt : i < ss.length := by omega
    have hsl := hr i
    simp only [spec_l6Bound.l0]
    rw [if_pos (by omega)]
    have key : ∀ (d : Nat) (c j : Nat), j + d = (ss.getD i []).length ∨ (d = 0 ∧ (ss.getD i []).length ≤ j) → j ≤ 5 → c + d + 10 * D ≤ 1000 → ∀ k, 50 * D + 21 + 8 * d + 1 ≤ k → spec_l6Bound.l1 k o (c : Int) (i : Int) (j : Int) ss = some ((c + cIdx o (ss.getD i []) j d + cAll o (ss.drop (i + 1)) : Nat) : Int) := by
      intro d
      induction d with
      | zero =>
        intro c j hj hj5 hc k hk
        obtain ⟨k, rfl⟩ := kpos (d := 0) (k := k) (by omega)
        have q1 : (0 : Int) ≤ (i : Int) := Int.natCast_nonneg _
        have q2 : (i : Int) < (ss.length : Int) := Int.ofNat_lt.2 hlt
        have q3 : ¬ (j : Int) < ((ss.getD i []).length : Int) := by
          have : (ss.getD i []).length ≤ j := by rcases hj with h | h <;> omega
          omega
        have q4 := ih (i + 1) c k (by omega) (by omega) (by omega)
        have hw : wrap64 ((i : Int) + 1) = ((i + 1 : Nat) : Int) := wnext hlt (by omega)
        clear ih hj hc hk hr
        simp only [spec_l6Bound.l1]
        rw [if_pos q1, if_pos q2, rdL_nat, if_neg q3, hw, q4]
        simp only [cIdx, Nat.add_zero]
      | succ d ihd =>
        intro c j hj hj5 hc k hk
        obtain ⟨k, rfl⟩ := kpos (d := 0) (k := k) (by omega)
        have hjl : j < (ss.getD i []).length := by omega
        have q1 : (0 : Int) ≤ (i : Int) := Int.natCast_nonneg _
        have q2 : (i : Int) < (ss.length : Int) := Int.ofNat_lt.2 hlt
        have q3 : (j : Int) < ((ss.getD i []).length : Int) := Int.ofNat_lt.2 hjl
        have hkk : 50 * D + 21 + 8 * d + 1 + j + 1 ≤ k := by omega
        have hjd : j + 1 + d = (ss.getD i []).length := by rcases hj with h | h <;> omega
        clear hj hr
        simp only [spec_l6Bound.l1]
        rw [if_pos q1, if_pos q2, rdL_nat, if_pos q3]
        have g1 : j + 1 ≤ 5 := Nat.le_trans hjl (Nat.le_trans hsl (by decide))
        have g2 : c + 1 + d + 10 * D ≤ 1000 := by
          have : c + 1 + d = c + (d + 1) := by rw [Nat.add_assoc, Nat.add_comm 1 d]
          rw [this]; exact hc
        have g3 : c + d + 10 * D ≤ 1000 := Nat.le_trans (Nat.le_trans (by rw [Nat.add_right_comm c 1 d]; exact Nat.add_le_add_right (Nat.le_succ _) _) (Nat.le_refl _)) g2
        have hwc : wrap64 ((c : Int) + 1) = ((c + 1 : Nat) : Int) := wnext (n := c) (m := 1000) (by omega) (by omega)
        have hA : ∀ k, 50 * D + 21 + 8 * d + 1 ≤ k → spec_l6Bound.l1 k o (wrap64 ((c : Int) + 1)) (i : Int) ((j + 1 : Nat) : Int) ss = some ((c + 1 + cIdx o (ss.getD i []) (j + 1) d + cAll o (ss.drop (i + 1)) : Nat) : Int) := fun k hk => by rw [hwc]; exact ihd (c + 1) (j + 1) (Or.inl hjd) g1 g2 k hk
        have hB : ∀ k, 50 * D + 21 + 8 * d + 1 ≤ k → spec_l6Bound.l1 k o (c : Int) (i : Int) ((j + 1 : Nat) : Int) ss = some ((c + cIdx o (ss.getD i []) (j + 1) d + cAll o (ss.drop (i + 1)) : Nat) : Int) := fun k hk => ihd c (j + 1) (Or.inl hjd) g1 g3 k hk
        have h2 := l2_loop o ho ss i j _ hlt rfl hjl hsl (c : Int) _ _ (50 * D + 21 + 8 * d + 1) (by omega) hA hB j k 0 false (by omega) (by omega)
        clear hA hB ihd
        rw [show ((0 : Nat) : Int) = 0 from rfl, List.drop_zero, Bool.false_or] at h2
        rw [h2]
        have hdef : (List.take j (ss.getD i [])).any (fun x => decide (rankN o x < rankN o ((ss.getD i []).getD j 0))) = badS o (ss.getD i []) j := rfl
        rw [hdef]
        clear hdef h2 hjd hkk hwc q3 q2 q1
        simp only [cIdx]
        by_cases hb : badS o (ss.getD i []) j = true
        · rw [if_pos hb, if_pos hb, show c + 1 + cIdx o (ss.getD i []) (j + 1) d = c + (1 + cIdx o (ss.getD i []) (j + 1) d) from by rw [Nat.add_assoc]]
        · rw [if_neg hb, if_neg hb, Nat.zero_add]
    have hk1 := key ((ss.getD i []).length - 1) c 1 (by omega) (by omega) (by omega) k (by omega)
    rw [show ((1 : Nat) : Int) = 1 from rfl] at hk1
    rw [hk1, getD_cons (z := ([] : List Int)) hlt]
    simp only [cAll]
    congr 2
    omega
theorem l6Bound_ends (o : List Int) (ho : o.length ≤ 8) (ss : List (List Int)) (hr : ∀ n, (ss.getD n []).length ≤ 4) (hil : ss.length ≤ 6) (k : Nat) (hk : 400 ≤ k) : spec_l6Bound.f k ss o = some (cAll o ss : Int) := by
  unfold spec_l6Bound.f
  have := l0_loop o ho ss hr hil ss.length 0 0 k (by omega) (by omega) (by omega)
  rw [show ((0 : Nat) : Int) = 0 from rfl, List.drop_zero, Nat.zero_add] at this
  exact this
/-! ### the program's count -/
def leastR (o : List Int) (l : List Int) : Nat := l.foldl (fun m x => min m (rankN o x)) o.length
theorem leastR_snoc (o l : List Int) (x : Int) : leastR o (l ++ [x]) = min (leastR o l) (rankN o x) := by
  unfold leastR
  rw [List.foldl_append]
  rfl
theorem least_lt (o : List Int) (r : Nat) (hr : r ≤ o.length) : ∀ l : List Int, (l.foldl (fun m x => min m (rankN o x)) o.length < r ↔ ∃ x ∈ l, rankN o x < r) := by
  have gen : ∀ (l : List Int) (m : Nat), (l.foldl (fun m x => min m (rankN o x)) m < r ↔ m < r ∨ ∃ x ∈ l, rankN o x < r) := by
    intro l
    induction l with
    | nil => intro m; simp
    | cons a l ih =>
      intro m
      rw [List.foldl_cons, ih]
      simp only [List.mem_cons, exists_eq_or_imp]
      constructor
      · rintro (h | h)
        · by_cases hm : m < r
          · exact .inl hm
          · exact .inr (.inl (by omega))
        · exact .inr (.inr h)
      · rintro (h | h | h)
        · exact .inl (by omega)
        · exact .inl (by omega)
        · exact .inr h
  intro l
  rw [gen]
  constructor
  · rintro (h | h)
    · omega
    · exact h
  · exact .inr
theorem badN_is (o l : List Int) (n : Int) : badN o (leastR o l) n = l.any (fun x => decide (rankN o x < rankN o n)) := by
  have h := least_lt o (rankN o n) (rankN_le o n) l
  have hle := rankN_le o n
  rw [Bool.eq_iff_iff]
  unfold badN leastR
  simp only [Bool.or_eq_true, Bool.and_eq_true, decide_eq_true_eq, List.any_eq_true]
  rw [h]
  constructor
  · rintro (h1 | ⟨h1, h2⟩)
    · exact h1
    · rw [← h1] at h2
      exact h.1 (by rw [h1] at h2 ⊢; exact h2)
  · exact .inl
theorem bRow_is (o s : List Int) (d : Nat) : ∀ j, j + d = s.length → bRow o (leastR o (s.take j)) (s.drop j) = cIdx o s j d := by
  induction d with
  | zero =>
    intro j hj
    rw [List.drop_of_length_le (by omega)]
    rfl
  | succ d ih =>
    intro j hj
    have hlt : j < s.length := by omega
    rw [getD_cons (z := (0 : Int)) hlt]
    simp only [bRow, cIdx]
    rw [badN_is, ← leastR_snoc, ← take_succ_getD (z := (0 : Int)) hlt, ih (j + 1) (by omega)]
    rfl
theorem bRow_all (o s : List Int) : bRow o o.length s = cIdx o s 1 (s.length - 1) := by
  have h := bRow_is o s s.length 0 (by omega)
  rw [List.take_zero, List.drop_zero] at h
  have e : leastR o [] = o.length := rfl
  rw [e] at h
  rw [h]
  cases hs : s.length with
  | zero => rfl
  | succ n =>
    simp only [cIdx, badS, List.take_zero, List.any_nil, Bool.false_eq_true, if_false, Nat.zero_add]
    rfl
theorem bAll_is (o : List Int) : ∀ ss, bAll o ss = cAll o ss
  | [] => rfl
  | s :: r => by
    simp only [bAll, cAll]
    rw [bRow_all, bAll_is o r]
/-! ### the order -/
def ordL (ss : List (List Int)) (o : List Int) : Nat → Nat → Bool
  | _, 0 => true
  | i, d + 1 => !(decide ((findY (o.getD i 0) ss 0).1 < 0)) && !(decide (o.getD i 0 ∈ o.take i)) && ordL ss o (i + 1) d
theorem l6Order_loop (ss : List (List Int)) (o : List Int) (hx : ss.length ≤ 1048576) (hs : tot ss ≤ 1048576) (ho : o.length ≤ 1048576) (d : Nat) : ∀ (k i : Nat), i + d = o.length → 3145801 + d ≤ k → spec_l6Order.l0 k o (i : Int) ss = some (ordL ss o i d && decide (o.length ≤ 8)) := by
  induction d with
  | zero =>
    intro k i hi hk
    obtain ⟨k, rfl⟩ := kpos (d := 0) (k := k) (by omega)
    simp only [spec_l6Order.l0]
    rw [if_neg (by omega)]
    simp only [ordL, Bool.true_and]
    congr 1
    rw [Bool.eq_iff_iff, decide_eq_true_eq, decide_eq_true_eq]
    omega
  | succ d ih =>
    intro k i hi hk
    obtain ⟨k, rfl⟩ := kpos (d := 0) (k := k) (by omega)
    have hlt : i < o.length := by omega
    simp only [spec_l6Order.l0, ordL]
    rw [if_pos (by omega), if_pos (by omega), rd_nat, l5Find_ends ss _ hx hs k (by omega), Option.bind_some]
    by_cases h1 : (findY (o.getD i 0) ss 0).1 < 0
    · rw [if_pos h1, decide_eq_true h1]; rfl
    · rw [if_neg h1, decide_eq_false h1, if_pos (by omega), Int.toNat_natCast, l1Has_ends _ _ (by rw [List.length_take]; omega) k (by rw [List.length_take]; omega), Option.bind_some]
      by_cases h2 : o.getD i 0 ∈ o.take i
      · rw [decide_eq_true h2, if_pos rfl]; rfl
      · rw [decide_eq_false h2, if_neg (by decide), wnext hlt (by omega), ih k (i + 1) (by omega) (by omega)]
        rfl
theorem isOrder_loop (ss : List (List Int)) (o : List Int) (hx : ss.length ≤ 1048576) (hs : tot ss ≤ 1048576) (ho : o.length ≤ 1048576) (d : Nat) : ∀ (k i : Nat), i + d = o.length → 3145801 + d ≤ k → impl_isOrder.l0 k o o (o.length : Int) (i : Int) ss = some (ordL ss o i d) := by
  induction d with
  | zero =>
    intro k i hi hk
    obtain ⟨k, rfl⟩ := kpos (d := 0) (k := k) (by omega)
    simp only [impl_isOrder.l0]
    rw [if_neg (by omega)]
    rfl
  | succ d ih =>
    intro k i hi hk
    obtain ⟨k, rfl⟩ := kpos (d := 0) (k := k) (by omega)
    have hlt : i < o.length := by omega
    simp only [impl_isOrder.l0, ordL]
    rw [if_pos (by omega), if_pos (by omega), if_pos (by omega), rd_nat, placeOf_ends ss _ hx hs k (by omega), Option.bind_some]
    by_cases h1 : (findY (o.getD i 0) ss 0).1 < 0
    · rw [if_pos h1, decide_eq_true h1]; rfl
    · rw [if_neg h1, decide_eq_false h1, if_pos (by omega), Int.toNat_natCast, Contains_ends _ _ (by rw [List.length_take]; omega) k (by rw [List.length_take]; omega), Option.bind_some]
      by_cases h2 : o.getD i 0 ∈ o.take i
      · rw [decide_eq_true h2, if_pos rfl]; rfl
      · rw [decide_eq_false h2, if_neg (by decide), wnext hlt (by omega), ih k (i + 1) (by omega) (by omega)]
        rfl
/-- The answer of both. -/
def boundR (ss : List (List Int)) (o : List Int) : Int × Bool := if (goodY ss && (ordL ss o 0 o.length && decide (o.length ≤ 8))) = true then ((cAll o ss : Int), true) else (0, false)
theorem spec_bound (ss : List (List Int)) (o : List Int) (hx : ss.length ≤ 1048576) (hs : tot ss ≤ 1048576) (ho : o.length ≤ 1048576) (k : Nat) (hk : 4500000 ≤ k) : spec_RelocationBound.f k ss o = some (boundR ss o) := by
  unfold spec_RelocationBound.f spec_l6Asked.f boundR
  rw [spec_goodY ss k (by omega), Option.bind_some]
  by_cases hg : goodY ss = true
  · unfold spec_l6Order.f
    have := l6Order_loop ss o hx hs ho o.length k 0 (by omega) (by omega)
    rw [show ((0 : Nat) : Int) = 0 from rfl] at this
    rw [if_pos hg, this, Option.bind_some, Option.bind_some, hg, Bool.true_and]
    by_cases h : (ordL ss o 0 o.length && decide (o.length ≤ 8)) = true
    · have h8 : o.length ≤ 8 := by simp only [Bool.and_eq_true, decide_eq_true_eq] at h; exact h.2
      rw [if_pos h, if_pos h, l6Bound_ends o h8 ss (goodY_row hg) (goodY_len hg).2 k (by omega), Option.bind_some]
    · rw [if_neg h, if_neg h]
  · rw [if_neg hg, Option.bind_some, if_neg (by decide)]
    rw [Bool.not_eq_true] at hg
    rw [hg]
    rfl
theorem impl_bound (ss : List (List Int)) (o : List Int) (hx : ss.length ≤ 1048576) (hs : tot ss ≤ 1048576) (ho : o.length ≤ 1048576) (k : Nat) (hk : 4500000 ≤ k) : impl_RelocationBound.f k ss o = some (boundR ss o) := by
  unfold impl_RelocationBound.f impl_isOrder.f boundR impl_IsValidYard.f
  obtain ⟨k, rfl⟩ := kpos (d := 0) (k := k) (by omega)
  rw [Option.bind_some]
  by_cases hg : goodY ss = true
  · rw [if_pos hg, hg, Bool.true_and]
    simp only [impl_isOrder.j0]
    by_cases h8 : o.length ≤ 8
    · have := isOrder_loop ss o hx hs ho o.length k 0 (by omega) (by omega)
      rw [show ((0 : Nat) : Int) = 0 from rfl] at this
      rw [decide_eq_false (by omega), if_neg (by decide), this, Option.bind_some, decide_eq_true h8, Bool.and_true]
      by_cases h : ordL ss o 0 o.length = true
      · have hb : impl_relocationBound.f ss o = some (bAll o ss : Int) := by
          unfold impl_relocationBound.f
          have hm4 : ∀ s ∈ ss, s.length ≤ 4 := by
            intro s hm
            obtain ⟨n, hn, rfl⟩ := List.mem_iff_getElem.1 hm
            have := goodY_row hg n
            rw [List.getD_eq_getElem?_getD, List.getElem?_eq_getElem hn] at this
            exact this
          have hl6 := (goodY_len hg).2
          rw [if_pos (by refine ⟨by omega, fun s hm => ?_, by omega⟩; have := hm4 s hm; omega)]
        rw [if_pos h, if_pos h, hb, Option.bind_some, bAll_is]
      · rw [if_neg h, if_neg h]
    · rw [decide_eq_true (by omega), if_pos rfl, Option.bind_some, if_neg (by decide), decide_eq_false h8, Bool.and_false, if_neg (by decide)]
  · rw [if_neg hg]
    simp only [impl_isOrder.j0, if_true]
    rw [Option.bind_some, if_neg (by decide)]
    rw [Bool.not_eq_true] at hg
    rw [hg]
    rfl
end Go.Proofs.Ytagbfaacklilbaa.X
