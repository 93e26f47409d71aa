/- The law FnSplitJoin answers true for every code. No condition beyond the form's own. -/
import Derived.Test.YtnifjoobkojgiaaDoorFlawsFnSplitJoin
import Derived.Test.YtnifjoobkojgiaaDoorOpen
import Derived.Test.YtnifjoobkojgiaaDoorX0
import Derived.Lib.Strings
import Derived.Test.YtnifjoobkojgiaaDoorGItoa
import Derived.Test.YtnifjoobkojgiaaDoorFspecl1Num
import Derived.Test.YtnifjoobkojgiaaDoorFimpldecimal
import Derived.Lib.ItoaNum
import Derived.Test.YtnifjoobkojgiaaDoorFspecl1Split
import Derived.Lib.SplitLaws
import Derived.Lib.IndexLaws
import Derived.Test.YtnifjoobkojgiaaDoorGSplit
import Derived.Lib.Join
import Derived.Test.YtnifjoobkojgiaaDoorGContains
import Derived.Test.YtnifjoobkojgiaaDoorFspecl1Stands
import Derived.Test.YtnifjoobkojgiaaDoorGJoin
import Derived.Test.YtnifjoobkojgiaaDoorFspecJoinStrings
import Derived.Test.YtnifjoobkojgiaaDoorFimplJoinStrings
import Derived.Test.YtnifjoobkojgiaaDoorFbCur
import Derived.Test.YtnifjoobkojgiaaDoorGspoilt
import Derived.Laws.BitsAllLaws
import Derived.Laws.Bits64
-- Written by a program of ours (wip/bin/rows.py). Not trusted: Lean checks it.
namespace Go.Proofs.YtnifjoobkojgiaaDoor.X
open Go.RowKit Go.Proofs.YtnifjoobkojgiaaDoorW.PrintWords Go.Proofs.YtnifjoobkojgiaaDoorW.PrintLast
/-- The law's one pure statement. -/
def laws_FnSplitJoin.Pure : Prop := ∀ (l0 : (List Int)), (WL WU8) l0 → ∃ k, laws_FnSplitJoin.f k l0 = some true
end Go.Proofs.YtnifjoobkojgiaaDoor.X
/- Plain lemmas about whole numbers that don't wrap, lists that are read by an index, lists that are filled by an index. No Go in them. -/
namespace Go.Proofs.YtnifjoobkojgiaaDoor.X
open Go.RowKit Go.Proofs.YtnifjoobkojgiaaDoorW.PrintWords Go.Proofs.YtnifjoobkojgiaaDoorW.PrintLast
set_option linter.unusedVariables false
set_option linter.unusedSimpArgs false

theorem w64 {x : Int} (h0 : -9223372036854775808 ≤ x) (h1 : x ≤ 9223372036854775807) : wrap64 x = x := by
  unfold wrap64
  omega
theorem wnext {n m : Nat} (h : n < m) (hm : m ≤ 9223372036854775807) : wrap64 ((n : Int) + 1) = ((n + 1 : Nat) : Int) := by
  rw [w64 (by omega) (by omega)]
  omega
theorem kpos {d k : Nat} (h : d < k) : ∃ m, k = m + 1 := ⟨k - 1, by omega⟩
theorem getD_cons {α : Type} {xs : List α} {z : α} {n : Nat} (h : n < xs.length) : xs.drop n = xs.getD n z :: xs.drop (n + 1) := by
  rw [List.drop_eq_getElem_cons h, List.getD_eq_getElem?_getD, List.getElem?_eq_getElem h]
  rfl
theorem getD_mem {α : Type} {xs : List α} {z : α} {n : Nat} (h : n < xs.length) : xs.getD n z ∈ xs := by
  rw [List.getD_eq_getElem?_getD, List.getElem?_eq_getElem h]
  exact List.getElem_mem h
theorem take_succ_getD {α : Type} {xs : List α} {z : α} {n : Nat} (h : n < xs.length) : xs.take (n + 1) = xs.take n ++ [xs.getD n z] := by
  rw [List.take_succ_eq_append_getElem h, List.getD_eq_getElem?_getD, List.getElem?_eq_getElem h]
  rfl
theorem set_take {α : Type} {ys : List α} {n : Nat} (v : α) (h : n < ys.length) : (ys.set n v).take (n + 1) = ys.take n ++ [v] := by
  rw [List.take_succ_eq_append_getElem (by simpa using h)]
  simp [List.take_set_of_le]
theorem rd_nat (xs : List Int) (n : Nat) : rd xs (n : Int) = xs.getD n 0 := rfl
theorem dec_cons_pos {α : Type} [DecidableEq α] {x y : α} {a b : List α} (h : x = y) : decide (x :: a = y :: b) = decide (a = b) := by
  rw [Bool.eq_iff_iff, decide_eq_true_eq, decide_eq_true_eq, List.cons.injEq]
  exact ⟨fun z => z.2, fun z => ⟨h, z⟩⟩
theorem dec_cons_neg {α : Type} [DecidableEq α] {x y : α} {a b : List α} (h : ¬ x = y) : decide (x :: a = y :: b) = false := by
  rw [decide_eq_false_iff_not, List.cons.injEq]
  exact fun z => h z.1
theorem dec_mem_pos {α : Type} [DecidableEq α] {x y : α} {a : List α} (h : x = y) : decide (x ∈ y :: a) = true := by
  rw [decide_eq_true_eq, h]
  exact List.mem_cons_self
theorem dec_mem_neg {α : Type} [DecidableEq α] {x y : α} {a : List α} (h : ¬ x = y) : decide (x ∈ y :: a) = decide (x ∈ a) := by
  rw [Bool.eq_iff_iff, decide_eq_true_eq, decide_eq_true_eq, List.mem_cons]
  exact ⟨fun z => z.resolve_left h, fun z => .inr z⟩
/-- A loop that fills a row by an index: what the row is behind it. -/
theorem fill_step {α β : Type} {xs : List α} {ys : List β} {z : α} {n : Nat} (conv : α → β) (hl : ys.length = xs.length) (h : n < xs.length) (hy : ys.take n = (xs.take n).map conv) :
    (ys.set n (conv (xs.getD n z))).take (n + 1) = (xs.take (n + 1)).map conv ∧ (ys.set n (conv (xs.getD n z))).length = xs.length := by
  refine ⟨?_, by simpa using hl⟩
  rw [set_take _ (by omega), hy, take_succ_getD (z := z) h]
  simp
theorem fill_end {α β : Type} {xs : List α} {ys : List β} {n : Nat} (conv : α → β) (hl : ys.length = xs.length) (h : xs.length ≤ n) (hy : ys.take n = (xs.take n).map conv) : ys = xs.map conv := by
  rw [List.take_of_length_le (by omega), List.take_of_length_le h] at hy
  exact hy
end Go.Proofs.YtnifjoobkojgiaaDoor.X
/- A text as its bytes. -/
namespace Go.Proofs.YtnifjoobkojgiaaDoor.X
open Go.RowKit Go.Proofs.YtnifjoobkojgiaaDoorW.PrintWords Go.Proofs.YtnifjoobkojgiaaDoorW.PrintLast
set_option linter.unusedVariables false
set_option linter.unusedSimpArgs false
def bs (s : ByteArray) : List UInt8 := s.data.toList
theorem bs_length (s : ByteArray) : (bs s).length = s.size := Array.length_toList
theorem bt_list (s : ByteArray) (i : Nat) (h : i < s.size) : bt s (i : Int) = (((bs s).getD i 0).toNat : Int) := by
  have h2 : i < (bs s).length := by rw [bs_length]; exact h
  unfold bt
  rw [dif_pos (by simpa using h), List.getD_eq_getElem?_getD, List.getElem?_eq_getElem h2]
  rfl
def tenB : ByteArray := ⟨#[48, 49, 50, 51, 52, 53, 54, 55, 56, 57]⟩
theorem digit_cut (u : Nat) (h : u < 10) : tenB.extract u (u + 1) = ⟨#[UInt8.ofNat (48 + u)]⟩ := by
  match u, h with
  | 0, _ => rfl
  | 1, _ => rfl
  | 2, _ => rfl
  | 3, _ => rfl
  | 4, _ => rfl
  | 5, _ => rfl
  | 6, _ => rfl
  | 7, _ => rfl
  | 8, _ => rfl
  | 9, _ => rfl
  | u + 10, h => omega
def tx (l : List UInt8) : ByteArray := ⟨l.toArray⟩
theorem tx_size (l : List UInt8) : (tx l).size = l.length := rfl
theorem tx_append (a b : List UInt8) : tx a ++ tx b = tx (a ++ b) := by
  unfold tx
  apply ByteArray.ext
  simp
theorem bs_inj {a b : ByteArray} (h : bs a = bs b) : a = b := by
  obtain ⟨⟨x⟩⟩ := a
  obtain ⟨⟨y⟩⟩ := b
  have h2 : x = y := h
  rw [h2]
theorem map_bs_inj : ∀ (a b : List ByteArray), a.map bs = b.map bs → a = b
  | [], [], _ => rfl
  | [], y :: b, h => by simp at h
  | x :: a, [], h => by simp at h
  | x :: a, y :: b, h => by
    simp only [List.map_cons, List.cons.injEq] at h
    rw [bs_inj h.1, map_bs_inj a b h.2]
theorem bs_extract (s : ByteArray) (a b : Nat) : bs (s.extract a b) = ((bs s).take b).drop a := by
  unfold bs
  rw [Lib.extract_data]
  rw [List.drop_take]
end Go.Proofs.YtnifjoobkojgiaaDoor.X
/- The reference's text of a number is the decimal numeral of the library. -/
namespace Go.Proofs.YtnifjoobkojgiaaDoor.X
open Go.RowKit Go.Proofs.YtnifjoobkojgiaaDoorW.PrintWords Go.Proofs.YtnifjoobkojgiaaDoorW.PrintLast
set_option linter.unusedVariables false
set_option linter.unusedSimpArgs false
theorem dec_small {u : Nat} (h : u < 10) : Lib.decDigits u = [UInt8.ofNat (48 + u)] := by rw [Lib.decDigits, dif_pos h]
theorem dec_big {u : Nat} (h : ¬ u < 10) : Lib.decDigits u = Lib.decDigits (u / 10) ++ [UInt8.ofNat (48 + u % 10)] := by rw [Lib.decDigits, dif_neg h]
theorem dec_length (d : Nat) : ∀ u, u < 10 ^ (d + 1) → (Lib.decDigits u).length ≤ d + 1 := by
  induction d with
  | zero => intro u h; rw [dec_small (by simpa using h)]; simp
  | succ d ih =>
    intro u h
    by_cases h2 : u < 10
    · rw [dec_small h2]; simp
    · have h3 : u / 10 < 10 ^ (d + 1) := by rw [Nat.div_lt_iff_lt_mul (by omega), ← Nat.pow_succ]; exact h
      rw [dec_big h2, List.length_append, List.length_singleton]
      have := ih _ h3
      omega
theorem l1Num_nat (d : Nat) (hd : d ≤ 17) : ∀ (k u : Nat), u < 10 ^ (d + 1) → d < k → spec_l1Num.f k (u : Int) = some (tx (Lib.decDigits u)) := by
  induction d with
  | zero =>
    intro k u h hk
    obtain ⟨k, rfl⟩ := kpos hk
    have h10 : u < 10 := by simpa using h
    unfold spec_l1Num.f
    rw [if_neg (by omega), if_pos (by omega), w64 (by omega) (by omega), if_pos (by omega), if_pos (by omega), if_pos (by omega), dec_small h10]
    rw [show ((u : Int) + 1).toNat = u + 1 by omega, Int.toNat_natCast]
    exact congrArg some (digit_cut u h10)
  | succ d ih =>
    intro k u h hk
    obtain ⟨k, rfl⟩ := kpos (d := 0) (k := k) (by omega)
    by_cases h10 : u < 10
    · unfold spec_l1Num.f
      rw [if_neg (by omega), if_pos (by omega), w64 (by omega) (by omega), if_pos (by omega), if_pos (by omega), if_pos (by omega), dec_small h10]
      rw [show ((u : Int) + 1).toNat = u + 1 by omega, Int.toNat_natCast]
      exact congrArg some (digit_cut u h10)
    · have hb : u < 10 ^ 19 := Nat.lt_of_lt_of_le h (Nat.pow_le_pow_right (by omega) (by omega))
      have hb2 : u < 10000000000000000000 := hb
      have h3 : u / 10 < 10 ^ (d + 1) := by rw [Nat.div_lt_iff_lt_mul (by omega), ← Nat.pow_succ]; exact h
      have hl := dec_length d _ h3
      have hr := ih (by omega) k (u / 10) h3 (by omega)
      have hm : u % 10 < 10 := Nat.mod_lt _ (by omega)
      have n1 : ¬ ((u : Int) < 0) := by omega
      have n2 : ¬ ((u : Int) < 10) := by omega
      have n3 : (0 : Int) ≤ (u : Int) := by omega
      obtain ⟨q, hq⟩ : ∃ q, u / 10 = q := ⟨_, rfl⟩
      obtain ⟨m, hmm⟩ : ∃ m, u % 10 = m := ⟨_, rfl⟩
      have hql : q ≤ 1000000000000000000 := by omega
      rw [hq] at hr hl
      rw [hmm] at hm
      have b1 : (-9223372036854775808 : Int) ≤ (q : Int) := by omega
      have b2 : (q : Int) ≤ 9223372036854775807 := by omega
      have b3 : (-9223372036854775808 : Int) ≤ (m : Int) + 1 := by omega
      have b4 : (m : Int) + 1 ≤ 9223372036854775807 := by omega
      have g3 : (0 : Int) ≤ (m : Int) := by omega
      have g4 : (m : Int) ≤ (m : Int) + 1 := by omega
      have g5 : (m : Int) + 1 ≤ 10 := by omega
      have g6 : ((m : Int) + 1).toNat = m + 1 := by omega
      have g7 : (Lib.decDigits q).length + 1 ≤ 9223372036854775807 := by omega
      have e1 : Int.tdiv (u : Int) 10 = ((u / 10 : Nat) : Int) := by rw [Int.tdiv_eq_ediv_of_nonneg n3]; rfl
      have e2 : Int.tmod (u : Int) 10 = ((u % 10 : Nat) : Int) := by rw [Int.tmod_eq_emod_of_nonneg n3]; rfl
      have g1 : wrap64 (q : Int) = (q : Int) := w64 b1 b2
      have g2 : wrap64 ((m : Int) + 1) = (m : Int) + 1 := w64 b3 b4
      unfold spec_l1Num.f
      rw [if_neg n1, if_neg n2, e1, e2, dec_big h10, hq, hmm, g1, hr, Option.bind_some, g2, if_pos g3, if_pos g4, if_pos g5, g6, Int.toNat_natCast]
      rw [show (⟨#[48, 49, 50, 51, 52, 53, 54, 55, 56, 57]⟩ : ByteArray) = tenB from rfl, digit_cut m hm]
      have hsz : (tx (Lib.decDigits q)).size + (⟨#[UInt8.ofNat (48 + m)]⟩ : ByteArray).size ≤ 9223372036854775807 := by
        rw [tx_size, show (⟨#[UInt8.ofNat (48 + m)]⟩ : ByteArray).size = 1 from rfl]
        exact g7
      rw [if_pos hsz]
      exact congrArg some (tx_append _ [UInt8.ofNat (48 + m)])
theorem l1Num_ends (n : Int) (h0 : -1000000000000 ≤ n) (h1 : n ≤ 1000000000000) (k : Nat) (hk : 20 ≤ k) : spec_l1Num.f k n = some (tx (Lib.itoa n)) := by
  unfold Lib.itoa
  by_cases h : n < 0
  · obtain ⟨k, rfl⟩ := kpos (d := 0) (k := k) (by omega)
    have hu : n.natAbs < 10 ^ (17 + 1) := by
      have : n.natAbs < 1000000000000000000 := by omega
      exact this
    have hr := l1Num_nat 17 (by omega) k n.natAbs hu (by omega)
    have hl := dec_length 17 _ hu
    rw [if_pos h]
    unfold spec_l1Num.f
    rw [if_pos h, w64 (by omega) (by omega), show -n = ((n.natAbs : Nat) : Int) by omega, hr, Option.bind_some, if_pos (by rw [tx_size]; omega)]
    exact congrArg some (tx_append [45] _)
  · rw [if_neg h]
    have hu : n.toNat < 10 ^ (17 + 1) := by
      have : n.toNat < 1000000000000000000 := by omega
      exact this
    have hr := l1Num_nat 17 (by omega) k n.toNat hu (by omega)
    rw [show ((n.toNat : Nat) : Int) = n by omega] at hr
    exact hr
theorem decimal_ends (n : Int) (h0 : -1000000000000 ≤ n) (h1 : n ≤ 1000000000000) : impl_decimal.f n = some (tx (Lib.itoa n)) := by
  unfold impl_decimal.f strconv_Itoa.f
  rw [if_pos (by omega)]
  rfl
theorem itoa_length (n : Int) (h0 : -1000000000000 ≤ n) (h1 : n ≤ 1000000000000) : (Lib.itoa n).length ≤ 19 := by
  unfold Lib.itoa
  split
  · have := dec_length 17 n.natAbs (by show _ < 1000000000000000000; omega)
    simp only [List.length_cons]; omega
  · have := dec_length 17 n.toNat (by show _ < 1000000000000000000; omega)
    omega
end Go.Proofs.YtnifjoobkojgiaaDoor.X
/- A text cut at each sign of one byte: the reference's loop, the library's pieces, the first piece. -/
namespace Go.Proofs.YtnifjoobkojgiaaDoor.X
open Go.RowKit Go.Proofs.YtnifjoobkojgiaaDoorW.PrintWords Go.Proofs.YtnifjoobkojgiaaDoorW.PrintLast
set_option linter.unusedVariables false
set_option linter.unusedSimpArgs false
def preH (p : List UInt8) : List (List UInt8) → List (List UInt8)
  | [] => [p]
  | h :: t => (p ++ h) :: t
def splitL (c : UInt8) : List UInt8 → List (List UInt8)
  | [] => [[]]
  | b :: r => if b = c then [] :: splitL c r else preH [b] (splitL c r)
theorem splitL_some (c : UInt8) : ∀ l, ∃ h t, splitL c l = h :: t
  | [] => ⟨[], [], rfl⟩
  | b :: r => by
    obtain ⟨h, t, e⟩ := splitL_some c r
    unfold splitL
    split
    · exact ⟨_, _, rfl⟩
    · rw [e]; exact ⟨_, _, rfl⟩
theorem indexByte_cons (b c : UInt8) (l : List UInt8) : Lib.indexByte (b :: l) c = if (b == c) = true then 0 else if (Lib.indexByte l c == -1) = true then -1 else Lib.indexByte l c + 1 := rfl
theorem splitL_miss (c : UInt8) : ∀ l, Lib.indexByte l c = -1 → splitL c l = [l]
  | [], _ => rfl
  | b :: r, h => by
    rw [indexByte_cons] at h
    by_cases h1 : (b == c) = true
    · rw [if_pos h1] at h; omega
    · rw [if_neg h1] at h
      by_cases h2 : (Lib.indexByte r c == -1) = true
      · have ih := splitL_miss c r (by simpa using h2)
        unfold splitL
        rw [if_neg (by simpa using h1), ih]
        rfl
      · rw [if_neg h2] at h
        have := Lib.indexByte_ge r c
        omega
theorem splitL_hit (c : UInt8) : ∀ (l : List UInt8) (j : Nat), Lib.indexByte l c = (j : Int) → splitL c l = l.take j :: splitL c (l.drop (j + 1))
  | [], j, h => by simp [Lib.indexByte] at h
  | b :: r, j, h => by
    rw [indexByte_cons] at h
    by_cases h1 : (b == c) = true
    · rw [if_pos h1] at h
      obtain rfl : j = 0 := by omega
      rw [splitL, if_pos (by simpa using h1)]
      rfl
    · rw [if_neg h1] at h
      by_cases h2 : (Lib.indexByte r c == -1) = true
      · rw [if_pos h2] at h; omega
      · rw [if_neg h2] at h
        obtain ⟨q, rfl⟩ : ∃ q, j = q + 1 := ⟨j - 1, by have := Lib.indexByte_ge r c; rw [beq_iff_eq] at h2; omega⟩
        have ih := splitL_hit c r q (by omega)
        rw [splitL, if_neg (by simpa using h1), ih]
        rfl
theorem splitK_eq (c : UInt8) : ∀ (n : Nat) (l : List UInt8), l.length ≤ n → Lib.splitK [c] 0 (Lib.count l [c]) l = splitL c l := by
  intro n
  induction n with
  | zero =>
    intro l h
    obtain rfl : l = [] := List.length_eq_zero_iff.1 (by omega)
    rw [Lib.count_miss (by rw [Lib.index_one]; rfl)]
    rfl
  | succ n ih =>
    intro l h
    have hge := Lib.indexByte_ge l c
    by_cases hm : Lib.indexByte l c = -1
    · rw [Lib.count_miss (by rw [Lib.index_one]; exact hm), splitL_miss c l hm]
      rfl
    · obtain ⟨j, hj⟩ : ∃ j : Nat, Lib.indexByte l c = j := ⟨(Lib.indexByte l c).toNat, by omega⟩
      have hi : Lib.index l [c] = (j : Int) := by rw [Lib.index_one]; exact hj
      have hlt : j < l.length := (List.getElem?_eq_some_iff.1 (Lib.indexByte_some hj).1).1
      have hr := ih (l.drop (j + 1)) (by rw [List.length_drop]; omega)
      rw [Lib.count_hit (by simp) hi, splitL_hit c l j hj, Nat.add_comm 1, Lib.splitK, if_neg (by rw [hi, beq_iff_eq]; omega), hi]
      show l.take (((j : Int)).toNat + 0) :: Lib.splitK [c] 0 (Lib.count (l.drop (j + 1)) [c]) (l.drop (((j : Int)).toNat + 1)) = _
      rw [Int.toNat_natCast, Nat.add_zero, hr]
theorem l1Split_loop (s : ByteArray) (c : UInt8) (hx : s.size ≤ 1048576) (d : Nat) : ∀ (k f i : Nat) (out : List ByteArray), i + d = s.size → d < k → f ≤ i → out.length + d ≤ 2000000 →
    ∃ ys, spec_l1Split.l0 k s (c.toNat : Int) out (f : Int) (i : Int) = some ys ∧ ys.map bs = out.map bs ++ preH (((bs s).take i).drop f) (splitL c ((bs s).drop i)) ∧ ys.length ≤ out.length + d + 1 := by
  induction d with
  | zero =>
    intro k f i out hi hk hf ho
    obtain ⟨k, rfl⟩ := kpos hk
    have n1 : ¬ ((i : Int) < (s.size : Int)) := by omega
    have n2 : (0 : Int) ≤ (f : Int) := by omega
    have n3 : (f : Int) ≤ (s.size : Int) := by omega
    have n4 : out.length < 8796093022208 := by omega
    unfold spec_l1Split.l0
    rw [if_neg n1, if_pos n2, if_pos n3, if_pos n4]
    refine ⟨_, rfl, ?_, by simp⟩
    rw [List.map_append, List.map_cons, List.map_nil, bs_extract, show i = s.size by omega, show (bs s).drop s.size = [] from List.drop_of_length_le (by rw [bs_length]; omega), Int.toNat_natCast]
    simp [splitL, preH]
  | succ d ih =>
    intro k f i out hi hk hf ho
    obtain ⟨k, rfl⟩ := kpos hk
    have hlt : i < s.size := by omega
    have hlb : i < (bs s).length := by rw [bs_length]; exact hlt
    have n1 : ((i : Int) < (s.size : Int)) := by omega
    have n2 : (0 : Int) ≤ (i : Int) := by omega
    have n3 : (0 : Int) ≤ (f : Int) := by omega
    have n4 : (f : Int) ≤ (i : Int) := by omega
    have n5 : (i : Int) ≤ (s.size : Int) := by omega
    have n6 : out.length < 8796093022208 := by omega
    have e1 : (bs s).drop i = (bs s).getD i 0 :: (bs s).drop (i + 1) := getD_cons hlb
    obtain ⟨h, t, eL⟩ := splitL_some c ((bs s).drop (i + 1))
    unfold spec_l1Split.l0
    rw [if_pos n1, if_pos n2, bt_list s i hlt, wnext hlt (by omega), e1]
    by_cases hc : (bs s).getD i 0 = c
    · obtain ⟨ys, h1, h2, h3⟩ := ih k (i + 1) (i + 1) (out ++ [s.extract f i]) (by omega) (by omega) (by omega) (by simp; omega)
      rw [if_pos (by rw [hc]), if_pos n3, if_pos n4, if_pos n5, if_pos n6, Int.toNat_natCast, Int.toNat_natCast]
      refine ⟨ys, h1, ?_, by simp at h3; omega⟩
      rw [h2, List.map_append, List.map_cons, List.map_nil, bs_extract, eL, show ((bs s).take (i + 1)).drop (i + 1) = [] from List.drop_of_length_le (by rw [List.length_take]; omega), splitL, if_pos hc, eL]
      simp [preH]
    · obtain ⟨ys, h1, h2, h3⟩ := ih k f (i + 1) out (by omega) (by omega) (by omega) (by omega)
      have hn : ¬ ((((bs s).getD i 0).toNat : Int) = (c.toNat : Int)) := fun e => hc (UInt8.toNat_inj.1 (by omega))
      rw [if_neg hn]
      refine ⟨ys, h1, ?_, by omega⟩
      rw [h2, splitL, if_neg hc, eL, take_succ_getD (z := (0 : UInt8)) hlb, List.drop_append_of_le_length (by rw [List.length_take]; omega)]
      simp [preH]
theorem l1Split_ends (s : ByteArray) (c : UInt8) (hx : s.size ≤ 1048576) (k : Nat) (hk : 1048577 ≤ k) :
    ∃ ys, spec_l1Split.f k s (c.toNat : Int) = some ys ∧ ys.map bs = splitL c (bs s) ∧ ys.length ≤ s.size + 1 := by
  obtain ⟨ys, h1, h2, h3⟩ := l1Split_loop s c hx s.size k 0 0 [] (by omega) (by omega) (by omega) (by simp; omega)
  obtain ⟨h, t, e⟩ := splitL_some c (bs s)
  refine ⟨ys, h1, ?_, by simpa using h3⟩
  simp only [List.drop_zero] at h2
  rw [h2, e]
  simp [preH]
end Go.Proofs.YtnifjoobkojgiaaDoor.X
/- Texts cut at a sign and joined by it: each undoes the other. -/
namespace Go.Proofs.YtnifjoobkojgiaaDoor.X
open Go.RowKit Go.Proofs.YtnifjoobkojgiaaDoorW.PrintWords Go.Proofs.YtnifjoobkojgiaaDoorW.PrintLast
set_option linter.unusedVariables false
set_option linter.unusedSimpArgs false
theorem split_same (s : ByteArray) (c : UInt8) (hx : s.size ≤ 1048576) (k : Nat) (hk : 1048577 ≤ k) : ∃ ys, spec_l1Split.f k s (c.toNat : Int) = some ys ∧ strings_Split.f s ⟨#[c]⟩ = some ys ∧ ys.map bs = splitL c (bs s) ∧ ys.length ≤ s.size + 1 := by
  obtain ⟨ys, h1, h2, h3⟩ := l1Split_ends s c hx k hk
  refine ⟨ys, h1, ?_, h2, h3⟩
  unfold strings_Split.f
  rw [if_pos ⟨rfl, hx⟩]
  refine congrArg some (map_bs_inj _ _ ?_)
  rw [h2]
  exact (Lib.splitB_data ⟨#[c]⟩ 0 (Lib.countB s ⟨#[c]⟩) s).trans (splitK_eq c (bs s).length (bs s) (Nat.le_refl _))
theorem joinTail_cons (sep x : List UInt8) (r : List (List UInt8)) : Lib.joinTail sep (x :: r) = sep ++ x ++ Lib.joinTail sep r := by simp [Lib.joinTail]
/-- Joined again, the pieces are the text. -/
theorem join_splitL (c : UInt8) : ∀ l, Lib.join (splitL c l) [c] = l
  | [] => Lib.join_one _ _
  | b :: r => by
    have ih := join_splitL c r
    obtain ⟨h, t, e⟩ := splitL_some c r
    rw [e, Lib.join_cons] at ih
    unfold splitL
    split
    · rename_i hb
      rw [Lib.join_cons, e, joinTail_cons, hb, List.nil_append, List.append_assoc, ih]
      rfl
    · rw [e, preH, Lib.join_cons, List.append_assoc, ih]
      rfl
theorem splitL_app (c : UInt8) : ∀ (p l : List UInt8), c ∉ p → splitL c (p ++ c :: l) = p :: splitL c l
  | [], l, _ => by rw [List.nil_append, splitL, if_pos rfl]
  | b :: p, l, h => by
    rw [List.cons_append, splitL, if_neg (fun e => h (by rw [e]; exact List.mem_cons_self)), splitL_app c p l (fun e => h (List.mem_cons_of_mem _ e))]
    rfl
theorem splitL_one (c : UInt8) : ∀ (p : List UInt8), c ∉ p → splitL c p = [p]
  | [], _ => rfl
  | b :: p, h => by
    rw [splitL, if_neg (fun e => h (by rw [e]; exact List.mem_cons_self)), splitL_one c p (fun e => h (List.mem_cons_of_mem _ e))]
    rfl
/-- Cut again, the joined text gives the pieces. -/
theorem splitL_join (c : UInt8) : ∀ (x : List UInt8) (r : List (List UInt8)), (∀ p ∈ x :: r, c ∉ p) → splitL c (Lib.join (x :: r) [c]) = x :: r
  | x, [], h => by rw [Lib.join_one]; exact splitL_one c x (h x List.mem_cons_self)
  | x, y :: r, h => by
    have ih := splitL_join c y r (fun p hp => h p (List.mem_cons_of_mem _ hp))
    rw [Lib.join_cons, joinTail_cons]
    rw [Lib.join_cons] at ih
    rw [show x ++ ([c] ++ y ++ Lib.joinTail [c] r) = x ++ c :: (y ++ Lib.joinTail [c] r) by simp, splitL_app c x _ (h x List.mem_cons_self), ih]
/-- Each piece is without the sign. -/
theorem splitL_free (c : UInt8) : ∀ (l : List UInt8), ∀ p ∈ splitL c l, c ∉ p
  | [], p, hp => by
    rw [splitL, List.mem_singleton] at hp
    rw [hp]; simp
  | b :: r, p, hp => by
    have ih := splitL_free c r
    unfold splitL at hp
    split at hp
    · rcases List.mem_cons.1 hp with rfl | h
      · simp
      · exact ih p h
    · rename_i hb
      obtain ⟨h, t, e⟩ := splitL_some c r
      rw [e, preH] at hp
      rcases List.mem_cons.1 hp with rfl | h2
      · rw [List.singleton_append, List.mem_cons]
        rintro (e1 | e2)
        · exact hb e1.symm
        · exact ih h (by rw [e]; exact List.mem_cons_self) e2
      · exact ih p (by rw [e]; exact List.mem_cons_of_mem _ h2)
end Go.Proofs.YtnifjoobkojgiaaDoor.X
/- A text as its bytes; does a byte stand in a text. -/
namespace Go.Proofs.YtnifjoobkojgiaaDoor.X
open Go.RowKit Go.Proofs.YtnifjoobkojgiaaDoorW.PrintWords Go.Proofs.YtnifjoobkojgiaaDoorW.PrintLast
set_option linter.unusedVariables false
set_option linter.unusedSimpArgs false
theorem l1Stands_loop (s : ByteArray) (c : UInt8) (hx : s.size ≤ 1048576) (d : Nat) : ∀ (k i : Nat), i + d = s.size → d < k → spec_l1Stands.l0 k s (c.toNat : Int) (i : Int) = some (((bs s).drop i).any (fun b => b == c)) := by
  induction d with
  | zero =>
    intro k i hi hk
    obtain ⟨k, rfl⟩ := kpos hk
    unfold spec_l1Stands.l0
    rw [if_neg (by omega), List.drop_of_length_le (by rw [bs_length]; omega)]
    rfl
  | succ d ih =>
    intro k i hi hk
    obtain ⟨k, rfl⟩ := kpos hk
    have hlt : i < s.size := by omega
    have hlb : i < (bs s).length := by rw [bs_length]; exact hlt
    have hr := ih k (i + 1) (by omega) (by omega)
    unfold spec_l1Stands.l0
    rw [if_pos (by omega), if_pos (by omega), bt_list s i hlt, wnext hlt (by omega), hr, getD_cons (z := (0 : UInt8)) hlb, List.any_cons]
    by_cases h : (bs s).getD i 0 = c
    · rw [if_pos (by rw [h]), h]
      simp
    · have hn : ¬ ((((bs s).getD i 0).toNat : Int) = (c.toNat : Int)) := fun e => h (UInt8.toNat_inj.1 (by omega))
      rw [if_neg hn, show ((bs s).getD i 0 == c) = false from beq_eq_false_iff_ne.2 h, Bool.false_or]
theorem l1Stands_ends (s : ByteArray) (c : UInt8) (hx : s.size ≤ 1048576) (k : Nat) (hk : 1048577 ≤ k) : spec_l1Stands.f k s (c.toNat : Int) = some ((bs s).any (fun b => b == c)) := by
  unfold spec_l1Stands.f
  have := l1Stands_loop s c hx s.size k 0 (by omega) (by omega)
  rw [show ((0 : Nat) : Int) = 0 from rfl, List.drop_zero] at this
  exact this
end Go.Proofs.YtnifjoobkojgiaaDoor.X
/- Texts joined by a sign of one byte: the reference's loop, the program's. -/
namespace Go.Proofs.YtnifjoobkojgiaaDoor.X
open Go.RowKit Go.Proofs.YtnifjoobkojgiaaDoorW.PrintWords Go.Proofs.YtnifjoobkojgiaaDoorW.PrintLast
set_option linter.unusedVariables false
set_option linter.unusedSimpArgs false
def sumT : List ByteArray → Nat
  | [] => 0
  | s :: r => s.size + sumT r
def jl (l : List ByteArray) (c : UInt8) : List UInt8 := Lib.join (l.map bs) [c]
theorem jl_nil (c : UInt8) : jl [] c = [] := rfl
theorem tail_snoc (sep : List UInt8) (r : List (List UInt8)) (y : List UInt8) : Lib.joinTail sep (r ++ [y]) = Lib.joinTail sep r ++ (sep ++ y) := by
  unfold Lib.joinTail
  simp
theorem jl_snoc (l : List ByteArray) (y : ByteArray) (c : UInt8) (h : l ≠ []) : jl (l ++ [y]) c = jl l c ++ [c] ++ bs y := by
  cases l with
  | nil => exact absurd rfl h
  | cons x r =>
    unfold jl
    rw [List.cons_append, List.map_cons, List.map_append, List.map_cons, List.map_nil, Lib.join_cons, tail_snoc, List.map_cons, Lib.join_cons]
    simp
theorem jl_one (y : ByteArray) (c : UInt8) : jl [y] c = bs y := by unfold jl; exact Lib.join_one _ _
theorem jl_cons_length (x : ByteArray) (r : List ByteArray) (c : UInt8) : (jl (x :: r) c).length = x.size + r.length + sumT r := by
  unfold jl
  rw [List.map_cons, Lib.join_cons, List.length_append, bs_length]
  have : (Lib.joinTail [c] (r.map bs)).length = r.length + sumT r := by
    induction r with
    | nil => rfl
    | cons y r ih =>
      unfold Lib.joinTail at ih ⊢
      simp only [List.map_cons, List.flatten_cons, List.length_append, List.length_cons, List.length_nil, sumT, bs_length] at ih ⊢
      omega
  omega
theorem jl_length_le (l : List ByteArray) (c : UInt8) : (jl l c).length ≤ l.length + sumT l := by
  cases l with
  | nil => exact Nat.zero_le _
  | cons x r => rw [jl_cons_length]; simp only [List.length_cons, sumT]; omega
theorem sumT_take (l : List ByteArray) : ∀ n, sumT (l.take n) ≤ sumT l := by
  induction l with
  | nil => intro n; simp [sumT]
  | cons s r ih =>
    intro n
    cases n with
    | zero => exact Nat.zero_le _
    | succ n => have := ih n; simp only [List.take_succ_cons, sumT]; omega
theorem jl_take_length (l : List ByteArray) (c : UInt8) (n : Nat) : (jl (l.take n) c).length ≤ (jl l c).length := by
  cases l with
  | nil => simp
  | cons x r =>
    cases n with
    | zero => exact Nat.zero_le _
    | succ n =>
      have := sumT_take r n
      rw [List.take_succ_cons, jl_cons_length, jl_cons_length, List.length_take]
      omega
def tb (l : List UInt8) : ByteArray := ⟨l.toArray⟩
theorem tb_size (l : List UInt8) : (tb l).size = l.length := rfl
theorem tb_bs (s : ByteArray) : tb (bs s) = s := by
  obtain ⟨⟨l⟩⟩ := s
  rfl
theorem tb_append (a b : List UInt8) : tb a ++ tb b = tb (a ++ b) := by
  unfold tb
  apply ByteArray.ext
  simp
def hasC (c : UInt8) (s : ByteArray) : Bool := (bs s).any (fun b => b == c)
/-- The answer. -/
def joinR (l : List ByteArray) (c : UInt8) : ByteArray × Bool :=
  if l.any (hasC c) = true then (⟨#[]⟩, false) else if ((jl l c).length : Int) > 4000 then (⟨#[]⟩, false) else (tb (jl l c), true)
theorem spec_join_loop (l : List ByteArray) (c : UInt8) (hl : l.length ≤ 1048576) (hs : sumT l ≤ 1048576) (d : Nat) : ∀ (k i : Nat), i + d = l.length → d + 1048600 < k → (l.take i).any (hasC c) = false → (jl (l.take i) c).length ≤ 4000 →
    spec_JoinStrings.l0 k l ⟨#[c]⟩ (tb (jl (l.take i) c)) (i : Int) = some (joinR l c) := by
  induction d with
  | zero =>
    intro k i hi hk ha h4
    obtain ⟨k, rfl⟩ := kpos (d := 0) (k := k) (by omega)
    unfold spec_JoinStrings.l0
    rw [if_neg (by omega)]
    rw [List.take_of_length_le (by omega)] at ha h4 ⊢
    unfold joinR
    rw [ha, if_neg (show ¬ (false = true) by decide), if_neg (by omega)]
  | succ d ih =>
    intro k i hi hk ha h4
    obtain ⟨k, rfl⟩ := kpos (d := 0) (k := k) (by omega)
    have hlt : i < l.length := by omega
    obtain ⟨y, hy⟩ : ∃ y, l.getD i ByteArray.empty = y := ⟨_, rfl⟩
    have hts : l.take (i + 1) = l.take i ++ [y] := by rw [← hy]; exact take_succ_getD hlt
    have hys : y.size ≤ sumT l := by
      have h1 := sumT_take l (i + 1)
      have h2 : sumT (l.take i ++ [y]) = sumT (l.take i) + y.size := by
        generalize l.take i = q
        induction q with
        | nil => simp [sumT]
        | cons a q ihq => simp only [List.cons_append, sumT, ihq]; omega
      rw [hts, h2] at h1
      omega
    have hmem : y ∈ l := by rw [← hy]; exact getD_mem hlt
    have hmono := jl_take_length l c (i + 1)
    have n1 : (i : Int) < (l.length : Int) := by omega
    have n2 : (0 : Int) ≤ (i : Int) := by omega
    have n3 : (0 : Int) < ((⟨#[c]⟩ : ByteArray).size : Int) := by show (0 : Int) < ((1 : Nat) : Int); omega
    unfold spec_JoinStrings.l0
    rw [if_pos n1, if_pos n2, if_pos n3, show bt (⟨#[c]⟩ : ByteArray) 0 = (c.toNat : Int) from rfl, show rdOf ByteArray.empty l (i : Int) = y from hy, l1Stands_ends y c (by omega) k (by omega), Option.bind_some]
    by_cases hc : (bs y).any (fun b => b == c) = true
    · rw [if_pos hc]
      have : l.any (hasC c) = true := List.any_eq_true.2 ⟨y, hmem, hc⟩
      unfold joinR
      rw [if_pos this]
    · rw [if_neg hc]
      have hc2 : hasC c y = false := by rw [Bool.not_eq_true] at hc; exact hc
      have ha2 : (l.take (i + 1)).any (hasC c) = false := by rw [hts, List.any_append, ha]; simp [hc2]
      have hbig : ((jl (l.take (i + 1)) c).length : Int) > 4000 → joinR l c = (⟨#[]⟩, false) := by
        intro h
        unfold joinR
        split
        · rfl
        · rw [if_pos (by omega)]
      by_cases hi0 : (i : Int) > 0
      · have hne : l.take i ≠ [] := by
          intro e
          have := congrArg List.length e
          rw [List.length_take, List.length_nil] at this
          omega
        have hj : jl (l.take (i + 1)) c = jl (l.take i) c ++ [c] ++ bs y := by rw [hts]; exact jl_snoc _ _ _ hne
        have hjl := congrArg List.length hj
        simp only [List.length_append, List.length_singleton, bs_length] at hjl
        have e1 : (tb (jl (l.take i) c) ++ (⟨#[c]⟩ : ByteArray)) ++ y = tb (jl (l.take (i + 1)) c) := by
          rw [hj, ← tb_append, ← tb_append, tb_bs]
          rfl
        have e2 : (tb (jl (l.take i) c) ++ (⟨#[c]⟩ : ByteArray)).size = (jl (l.take i) c).length + 1 := by
          rw [ByteArray.size_append, tb_size]; rfl
        have n4 : (tb (jl (l.take i) c)).size + (⟨#[c]⟩ : ByteArray).size ≤ 9223372036854775807 := by rw [tb_size]; show _ + 1 ≤ _; omega
        have n5 : (tb (jl (l.take i) c) ++ (⟨#[c]⟩ : ByteArray)).size + y.size ≤ 9223372036854775807 := by rw [e2]; omega
        rw [if_pos hi0, if_pos n4, if_pos n5, e1, tb_size, wnext hlt (by omega)]
        by_cases h5 : ((jl (l.take (i + 1)) c).length : Int) > 4000
        · rw [if_pos h5, hbig h5]
        · rw [if_neg h5]
          exact ih k (i + 1) (by omega) (by omega) ha2 (by omega)
      · obtain rfl : i = 0 := by omega
        have hj : jl (l.take (0 + 1)) c = bs y := by rw [hts, List.take_zero, List.nil_append]; exact jl_one _ _
        have hjl := congrArg List.length hj
        rw [bs_length] at hjl
        have e1 : tb (jl (l.take 0) c) ++ y = tb (jl (l.take (0 + 1)) c) := by
          rw [hj, tb_bs, List.take_zero, jl_nil]
          apply ByteArray.ext
          simp [tb]
        have n4 : (tb (jl (l.take 0) c)).size + y.size ≤ 9223372036854775807 := by rw [List.take_zero, jl_nil]; show 0 + _ ≤ _; omega
        rw [if_neg hi0, if_pos n4, e1, tb_size, wnext hlt (by omega)]
        by_cases h5 : ((jl (l.take (0 + 1)) c).length : Int) > 4000
        · rw [if_pos h5, hbig h5]
        · rw [if_neg h5]
          exact ih k (0 + 1) (by omega) (by omega) ha2 (by omega)
theorem impl_join_loop (l : List ByteArray) (c : UInt8) (hl : l.length ≤ 1048576) (hs : sumT l ≤ 1048576) (d : Nat) : ∀ (k i : Nat), i + d = l.length → d + 10 < k → (l.take i).any (hasC c) = false →
    impl_JoinStrings.l0 k l ⟨#[c]⟩ l (l.length : Int) (i : Int) = some (joinR l c) := by
  induction d with
  | zero =>
    intro k i hi hk ha
    obtain ⟨k, rfl⟩ := kpos (d := 0) (k := k) (by omega)
    have hle := jl_length_le l c
    unfold impl_JoinStrings.l0
    rw [if_neg (by omega)]
    rw [List.take_of_length_le (by omega)] at ha
    have hj : strings_Join.f l (⟨#[c]⟩ : ByteArray) = some (tb (jl l c)) := by
      unfold strings_Join.f
      rw [if_pos ⟨by omega, show (jl l c).length ≤ _ by omega⟩]
      rfl
    rw [hj, Option.bind_some, tb_size]
    unfold joinR
    rw [ha, if_neg (show ¬ (false = true) by decide)]
    split <;> rfl
  | succ d ih =>
    intro k i hi hk ha
    obtain ⟨k, rfl⟩ := kpos (d := 0) (k := k) (by omega)
    have hlt : i < l.length := by omega
    obtain ⟨y, hy⟩ : ∃ y, l.getD i ByteArray.empty = y := ⟨_, rfl⟩
    have hts : l.take (i + 1) = l.take i ++ [y] := by rw [← hy]; exact take_succ_getD hlt
    have hmem : y ∈ l := by rw [← hy]; exact getD_mem hlt
    unfold impl_JoinStrings.l0
    rw [if_pos (by omega), if_pos (by omega), if_pos (by omega), show rdOf ByteArray.empty l (i : Int) = y from hy, show strings_Contains.f y (⟨#[c]⟩ : ByteArray) = some (hasC c y) from rfl, Option.bind_some]
    by_cases hc : hasC c y = true
    · rw [if_pos hc]
      have : l.any (hasC c) = true := List.any_eq_true.2 ⟨y, hmem, hc⟩
      unfold joinR
      rw [if_pos this]
    · rw [if_neg hc, wnext hlt (by omega)]
      rw [Bool.not_eq_true] at hc
      exact ih k (i + 1) (by omega) (by omega) (by rw [hts, List.any_append, ha]; simp [hc])
theorem one_byteB (sep : ByteArray) (h : sep.size = 1) : ∃ c : UInt8, sep = ⟨#[c]⟩ := by
  obtain ⟨⟨l⟩⟩ := sep
  cases l with
  | nil => simp [ByteArray.size] at h
  | cons c t =>
    cases t with
    | nil => exact ⟨c, rfl⟩
    | cons _ _ => simp [ByteArray.size] at h
theorem join_both (l : List ByteArray) (sep : ByteArray) (hl : l.length ≤ 1048576) (hs : sumT l ≤ 1048576) : ∃ r b, ∀ k, 2200000 ≤ k → spec_JoinStrings.f k l sep = some (r, b) ∧ impl_JoinStrings.f k l sep = some (r, b) := by
  by_cases h1 : (sep.size : Int) = 1
  · obtain ⟨c, rfl⟩ := one_byteB sep (by omega)
    cases hc : l with
    | nil =>
      refine ⟨⟨#[]⟩, false, fun k hk => ?_⟩
      obtain ⟨k, rfl⟩ := kpos (d := 0) (k := k) (by omega)
      unfold spec_JoinStrings.f impl_JoinStrings.f
      rw [if_pos h1, if_pos (by simp)]
      simp [spec_JoinStrings.j0, impl_JoinStrings.j0]
    | cons x r =>
      rw [← hc]
      have hp : 0 < l.length := by rw [hc]; simp
      refine ⟨(joinR l c).1, (joinR l c).2, fun k hk => ?_⟩
      obtain ⟨k, rfl⟩ := kpos (d := 0) (k := k) (by omega)
      unfold spec_JoinStrings.f impl_JoinStrings.f
      rw [if_pos h1, if_neg (by omega)]
      have e0 : ((l.length : Int) == 0) = false := beq_eq_false_iff_ne.2 (by omega)
      have e3 : (((⟨#[c]⟩ : ByteArray).size : Int) != 1) = false := bne_eq_false_iff_eq.2 h1
      rw [e0, e3]
      simp only [spec_JoinStrings.j0, impl_JoinStrings.j0, Bool.false_eq_true, if_false]
      have e1 := spec_join_loop l c hl hs l.length k 0 (by omega) (by omega) (by simp) (by rw [List.take_zero, jl_nil]; simp)
      have e2 := impl_join_loop l c hl hs l.length k 0 (by omega) (by omega) (by simp)
      rw [show ((0 : Nat) : Int) = 0 from rfl] at e1 e2
      rw [List.take_zero, jl_nil, show tb [] = (⟨#[]⟩ : ByteArray) from rfl] at e1
      exact ⟨e1, e2⟩
  · refine ⟨⟨#[]⟩, false, fun k hk => ?_⟩
    obtain ⟨k, rfl⟩ := kpos (d := 0) (k := k) (by omega)
    unfold spec_JoinStrings.f impl_JoinStrings.f
    have e3 : ((sep.size : Int) != 1) = true := bne_iff_ne.2 h1
    rw [if_neg h1, e3]
    simp only [spec_JoinStrings.j0, impl_JoinStrings.j0, if_true, ite_self]
    exact ⟨trivial, trivial⟩
end Go.Proofs.YtnifjoobkojgiaaDoor.X
/- What the reference's drawing of inputs answers: it always ends, within its bounds. -/
namespace Go.Proofs.YtnifjoobkojgiaaDoor.X
open Go.RowKit Go.Proofs.YtnifjoobkojgiaaDoorW.PrintWords Go.Proofs.YtnifjoobkojgiaaDoorW.PrintLast
set_option linter.unusedVariables false
set_option linter.unusedSimpArgs false
/-- The bytes of a code. -/
def Byt (l : List Int) : Prop := l.length ≤ 1000000 ∧ ∀ x ∈ l, 0 ≤ x ∧ x ≤ 255
/-- A cursor's place: not behind m. -/
def At (m a : Int) : Prop := 0 ≤ a ∧ a ≤ m
theorem At.up {m n a : Int} (h : At m a) (hm : m ≤ n) : At n a := ⟨h.1, Int.le_trans h.2 hm⟩
theorem byt_rd {l : List Int} (hl : Byt l) (a : Int) (h0 : 0 ≤ a) (h1 : a < (l.length : Int)) : 0 ≤ rd l a ∧ rd l a ≤ 255 := by
  obtain ⟨n, rfl⟩ : ∃ n : Nat, a = n := ⟨a.toNat, by omega⟩
  rw [rd_nat]
  exact hl.2 _ (getD_mem (by omega))
theorem low_byte (z : Int) : 0 ≤ wrap64 (Go.bits .and .u64 (IntKind.u64.wrap z / 1099511627776) 255) ∧ wrap64 (Go.bits .and .u64 (IntKind.u64.wrap z / 1099511627776) 255) ≤ 255 := by
  rw [IntKind.wrap_u64]
  have h0 : 0 ≤ z % 18446744073709551616 / 1099511627776 := by omega
  have h1 : z % 18446744073709551616 / 1099511627776 < 18446744073709551616 := by omega
  rw [u64_and _ _ h0 h1 (by decide) (by decide)]
  have hle : ((z % 18446744073709551616 / 1099511627776).toNat &&& (255 : Int).toNat) ≤ 255 := Nat.and_le_right
  generalize ((z % 18446744073709551616 / 1099511627776).toNat &&& (255 : Int).toNat) = q at hle
  rw [w64 (by omega) (by omega)]
  omega
theorem next_ok {l : List Int} (hl : Byt l) {m a : Int} (ha : At m a) (hm : m ≤ 1000000000000) (s : Int) : ∃ v a' s', spec_l1Cur_next.f l a s = some (v, a', s') ∧ (0 ≤ v ∧ v ≤ 255) ∧ At (m + 1) a' := by
  obtain ⟨h0, h1⟩ := ha
  have hw : wrap64 (a + 1) = a + 1 := w64 (by omega) (by omega)
  have h2 : At (m + 1) (a + 1) := ⟨by omega, by omega⟩
  unfold spec_l1Cur_next.f
  rw [hw]
  by_cases h : a < (l.length : Int)
  · obtain ⟨r0, r1⟩ := byt_rd hl a h0 h
    rw [if_pos h, if_pos h0, if_pos (by omega)]
    exact ⟨_, _, _, rfl, by rw [w64 (by omega) (by omega)]; exact ⟨r0, r1⟩, h2⟩
  · rw [if_neg h, if_neg (by omega)]
    exact ⟨_, _, _, rfl, low_byte _, h2⟩
theorem pick_ok {l : List Int} (hl : Byt l) {m a : Int} (ha : At m a) (hm : m ≤ 100000000000) (s n : Int) : ∃ v a' s', spec_l1Cur_pick.f l a s n = some (v, a', s') ∧ (0 ≤ v ∧ v ≤ 65535 ∧ (1 ≤ n → v < n)) ∧ At (m + 2) a' := by
  unfold spec_l1Cur_pick.f
  by_cases h : n ≤ 1
  · rw [if_pos h]
    exact ⟨_, _, _, rfl, ⟨by omega, by omega, by omega⟩, ha.up (by omega)⟩
  · rw [if_neg h]
    obtain ⟨v, a1, s1, e1, hv, ha1⟩ := next_ok hl ha (by omega) s
    rw [e1, Option.bind_some]
    have hn0 : ¬ n = 0 := by omega
    by_cases h2 : n > 200
    · rw [if_pos h2]
      obtain ⟨v2, a2, s2, e2, hv2, ha2⟩ := next_ok hl ha1 (by omega) s1
      rw [e2, Option.bind_some, if_neg hn0]
      refine ⟨_, _, _, rfl, ?_, ha2.up (by omega)⟩
      rw [w64 (x := v * 256) (by omega) (by omega), w64 (by omega) (by omega)]
      rw [Int.tmod_eq_emod_of_nonneg (by omega)]
      show 0 ≤ (v * 256 + v2) % n ∧ (v * 256 + v2) % n ≤ 65535 ∧ (1 ≤ n → (v * 256 + v2) % n < n)
      have b1 := Int.emod_nonneg (v * 256 + v2) hn0
      have b2 := Int.emod_lt_of_pos (v * 256 + v2) (b := n) (by omega)
      have b3 : (v * 256 + v2) % n ≤ v * 256 + v2 := by
        by_cases hq : v * 256 + v2 < n
        · rw [Int.emod_eq_of_lt (by omega) hq]; exact Int.le_refl _
        · omega
      exact ⟨b1, by omega, fun _ => b2⟩
    · rw [if_neg h2, if_neg hn0]
      refine ⟨_, _, _, rfl, ?_, ha1.up (by omega)⟩
      show 0 ≤ Int.tmod v n ∧ Int.tmod v n ≤ 65535 ∧ (1 ≤ n → Int.tmod v n < n)
      rw [Int.tmod_eq_emod_of_nonneg hv.1]
      have b1 := Int.emod_nonneg v hn0
      have b2 := Int.emod_lt_of_pos v (b := n) (by omega)
      exact ⟨b1, by omega, fun _ => b2⟩
theorem one_ok {l : List Int} (hl : Byt l) {m a : Int} (ha : At m a) (hm : m ≤ 100000000000) (s n : Int) : ∃ v a' s', spec_l1Cur_one.f l a s n = some (v, a', s') ∧ At (m + 2) a' := by
  obtain ⟨v, a1, s1, e1, _, ha1⟩ := pick_ok hl ha hm s n
  exact ⟨_, _, _, by unfold spec_l1Cur_one.f; rw [e1, Option.bind_some], ha1⟩
theorem of_ok {l : List Int} (hl : Byt l) {m a : Int} (ha : At m a) (hm : m ≤ 100000000000) (s : Int) (xs : List ByteArray) (hx : 1 ≤ xs.length) (P : ByteArray → Prop) (hP : ∀ x ∈ xs, P x) : ∃ v a' s', spec_l1Cur_of.f l a s xs = some (v, a', s') ∧ P v ∧ At (m + 2) a' := by
  obtain ⟨v, a1, s1, e1, hv, ha1⟩ := pick_ok hl ha hm s (xs.length : Int)
  refine ⟨_, _, _, by unfold spec_l1Cur_of.f; rw [e1, Option.bind_some, if_pos hv.1, if_pos (hv.2.2 (by omega))], ?_, ha1⟩
  have := hv.2.2 (by omega)
  exact hP _ (getD_mem (by omega))
theorem among_ok {l : List Int} (hl : Byt l) {m a : Int} (ha : At m a) (hm : m ≤ 100000000000) (s : Int) (xs : List Int) (hx : 1 ≤ xs.length) (P : Int → Prop) (hP : ∀ x ∈ xs, P x) : ∃ v a' s', spec_l1Cur_among.f l a s xs = some (v, a', s') ∧ P v ∧ At (m + 2) a' := by
  obtain ⟨v, a1, s1, e1, hv, ha1⟩ := pick_ok hl ha hm s (xs.length : Int)
  refine ⟨_, _, _, by unfold spec_l1Cur_among.f; rw [e1, Option.bind_some, if_pos hv.1, if_pos (hv.2.2 (by omega))], ?_, ha1⟩
  have := hv.2.2 (by omega)
  exact hP _ (getD_mem (by omega))
theorem spoilt_ok {l : List Int} (hl : Byt l) {m a : Int} (ha : At m a) (hm : m ≤ 1000000000) (s : Int) (t w : ByteArray) (hw : 1 ≤ w.size) (ht : t.size ≤ 1000000000) (hws : w.size ≤ 1000000) : ∃ v a' s', spec_l1Cur_spoilt.f l a s t w = some (v, a', s') ∧ v.size ≤ t.size + 1 ∧ At (m + 6) a' := by
  unfold spec_l1Cur_spoilt.f
  by_cases h : t.toList = ([] : List UInt8)
  · rw [if_pos h, if_pos hw]
    exact ⟨_, _, _, rfl, by rw [ByteArray.size_extract]; omega, ha.up (by omega)⟩
  · rw [if_neg h]
    have hpos : 1 ≤ t.size := by
      rcases Nat.eq_zero_or_pos t.size with h0 | h0
      · refine absurd ?_ h
        obtain ⟨d⟩ := t
        have : d.size = 0 := h0
        obtain rfl : d = #[] := Array.eq_empty_of_size_eq_zero this
        unfold ByteArray.toList ByteArray.toList.loop
        rfl
      · exact h0
    obtain ⟨i, a1, s1, e1, hi, ha1⟩ := pick_ok hl ha (by omega) s (t.size : Int)
    obtain ⟨j, a2, s2, e2, hj, ha2⟩ := pick_ok hl ha1 (by omega) s1 (w.size : Int)
    obtain ⟨c, a3, s3, e3, hc, ha3⟩ := pick_ok hl ha2 (by omega) s2 3
    have hj1 := hj.2.2 (by omega)
    have hi1 := hi.2.2 (by omega)
    rw [e1, Option.bind_some]
    simp only
    rw [e2, Option.bind_some]
    simp only
    rw [e3, Option.bind_some]
    simp only
    rw [if_pos ⟨⟨hi.1, hi1⟩, ⟨hj.1, hj1⟩, by omega, by omega⟩]
    refine ⟨_, _, _, rfl, ?_, ha3.up (by omega)⟩
    unfold spT spB
    split
    · simp only [ByteArray.size_append, ByteArray.size_extract]; omega
    · split
      · simp only [ByteArray.size_append, ByteArray.size_extract]; omega
      · simp only [ByteArray.size_append, ByteArray.size_extract]; omega
theorem any1_ok {l : List Int} (hl : Byt l) {m a : Int} (ha : At m a) (hm : m ≤ 100000000000) (s : Int) : ∃ v a' s', spec_l1Cur_any1.f l a s = some (v, a', s') ∧ v.size ≤ 10 ∧ At (m + 2) a' := by
  unfold spec_l1Cur_any1.f
  obtain ⟨v, a1, s1, e1, hv, ha1⟩ := of_ok hl ha hm s ([(⟨#[]⟩ : ByteArray), (⟨#[97]⟩ : ByteArray), (⟨#[97, 44, 98]⟩ : ByteArray), (⟨#[115, 111, 109, 101, 32, 119, 111, 114, 100, 115]⟩ : ByteArray), (⟨#[120, 35, 121]⟩ : ByteArray), (⟨#[45, 49, 50]⟩ : ByteArray), (⟨#[0, 255]⟩ : ByteArray), (⟨#[44, 44]⟩ : ByteArray), (⟨#[48]⟩ : ByteArray)] : List ByteArray) (by decide) (fun x => x.size ≤ 10) (by decide)
  rw [e1, Option.bind_some]
  exact ⟨_, _, _, rfl, hv, ha1⟩
end Go.Proofs.YtnifjoobkojgiaaDoor.X
namespace Go.Proofs.YtnifjoobkojgiaaDoor.Pure
open Go.RowKit Go.Proofs.YtnifjoobkojgiaaDoor.X Go.Proofs.YtnifjoobkojgiaaDoorW.PrintWords Go.Proofs.YtnifjoobkojgiaaDoorW.PrintLast
set_option linter.unusedVariables false
set_option linter.unusedSimpArgs false
theorem join_is (l : List ByteArray) (c : UInt8) (hne : l ≠ []) (hl : l.length ≤ 1048576) (hs : sumT l ≤ 1048576) (k : Nat) (hk : 2200000 ≤ k) : impl_JoinStrings.f k l ⟨#[c]⟩ = some (joinR l c) := by
  have hp : 0 < l.length := by
    cases l with
    | nil => exact absurd rfl hne
    | cons x r => simp
  have h1 : ((⟨#[c]⟩ : ByteArray).size : Int) = 1 := rfl
  obtain ⟨k, rfl⟩ := kpos (d := 0) (k := k) (by omega)
  unfold impl_JoinStrings.f
  have e3 : (((⟨#[c]⟩ : ByteArray).size : Int) != 1) = false := bne_eq_false_iff_eq.2 h1
  rw [if_neg (by omega), e3]
  simp only [impl_JoinStrings.j0, Bool.false_eq_true, if_false]
  have e2 := impl_join_loop l c hl hs l.length k 0 (by omega) (by omega) (by simp)
  rw [show ((0 : Nat) : Int) = 0 from rfl] at e2
  exact e2
theorem back_is (s : ByteArray) (c : UInt8) (hs : s.size ≤ 4000) (ys : List ByteArray) (hy : ys.map bs = splitL c (bs s)) (k : Nat) (hk : 2200000 ≤ k) : impl_JoinStrings.f k ys ⟨#[c]⟩ = some (s, true) := by
  obtain ⟨h, t, e⟩ := splitL_some c (bs s)
  have hj : jl ys c = bs s := by
    unfold jl
    rw [hy, join_splitL]
  have hne : ys ≠ [] := by
    rintro rfl
    rw [e] at hy
    cases hy
  have hlen : (jl ys c).length = s.size := by rw [hj, bs_length]
  have hle : ys.length ≤ 4001 ∧ sumT ys ≤ 4001 := by
    cases ys with
    | nil => exact absurd rfl hne
    | cons x r =>
      rw [jl_cons_length] at hlen
      simp only [List.length_cons, sumT]
      omega
  rw [join_is ys c hne (by omega) (by omega) k hk]
  have hfree : ys.any (hasC c) = false := by
    rw [List.any_eq_false]
    intro y hyy hc
    have hm : bs y ∈ splitL c (bs s) := by rw [← hy]; exact List.mem_map_of_mem hyy
    unfold hasC at hc
    rw [List.any_eq_true] at hc
    obtain ⟨b, hb, hbc⟩ := hc
    rw [beq_iff_eq] at hbc
    rw [hbc] at hb
    exact splitL_free c (bs s) (bs y) hm hb
  unfold joinR
  rw [hfree, if_neg (by decide), if_neg (by omega), hj, tb_bs]
theorem less_asym : ∀ a b : List UInt8, Op.bytesLess a b = true → Op.bytesLess b a = false
  | [], [], h => by simp [Op.bytesLess] at h
  | [], y :: b, _ => rfl
  | x :: a, [], h => by simp [Op.bytesLess] at h
  | x :: a, y :: b, h => by
    simp only [Op.bytesLess, Bool.or_eq_true, Bool.and_eq_true, decide_eq_true_eq, beq_iff_eq] at h
    simp only [Op.bytesLess, Bool.or_eq_false_iff, decide_eq_false_iff_not]
    rcases h with h | ⟨rfl, h⟩
    · refine ⟨fun h2 => ?_, ?_⟩
      · have h1 := UInt8.lt_iff_toNat_lt.1 h
        have h3 := UInt8.lt_iff_toNat_lt.1 h2
        omega
      · have hne : (y == x) = false := beq_eq_false_iff_ne.2 (fun e => by rw [e] at h; have := UInt8.lt_iff_toNat_lt.1 h; omega)
        rw [hne]; rfl
    · refine ⟨fun h2 => by have := UInt8.lt_iff_toNat_lt.1 h2; omega, ?_⟩
      rw [less_asym a b h, Bool.and_false]
theorem draw_split {l : List Int} (hl : Byt l) : ∃ s sep, spec_DrawSplitString.f l = some (s, sep) ∧ s.size ≤ 10 := by
  unfold spec_DrawSplitString.f
  obtain ⟨v, a1, s1, e1, hv, ha1⟩ := any1_ok hl (show At 0 0 from ⟨by decide, by decide⟩) (by decide) 0
  rw [e1, Option.bind_some]
  simp only
  obtain ⟨w, a2, s2, e2, _, _⟩ := of_ok hl ha1 (by decide) s1 ([(⟨#[44]⟩ : ByteArray), (⟨#[44]⟩ : ByteArray), (⟨#[32]⟩ : ByteArray), (⟨#[]⟩ : ByteArray), (⟨#[44, 44]⟩ : ByteArray)] : List ByteArray) (by decide) (fun _ => True) (fun _ _ => trivial)
  rw [e2, Option.bind_some]
  exact ⟨_, _, rfl, hv⟩
theorem sum_snoc (l : List ByteArray) (y : ByteArray) : sumT (l ++ [y]) = sumT l + y.size := by
  induction l with
  | nil => simp [sumT]
  | cons x r ih => simp only [List.cons_append, sumT, ih]; omega
theorem nums_size (n : Nat) : (strOfNums (List.replicate n 0)).size = n := by
  show ((List.replicate n (0 : Int)).map fun n => UInt8.ofNat n.toNat).toArray.size = n
  simp
theorem draw_join_loop {l : List Int} (hl : Byt l) (n : Int) (hn : n ≤ 10) (d : Nat) : ∀ (k : Nat) (xs : List ByteArray) (i m a s : Int), 0 ≤ i → i + d = 10 → d < k → (xs.length : Int) ≤ i → (sumT xs : Int) ≤ 10 * i → At m a → m + 2 * d ≤ 1000 →
    ∃ ys w, spec_DrawJoinStrings.l0 k xs n i l a s = some (ys, w) ∧ ys.length ≤ 20 ∧ sumT ys ≤ 10000 := by
  induction d with
  | zero =>
    intro k xs i m a s h0 hi hk hx hs ha hm
    obtain ⟨k, rfl⟩ := kpos hk
    have hend : ∀ (a' s' : Int) (ys : List ByteArray), At 1010 a' → ys.length ≤ 20 → sumT ys ≤ 10000 → ∃ w a2 s2, spec_l1Cur_of.f l a' s' ([(⟨#[44]⟩ : ByteArray), (⟨#[59]⟩ : ByteArray), (⟨#[59]⟩ : ByteArray), (⟨#[]⟩ : ByteArray), (⟨#[97, 98]⟩ : ByteArray)] : List ByteArray) = some (w, a2, s2) := by
      intro a' s' ys ha' _ _
      obtain ⟨w, a2, s2, e2, _, _⟩ := of_ok hl ha' (by decide) s' ([(⟨#[44]⟩ : ByteArray), (⟨#[59]⟩ : ByteArray), (⟨#[59]⟩ : ByteArray), (⟨#[]⟩ : ByteArray), (⟨#[97, 98]⟩ : ByteArray)] : List ByteArray) (by decide) (fun _ => True) (fun _ _ => trivial)
      exact ⟨w, a2, s2, e2⟩
    simp only [spec_DrawJoinStrings.l0]
    rw [if_neg (by omega)]
    obtain ⟨b, a1, s1, e1, ha1⟩ := one_ok hl ha (by omega) s 20
    rw [e1, Option.bind_some]
    simp only
    by_cases hb : b = true
    · obtain ⟨p, a2, s2, e2, hp, ha2⟩ := pick_ok hl ha1 (by omega) s1 20
      have hp2 := hp.2.2 (by omega)
      have hp0 := hp.1
      rw [if_pos hb, e2, Option.bind_some]
      simp only
      rw [w64 (by omega) (by omega), if_pos (by omega), if_pos (by omega), if_pos (by omega)]
      obtain ⟨w, a3, s3, e3⟩ := hend a2 s2 xs (ha2.up (by omega)) (by omega) (by omega)
      rw [e3, Option.bind_some]
      refine ⟨_, _, rfl, by simp; omega, ?_⟩
      rw [sum_snoc, nums_size]
      omega
    · rw [if_neg hb]
      obtain ⟨w, a3, s3, e3⟩ := hend a1 s1 xs (ha1.up (by omega)) (by omega) (by omega)
      rw [e3, Option.bind_some]
      exact ⟨_, _, rfl, by omega, by omega⟩
  | succ d ih =>
    intro k xs i m a s h0 hi hk hx hs ha hm
    by_cases hin : i < n
    · obtain ⟨k, rfl⟩ := kpos (d := 0) (k := k) (by omega)
      simp only [spec_DrawJoinStrings.l0]
      obtain ⟨v, a1, s1, e1, hv, ha1⟩ := any1_ok hl ha (by omega) s
      rw [if_pos hin, e1, Option.bind_some]
      simp only
      rw [if_pos (by omega), w64 (by omega) (by omega)]
      exact ih k _ (i + 1) (m + 2) a1 s1 (by omega) (by omega) (by omega) (by simp; omega) (by rw [sum_snoc]; omega) ha1 (by omega)
    · obtain ⟨k, rfl⟩ := kpos (d := 0) (k := k) (by omega)
      have hend : ∀ (a' s' : Int), At 1010 a' → ∃ w a2 s2, spec_l1Cur_of.f l a' s' ([(⟨#[44]⟩ : ByteArray), (⟨#[59]⟩ : ByteArray), (⟨#[59]⟩ : ByteArray), (⟨#[]⟩ : ByteArray), (⟨#[97, 98]⟩ : ByteArray)] : List ByteArray) = some (w, a2, s2) := by
        intro a' s' ha'
        obtain ⟨w, a2, s2, e2, _, _⟩ := of_ok hl ha' (by decide) s' ([(⟨#[44]⟩ : ByteArray), (⟨#[59]⟩ : ByteArray), (⟨#[59]⟩ : ByteArray), (⟨#[]⟩ : ByteArray), (⟨#[97, 98]⟩ : ByteArray)] : List ByteArray) (by decide) (fun _ => True) (fun _ _ => trivial)
        exact ⟨w, a2, s2, e2⟩
      simp only [spec_DrawJoinStrings.l0]
      rw [if_neg hin]
      obtain ⟨b, a1, s1, e1, ha1⟩ := one_ok hl ha (by omega) s 20
      rw [e1, Option.bind_some]
      simp only
      by_cases hb : b = true
      · obtain ⟨p, a2, s2, e2, hp, ha2⟩ := pick_ok hl ha1 (by omega) s1 20
        have hp2 := hp.2.2 (by omega)
        have hp0 := hp.1
        rw [if_pos hb, e2, Option.bind_some]
        simp only
        rw [w64 (by omega) (by omega), if_pos (by omega), if_pos (by omega), if_pos (by omega)]
        obtain ⟨w, a3, s3, e3⟩ := hend a2 s2 (ha2.up (by omega))
        rw [e3, Option.bind_some]
        refine ⟨_, _, rfl, by simp; omega, ?_⟩
        rw [sum_snoc, nums_size]
        omega
      · rw [if_neg hb]
        obtain ⟨w, a3, s3, e3⟩ := hend a1 s1 (ha1.up (by omega))
        rw [e3, Option.bind_some]
        exact ⟨_, _, rfl, by omega, by omega⟩
theorem draw_join {l : List Int} (hl : Byt l) (k : Nat) (hk : 20 ≤ k) : ∃ ys w, spec_DrawJoinStrings.f k l = some (ys, w) ∧ ys.length ≤ 20 ∧ sumT ys ≤ 10000 := by
  unfold spec_DrawJoinStrings.f
  obtain ⟨n, a1, s1, e1, hn, ha1⟩ := pick_ok hl (show At 0 0 from ⟨by decide, by decide⟩) (by decide) 0 4
  have hn2 := hn.2.2 (by omega)
  rw [e1, Option.bind_some]
  simp only
  exact draw_join_loop hl n (by omega) 10 k [] 0 _ a1 s1 (by omega) (by omega) (by omega) (by simp) (by simp [sumT]) ha1 (by omega)
theorem draw_less {l : List Int} (hl : Byt l) : ∃ a b, spec_DrawLessString.f l = some (a, b) := by
  unfold spec_DrawLessString.f
  obtain ⟨v, a1, s1, e1, hv, ha1⟩ := any1_ok hl (show At 0 0 from ⟨by decide, by decide⟩) (by decide) 0
  rw [e1, Option.bind_some]
  simp only
  obtain ⟨w, a2, s2, e2, _, _⟩ := any1_ok hl ha1 (by decide) s1
  rw [e2, Option.bind_some]
  exact ⟨_, _, rfl⟩
theorem j0_ends (s sep : ByteArray) (hs : s.size ≤ 10) (ys : List ByteArray) (ok : Bool) (h : impl_SplitString.f s sep = some (ys, ok)) (k : Nat) (hk : 2200000 ≤ k) : laws_FnSplitJoin.j0 (k + 1) s sep ys ok false = some true := by
  simp only [laws_FnSplitJoin.j0]
  unfold impl_SplitString.f at h
  rw [if_neg (by omega)] at h
  rw [if_neg (by decide)]
  by_cases h1 : (sep.size : Int) = 1
  · rw [if_pos h1] at h ⊢
    obtain ⟨c, rfl⟩ := one_byteB sep (by omega)
    obtain ⟨zs, _, e2, e3, _⟩ := split_same s c (by omega) 1048577 (by omega)
    rw [e2, Option.bind_some] at h
    obtain ⟨rfl, rfl⟩ := Prod.mk.inj (Option.some.inj h)
    rw [back_is s c (by omega) zs e3 k hk, Option.bind_some, if_pos rfl]
    simp
  · rw [if_neg h1] at h ⊢
    obtain ⟨rfl, rfl⟩ := Prod.mk.inj (Option.some.inj h)
    rw [if_neg (by decide)]
    rfl
theorem split_some (s sep : ByteArray) (hs : s.size ≤ 10) : ∃ ys ok, impl_SplitString.f s sep = some (ys, ok) := by
  unfold impl_SplitString.f
  rw [if_neg (by omega)]
  by_cases h1 : (sep.size : Int) = 1
  · rw [if_pos h1]
    obtain ⟨c, rfl⟩ := one_byteB sep (by omega)
    obtain ⟨zs, _, e2, e3, _⟩ := split_same s c (by omega) 1048577 (by omega)
    rw [e2, Option.bind_some]
    exact ⟨_, _, rfl⟩
  · rw [if_neg h1]
    exact ⟨_, _, rfl⟩
theorem FnSplitJoin : laws_FnSplitJoin.Pure := by
  intro l hl
  refine ⟨2200000 + 1, ?_⟩
  unfold laws_FnSplitJoin.f laws_vBig.f
  rw [Option.bind_some]
  by_cases h : (l.length : Int) > 65536
  · rw [if_pos (decide_eq_true h)]
  · rw [if_neg (by simpa using h)]
    have hb : Byt l := ⟨by omega, hl.2⟩
    obtain ⟨s, sep, es, hs⟩ := draw_split hb
    obtain ⟨ys, ok, ey⟩ := split_some s sep hs
    obtain ⟨zs, mk, ez, hz1, hz2⟩ := draw_join hb (2200000 + 1) (by omega)
    obtain ⟨a, b, eab⟩ := draw_less hb
    obtain ⟨r, q, hq⟩ := join_both zs mk (by omega) (by omega)
    obtain ⟨q1, q2⟩ := hq (2200000 + 1) (by omega)
    have hj := j0_ends s sep hs ys ok ey 2200000 (by omega)
    rw [es, Option.bind_some]
    simp only
    rw [ey, Option.bind_some, ez, Option.bind_some]
    simp only
    rw [q2, Option.bind_some, q1, Option.bind_some, eab, Option.bind_some, if_pos rfl, if_neg (by simp)]
    unfold impl_LessString.f spec_LessString.f
    simp only [Option.bind_some, bne_self_eq_false, Bool.false_eq_true, if_false]
    by_cases hl2 : Op.bytesLess a.toList b.toList = true
    · rw [if_pos hl2, less_asym _ _ hl2]
      exact hj
    · rw [if_neg hl2]
      exact hj
end Go.Proofs.YtnifjoobkojgiaaDoor.Pure
