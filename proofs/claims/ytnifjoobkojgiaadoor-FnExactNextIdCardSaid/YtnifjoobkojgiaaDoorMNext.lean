/- The identifier that follows: the reference's four digits, the program's padded numeral. -/
import Derived.Test.YtnifjoobkojgiaaDoorMIds
import Derived.Test.YtnifjoobkojgiaaDoorMNum
import Derived.Test.YtnifjoobkojgiaaDoorMSplit
import Derived.Test.YtnifjoobkojgiaaDoorGNextId
import Derived.Test.YtnifjoobkojgiaaDoorFspecNextId
import Derived.Test.YtnifjoobkojgiaaDoorFspecl2Number
import Derived.Lib.ItoaMem
namespace Go.Proofs.YtnifjoobkojgiaaDoor.X
open Go.RowKit Go.Proofs.YtnifjoobkojgiaaDoorW.PrintWords Go.Proofs.YtnifjoobkojgiaaDoorW.PrintLast
set_option linter.unusedVariables false
set_option linter.unusedSimpArgs false
def dg (u : Nat) : UInt8 := UInt8.ofNat (48 + u)
def dig4 (u : Nat) : List UInt8 := [dg (u / 1000 % 10), dg (u / 100 % 10), dg (u / 10 % 10), dg (u % 10)]
theorem dg_toNat (u : Nat) (h : u < 10) : (dg u).toNat = 48 + u := by
  match u, h with
  | 0, _ => rfl
  | 1, _ => rfl
  | 2, _ => rfl
  | 3, _ => rfl
  | 4, _ => rfl
  | 5, _ => rfl
  | 6, _ => rfl
  | 7, _ => rfl
  | 8, _ => rfl
  | 9, _ => rfl
  | u + 10, h => omega
theorem pad_step (k : Nat) (l : List UInt8) (h : l.length < 4) : impl_padded.l0 (k + 1) 4 (tx l) = impl_padded.l0 k 4 (tx (48 :: l)) := by
  have e : (⟨#[48]⟩ : ByteArray) ++ tx l = tx (48 :: l) := tx_append [48] l
  have n1 : ((tx l).size : Int) < 4 := by rw [tx_size]; omega
  have n2 : 1 + (tx l).size ≤ 9223372036854775807 := by rw [tx_size]; omega
  rw [impl_padded.l0, if_pos n1, if_pos n2, e]
theorem pad_end (k : Nat) (l : List UInt8) (h : l.length = 4) : impl_padded.l0 (k + 1) 4 (tx l) = some (tx l) := by
  have n1 : ¬ ((tx l).size : Int) < 4 := by rw [tx_size]; omega
  rw [impl_padded.l0, if_neg n1]
theorem padded_ends (u : Nat) (h : u < 10000) (k : Nat) (hk : 8 ≤ k) : impl_padded.f k (u : Int) 4 = some (tx (dig4 u)) := by
  obtain ⟨k, rfl⟩ : ∃ m, k = m + 1 + 1 + 1 + 1 := ⟨k - 4, by omega⟩
  have hi : strconv_Itoa.f (u : Int) = some (tx (Lib.decDigits u)) := by
    unfold strconv_Itoa.f
    rw [if_pos (by omega), Lib.itoa_nonneg]
    rfl
  unfold impl_padded.f
  rw [hi, Option.bind_some]
  by_cases h1 : u < 10
  · rw [dec_small h1, pad_step _ _ (by simp), pad_step _ _ (by simp), pad_step _ _ (by simp), pad_end _ _ (by rfl)]
    unfold dig4
    rw [show u / 1000 % 10 = 0 by omega, show u / 100 % 10 = 0 by omega, show u / 10 % 10 = 0 by omega, show u % 10 = u by omega]
    rfl
  · rw [dec_big h1]
    by_cases h2 : u / 10 < 10
    · rw [dec_small h2, List.singleton_append, pad_step _ _ (by simp), pad_step _ _ (by simp), pad_end _ _ (by rfl)]
      unfold dig4
      rw [show u / 1000 % 10 = 0 by omega, show u / 100 % 10 = 0 by omega, show u / 10 % 10 = u / 10 by omega]
      rfl
    · rw [dec_big h2]
      by_cases h3 : u / 10 / 10 < 10
      · rw [dec_small h3, List.singleton_append, List.cons_append, List.singleton_append, pad_step _ _ (by simp), pad_end _ _ (by rfl)]
        unfold dig4
        rw [show u / 1000 % 10 = 0 by omega, show u / 100 % 10 = u / 10 / 10 by omega]
        rfl
      · rw [dec_big h3, dec_small (by omega), List.singleton_append, List.cons_append, List.singleton_append, List.cons_append, List.cons_append, List.singleton_append, pad_end _ _ (by rfl)]
        unfold dig4
        rw [show u / 1000 % 10 = u / 10 / 10 / 10 by omega, show u / 100 % 10 = u / 10 / 10 % 10 by omega]
        rfl
theorem num_step (u d : Nat) (hu : u < 10000) (hd : 0 < d) (hd2 : d ≤ 1000) (x : ByteArray) (hx : x.size ≤ 1000) (k : Nat) :
    spec_l2Number.l0 (k + 1) (u : Int) x (d : Int) = spec_l2Number.l0 k (u : Int) (x ++ tx [dg (u / d % 10)]) ((d / 10 : Nat) : Int) := by
  have e1 : Int.tdiv (u : Int) (d : Int) = ((u / d : Nat) : Int) := by rw [Int.tdiv_eq_ediv_of_nonneg (Int.natCast_nonneg u)]; rfl
  have e2 : Int.tdiv (d : Int) 10 = ((d / 10 : Nat) : Int) := by rw [Int.tdiv_eq_ediv_of_nonneg (Int.natCast_nonneg d)]; rfl
  have b1 : u / d ≤ u := Nat.div_le_self u d
  have b2 : d / 10 ≤ d := Nat.div_le_self d 10
  obtain ⟨v, hv⟩ : ∃ v, u / d = v := ⟨_, rfl⟩
  obtain ⟨c, hc⟩ : ∃ c, d / 10 = c := ⟨_, rfl⟩
  rw [hv] at b1 e1
  rw [hc] at b2 e2
  have b3 : v % 10 < 10 := Nat.mod_lt _ (by decide)
  obtain ⟨r, hr⟩ : ∃ r, v % 10 = r := ⟨_, rfl⟩
  have e3 : Int.tmod ((v : Nat) : Int) 10 = ((r : Nat) : Int) := by rw [← hr, Int.tmod_eq_emod_of_nonneg (Int.natCast_nonneg v)]; rfl
  rw [hr] at b3
  have hcut : (⟨#[48, 49, 50, 51, 52, 53, 54, 55, 56, 57]⟩ : ByteArray).extract r (r + 1) = tx [dg r] := digit_cut r b3
  rw [hv, hc, hr]
  clear hv hc hr
  have n1 : (d : Int) > 0 := by omega
  have n2 : ¬ (d : Int) = 0 := by omega
  have n3 : (0 : Int) ≤ (r : Int) := by omega
  have n4 : (r : Int) ≤ ((r + 1 : Nat) : Int) := by omega
  have n5 : ((r + 1 : Nat) : Int) ≤ 10 := by omega
  have n6 : x.size + (tx [dg r]).size ≤ 9223372036854775807 := by rw [tx_size, List.length_singleton]; omega
  have q1 : -9223372036854775808 ≤ (v : Int) ∧ (v : Int) ≤ 9223372036854775807 := by omega
  have q2 : -9223372036854775808 ≤ (c : Int) ∧ (c : Int) ≤ 9223372036854775807 := by omega
  have q3 : -9223372036854775808 ≤ ((r + 1 : Nat) : Int) ∧ ((r + 1 : Nat) : Int) ≤ 9223372036854775807 := by omega
  have q4 : (r : Int) + 1 = ((r + 1 : Nat) : Int) := by omega
  rw [spec_l2Number.l0, if_pos n1, if_neg n2, e1, e2, w64 q1.1 q1.2, w64 q2.1 q2.2, e3, q4, w64 q3.1 q3.2, if_pos n3, if_pos n4, if_pos n5, Int.toNat_natCast, Int.toNat_natCast, hcut, if_pos n6]
def nextT (L : ByteArray) (u : Nat) : ByteArray := L ++ tx (dig4 u)
theorem number_ends (L : ByteArray) (u : Nat) (hL : L.size = 3) (hu : u < 10000) (h7 : sevenB (nextT L u) = true) (k : Nat) (hk : 20 ≤ k) :
    spec_l2Number.f k L (u : Int) = some (nextT L u ++ strOfNums [chk (nextT L u)]) := by
  obtain ⟨k, rfl⟩ : ∃ m, k = m + 1 + 1 + 1 + 1 + 1 := ⟨k - 5, by omega⟩
  have e : (((L ++ tx [dg (u / 1000 % 10)]) ++ tx [dg (u / 100 % 10)]) ++ tx [dg (u / 10 % 10)]) ++ tx [dg (u / 1 % 10)] = nextT L u := by
    unfold nextT dig4
    rw [Nat.div_one]
    have aa : ∀ a b c : ByteArray, (a ++ b) ++ c = a ++ (b ++ c) := fun a b c => by
      apply ByteArray.ext
      simp [Array.append_assoc]
    rw [aa, tx_append, aa, tx_append, aa, tx_append]
    rfl
  have hz : (nextT L u).size = 7 := by unfold nextT; rw [ByteArray.size_append, hL]; rfl
  unfold spec_l2Number.f
  rw [show (1000 : Int) = ((1000 : Nat) : Int) from rfl]
  rw [num_step u 1000 hu (by omega) (by omega) L (by omega), show 1000 / 10 = 100 from rfl]
  rw [num_step u 100 hu (by omega) (by omega) _ (by rw [ByteArray.size_append, hL]; show 3 + 1 ≤ 1000; decide), show 100 / 10 = 10 from rfl]
  rw [num_step u 10 hu (by omega) (by omega) _ (by rw [ByteArray.size_append, ByteArray.size_append, hL]; show 3 + 1 + 1 ≤ 1000; decide), show 10 / 10 = 1 from rfl]
  rw [num_step u 1 hu (by omega) (by omega) _ (by rw [ByteArray.size_append, ByteArray.size_append, ByteArray.size_append, hL]; show 3 + 1 + 1 + 1 ≤ 1000; decide), show 1 / 10 = 0 from rfl]
  rw [e, spec_l2Number.l0, if_neg (by omega), spec_check _ k (by omega) h7, Option.bind_some, Option.bind_some]
  rw [if_pos (by rw [hz]; show 7 + 1 ≤ 9223372036854775807; decide)]
/-! ### A valid identifier's bytes -/
theorem okFrom_at (s : ByteArray) : ∀ d : Nat, okFrom s d = true → ∀ i : Int, 7 - (d : Int) ≤ i → i < 7 → OkAt s i
  | 0, _, i, h1, h2 => by omega
  | d + 1, h, i, h1, h2 => by
    rw [okFrom, Bool.and_eq_true, decide_eq_true_eq] at h
    by_cases e : i = 6 - (d : Int)
    · rw [e]; exact h.1
    · exact okFrom_at s d h.2 i (by omega) h2
theorem okFrom_mk (s : ByteArray) (h : ∀ i : Int, 0 ≤ i → i < 7 → OkAt s i) : ∀ d : Nat, d ≤ 7 → okFrom s d = true
  | 0, _ => rfl
  | d + 1, hd => by
    rw [okFrom, Bool.and_eq_true, decide_eq_true_eq]
    exact ⟨h _ (by omega) (by omega), okFrom_mk s h d (by omega)⟩
theorem seven_bytes {s : ByteArray} (h : sevenB s = true) : s.size = 7 ∧ ∀ i : Int, 0 ≤ i → i < 7 → OkAt s i := by
  unfold sevenB at h
  rw [Bool.and_eq_true, decide_eq_true_eq] at h
  exact ⟨h.1, fun i h0 h1 => okFrom_at s 7 h.2 i (by omega) h1⟩
theorem cut_at (s : ByteArray) (a b j : Nat) (hb : b ≤ s.size) (hj : a + j < b) : (bs (s.extract a b)).getD j 0 = (bs s).getD (a + j) 0 := by
  rw [bs_extract, List.getD_eq_getElem?_getD, List.getD_eq_getElem?_getD, List.getElem?_drop, List.getElem?_take, if_pos hj]
theorem id_bytes {s : ByteArray} (h : idB s = true) : s.size = 8 ∧ (∀ i : Nat, i < 3 → 65 ≤ ((bs s).getD i 0).toNat ∧ ((bs s).getD i 0).toNat ≤ 90) ∧ (∀ j : Nat, j < 4 → 48 ≤ ((bs s).getD (3 + j) 0).toNat ∧ ((bs s).getD (3 + j) 0).toNat ≤ 57) := by
  unfold idB at h
  rw [Bool.and_eq_true, Bool.and_eq_true, decide_eq_true_eq] at h
  obtain ⟨⟨h8, h7⟩, _⟩ := h
  obtain ⟨hz, ho⟩ := seven_bytes h7
  have key : ∀ i : Nat, i < 7 → bt (s.extract 0 7) (i : Int) = (((bs s).getD i 0).toNat : Int) := by
    intro i hi
    have := cut_at s 0 7 i (by omega) (by omega)
    rw [Nat.zero_add] at this
    rw [bt_list _ i (by omega), this]
  refine ⟨h8, fun i hi => ?_, fun j hj => ?_⟩
  · have := ho (i : Int) (by omega) (by omega)
    unfold OkAt at this
    rw [if_pos (by omega), key i (by omega)] at this
    omega
  · have := ho ((3 + j : Nat) : Int) (by omega) (by omega)
    unfold OkAt at this
    rw [if_neg (by omega), key (3 + j) (by omega)] at this
    omega
theorem digQ_id {s : ByteArray} (h : idB s = true) : digQ (s.extract 3 7) = true := by
  obtain ⟨h8, _, hd⟩ := id_bytes h
  have hz : (s.extract 3 7).size = 4 := by rw [ByteArray.size_extract]; omega
  unfold digQ
  rw [Bool.and_eq_true, decide_eq_true_eq, List.all_eq_true]
  refine ⟨hz, fun b hb => ?_⟩
  obtain ⟨j, hj, e⟩ := List.mem_iff_getElem.1 hb
  have hj4 : j < 4 := by rw [bs_length, hz] at hj; exact hj
  have e2 := cut_at s 3 7 j (by omega) (by omega)
  rw [List.getD_eq_getElem?_getD, List.getElem?_eq_getElem hj, e] at e2
  have e3 : b = (bs s).getD (3 + j) 0 := e2
  rw [e3, decide_eq_true_eq]
  exact hd j hj4
theorem seven_next {s : ByteArray} (h : idB s = true) (u : Nat) (hu : u < 10000) : sevenB (nextT (s.extract 0 3) u) = true := by
  obtain ⟨h8, hl, _⟩ := id_bytes h
  have hz : (nextT (s.extract 0 3) u).size = 7 := by
    unfold nextT
    rw [ByteArray.size_append, ByteArray.size_extract, tx_size]
    show min 3 s.size - 0 + 4 = 7
    omega
  have hb : bs (nextT (s.extract 0 3) u) = (bs s).take 3 ++ dig4 u := by
    unfold nextT
    have e := bs_extract s 0 3
    rw [List.drop_zero] at e
    rw [← e]
    simp [bs, tx]
  have h3 : ((bs s).take 3).length = 3 := by rw [List.length_take, bs_length]; omega
  unfold sevenB
  rw [Bool.and_eq_true, decide_eq_true_eq]
  refine ⟨hz, okFrom_mk _ (fun i h0 h7 => ?_) 7 (Nat.le_refl _)⟩
  obtain ⟨n, rfl⟩ : ∃ n : Nat, i = (n : Int) := ⟨i.toNat, by omega⟩
  unfold OkAt
  rw [bt_list _ n (by omega), hb]
  by_cases hn : n < 3
  · rw [if_pos (by omega), List.getD_eq_getElem?_getD, List.getElem?_append_left (by omega), List.getElem?_take, if_pos hn, ← List.getD_eq_getElem?_getD]
    have := hl n hn
    omega
  · rw [if_neg (by omega), List.getD_eq_getElem?_getD, List.getElem?_append_right (by omega), h3, ← List.getD_eq_getElem?_getD]
    have m1 := dg_toNat (u / 1000 % 10) (by omega)
    have m2 := dg_toNat (u / 100 % 10) (by omega)
    have m3 := dg_toNat (u / 10 % 10) (by omega)
    have m4 := dg_toNat (u % 10) (by omega)
    obtain h | h | h | h : n = 3 ∨ n = 4 ∨ n = 5 ∨ n = 6 := by omega
    · subst h
      show (48 : Int) ≤ ((dg (u / 1000 % 10)).toNat : Int) ∧ ((dg (u / 1000 % 10)).toNat : Int) ≤ 57
      rw [m1]; omega
    · subst h
      show (48 : Int) ≤ ((dg (u / 100 % 10)).toNat : Int) ∧ ((dg (u / 100 % 10)).toNat : Int) ≤ 57
      rw [m2]; omega
    · subst h
      show (48 : Int) ≤ ((dg (u / 10 % 10)).toNat : Int) ∧ ((dg (u / 10 % 10)).toNat : Int) ≤ 57
      rw [m3]; omega
    · subst h
      show (48 : Int) ≤ ((dg (u % 10)).toNat : Int) ∧ ((dg (u % 10)).toNat : Int) ≤ 57
      rw [m4]; omega
/-! ### The number within an identifier -/
theorem pow_le {j : Nat} (h : j < 4) : (10 : Int) ^ j ≤ 1000 := by
  match j, h with
  | 0, _ => decide
  | 1, _ => decide
  | 2, _ => decide
  | 3, _ => decide
theorem spec_next_loop {s : ByteArray} (h : idB s = true) (R : ByteArray) (K : Nat) (hR : ∀ k, K ≤ k → spec_l2Number.f k (s.extract 0 3) (numQ (s.extract 3 7) 4 + 1) = some R) (d : Nat) :
    ∀ (k j : Nat), j + d = 4 → d + K < k → spec_NextId.l0 k s (numQ (s.extract 3 7) j) ((3 + j : Nat) : Int) = some (R, true) := by
  obtain ⟨h8, _, hd⟩ := id_bytes h
  have hr := numQ_range _ (digQ_id h)
  induction d with
  | zero =>
    intro k j hj hk
    obtain ⟨k, rfl⟩ := kpos (d := 0) (k := k) (by omega)
    obtain rfl : j = 4 := by omega
    obtain ⟨n0, n1⟩ := hr 4 (Nat.le_refl _)
    have p4 : (10 : Int) ^ 4 = 10000 := by decide
    rw [p4] at n1
    have e := hR k (by omega)
    have hw : wrap64 (numQ (s.extract 3 7) 4 + 1) = numQ (s.extract 3 7) 4 + 1 := w64 (by omega) (by omega)
    rw [spec_NextId.l0, if_neg (by omega), if_pos (by omega), if_pos (by omega), hw, e, Option.bind_some]
  | succ d ih =>
    intro k j hj hk
    obtain ⟨k, rfl⟩ := kpos (d := 0) (k := k) (by omega)
    have hj4 : j < 4 := by omega
    obtain ⟨n0, n1⟩ := hr j (by omega)
    have p4 := pow_le hj4
    have hdj := hd j hj4
    have ih2 := ih k (j + 1) (by omega) (by omega)
    have e1 : numQ (s.extract 3 7) (j + 1) = 10 * numQ (s.extract 3 7) j + ((((bs s).getD (3 + j) 0).toNat : Int) - 48) := by
      rw [numQ, cut_at s 3 7 j (by omega) (by omega)]
    have hb := bt_list s (3 + j) (by omega)
    obtain ⟨n, hn⟩ : ∃ n, numQ (s.extract 3 7) j = n := ⟨_, rfl⟩
    obtain ⟨b, hbb⟩ : ∃ b, ((bs s).getD (3 + j) 0).toNat = b := ⟨_, rfl⟩
    rw [hn] at n0 n1 e1 ⊢
    rw [hbb] at hdj hb e1
    have m1 : ((3 + j : Nat) : Int) < 7 := by omega
    have m2 : (0 : Int) ≤ ((3 + j : Nat) : Int) := by omega
    have m3 : ((3 + j : Nat) : Int) < (s.size : Int) := by omega
    have q1 : -9223372036854775808 ≤ 10 * n ∧ 10 * n ≤ 9223372036854775807 := by omega
    have q2 : -9223372036854775808 ≤ 10 * n + (b : Int) ∧ 10 * n + (b : Int) ≤ 9223372036854775807 := by omega
    have q3 : -9223372036854775808 ≤ 10 * n + (b : Int) - 48 ∧ 10 * n + (b : Int) - 48 ≤ 9223372036854775807 := by omega
    have q4 : ((3 + j : Nat) : Int) + 1 = ((3 + (j + 1) : Nat) : Int) := by omega
    have q5 : 10 * n + (b : Int) - 48 = 10 * n + ((b : Int) - 48) := by omega
    have q6 : -9223372036854775808 ≤ (b : Int) ∧ (b : Int) ≤ 9223372036854775807 := by omega
    have q7 : -9223372036854775808 ≤ ((3 + (j + 1) : Nat) : Int) ∧ ((3 + (j + 1) : Nat) : Int) ≤ 9223372036854775807 := by omega
    rw [spec_NextId.l0, if_pos m1, if_pos m2, if_pos m3, hb, w64 q1.1 q1.2, w64 q6.1 q6.2, w64 q2.1 q2.2, w64 q3.1 q3.2, q4, w64 q7.1 q7.2, q5, ← e1]
    exact ih2
theorem nines (q : ByteArray) (hq : digQ q = true) (h : ¬ q.toList = ([57, 57, 57, 57] : List UInt8)) : numQ q 4 < 9999 := by
  unfold digQ at hq
  rw [Bool.and_eq_true, decide_eq_true_eq, List.all_eq_true] at hq
  obtain ⟨hz, ha⟩ := hq
  have hl : (bs q).length = 4 := by rw [bs_length]; exact hz
  match hb : bs q, hl with
  | [a, b, c, d], _ =>
    rw [hb] at ha
    have a1 := ha a (by simp)
    have a2 := ha b (by simp)
    have a3 := ha c (by simp)
    have a4 := ha d (by simp)
    simp only [decide_eq_true_eq] at a1 a2 a3 a4
    have e : numQ q 4 = 10 * (10 * (10 * (10 * 0 + ((a.toNat : Int) - 48)) + ((b.toNat : Int) - 48)) + ((c.toNat : Int) - 48)) + ((d.toNat : Int) - 48) := by
      simp only [numQ, hb]
      rfl
    rw [e]
    by_cases hall : a.toNat = 57 ∧ b.toNat = 57 ∧ c.toNat = 57 ∧ d.toNat = 57
    · exfalso
      apply h
      have f1 : a = 57 := UInt8.toNat_inj.1 hall.1
      have f2 : b = 57 := UInt8.toNat_inj.1 hall.2.1
      have f3 : c = 57 := UInt8.toNat_inj.1 hall.2.2.1
      have f4 : d = 57 := UInt8.toNat_inj.1 hall.2.2.2
      have hq2 : q = tx [57, 57, 57, 57] := by
        apply bs_inj
        rw [hb, f1, f2, f3, f4]
        rfl
      rw [hq2, ByteArray.toList_eq]
      rfl
    · omega
/-- The answer. -/
def nextR (s : ByteArray) : ByteArray × Bool :=
  if idB s = true ∧ ¬ (s.extract 3 7).toList = ([57, 57, 57, 57] : List UInt8) then
    (nextT (s.extract 0 3) (numQ (s.extract 3 7) 4 + 1).toNat ++ strOfNums [chk (nextT (s.extract 0 3) (numQ (s.extract 3 7) 4 + 1).toNat)], true)
  else (⟨#[]⟩, false)
theorem spec_next (s : ByteArray) (k : Nat) (hk : 40 ≤ k) : spec_NextId.f k s = some (nextR s) := by
  unfold spec_NextId.f nextR
  rw [spec_id s k (by omega), Option.bind_some]
  by_cases h : idB s = true
  · obtain ⟨h8, _, _⟩ := id_bytes h
    rw [if_pos h, if_pos (by omega), if_pos (by omega)]
    obtain ⟨k, rfl⟩ := kpos (d := 0) (k := k) (by omega)
    by_cases h9 : (s.extract 3 7).toList = ([57, 57, 57, 57] : List UInt8)
    · rw [beq_iff_eq.mpr h9, spec_NextId.j0, if_pos rfl, if_neg (by rintro ⟨_, h2⟩; exact h2 h9)]
    · have hlt := nines _ (digQ_id h) h9
      obtain ⟨n0, _⟩ := numQ_range _ (digQ_id h) 4 (Nat.le_refl _)
      obtain ⟨u, hu⟩ : ∃ u : Nat, numQ (s.extract 3 7) 4 + 1 = (u : Int) := ⟨(numQ (s.extract 3 7) 4 + 1).toNat, by omega⟩
      have hu2 : u < 10000 := by omega
      have hz : (s.extract 0 3).size = 3 := by rw [ByteArray.size_extract]; omega
      have e := spec_next_loop h (nextT (s.extract 0 3) u ++ strOfNums [chk (nextT (s.extract 0 3) u)]) 20 (fun k hk => by rw [hu]; exact number_ends _ u hz hu2 (seven_next h u hu2) k hk) 4 k 0 (by omega) (by omega)
      rw [beq_eq_false_iff_ne.mpr h9, spec_NextId.j0, if_neg (by decide), if_pos ⟨h, h9⟩, hu, Int.toNat_natCast]
      exact e
  · obtain ⟨k, rfl⟩ := kpos (d := 0) (k := k) (by omega)
    rw [if_neg h, spec_NextId.j0, if_pos rfl, if_neg (by rintro ⟨h2, _⟩; exact h h2)]
theorem impl_next (s : ByteArray) (k : Nat) (hk : 40 ≤ k) : impl_NextId.f k s = some (nextR s) := by
  unfold impl_NextId.f nextR
  rw [impl_id s k (by omega), Option.bind_some]
  by_cases h : idB s = true
  · obtain ⟨h8, _, _⟩ := id_bytes h
    have hq := digQ_id h
    rw [if_pos h, if_pos ⟨h8, hq⟩]
    by_cases h9 : (s.extract 3 7).toList = ([57, 57, 57, 57] : List UInt8)
    · rw [if_pos h9, if_neg (by rintro ⟨_, h2⟩; exact h2 h9)]
    · have hlt := nines _ hq h9
      obtain ⟨n0, _⟩ := numQ_range _ hq 4 (Nat.le_refl _)
      obtain ⟨u, hu⟩ : ∃ u : Nat, numQ (s.extract 3 7) 4 + 1 = (u : Int) := ⟨(numQ (s.extract 3 7) 4 + 1).toNat, by omega⟩
      have hu2 : u < 10000 := by omega
      have h7 := seven_next h u hu2
      have hc : impl_CheckLetter.f k (s.extract 0 3 ++ tx (dig4 u)) = some (strOfNums [chk (nextT (s.extract 0 3) u)], true) := by
        unfold impl_CheckLetter.f
        rw [show s.extract 0 3 ++ tx (dig4 u) = nextT (s.extract 0 3) u from rfl, impl_check _ k (by omega), if_pos h7]
        rfl
      rw [if_neg h9, if_pos ⟨h, h9⟩, hu, padded_ends u hu2 k (by omega), Option.bind_some, if_pos (by rw [tx_size]; show 4 ≤ 1000; decide), hc, Option.bind_some, if_pos (by show 1 ≤ 1000; decide), Int.toNat_natCast]
      rfl
  · rw [if_neg h, if_neg (by rintro ⟨h2, _⟩; exact h h2)]
end Go.Proofs.YtnifjoobkojgiaaDoor.X
