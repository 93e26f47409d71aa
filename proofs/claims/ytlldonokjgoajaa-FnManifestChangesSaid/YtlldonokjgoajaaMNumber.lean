/- The reference's numbered identifiers: three letters, four digits, the check letter. -/
import Derived.Test.YtlldonokjgoajaaMIds
import Derived.Test.YtlldonokjgoajaaMBs
import Derived.Test.YtlldonokjgoajaaFspecl2Number
namespace Go.Proofs.Ytlldonokjgoajaa.X
open Go.RowKit Go.Proofs.YtlldonokjgoajaaW.PrintWords Go.Proofs.YtlldonokjgoajaaW.PrintLast
set_option linter.unusedVariables false
set_option linter.unusedSimpArgs false
def dg (u : Nat) : UInt8 := UInt8.ofNat (48 + u)
def dig4 (u : Nat) : List UInt8 := [dg (u / 1000 % 10), dg (u / 100 % 10), dg (u / 10 % 10), dg (u % 10)]
theorem dg_toNat (u : Nat) (h : u < 10) : (dg u).toNat = 48 + u := by
  match u, h with
  | 0, _ => rfl
  | 1, _ => rfl
  | 2, _ => rfl
  | 3, _ => rfl
  | 4, _ => rfl
  | 5, _ => rfl
  | 6, _ => rfl
  | 7, _ => rfl
  | 8, _ => rfl
  | 9, _ => rfl
  | u + 10, h => omega
theorem num_step (u d : Nat) (hu : u < 10000) (hd : 0 < d) (hd2 : d ≤ 1000) (x : ByteArray) (hx : x.size ≤ 1000) (k : Nat) :
    spec_l2Number.l0 (k + 1) (u : Int) x (d : Int) = spec_l2Number.l0 k (u : Int) (x ++ tx [dg (u / d % 10)]) ((d / 10 : Nat) : Int) := by
  have e1 : Int.tdiv (u : Int) (d : Int) = ((u / d : Nat) : Int) := by rw [Int.tdiv_eq_ediv_of_nonneg (Int.natCast_nonneg u)]; rfl
  have e2 : Int.tdiv (d : Int) 10 = ((d / 10 : Nat) : Int) := by rw [Int.tdiv_eq_ediv_of_nonneg (Int.natCast_nonneg d)]; rfl
  have b1 : u / d ≤ u := Nat.div_le_self u d
  have b2 : d / 10 ≤ d := Nat.div_le_self d 10
  obtain ⟨v, hv⟩ : ∃ v, u / d = v := ⟨_, rfl⟩
  obtain ⟨c, hc⟩ : ∃ c, d / 10 = c := ⟨_, rfl⟩
  rw [hv] at b1 e1
  rw [hc] at b2 e2
  have b3 : v % 10 < 10 := Nat.mod_lt _ (by decide)
  obtain ⟨r, hr⟩ : ∃ r, v % 10 = r := ⟨_, rfl⟩
  have e3 : Int.tmod ((v : Nat) : Int) 10 = ((r : Nat) : Int) := by rw [← hr, Int.tmod_eq_emod_of_nonneg (Int.natCast_nonneg v)]; rfl
  rw [hr] at b3
  have hcut : (⟨#[48, 49, 50, 51, 52, 53, 54, 55, 56, 57]⟩ : ByteArray).extract r (r + 1) = tx [dg r] := digit_cut r b3
  rw [hv, hc, hr]
  clear hv hc hr
  have n1 : (d : Int) > 0 := by omega
  have n2 : ¬ (d : Int) = 0 := by omega
  have n3 : (0 : Int) ≤ (r : Int) := by omega
  have n4 : (r : Int) ≤ ((r + 1 : Nat) : Int) := by omega
  have n5 : ((r + 1 : Nat) : Int) ≤ 10 := by omega
  have n6 : x.size + (tx [dg r]).size ≤ 9223372036854775807 := by rw [tx_size, List.length_singleton]; omega
  have q1 : -9223372036854775808 ≤ (v : Int) ∧ (v : Int) ≤ 9223372036854775807 := by omega
  have q2 : -9223372036854775808 ≤ (c : Int) ∧ (c : Int) ≤ 9223372036854775807 := by omega
  have q3 : -9223372036854775808 ≤ ((r + 1 : Nat) : Int) ∧ ((r + 1 : Nat) : Int) ≤ 9223372036854775807 := by omega
  have q4 : (r : Int) + 1 = ((r + 1 : Nat) : Int) := by omega
  rw [spec_l2Number.l0, if_pos n1, if_neg n2, e1, e2, w64 q1.1 q1.2, w64 q2.1 q2.2, e3, q4, w64 q3.1 q3.2, if_pos n3, if_pos n4, if_pos n5, Int.toNat_natCast, Int.toNat_natCast, hcut, if_pos n6]
def nextT (L : ByteArray) (u : Nat) : ByteArray := L ++ tx (dig4 u)
theorem number_ends (L : ByteArray) (u : Nat) (hL : L.size = 3) (hu : u < 10000) (h7 : sevenB (nextT L u) = true) (k : Nat) (hk : 20 ≤ k) :
    spec_l2Number.f k L (u : Int) = some (nextT L u ++ strOfNums [chk (nextT L u)]) := by
  obtain ⟨k, rfl⟩ : ∃ m, k = m + 1 + 1 + 1 + 1 + 1 := ⟨k - 5, by omega⟩
  have e : (((L ++ tx [dg (u / 1000 % 10)]) ++ tx [dg (u / 100 % 10)]) ++ tx [dg (u / 10 % 10)]) ++ tx [dg (u / 1 % 10)] = nextT L u := by
    unfold nextT dig4
    rw [Nat.div_one]
    have aa : ∀ a b c : ByteArray, (a ++ b) ++ c = a ++ (b ++ c) := fun a b c => by
      apply ByteArray.ext
      simp [Array.append_assoc]
    rw [aa, tx_append, aa, tx_append, aa, tx_append]
    rfl
  have hz : (nextT L u).size = 7 := by unfold nextT; rw [ByteArray.size_append, hL]; rfl
  unfold spec_l2Number.f
  rw [show (1000 : Int) = ((1000 : Nat) : Int) from rfl]
  rw [num_step u 1000 hu (by omega) (by omega) L (by omega), show 1000 / 10 = 100 from rfl]
  rw [num_step u 100 hu (by omega) (by omega) _ (by rw [ByteArray.size_append, hL]; show 3 + 1 ≤ 1000; decide), show 100 / 10 = 10 from rfl]
  rw [num_step u 10 hu (by omega) (by omega) _ (by rw [ByteArray.size_append, ByteArray.size_append, hL]; show 3 + 1 + 1 ≤ 1000; decide), show 10 / 10 = 1 from rfl]
  rw [num_step u 1 hu (by omega) (by omega) _ (by rw [ByteArray.size_append, ByteArray.size_append, ByteArray.size_append, hL]; show 3 + 1 + 1 + 1 ≤ 1000; decide), show 1 / 10 = 0 from rfl]
  rw [e, spec_l2Number.l0, if_neg (by omega), spec_check _ k (by omega) h7, Option.bind_some, Option.bind_some]
  rw [if_pos (by rw [hz]; show 7 + 1 ≤ 9223372036854775807; decide)]
theorem okFrom_at (s : ByteArray) : ∀ d : Nat, okFrom s d = true → ∀ i : Int, 7 - (d : Int) ≤ i → i < 7 → OkAt s i
  | 0, _, i, h1, h2 => by omega
  | d + 1, h, i, h1, h2 => by
    rw [okFrom, Bool.and_eq_true, decide_eq_true_eq] at h
    by_cases e : i = 6 - (d : Int)
    · rw [e]; exact h.1
    · exact okFrom_at s d h.2 i (by omega) h2
theorem okFrom_mk (s : ByteArray) (h : ∀ i : Int, 0 ≤ i → i < 7 → OkAt s i) : ∀ d : Nat, d ≤ 7 → okFrom s d = true
  | 0, _ => rfl
  | d + 1, hd => by
    rw [okFrom, Bool.and_eq_true, decide_eq_true_eq]
    exact ⟨h _ (by omega) (by omega), okFrom_mk s h d (by omega)⟩
theorem seven_bytes {s : ByteArray} (h : sevenB s = true) : s.size = 7 ∧ ∀ i : Int, 0 ≤ i → i < 7 → OkAt s i := by
  unfold sevenB at h
  rw [Bool.and_eq_true, decide_eq_true_eq] at h
  exact ⟨h.1, fun i h0 h1 => okFrom_at s 7 h.2 i (by omega) h1⟩
theorem cut_at (s : ByteArray) (a b j : Nat) (hb : b ≤ s.size) (hj : a + j < b) : (bs (s.extract a b)).getD j 0 = (bs s).getD (a + j) 0 := by
  rw [bs_extract, List.getD_eq_getElem?_getD, List.getD_eq_getElem?_getD, List.getElem?_drop, List.getElem?_take, if_pos hj]
theorem id_bytes {s : ByteArray} (h : idB s = true) : s.size = 8 ∧ (∀ i : Nat, i < 3 → 65 ≤ ((bs s).getD i 0).toNat ∧ ((bs s).getD i 0).toNat ≤ 90) ∧ (∀ j : Nat, j < 4 → 48 ≤ ((bs s).getD (3 + j) 0).toNat ∧ ((bs s).getD (3 + j) 0).toNat ≤ 57) := by
  unfold idB at h
  rw [Bool.and_eq_true, Bool.and_eq_true, decide_eq_true_eq] at h
  obtain ⟨⟨h8, h7⟩, _⟩ := h
  obtain ⟨hz, ho⟩ := seven_bytes h7
  have key : ∀ i : Nat, i < 7 → bt (s.extract 0 7) (i : Int) = (((bs s).getD i 0).toNat : Int) := by
    intro i hi
    have := cut_at s 0 7 i (by omega) (by omega)
    rw [Nat.zero_add] at this
    rw [bt_list _ i (by omega), this]
  refine ⟨h8, fun i hi => ?_, fun j hj => ?_⟩
  · have := ho (i : Int) (by omega) (by omega)
    unfold OkAt at this
    rw [if_pos (by omega), key i (by omega)] at this
    omega
  · have := ho ((3 + j : Nat) : Int) (by omega) (by omega)
    unfold OkAt at this
    rw [if_neg (by omega), key (3 + j) (by omega)] at this
    omega
theorem seven_next {s : ByteArray} (h : idB s = true) (u : Nat) (hu : u < 10000) : sevenB (nextT (s.extract 0 3) u) = true := by
  obtain ⟨h8, hl, _⟩ := id_bytes h
  have hz : (nextT (s.extract 0 3) u).size = 7 := by
    unfold nextT
    rw [ByteArray.size_append, ByteArray.size_extract, tx_size]
    show min 3 s.size - 0 + 4 = 7
    omega
  have hb : bs (nextT (s.extract 0 3) u) = (bs s).take 3 ++ dig4 u := by
    unfold nextT
    have e := bs_extract s 0 3
    rw [List.drop_zero] at e
    rw [← e]
    simp [bs, tx]
  have h3 : ((bs s).take 3).length = 3 := by rw [List.length_take, bs_length]; omega
  unfold sevenB
  rw [Bool.and_eq_true, decide_eq_true_eq]
  refine ⟨hz, okFrom_mk _ (fun i h0 h7 => ?_) 7 (Nat.le_refl _)⟩
  obtain ⟨n, rfl⟩ : ∃ n : Nat, i = (n : Int) := ⟨i.toNat, by omega⟩
  unfold OkAt
  rw [bt_list _ n (by omega), hb]
  by_cases hn : n < 3
  · rw [if_pos (by omega), List.getD_eq_getElem?_getD, List.getElem?_append_left (by omega), List.getElem?_take, if_pos hn, ← List.getD_eq_getElem?_getD]
    have := hl n hn
    omega
  · rw [if_neg (by omega), List.getD_eq_getElem?_getD, List.getElem?_append_right (by omega), h3, ← List.getD_eq_getElem?_getD]
    have m1 := dg_toNat (u / 1000 % 10) (by omega)
    have m2 := dg_toNat (u / 100 % 10) (by omega)
    have m3 := dg_toNat (u / 10 % 10) (by omega)
    have m4 := dg_toNat (u % 10) (by omega)
    obtain h | h | h | h : n = 3 ∨ n = 4 ∨ n = 5 ∨ n = 6 := by omega
    · subst h
      show (48 : Int) ≤ ((dg (u / 1000 % 10)).toNat : Int) ∧ ((dg (u / 1000 % 10)).toNat : Int) ≤ 57
      rw [m1]; omega
    · subst h
      show (48 : Int) ≤ ((dg (u / 100 % 10)).toNat : Int) ∧ ((dg (u / 100 % 10)).toNat : Int) ≤ 57
      rw [m2]; omega
    · subst h
      show (48 : Int) ≤ ((dg (u / 10 % 10)).toNat : Int) ∧ ((dg (u / 10 % 10)).toNat : Int) ≤ 57
      rw [m3]; omega
    · subst h
      show (48 : Int) ≤ ((dg (u % 10)).toNat : Int) ∧ ((dg (u % 10)).toNat : Int) ≤ 57
      rw [m4]; omega
end Go.Proofs.Ytlldonokjgoajaa.X
