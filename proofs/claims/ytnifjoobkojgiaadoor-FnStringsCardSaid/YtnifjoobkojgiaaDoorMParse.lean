/- The reference's reading of a number comes to the same as the program's. -/
import Derived.Test.YtnifjoobkojgiaaDoorGParseInt
import Derived.Test.YtnifjoobkojgiaaDoorMSplit
import Derived.Test.YtnifjoobkojgiaaDoorFspecl1Read
namespace Go.Proofs.YtnifjoobkojgiaaDoor.X
open Go.RowKit Go.Proofs.YtnifjoobkojgiaaDoorW.PrintWords Go.Proofs.YtnifjoobkojgiaaDoorW.PrintLast
set_option linter.unusedVariables false
set_option linter.unusedSimpArgs false
def dig (b : UInt8) : Bool := decide (48 ≤ b.toNat ∧ b.toNat ≤ 57)
def valL : Nat → List UInt8 → Nat
  | acc, [] => acc
  | acc, b :: r => valL (10 * acc + (b.toNat - 48)) r
def okD (t : List UInt8) : Bool := decide (1 ≤ t.length ∧ t.length ≤ 6) && t.all dig
theorem valL_snoc : ∀ (l : List UInt8) (acc : Nat) (b : UInt8), valL acc (l ++ [b]) = 10 * valL acc l + (b.toNat - 48)
  | [], acc, b => rfl
  | c :: l, acc, b => valL_snoc l _ b
theorem valL_bound : ∀ (l : List UInt8) (acc j : Nat), l.all dig = true → acc < 10 ^ j → valL acc l < 10 ^ (j + l.length)
  | [], acc, j, _, h => h
  | c :: l, acc, j, ha, h => by
    simp only [List.all_cons, Bool.and_eq_true] at ha
    have hc : 48 ≤ c.toNat ∧ c.toNat ≤ 57 := by have := ha.1; unfold dig at this; simpa using this
    have := valL_bound l (10 * acc + (c.toNat - 48)) (j + 1) ha.2 (by rw [Nat.pow_succ]; omega)
    rw [show j + (c :: l).length = j + 1 + l.length by simp; omega]
    exact this
theorem parse_digits : ∀ (l : List UInt8) (acc j : Nat), l.all dig = true → acc < 10 ^ j → j + l.length ≤ 6 → Lib.parseUint10 acc l = .ok (valL acc l)
  | [], acc, j, _, _, _ => rfl
  | c :: l, acc, j, ha, h, hj => by
    simp only [List.all_cons, Bool.and_eq_true] at ha
    have hc : 48 ≤ c.toNat ∧ c.toNat ≤ 57 := by have := ha.1; unfold dig at this; simpa using this
    simp only [List.length_cons] at hj
    have h6 : 10 ^ j ≤ 10 ^ 6 := Nat.pow_le_pow_right (by omega) (by omega)
    have h7 : acc < 1000000 := Nat.lt_of_lt_of_le h h6
    have ih := parse_digits l (10 * acc + (c.toNat - 48)) (j + 1) ha.2 (by rw [Nat.pow_succ]; omega) (by omega)
    rw [Lib.parseUint10, if_pos hc, if_neg (by omega), if_neg (by omega), Nat.mul_comm acc 10, ih]
    rfl
theorem dig_of (m : Nat) (h : m < 10) : dig (UInt8.ofNat (48 + m)) = true ∧ (UInt8.ofNat (48 + m)).toNat = 48 + m := by
  have e : (UInt8.ofNat (48 + m)).toNat = 48 + m := by
    rw [UInt8.toNat_ofNat']
    omega
  refine ⟨?_, e⟩
  unfold dig
  rw [e, decide_eq_true_eq]
  omega
theorem dec_facts (d : Nat) : ∀ u, u < 10 ^ (d + 1) → (Lib.decDigits u).all dig = true ∧ valL 0 (Lib.decDigits u) = u ∧ 1 ≤ (Lib.decDigits u).length := by
  induction d with
  | zero =>
    intro u h
    have h10 : u < 10 := by simpa using h
    obtain ⟨e1, e2⟩ := dig_of u h10
    rw [dec_small h10]
    refine ⟨by rw [List.all_cons, e1]; rfl, ?_, by simp⟩
    show 10 * 0 + ((UInt8.ofNat (48 + u)).toNat - 48) = u
    rw [e2]; omega
  | succ d ih =>
    intro u h
    by_cases h10 : u < 10
    · obtain ⟨e1, e2⟩ := dig_of u h10
      rw [dec_small h10]
      refine ⟨by rw [List.all_cons, e1]; rfl, ?_, by simp⟩
      show 10 * 0 + ((UInt8.ofNat (48 + u)).toNat - 48) = u
      rw [e2]; omega
    · have h3 : u / 10 < 10 ^ (d + 1) := by rw [Nat.div_lt_iff_lt_mul (by omega), ← Nat.pow_succ]; exact h
      obtain ⟨i1, i2, i3⟩ := ih _ h3
      obtain ⟨e1, e2⟩ := dig_of (u % 10) (Nat.mod_lt _ (by omega))
      rw [dec_big h10]
      refine ⟨by rw [List.all_append, i1, List.all_cons, e1]; rfl, ?_, by rw [List.length_append]; simp⟩
      rw [valL_snoc, i2, e2]
      omega
theorem dec_ok (u : Nat) (h : u < 1000000) : okD (Lib.decDigits u) = true := by
  obtain ⟨h1, _, h3⟩ := dec_facts 5 u h
  have h2 := dec_length 5 u h
  unfold okD
  rw [h1, Bool.and_true, decide_eq_true_eq]
  omega
/-- Behind a minus sign. -/
def tlL : List UInt8 → List UInt8
  | b :: c :: r => if b = 45 then c :: r else b :: c :: r
  | l => l
def tl (s : ByteArray) : ByteArray := if (s.size : Int) > 1 then (if (bt s 0 == 45) = true then s.extract 1 s.size else s) else s
theorem tl_bs (s : ByteArray) : bs (tl s) = tlL (bs s) := by
  unfold tl
  have hl := bs_length s
  rcases hb : bs s with _ | ⟨b, _ | ⟨c, r⟩⟩
  · rw [hb] at hl
    rw [if_neg (by simp at hl; omega), hb]; rfl
  · rw [hb] at hl
    rw [if_neg (by simp at hl; omega), hb]; rfl
  · rw [hb] at hl
    simp only [List.length_cons] at hl
    have e0 : bt s 0 = (b.toNat : Int) := by
      have := bt_list s 0 (by omega)
      rw [hb] at this
      exact this
    rw [if_pos (by omega), e0]
    show _ = if b = 45 then c :: r else b :: c :: r
    by_cases h : b = 45
    · rw [if_pos h, if_pos (by rw [h]; rfl), bs_extract, hb, List.take_of_length_le (by simp; omega)]
      rfl
    · rw [if_neg h, if_neg (by rw [beq_iff_eq]; exact fun e => h (UInt8.toNat_inj.1 (by show b.toNat = 45; omega))), hb]
def finR (s t : ByteArray) (v : Nat) : Int × Bool :=
  if (t.size : Int) < (s.size : Int) then (if (tx (Lib.itoa (-(v : Int)))).toList = s.toList then (-(v : Int), true) else (0, false)) else (if (tx (Lib.itoa (v : Int))).toList = s.toList then ((v : Int), true) else (0, false))
def specR (s : ByteArray) : Int × Bool := if okD (bs (tl s)) = true then finR s (tl s) (valL 0 (bs (tl s))) else (0, false)
theorem l1Read_loop (s t : ByteArray) (h6 : t.size ≤ 6) (d : Nat) : ∀ (k i m : Nat), i + d = t.size → d + 30 < k → m < 10 ^ i →
    spec_l1Read.l0 k s t (m : Int) (i : Int) = some (if ((bs t).drop i).all dig = true then finR s t (valL m ((bs t).drop i)) else (0, false)) := by
  induction d with
  | zero =>
    intro k i m hi hk hm
    obtain ⟨k, rfl⟩ := kpos (d := 0) (k := k) (by omega)
    have p6 : 10 ^ i ≤ 10 ^ 6 := Nat.pow_le_pow_right (by omega) (by omega)
    have m6 : m < 1000000 := Nat.lt_of_lt_of_le hm p6
    have n1 : ¬ ((i : Int) < (t.size : Int)) := by omega
    have b1 : (-9223372036854775808 : Int) ≤ -(m : Int) := by omega
    have b2 : -(m : Int) ≤ 9223372036854775807 := by omega
    have c1 := l1Num_ends (-(m : Int)) (by omega) (by omega) k (by omega)
    have c2 := l1Num_ends (m : Int) (by omega) (by omega) k (by omega)
    have w1 : wrap64 (-(m : Int)) = -(m : Int) := w64 b1 b2
    unfold spec_l1Read.l0
    rw [if_neg n1, List.drop_of_length_le (by rw [bs_length]; omega), w1, c1, c2, Option.bind_some, Option.bind_some]
    rw [if_pos (show ([] : List UInt8).all dig = true from rfl)]
    unfold finR valL
    split <;> split <;> rfl
  | succ d ih =>
    intro k i m hi hk hm
    obtain ⟨k, rfl⟩ := kpos (d := 0) (k := k) (by omega)
    have hlt : i < t.size := by omega
    have hlb : i < (bs t).length := by rw [bs_length]; exact hlt
    have p6 : 10 ^ i ≤ 10 ^ 6 := Nat.pow_le_pow_right (by omega) (by omega)
    have m6 : m < 1000000 := Nat.lt_of_lt_of_le hm p6
    obtain ⟨b, hb⟩ : ∃ b, (bs t).getD i 0 = b := ⟨_, rfl⟩
    have e1 : (bs t).drop i = b :: (bs t).drop (i + 1) := by rw [← hb]; exact getD_cons hlb
    have n1 : (i : Int) < (t.size : Int) := by omega
    have n2 : (0 : Int) ≤ (i : Int) := by omega
    unfold spec_l1Read.l0
    rw [if_pos n1, if_pos n2, bt_list t i hlt, hb, e1]
    by_cases h1 : (b.toNat : Int) < 48
    · have hd : dig b = false := by unfold dig; rw [decide_eq_false_iff_not]; omega
      rw [if_pos h1, List.all_cons, hd, Bool.false_and, if_neg (by decide)]
    · rw [if_neg h1]
      by_cases h2 : (b.toNat : Int) > 57
      · have hd : dig b = false := by unfold dig; rw [decide_eq_false_iff_not]; omega
        rw [if_pos h2, List.all_cons, hd, Bool.false_and, if_neg (by decide)]
      · have hd : dig b = true := by unfold dig; rw [decide_eq_true_eq]; omega
        have hr := ih k (i + 1) (10 * m + (b.toNat - 48)) (by omega) (by omega) (by rw [Nat.pow_succ]; omega)
        have x1 : (-9223372036854775808 : Int) ≤ 10 * (m : Int) := by omega
        have x2 : 10 * (m : Int) ≤ 9223372036854775807 := by omega
        have x3 : ((b.toNat : Int) - 48) % 256 = ((b.toNat - 48 : Nat) : Int) := by omega
        have x4 : (-9223372036854775808 : Int) ≤ 10 * (m : Int) + ((b.toNat - 48 : Nat) : Int) := by omega
        have x5 : 10 * (m : Int) + ((b.toNat - 48 : Nat) : Int) ≤ 9223372036854775807 := by omega
        have x6 : 10 * (m : Int) + ((b.toNat - 48 : Nat) : Int) = ((10 * m + (b.toNat - 48) : Nat) : Int) := by omega
        rw [if_neg h2, w64 x1 x2, x3, w64 x4 x5, x6, wnext hlt (by omega), hr, List.all_cons, hd, Bool.true_and]
        rfl
theorem l1Read_ends (s : ByteArray) (k : Nat) (hk : 100 ≤ k) : spec_l1Read.f k s = some (specR s) := by
  obtain ⟨k, rfl⟩ : ∃ q, k = q + 2 := ⟨k - 2, by omega⟩
  have core : ∀ t : ByteArray, spec_l1Read.j1 (k + 1) s t = some (if okD (bs t) = true then finR s t (valL 0 (bs t)) else (0, false)) := by
    intro t
    simp only [spec_l1Read.j1]
    rw [l1In_ends, Option.bind_some]
    unfold okD
    rw [bs_length]
    by_cases h : 1 ≤ t.size ∧ t.size ≤ 6
    · have hin : inB (t.size : Int) 1 6 = true := by unfold inB; rw [decide_eq_true_eq]; omega
      have := l1Read_loop s t h.2 t.size k 0 0 (by omega) (by omega) (by decide)
      rw [show ((0 : Nat) : Int) = 0 from rfl, List.drop_zero] at this
      rw [if_pos hin, this, decide_eq_true h, Bool.true_and]
    · have hin : ¬ (inB (t.size : Int) 1 6 = true) := by unfold inB; rw [decide_eq_true_eq]; omega
      rw [if_neg hin, decide_eq_false h, Bool.false_and, if_neg (by decide)]
  unfold spec_l1Read.f specR tl
  by_cases h1 : (s.size : Int) > 1
  · rw [if_pos h1, if_pos (by omega), if_pos h1]
    simp only [spec_l1Read.j0]
    by_cases h2 : (bt s 0 == 45) = true
    · rw [if_pos h2, if_pos h2, if_pos (by omega)]
      exact core _
    · rw [if_neg h2, if_neg h2]
      exact core _
  · rw [if_neg h1, if_neg h1]
    simp only [spec_l1Read.j0]
    rw [if_neg (by decide)]
    exact core _
theorem toList_bs (a b : ByteArray) : a.toList = b.toList ↔ bs a = bs b := by
  unfold bs
  rw [ByteArray.toList_eq, ByteArray.toList_eq]
theorem mag_ok (l : List UInt8) (h : okD l = true) : Lib.parseMag l = .ok (valL 0 l) ∧ valL 0 l < 1000000 := by
  unfold okD at h
  simp only [Bool.and_eq_true, decide_eq_true_eq] at h
  have hb := valL_bound l 0 0 h.2 (by decide)
  have h6 : 10 ^ (0 + l.length) ≤ 10 ^ 6 := Nat.pow_le_pow_right (by omega) (by omega)
  refine ⟨?_, Nat.lt_of_lt_of_le hb h6⟩
  unfold Lib.parseMag
  rw [if_neg (by intro e; rw [e] at h; simp at h)]
  exact parse_digits l 0 0 h.2 (by decide) (by omega)
theorem in_six (v : Int) (h : -1000000 < v ∧ v < 1000000) : inB v (-999999) 999999 = true := by
  unfold inB
  rw [decide_eq_true_eq]
  omega
theorem tl_cons (b : UInt8) (r : List UInt8) (h : ¬ b = 45) : tlL (b :: r) = b :: r := by
  cases r with
  | nil => rfl
  | cons c r => exact if_neg h
theorem read_ok (s : ByteArray) (hk : okD (bs (tl s)) = true) : specR s = readR s := by
  obtain ⟨hm, hv⟩ := mag_ok _ hk
  have ht := tl_bs s
  have hs := bs_length s
  have hts := bs_length (tl s)
  unfold specR
  rw [if_pos hk]
  unfold readR finR
  rcases hb : bs s with _ | ⟨b, r⟩
  · rw [ht, hb] at hk
    exact absurd hk (by decide)
  · rw [show s.data.toList = b :: r from hb]
    rw [hb] at ht hs
    simp only [List.length_cons] at hs
    by_cases h45 : b = 45
    · subst h45
      cases hr : r with
      | nil =>
        rw [hr] at ht
        rw [ht] at hk
        exact absurd hk (by decide)
      | cons c r' =>
        rw [← hr]
        have ht2 : bs (tl s) = r := by
          rw [ht, hr]
          show (if (45 : UInt8) = 45 then c :: r' else 45 :: c :: r') = _
          rw [if_pos rfl]
        rw [ht2] at hm hv hts ⊢
        have e1 : Lib.signed (.ok (valL 0 r)) = .ok (-(valL 0 r : Int)) := if_neg (by omega)
        rw [Lib.atoiAll_minus, hm, e1]
        dsimp only
        rw [if_pos (by omega), if_pos (in_six _ (by omega))]
    · have ht2 : bs (tl s) = b :: r := by rw [ht]; exact tl_cons b r h45
      rw [ht2] at hm hv hts hk ⊢
      simp only [List.length_cons] at hts
      have hd : dig b = true := by
        unfold okD at hk
        simp only [Bool.and_eq_true, List.all_cons] at hk
        exact hk.2.1
      unfold dig at hd
      rw [decide_eq_true_eq] at hd
      have e1 : Lib.signless (.ok (valL 0 (b :: r))) = .ok ((valL 0 (b :: r) : Nat) : Int) := if_neg (by omega)
      rw [Lib.atoiAll_plain b r (by omega) (by omega), hm, e1]
      dsimp only
      rw [if_neg (by omega), if_pos (in_six _ (by omega))]
theorem read_no (s : ByteArray) (hk : ¬ okD (bs (tl s)) = true) : specR s = readR s := by
  unfold specR
  rw [if_neg hk]
  unfold readR
  rcases ha : Lib.atoiAll s.data.toList with v | _ | _
  · dsimp only
    by_cases hin : inB v (-999999) 999999 = true
    · rw [if_pos hin]
      unfold inB at hin
      rw [decide_eq_true_eq] at hin
      by_cases he : (tx (Lib.itoa v)).toList = s.toList
      · exfalso
        apply hk
        rw [toList_bs] at he
        have he2 : Lib.itoa v = bs s := he
        rw [tl_bs, ← he2]
        unfold Lib.itoa
        by_cases hn : v < 0
        · rw [if_pos hn]
          have hok := dec_ok v.natAbs (by omega)
          rcases hd : Lib.decDigits v.natAbs with _ | ⟨c, r⟩
          · rw [hd] at hok; exact absurd hok (by decide)
          · rw [hd] at hok
            show okD (if (45 : UInt8) = 45 then c :: r else 45 :: c :: r) = true
            rw [if_pos rfl]
            exact hok
        · rw [if_neg hn]
          have hok := dec_ok v.toNat (by omega)
          rcases hd : Lib.decDigits v.toNat with _ | ⟨c, r⟩
          · rw [hd] at hok; exact absurd hok (by decide)
          · rw [hd] at hok
            have hc : dig c = true := by
              unfold okD at hok
              simp only [Bool.and_eq_true, List.all_cons] at hok
              exact hok.2.1
            rw [tl_cons c r (by rintro rfl; exact absurd hc (by decide))]
            exact hok
      · rw [if_neg he]
    · rw [if_neg hin]
  · rfl
  · rfl
theorem read_same (s : ByteArray) : specR s = readR s := by
  by_cases h : okD (bs (tl s)) = true
  · exact read_ok s h
  · exact read_no s h
end Go.Proofs.YtnifjoobkojgiaaDoor.X
