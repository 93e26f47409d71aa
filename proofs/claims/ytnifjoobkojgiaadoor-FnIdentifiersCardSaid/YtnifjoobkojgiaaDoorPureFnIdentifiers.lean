/- The law FnIdentifiers answers true for every code. No condition beyond the form's own. -/
import Derived.Test.YtnifjoobkojgiaaDoorFlawsFnIdentifiers
import Derived.Test.YtnifjoobkojgiaaDoorOpen
import Derived.Test.YtnifjoobkojgiaaDoorMBase
import Derived.Test.YtnifjoobkojgiaaDoorFbIds
import Derived.Test.YtnifjoobkojgiaaDoorMBs
import Derived.Test.YtnifjoobkojgiaaDoorFspecl2Number
import Derived.Test.YtnifjoobkojgiaaDoorGItoa
import Derived.Test.YtnifjoobkojgiaaDoorFspecl1Num
import Derived.Test.YtnifjoobkojgiaaDoorFimpldecimal
import Derived.Lib.ItoaNum
import Derived.Test.YtnifjoobkojgiaaDoorFspecl1Split
import Derived.Lib.SplitLaws
import Derived.Lib.IndexLaws
import Derived.Test.YtnifjoobkojgiaaDoorGNextId
import Derived.Test.YtnifjoobkojgiaaDoorFspecNextId
import Derived.Lib.ItoaMem
import Derived.Test.YtnifjoobkojgiaaDoorFbCur
import Derived.Test.YtnifjoobkojgiaaDoorGspoilt
import Derived.Laws.BitsAllLaws
import Derived.Laws.Bits64
import Derived.Test.YtnifjoobkojgiaaDoorFspecl1Curid
import Derived.Test.YtnifjoobkojgiaaDoorFspecl1CuranyId
-- Written by a program of ours (wip/bin/rows.py). Not trusted: Lean checks it.
namespace Go.Proofs.YtnifjoobkojgiaaDoor.X
open Go.RowKit Go.Proofs.YtnifjoobkojgiaaDoorW.PrintWords Go.Proofs.YtnifjoobkojgiaaDoorW.PrintLast
/-- The law's one pure statement. -/
def laws_FnIdentifiers.Pure : Prop := ∀ (l0 : (List Int)), (WL WU8) l0 → ∃ k, laws_FnIdentifiers.f k l0 = some true
end Go.Proofs.YtnifjoobkojgiaaDoor.X
/- What the printed functions on identifiers come to: three capital letters, four digits, and the check letter of these. -/
namespace Go.Proofs.YtnifjoobkojgiaaDoor.X
open Go.RowKit Go.Proofs.YtnifjoobkojgiaaDoorW.PrintWords Go.Proofs.YtnifjoobkojgiaaDoorW.PrintLast
set_option linter.unusedVariables false
set_option linter.unusedSimpArgs false

/-- Byte i is one that an identifier has there: a capital letter at 0, 1, 2, a digit behind. -/
def OkAt (s : ByteArray) (i : Int) : Prop := if i < 3 then 65 ≤ bt s i ∧ bt s i ≤ 90 else 48 ≤ bt s i ∧ bt s i ≤ 57
instance (s : ByteArray) (i : Int) : Decidable (OkAt s i) := by unfold OkAt; infer_instance
/-- Are the last d of the seven bytes as they should be? -/
def okFrom (s : ByteArray) : Nat → Bool
  | 0 => true
  | d + 1 => decide (OkAt s (6 - (d : Int))) && okFrom s d
/-- What byte i counts for. -/
def valAt (s : ByteArray) (i : Int) : Int := if i < 3 then bt s i - 64 else bt s i - 48
/-- What the last d of the seven bytes add to the sum. -/
def addFrom (s : ByteArray) : Nat → Int
  | 0 => 0
  | d + 1 => (8 - (d : Int)) * valAt s (6 - (d : Int)) + addFrom s d
/-- Seven bytes of an identifier. -/
def sevenB (s : ByteArray) : Bool := decide (s.size = 7) && okFrom s 7
/-- The check letter. -/
def chk (s : ByteArray) : Int := 65 + addFrom s 7 % 23

theorem seven_loop (s : ByteArray) (hs : s.size = 7) (d : Nat) : ∀ (k : Nat) (i : Int), d ≤ 7 → i = 7 - (d : Int) → d < k → spec_l2Seven.l0 k s i = some (okFrom s d) := by
  induction d with
  | zero =>
    intro k i _ hi hk
    obtain ⟨k, rfl⟩ : ∃ m, k = m + 1 := ⟨k - 1, by omega⟩
    simp only [spec_l2Seven.l0]; rw [if_neg (by omega)]; rfl
  | succ d ih =>
    intro k i h7 hi hk
    obtain ⟨k, rfl⟩ : ∃ m, k = m + 1 := ⟨k - 1, by omega⟩
    have hn := ih k (i + 1) (by omega) (by omega) (by omega)
    have e6 : 6 - (d : Int) = i := by omega
    simp only [spec_l2Seven.l0, okFrom, e6]
    rw [w64 (x := i + 1) (by omega) (by omega), hn]
    rw [if_pos (show i < 7 by omega)]
    have hsz : i < (s.size : Int) := by omega
    have h0 : 0 ≤ i := by omega
    by_cases h3 : i < 3
    · rw [if_pos h3, if_pos h0, if_pos hsz]
      simp only [OkAt, if_pos h3]
      rw [if_neg (show ¬ i > 2 by omega)]
      split
      · simp; omega
      · split
        · simp; omega
        · rw [decide_eq_true (by omega)]; rfl
    · rw [if_neg h3, if_pos (show i > 2 by omega), if_pos h0, if_pos hsz]
      simp only [OkAt, if_neg h3]
      split
      · simp; omega
      · split
        · simp; omega
        · rw [decide_eq_true (by omega)]; rfl

theorem spec_seven (s : ByteArray) (k : Nat) (hk : 8 ≤ k) : spec_l2Seven.f k s = some (sevenB s) := by
  unfold spec_l2Seven.f sevenB
  by_cases hs : s.size = 7
  · rw [if_pos (by omega), seven_loop s hs 7 k 0 (by omega) (by omega) (by omega)]
    simp [hs]
  · rw [if_neg (by omega)]
    simp [hs]

theorem val_range (s : ByteArray) (i : Int) (h : OkAt s i) : 0 ≤ valAt s i ∧ valAt s i ≤ 30 := by
  unfold OkAt at h
  unfold valAt
  split
  · rename_i h3; rw [if_pos h3] at h; omega
  · rename_i h3; rw [if_neg h3] at h; omega

theorem mul_range (a v : Int) (ha : 0 ≤ a) (ha8 : a ≤ 8) (hv : 0 ≤ v) (hv30 : v ≤ 30) : 0 ≤ a * v ∧ a * v ≤ 240 := by
  refine ⟨Int.mul_nonneg ha hv, ?_⟩
  have h1 : a * v ≤ 8 * v := Int.mul_le_mul_of_nonneg_right ha8 hv
  omega

theorem check_loop (s : ByteArray) (hs : s.size = 7) (d : Nat) : ∀ (k : Nat) (a i : Int), d ≤ 7 → i = 7 - (d : Int) → d < k → okFrom s d = true → 0 ≤ a → a ≤ 240 * i →
    spec_l2Check.l0 k s a i = some (65 + (a + addFrom s d) % 23) := by
  induction d with
  | zero =>
    intro k a i _ hi hk _ h0 ha
    obtain ⟨k, rfl⟩ : ∃ m, k = m + 1 := ⟨k - 1, by omega⟩
    simp only [spec_l2Check.l0, addFrom]; rw [if_neg (by omega), Int.tmod_eq_emod_of_nonneg h0]
    congr 1; omega
  | succ d ih =>
    intro k a i h7 hi hk hok h0 ha
    obtain ⟨k, rfl⟩ : ∃ m, k = m + 1 := ⟨k - 1, by omega⟩
    have e6 : 6 - (d : Int) = i := by omega
    have e8 : 8 - (d : Int) = i + 2 := by omega
    simp only [okFrom, e6, Bool.and_eq_true, decide_eq_true_eq] at hok
    have hv := val_range s i hok.1
    have hm := mul_range (i + 2) (valAt s i) (by omega) (by omega) hv.1 hv.2
    have hb := bt_range s i
    have hn := ih k (a + (i + 2) * valAt s i) (i + 1) (by omega) (by omega) (by omega) hok.2 (by omega) (by omega)
    simp only [spec_l2Check.l0, addFrom, e6, e8]
    rw [← Int.add_assoc, ← hn]
    rw [if_pos (show i < 7 by omega), if_pos (show 0 ≤ i by omega), if_pos (show i < (s.size : Int) by omega)]
    rw [w64 (x := i + 1) (by omega) (by omega), w64 (x := i + 2) (by omega) (by omega), w64 (x := bt s i) (by omega) (by omega)]
    rw [w64 (x := bt s i - 65) (by omega) (by omega), w64 (x := bt s i - 65 + 1) (by omega) (by omega), w64 (x := bt s i - 48) (by omega) (by omega)]
    by_cases h3 : i < 3
    · rw [if_pos h3]
      simp only [valAt, if_pos h3] at hm ⊢
      rw [show bt s i - 65 + 1 = bt s i - 64 by omega, Int.mul_comm, w64 (x := (i + 2) * (bt s i - 64)) (by omega) (by omega), w64 (by omega) (by omega)]
    · rw [if_neg h3]
      simp only [valAt, if_neg h3] at hm ⊢
      rw [Int.mul_comm, w64 (x := (i + 2) * (bt s i - 48)) (by omega) (by omega), w64 (by omega) (by omega)]

theorem spec_check (s : ByteArray) (k : Nat) (hk : 8 ≤ k) (h : sevenB s = true) : spec_l2Check.f k s = some (chk s) := by
  unfold sevenB at h
  simp only [Bool.and_eq_true, decide_eq_true_eq] at h
  unfold spec_l2Check.f chk
  rw [check_loop s h.1 7 k 0 0 (by omega) (by omega) (by omega) h.2 (by omega) (by omega)]
  simp

theorem impl_check_loop (s : ByteArray) (hs : s.size = 7) (d : Nat) : ∀ (k : Nat) (a i : Int), d ≤ 7 → i = 7 - (d : Int) → 2 * d < k → 0 ≤ a → a ≤ 240 * i →
    impl_checkLetter.l0 k s a 7 i = some (if okFrom s d = true then (65 + (a + addFrom s d) % 23, true) else (0, false)) := by
  induction d with
  | zero =>
    intro k a i _ hi hk h0 ha
    obtain ⟨k, rfl⟩ : ∃ m, k = m + 1 := ⟨k - 1, by omega⟩
    simp only [impl_checkLetter.l0, addFrom, okFrom, if_true]; rw [if_neg (by omega), Int.tmod_eq_emod_of_nonneg h0, w64 (by omega) (by omega)]
    congr 2; omega
  | succ d ih =>
    intro k a i h7 hi hk h0 ha
    obtain ⟨k, rfl⟩ : ∃ m, k = m + 2 := ⟨k - 2, by omega⟩
    have e6 : 6 - (d : Int) = i := by omega
    have e8 : 8 - (d : Int) = i + 2 := by omega
    have hb := bt_range s i
    have hi0 : 0 ≤ i := by omega
    have hsz : i < (s.size : Int) := by omega
    simp only [okFrom, addFrom, e6, e8, Bool.and_eq_true, decide_eq_true_eq]
    rw [show k + 2 = (k + 1) + 1 from rfl]
    simp only [impl_checkLetter.l0]
    rw [if_pos (show i < 7 by omega), if_pos hi0, if_pos hsz]
    by_cases hok : OkAt s i
    · have hv := val_range s i hok
      have hm := mul_range (i + 2) (valAt s i) (by omega) (by omega) hv.1 hv.2
      have hn := ih k (a + (i + 2) * valAt s i) (i + 1) (by omega) (by omega) (by omega) (by omega) (by omega)
      simp only [hok, true_and]
      rw [← Int.add_assoc, ← hn]
      by_cases h3 : i < 3
      · simp only [OkAt, if_pos h3] at hok
        rw [if_pos h3, if_pos (show bt s i ≥ 65 by omega), decide_eq_true hok.2]
        simp only [impl_checkLetter.j1, if_true]
        simp only [valAt, if_pos h3] at hm ⊢
        rw [w64 (x := i + 2) (by omega) (by omega), show (bt s i - 65) % 256 + 1 = bt s i - 64 by omega, w64 (x := (i + 2) * (bt s i - 64)) (by omega) (by omega), w64 (x := i + 1) (by omega) (by omega), w64 (by omega) (by omega)]
      · simp only [OkAt, if_neg h3] at hok
        rw [if_neg h3]
        simp only [impl_checkLetter.j1]
        rw [if_neg (by decide), if_pos (show i ≥ 3 by omega), if_pos (show bt s i ≥ 48 by omega), if_pos (show bt s i ≤ 57 by omega)]
        simp only [valAt, if_neg h3] at hm ⊢
        rw [w64 (x := i + 2) (by omega) (by omega), show (bt s i - 48) % 256 = bt s i - 48 by omega, w64 (x := (i + 2) * (bt s i - 48)) (by omega) (by omega), w64 (x := i + 1) (by omega) (by omega), w64 (by omega) (by omega)]
    · simp only [hok, false_and, if_false]
      simp only [OkAt] at hok
      by_cases h3 : i < 3
      · rw [if_pos h3] at hok ⊢
        by_cases h65 : bt s i ≥ 65
        · rw [if_pos h65, decide_eq_false (by omega)]
          simp only [impl_checkLetter.j1]
          rw [if_neg (by decide), if_neg (show ¬ i ≥ 3 by omega)]
        · rw [if_neg h65]
          simp only [impl_checkLetter.j1]
          rw [if_neg (by decide), if_neg (show ¬ i ≥ 3 by omega)]
      · rw [if_neg h3] at hok ⊢
        simp only [impl_checkLetter.j1]
        rw [if_neg (by decide), if_pos (show i ≥ 3 by omega)]
        split
        · rw [if_neg (by omega)]
        · rfl

theorem impl_check (s : ByteArray) (k : Nat) (hk : 15 ≤ k) : impl_checkLetter.f k s = some (if sevenB s = true then (chk s, true) else (0, false)) := by
  unfold impl_checkLetter.f sevenB chk
  by_cases hs : s.size = 7
  · rw [if_pos (by omega), hs]
    rw [show (((7 : Nat) : Int)) = 7 from rfl, impl_check_loop s hs 7 k 0 0 (by omega) (by omega) (by omega) (by omega) (by omega)]
    simp
  · rw [if_neg (by omega)]
    simp [hs]

/-- Is it an identifier? -/
def idB (s : ByteArray) : Bool := decide (s.size = 8) && sevenB (s.extract 0 7) && decide (bt s 7 = chk (s.extract 0 7))

theorem spec_id (s : ByteArray) (k : Nat) (hk : 15 ≤ k) : spec_l2Id.f k s = some (idB s) := by
  unfold spec_l2Id.f idB
  by_cases hs : s.size = 8
  · rw [if_pos (by omega), if_pos (by omega), if_pos (by omega), spec_seven _ k (by omega)]
    simp only [Option.bind_some]
    by_cases h7 : sevenB (s.extract 0 7) = true
    · rw [if_pos h7, if_pos (by omega), spec_check _ k (by omega) h7]
      simp [hs, h7]
      rw [Bool.eq_iff_iff]; simp
    · rw [if_neg h7]
      simp [h7]
  · rw [if_neg (by omega)]
    simp [hs]

theorem impl_id (s : ByteArray) (k : Nat) (hk : 15 ≤ k) : impl_IsValidId.f k s = some (idB s) := by
  unfold impl_IsValidId.f idB
  by_cases hs : s.size = 8
  · rw [if_pos (by omega), if_pos (by omega), if_pos (by omega), impl_check _ k (by omega)]
    simp only [Option.bind_some]
    by_cases h7 : sevenB (s.extract 0 7) = true
    · rw [if_pos h7]
      simp only [if_true]
      rw [if_pos (by omega)]
      simp [hs, h7]
      rw [Bool.eq_iff_iff]; simp
    · rw [if_neg h7]
      simp [h7]
  · rw [if_neg (by omega)]
    simp [hs]

end Go.Proofs.YtnifjoobkojgiaaDoor.X
/- The reference's numbered identifiers: three letters, four digits, the check letter. -/
namespace Go.Proofs.YtnifjoobkojgiaaDoor.X
open Go.RowKit Go.Proofs.YtnifjoobkojgiaaDoorW.PrintWords Go.Proofs.YtnifjoobkojgiaaDoorW.PrintLast
set_option linter.unusedVariables false
set_option linter.unusedSimpArgs false
def dg (u : Nat) : UInt8 := UInt8.ofNat (48 + u)
def dig4 (u : Nat) : List UInt8 := [dg (u / 1000 % 10), dg (u / 100 % 10), dg (u / 10 % 10), dg (u % 10)]
theorem dg_toNat (u : Nat) (h : u < 10) : (dg u).toNat = 48 + u := by
  match u, h with
  | 0, _ => rfl
  | 1, _ => rfl
  | 2, _ => rfl
  | 3, _ => rfl
  | 4, _ => rfl
  | 5, _ => rfl
  | 6, _ => rfl
  | 7, _ => rfl
  | 8, _ => rfl
  | 9, _ => rfl
  | u + 10, h => omega
theorem num_step (u d : Nat) (hu : u < 10000) (hd : 0 < d) (hd2 : d ≤ 1000) (x : ByteArray) (hx : x.size ≤ 1000) (k : Nat) :
    spec_l2Number.l0 (k + 1) (u : Int) x (d : Int) = spec_l2Number.l0 k (u : Int) (x ++ tx [dg (u / d % 10)]) ((d / 10 : Nat) : Int) := by
  have e1 : Int.tdiv (u : Int) (d : Int) = ((u / d : Nat) : Int) := by rw [Int.tdiv_eq_ediv_of_nonneg (Int.natCast_nonneg u)]; rfl
  have e2 : Int.tdiv (d : Int) 10 = ((d / 10 : Nat) : Int) := by rw [Int.tdiv_eq_ediv_of_nonneg (Int.natCast_nonneg d)]; rfl
  have b1 : u / d ≤ u := Nat.div_le_self u d
  have b2 : d / 10 ≤ d := Nat.div_le_self d 10
  obtain ⟨v, hv⟩ : ∃ v, u / d = v := ⟨_, rfl⟩
  obtain ⟨c, hc⟩ : ∃ c, d / 10 = c := ⟨_, rfl⟩
  rw [hv] at b1 e1
  rw [hc] at b2 e2
  have b3 : v % 10 < 10 := Nat.mod_lt _ (by decide)
  obtain ⟨r, hr⟩ : ∃ r, v % 10 = r := ⟨_, rfl⟩
  have e3 : Int.tmod ((v : Nat) : Int) 10 = ((r : Nat) : Int) := by rw [← hr, Int.tmod_eq_emod_of_nonneg (Int.natCast_nonneg v)]; rfl
  rw [hr] at b3
  have hcut : (⟨#[48, 49, 50, 51, 52, 53, 54, 55, 56, 57]⟩ : ByteArray).extract r (r + 1) = tx [dg r] := digit_cut r b3
  rw [hv, hc, hr]
  clear hv hc hr
  have n1 : (d : Int) > 0 := by omega
  have n2 : ¬ (d : Int) = 0 := by omega
  have n3 : (0 : Int) ≤ (r : Int) := by omega
  have n4 : (r : Int) ≤ ((r + 1 : Nat) : Int) := by omega
  have n5 : ((r + 1 : Nat) : Int) ≤ 10 := by omega
  have n6 : x.size + (tx [dg r]).size ≤ 9223372036854775807 := by rw [tx_size, List.length_singleton]; omega
  have q1 : -9223372036854775808 ≤ (v : Int) ∧ (v : Int) ≤ 9223372036854775807 := by omega
  have q2 : -9223372036854775808 ≤ (c : Int) ∧ (c : Int) ≤ 9223372036854775807 := by omega
  have q3 : -9223372036854775808 ≤ ((r + 1 : Nat) : Int) ∧ ((r + 1 : Nat) : Int) ≤ 9223372036854775807 := by omega
  have q4 : (r : Int) + 1 = ((r + 1 : Nat) : Int) := by omega
  rw [spec_l2Number.l0, if_pos n1, if_neg n2, e1, e2, w64 q1.1 q1.2, w64 q2.1 q2.2, e3, q4, w64 q3.1 q3.2, if_pos n3, if_pos n4, if_pos n5, Int.toNat_natCast, Int.toNat_natCast, hcut, if_pos n6]
def nextT (L : ByteArray) (u : Nat) : ByteArray := L ++ tx (dig4 u)
theorem number_ends (L : ByteArray) (u : Nat) (hL : L.size = 3) (hu : u < 10000) (h7 : sevenB (nextT L u) = true) (k : Nat) (hk : 20 ≤ k) :
    spec_l2Number.f k L (u : Int) = some (nextT L u ++ strOfNums [chk (nextT L u)]) := by
  obtain ⟨k, rfl⟩ : ∃ m, k = m + 1 + 1 + 1 + 1 + 1 := ⟨k - 5, by omega⟩
  have e : (((L ++ tx [dg (u / 1000 % 10)]) ++ tx [dg (u / 100 % 10)]) ++ tx [dg (u / 10 % 10)]) ++ tx [dg (u / 1 % 10)] = nextT L u := by
    unfold nextT dig4
    rw [Nat.div_one]
    have aa : ∀ a b c : ByteArray, (a ++ b) ++ c = a ++ (b ++ c) := fun a b c => by
      apply ByteArray.ext
      simp [Array.append_assoc]
    rw [aa, tx_append, aa, tx_append, aa, tx_append]
    rfl
  have hz : (nextT L u).size = 7 := by unfold nextT; rw [ByteArray.size_append, hL]; rfl
  unfold spec_l2Number.f
  rw [show (1000 : Int) = ((1000 : Nat) : Int) from rfl]
  rw [num_step u 1000 hu (by omega) (by omega) L (by omega), show 1000 / 10 = 100 from rfl]
  rw [num_step u 100 hu (by omega) (by omega) _ (by rw [ByteArray.size_append, hL]; show 3 + 1 ≤ 1000; decide), show 100 / 10 = 10 from rfl]
  rw [num_step u 10 hu (by omega) (by omega) _ (by rw [ByteArray.size_append, ByteArray.size_append, hL]; show 3 + 1 + 1 ≤ 1000; decide), show 10 / 10 = 1 from rfl]
  rw [num_step u 1 hu (by omega) (by omega) _ (by rw [ByteArray.size_append, ByteArray.size_append, ByteArray.size_append, hL]; show 3 + 1 + 1 + 1 ≤ 1000; decide), show 1 / 10 = 0 from rfl]
  rw [e, spec_l2Number.l0, if_neg (by omega), spec_check _ k (by omega) h7, Option.bind_some, Option.bind_some]
  rw [if_pos (by rw [hz]; show 7 + 1 ≤ 9223372036854775807; decide)]
theorem okFrom_at (s : ByteArray) : ∀ d : Nat, okFrom s d = true → ∀ i : Int, 7 - (d : Int) ≤ i → i < 7 → OkAt s i
  | 0, _, i, h1, h2 => by omega
  | d + 1, h, i, h1, h2 => by
    rw [okFrom, Bool.and_eq_true, decide_eq_true_eq] at h
    by_cases e : i = 6 - (d : Int)
    · rw [e]; exact h.1
    · exact okFrom_at s d h.2 i (by omega) h2
theorem okFrom_mk (s : ByteArray) (h : ∀ i : Int, 0 ≤ i → i < 7 → OkAt s i) : ∀ d : Nat, d ≤ 7 → okFrom s d = true
  | 0, _ => rfl
  | d + 1, hd => by
    rw [okFrom, Bool.and_eq_true, decide_eq_true_eq]
    exact ⟨h _ (by omega) (by omega), okFrom_mk s h d (by omega)⟩
theorem seven_bytes {s : ByteArray} (h : sevenB s = true) : s.size = 7 ∧ ∀ i : Int, 0 ≤ i → i < 7 → OkAt s i := by
  unfold sevenB at h
  rw [Bool.and_eq_true, decide_eq_true_eq] at h
  exact ⟨h.1, fun i h0 h1 => okFrom_at s 7 h.2 i (by omega) h1⟩
theorem cut_at (s : ByteArray) (a b j : Nat) (hb : b ≤ s.size) (hj : a + j < b) : (bs (s.extract a b)).getD j 0 = (bs s).getD (a + j) 0 := by
  rw [bs_extract, List.getD_eq_getElem?_getD, List.getD_eq_getElem?_getD, List.getElem?_drop, List.getElem?_take, if_pos hj]
theorem id_bytes {s : ByteArray} (h : idB s = true) : s.size = 8 ∧ (∀ i : Nat, i < 3 → 65 ≤ ((bs s).getD i 0).toNat ∧ ((bs s).getD i 0).toNat ≤ 90) ∧ (∀ j : Nat, j < 4 → 48 ≤ ((bs s).getD (3 + j) 0).toNat ∧ ((bs s).getD (3 + j) 0).toNat ≤ 57) := by
  unfold idB at h
  rw [Bool.and_eq_true, Bool.and_eq_true, decide_eq_true_eq] at h
  obtain ⟨⟨h8, h7⟩, _⟩ := h
  obtain ⟨hz, ho⟩ := seven_bytes h7
  have key : ∀ i : Nat, i < 7 → bt (s.extract 0 7) (i : Int) = (((bs s).getD i 0).toNat : Int) := by
    intro i hi
    have := cut_at s 0 7 i (by omega) (by omega)
    rw [Nat.zero_add] at this
    rw [bt_list _ i (by omega), this]
  refine ⟨h8, fun i hi => ?_, fun j hj => ?_⟩
  · have := ho (i : Int) (by omega) (by omega)
    unfold OkAt at this
    rw [if_pos (by omega), key i (by omega)] at this
    omega
  · have := ho ((3 + j : Nat) : Int) (by omega) (by omega)
    unfold OkAt at this
    rw [if_neg (by omega), key (3 + j) (by omega)] at this
    omega
theorem seven_next {s : ByteArray} (h : idB s = true) (u : Nat) (hu : u < 10000) : sevenB (nextT (s.extract 0 3) u) = true := by
  obtain ⟨h8, hl, _⟩ := id_bytes h
  have hz : (nextT (s.extract 0 3) u).size = 7 := by
    unfold nextT
    rw [ByteArray.size_append, ByteArray.size_extract, tx_size]
    show min 3 s.size - 0 + 4 = 7
    omega
  have hb : bs (nextT (s.extract 0 3) u) = (bs s).take 3 ++ dig4 u := by
    unfold nextT
    have e := bs_extract s 0 3
    rw [List.drop_zero] at e
    rw [← e]
    simp [bs, tx]
  have h3 : ((bs s).take 3).length = 3 := by rw [List.length_take, bs_length]; omega
  unfold sevenB
  rw [Bool.and_eq_true, decide_eq_true_eq]
  refine ⟨hz, okFrom_mk _ (fun i h0 h7 => ?_) 7 (Nat.le_refl _)⟩
  obtain ⟨n, rfl⟩ : ∃ n : Nat, i = (n : Int) := ⟨i.toNat, by omega⟩
  unfold OkAt
  rw [bt_list _ n (by omega), hb]
  by_cases hn : n < 3
  · rw [if_pos (by omega), List.getD_eq_getElem?_getD, List.getElem?_append_left (by omega), List.getElem?_take, if_pos hn, ← List.getD_eq_getElem?_getD]
    have := hl n hn
    omega
  · rw [if_neg (by omega), List.getD_eq_getElem?_getD, List.getElem?_append_right (by omega), h3, ← List.getD_eq_getElem?_getD]
    have m1 := dg_toNat (u / 1000 % 10) (by omega)
    have m2 := dg_toNat (u / 100 % 10) (by omega)
    have m3 := dg_toNat (u / 10 % 10) (by omega)
    have m4 := dg_toNat (u % 10) (by omega)
    obtain h | h | h | h : n = 3 ∨ n = 4 ∨ n = 5 ∨ n = 6 := by omega
    · subst h
      show (48 : Int) ≤ ((dg (u / 1000 % 10)).toNat : Int) ∧ ((dg (u / 1000 % 10)).toNat : Int) ≤ 57
      rw [m1]; omega
    · subst h
      show (48 : Int) ≤ ((dg (u / 100 % 10)).toNat : Int) ∧ ((dg (u / 100 % 10)).toNat : Int) ≤ 57
      rw [m2]; omega
    · subst h
      show (48 : Int) ≤ ((dg (u / 10 % 10)).toNat : Int) ∧ ((dg (u / 10 % 10)).toNat : Int) ≤ 57
      rw [m3]; omega
    · subst h
      show (48 : Int) ≤ ((dg (u % 10)).toNat : Int) ∧ ((dg (u % 10)).toNat : Int) ≤ 57
      rw [m4]; omega
end Go.Proofs.YtnifjoobkojgiaaDoor.X
/- The reference's text of a number is the decimal numeral of the library. -/
namespace Go.Proofs.YtnifjoobkojgiaaDoor.X
open Go.RowKit Go.Proofs.YtnifjoobkojgiaaDoorW.PrintWords Go.Proofs.YtnifjoobkojgiaaDoorW.PrintLast
set_option linter.unusedVariables false
set_option linter.unusedSimpArgs false
theorem dec_small {u : Nat} (h : u < 10) : Lib.decDigits u = [UInt8.ofNat (48 + u)] := by rw [Lib.decDigits, dif_pos h]
theorem dec_big {u : Nat} (h : ¬ u < 10) : Lib.decDigits u = Lib.decDigits (u / 10) ++ [UInt8.ofNat (48 + u % 10)] := by rw [Lib.decDigits, dif_neg h]
theorem dec_length (d : Nat) : ∀ u, u < 10 ^ (d + 1) → (Lib.decDigits u).length ≤ d + 1 := by
  induction d with
  | zero => intro u h; rw [dec_small (by simpa using h)]; simp
  | succ d ih =>
    intro u h
    by_cases h2 : u < 10
    · rw [dec_small h2]; simp
    · have h3 : u / 10 < 10 ^ (d + 1) := by rw [Nat.div_lt_iff_lt_mul (by omega), ← Nat.pow_succ]; exact h
      rw [dec_big h2, List.length_append, List.length_singleton]
      have := ih _ h3
      omega
theorem l1Num_nat (d : Nat) (hd : d ≤ 17) : ∀ (k u : Nat), u < 10 ^ (d + 1) → d < k → spec_l1Num.f k (u : Int) = some (tx (Lib.decDigits u)) := by
  induction d with
  | zero =>
    intro k u h hk
    obtain ⟨k, rfl⟩ := kpos hk
    have h10 : u < 10 := by simpa using h
    unfold spec_l1Num.f
    rw [if_neg (by omega), if_pos (by omega), w64 (by omega) (by omega), if_pos (by omega), if_pos (by omega), if_pos (by omega), dec_small h10]
    rw [show ((u : Int) + 1).toNat = u + 1 by omega, Int.toNat_natCast]
    exact congrArg some (digit_cut u h10)
  | succ d ih =>
    intro k u h hk
    obtain ⟨k, rfl⟩ := kpos (d := 0) (k := k) (by omega)
    by_cases h10 : u < 10
    · unfold spec_l1Num.f
      rw [if_neg (by omega), if_pos (by omega), w64 (by omega) (by omega), if_pos (by omega), if_pos (by omega), if_pos (by omega), dec_small h10]
      rw [show ((u : Int) + 1).toNat = u + 1 by omega, Int.toNat_natCast]
      exact congrArg some (digit_cut u h10)
    · have hb : u < 10 ^ 19 := Nat.lt_of_lt_of_le h (Nat.pow_le_pow_right (by omega) (by omega))
      have hb2 : u < 10000000000000000000 := hb
      have h3 : u / 10 < 10 ^ (d + 1) := by rw [Nat.div_lt_iff_lt_mul (by omega), ← Nat.pow_succ]; exact h
      have hl := dec_length d _ h3
      have hr := ih (by omega) k (u / 10) h3 (by omega)
      have hm : u % 10 < 10 := Nat.mod_lt _ (by omega)
      have n1 : ¬ ((u : Int) < 0) := by omega
      have n2 : ¬ ((u : Int) < 10) := by omega
      have n3 : (0 : Int) ≤ (u : Int) := by omega
      obtain ⟨q, hq⟩ : ∃ q, u / 10 = q := ⟨_, rfl⟩
      obtain ⟨m, hmm⟩ : ∃ m, u % 10 = m := ⟨_, rfl⟩
      have hql : q ≤ 1000000000000000000 := by omega
      rw [hq] at hr hl
      rw [hmm] at hm
      have b1 : (-9223372036854775808 : Int) ≤ (q : Int) := by omega
      have b2 : (q : Int) ≤ 9223372036854775807 := by omega
      have b3 : (-9223372036854775808 : Int) ≤ (m : Int) + 1 := by omega
      have b4 : (m : Int) + 1 ≤ 9223372036854775807 := by omega
      have g3 : (0 : Int) ≤ (m : Int) := by omega
      have g4 : (m : Int) ≤ (m : Int) + 1 := by omega
      have g5 : (m : Int) + 1 ≤ 10 := by omega
      have g6 : ((m : Int) + 1).toNat = m + 1 := by omega
      have g7 : (Lib.decDigits q).length + 1 ≤ 9223372036854775807 := by omega
      have e1 : Int.tdiv (u : Int) 10 = ((u / 10 : Nat) : Int) := by rw [Int.tdiv_eq_ediv_of_nonneg n3]; rfl
      have e2 : Int.tmod (u : Int) 10 = ((u % 10 : Nat) : Int) := by rw [Int.tmod_eq_emod_of_nonneg n3]; rfl
      have g1 : wrap64 (q : Int) = (q : Int) := w64 b1 b2
      have g2 : wrap64 ((m : Int) + 1) = (m : Int) + 1 := w64 b3 b4
      unfold spec_l1Num.f
      rw [if_neg n1, if_neg n2, e1, e2, dec_big h10, hq, hmm, g1, hr, Option.bind_some, g2, if_pos g3, if_pos g4, if_pos g5, g6, Int.toNat_natCast]
      rw [show (⟨#[48, 49, 50, 51, 52, 53, 54, 55, 56, 57]⟩ : ByteArray) = tenB from rfl, digit_cut m hm]
      have hsz : (tx (Lib.decDigits q)).size + (⟨#[UInt8.ofNat (48 + m)]⟩ : ByteArray).size ≤ 9223372036854775807 := by
        rw [tx_size, show (⟨#[UInt8.ofNat (48 + m)]⟩ : ByteArray).size = 1 from rfl]
        exact g7
      rw [if_pos hsz]
      exact congrArg some (tx_append _ [UInt8.ofNat (48 + m)])
theorem l1Num_ends (n : Int) (h0 : -1000000000000 ≤ n) (h1 : n ≤ 1000000000000) (k : Nat) (hk : 20 ≤ k) : spec_l1Num.f k n = some (tx (Lib.itoa n)) := by
  unfold Lib.itoa
  by_cases h : n < 0
  · obtain ⟨k, rfl⟩ := kpos (d := 0) (k := k) (by omega)
    have hu : n.natAbs < 10 ^ (17 + 1) := by
      have : n.natAbs < 1000000000000000000 := by omega
      exact this
    have hr := l1Num_nat 17 (by omega) k n.natAbs hu (by omega)
    have hl := dec_length 17 _ hu
    rw [if_pos h]
    unfold spec_l1Num.f
    rw [if_pos h, w64 (by omega) (by omega), show -n = ((n.natAbs : Nat) : Int) by omega, hr, Option.bind_some, if_pos (by rw [tx_size]; omega)]
    exact congrArg some (tx_append [45] _)
  · rw [if_neg h]
    have hu : n.toNat < 10 ^ (17 + 1) := by
      have : n.toNat < 1000000000000000000 := by omega
      exact this
    have hr := l1Num_nat 17 (by omega) k n.toNat hu (by omega)
    rw [show ((n.toNat : Nat) : Int) = n by omega] at hr
    exact hr
theorem decimal_ends (n : Int) (h0 : -1000000000000 ≤ n) (h1 : n ≤ 1000000000000) : impl_decimal.f n = some (tx (Lib.itoa n)) := by
  unfold impl_decimal.f strconv_Itoa.f
  rw [if_pos (by omega)]
  rfl
theorem itoa_length (n : Int) (h0 : -1000000000000 ≤ n) (h1 : n ≤ 1000000000000) : (Lib.itoa n).length ≤ 19 := by
  unfold Lib.itoa
  split
  · have := dec_length 17 n.natAbs (by show _ < 1000000000000000000; omega)
    simp only [List.length_cons]; omega
  · have := dec_length 17 n.toNat (by show _ < 1000000000000000000; omega)
    omega
end Go.Proofs.YtnifjoobkojgiaaDoor.X
/- A text cut at each sign of one byte: the reference's loop, the library's pieces, the first piece. -/
namespace Go.Proofs.YtnifjoobkojgiaaDoor.X
open Go.RowKit Go.Proofs.YtnifjoobkojgiaaDoorW.PrintWords Go.Proofs.YtnifjoobkojgiaaDoorW.PrintLast
set_option linter.unusedVariables false
set_option linter.unusedSimpArgs false
def preH (p : List UInt8) : List (List UInt8) → List (List UInt8)
  | [] => [p]
  | h :: t => (p ++ h) :: t
def splitL (c : UInt8) : List UInt8 → List (List UInt8)
  | [] => [[]]
  | b :: r => if b = c then [] :: splitL c r else preH [b] (splitL c r)
theorem splitL_some (c : UInt8) : ∀ l, ∃ h t, splitL c l = h :: t
  | [] => ⟨[], [], rfl⟩
  | b :: r => by
    obtain ⟨h, t, e⟩ := splitL_some c r
    unfold splitL
    split
    · exact ⟨_, _, rfl⟩
    · rw [e]; exact ⟨_, _, rfl⟩
theorem indexByte_cons (b c : UInt8) (l : List UInt8) : Lib.indexByte (b :: l) c = if (b == c) = true then 0 else if (Lib.indexByte l c == -1) = true then -1 else Lib.indexByte l c + 1 := rfl
theorem splitL_miss (c : UInt8) : ∀ l, Lib.indexByte l c = -1 → splitL c l = [l]
  | [], _ => rfl
  | b :: r, h => by
    rw [indexByte_cons] at h
    by_cases h1 : (b == c) = true
    · rw [if_pos h1] at h; omega
    · rw [if_neg h1] at h
      by_cases h2 : (Lib.indexByte r c == -1) = true
      · have ih := splitL_miss c r (by simpa using h2)
        unfold splitL
        rw [if_neg (by simpa using h1), ih]
        rfl
      · rw [if_neg h2] at h
        have := Lib.indexByte_ge r c
        omega
theorem splitL_hit (c : UInt8) : ∀ (l : List UInt8) (j : Nat), Lib.indexByte l c = (j : Int) → splitL c l = l.take j :: splitL c (l.drop (j + 1))
  | [], j, h => by simp [Lib.indexByte] at h
  | b :: r, j, h => by
    rw [indexByte_cons] at h
    by_cases h1 : (b == c) = true
    · rw [if_pos h1] at h
      obtain rfl : j = 0 := by omega
      rw [splitL, if_pos (by simpa using h1)]
      rfl
    · rw [if_neg h1] at h
      by_cases h2 : (Lib.indexByte r c == -1) = true
      · rw [if_pos h2] at h; omega
      · rw [if_neg h2] at h
        obtain ⟨q, rfl⟩ : ∃ q, j = q + 1 := ⟨j - 1, by have := Lib.indexByte_ge r c; rw [beq_iff_eq] at h2; omega⟩
        have ih := splitL_hit c r q (by omega)
        rw [splitL, if_neg (by simpa using h1), ih]
        rfl
theorem splitK_eq (c : UInt8) : ∀ (n : Nat) (l : List UInt8), l.length ≤ n → Lib.splitK [c] 0 (Lib.count l [c]) l = splitL c l := by
  intro n
  induction n with
  | zero =>
    intro l h
    obtain rfl : l = [] := List.length_eq_zero_iff.1 (by omega)
    rw [Lib.count_miss (by rw [Lib.index_one]; rfl)]
    rfl
  | succ n ih =>
    intro l h
    have hge := Lib.indexByte_ge l c
    by_cases hm : Lib.indexByte l c = -1
    · rw [Lib.count_miss (by rw [Lib.index_one]; exact hm), splitL_miss c l hm]
      rfl
    · obtain ⟨j, hj⟩ : ∃ j : Nat, Lib.indexByte l c = j := ⟨(Lib.indexByte l c).toNat, by omega⟩
      have hi : Lib.index l [c] = (j : Int) := by rw [Lib.index_one]; exact hj
      have hlt : j < l.length := (List.getElem?_eq_some_iff.1 (Lib.indexByte_some hj).1).1
      have hr := ih (l.drop (j + 1)) (by rw [List.length_drop]; omega)
      rw [Lib.count_hit (by simp) hi, splitL_hit c l j hj, Nat.add_comm 1, Lib.splitK, if_neg (by rw [hi, beq_iff_eq]; omega), hi]
      show l.take (((j : Int)).toNat + 0) :: Lib.splitK [c] 0 (Lib.count (l.drop (j + 1)) [c]) (l.drop (((j : Int)).toNat + 1)) = _
      rw [Int.toNat_natCast, Nat.add_zero, hr]
theorem l1Split_loop (s : ByteArray) (c : UInt8) (hx : s.size ≤ 1048576) (d : Nat) : ∀ (k f i : Nat) (out : List ByteArray), i + d = s.size → d < k → f ≤ i → out.length + d ≤ 2000000 →
    ∃ ys, spec_l1Split.l0 k s (c.toNat : Int) out (f : Int) (i : Int) = some ys ∧ ys.map bs = out.map bs ++ preH (((bs s).take i).drop f) (splitL c ((bs s).drop i)) ∧ ys.length ≤ out.length + d + 1 := by
  induction d with
  | zero =>
    intro k f i out hi hk hf ho
    obtain ⟨k, rfl⟩ := kpos hk
    have n1 : ¬ ((i : Int) < (s.size : Int)) := by omega
    have n2 : (0 : Int) ≤ (f : Int) := by omega
    have n3 : (f : Int) ≤ (s.size : Int) := by omega
    have n4 : out.length < 8796093022208 := by omega
    unfold spec_l1Split.l0
    rw [if_neg n1, if_pos n2, if_pos n3, if_pos n4]
    refine ⟨_, rfl, ?_, by simp⟩
    rw [List.map_append, List.map_cons, List.map_nil, bs_extract, show i = s.size by omega, show (bs s).drop s.size = [] from List.drop_of_length_le (by rw [bs_length]; omega), Int.toNat_natCast]
    simp [splitL, preH]
  | succ d ih =>
    intro k f i out hi hk hf ho
    obtain ⟨k, rfl⟩ := kpos hk
    have hlt : i < s.size := by omega
    have hlb : i < (bs s).length := by rw [bs_length]; exact hlt
    have n1 : ((i : Int) < (s.size : Int)) := by omega
    have n2 : (0 : Int) ≤ (i : Int) := by omega
    have n3 : (0 : Int) ≤ (f : Int) := by omega
    have n4 : (f : Int) ≤ (i : Int) := by omega
    have n5 : (i : Int) ≤ (s.size : Int) := by omega
    have n6 : out.length < 8796093022208 := by omega
    have e1 : (bs s).drop i = (bs s).getD i 0 :: (bs s).drop (i + 1) := getD_cons hlb
    obtain ⟨h, t, eL⟩ := splitL_some c ((bs s).drop (i + 1))
    unfold spec_l1Split.l0
    rw [if_pos n1, if_pos n2, bt_list s i hlt, wnext hlt (by omega), e1]
    by_cases hc : (bs s).getD i 0 = c
    · obtain ⟨ys, h1, h2, h3⟩ := ih k (i + 1) (i + 1) (out ++ [s.extract f i]) (by omega) (by omega) (by omega) (by simp; omega)
      rw [if_pos (by rw [hc]), if_pos n3, if_pos n4, if_pos n5, if_pos n6, Int.toNat_natCast, Int.toNat_natCast]
      refine ⟨ys, h1, ?_, by simp at h3; omega⟩
      rw [h2, List.map_append, List.map_cons, List.map_nil, bs_extract, eL, show ((bs s).take (i + 1)).drop (i + 1) = [] from List.drop_of_length_le (by rw [List.length_take]; omega), splitL, if_pos hc, eL]
      simp [preH]
    · obtain ⟨ys, h1, h2, h3⟩ := ih k f (i + 1) out (by omega) (by omega) (by omega) (by omega)
      have hn : ¬ ((((bs s).getD i 0).toNat : Int) = (c.toNat : Int)) := fun e => hc (UInt8.toNat_inj.1 (by omega))
      rw [if_neg hn]
      refine ⟨ys, h1, ?_, by omega⟩
      rw [h2, splitL, if_neg hc, eL, take_succ_getD (z := (0 : UInt8)) hlb, List.drop_append_of_le_length (by rw [List.length_take]; omega)]
      simp [preH]
theorem l1Split_ends (s : ByteArray) (c : UInt8) (hx : s.size ≤ 1048576) (k : Nat) (hk : 1048577 ≤ k) :
    ∃ ys, spec_l1Split.f k s (c.toNat : Int) = some ys ∧ ys.map bs = splitL c (bs s) ∧ ys.length ≤ s.size + 1 := by
  obtain ⟨ys, h1, h2, h3⟩ := l1Split_loop s c hx s.size k 0 0 [] (by omega) (by omega) (by omega) (by simp; omega)
  obtain ⟨h, t, e⟩ := splitL_some c (bs s)
  refine ⟨ys, h1, ?_, by simpa using h3⟩
  simp only [List.drop_zero] at h2
  rw [h2, e]
  simp [preH]
end Go.Proofs.YtnifjoobkojgiaaDoor.X
/- The identifier that follows: the reference's four digits, the program's padded numeral. -/
namespace Go.Proofs.YtnifjoobkojgiaaDoor.X
open Go.RowKit Go.Proofs.YtnifjoobkojgiaaDoorW.PrintWords Go.Proofs.YtnifjoobkojgiaaDoorW.PrintLast
set_option linter.unusedVariables false
set_option linter.unusedSimpArgs false
theorem pad_step (k : Nat) (l : List UInt8) (h : l.length < 4) : impl_padded.l0 (k + 1) 4 (tx l) = impl_padded.l0 k 4 (tx (48 :: l)) := by
  have e : (⟨#[48]⟩ : ByteArray) ++ tx l = tx (48 :: l) := tx_append [48] l
  have n1 : ((tx l).size : Int) < 4 := by rw [tx_size]; omega
  have n2 : 1 + (tx l).size ≤ 9223372036854775807 := by rw [tx_size]; omega
  rw [impl_padded.l0, if_pos n1, if_pos n2, e]
theorem pad_end (k : Nat) (l : List UInt8) (h : l.length = 4) : impl_padded.l0 (k + 1) 4 (tx l) = some (tx l) := by
  have n1 : ¬ ((tx l).size : Int) < 4 := by rw [tx_size]; omega
  rw [impl_padded.l0, if_neg n1]
theorem padded_ends (u : Nat) (h : u < 10000) (k : Nat) (hk : 8 ≤ k) : impl_padded.f k (u : Int) 4 = some (tx (dig4 u)) := by
  obtain ⟨k, rfl⟩ : ∃ m, k = m + 1 + 1 + 1 + 1 := ⟨k - 4, by omega⟩
  have hi : strconv_Itoa.f (u : Int) = some (tx (Lib.decDigits u)) := by
    unfold strconv_Itoa.f
    rw [if_pos (by omega), Lib.itoa_nonneg]
    rfl
  unfold impl_padded.f
  rw [hi, Option.bind_some]
  by_cases h1 : u < 10
  · rw [dec_small h1, pad_step _ _ (by simp), pad_step _ _ (by simp), pad_step _ _ (by simp), pad_end _ _ (by rfl)]
    unfold dig4
    rw [show u / 1000 % 10 = 0 by omega, show u / 100 % 10 = 0 by omega, show u / 10 % 10 = 0 by omega, show u % 10 = u by omega]
    rfl
  · rw [dec_big h1]
    by_cases h2 : u / 10 < 10
    · rw [dec_small h2, List.singleton_append, pad_step _ _ (by simp), pad_step _ _ (by simp), pad_end _ _ (by rfl)]
      unfold dig4
      rw [show u / 1000 % 10 = 0 by omega, show u / 100 % 10 = 0 by omega, show u / 10 % 10 = u / 10 by omega]
      rfl
    · rw [dec_big h2]
      by_cases h3 : u / 10 / 10 < 10
      · rw [dec_small h3, List.singleton_append, List.cons_append, List.singleton_append, pad_step _ _ (by simp), pad_end _ _ (by rfl)]
        unfold dig4
        rw [show u / 1000 % 10 = 0 by omega, show u / 100 % 10 = u / 10 / 10 by omega]
        rfl
      · rw [dec_big h3, dec_small (by omega), List.singleton_append, List.cons_append, List.singleton_append, List.cons_append, List.cons_append, List.singleton_append, pad_end _ _ (by rfl)]
        unfold dig4
        rw [show u / 1000 % 10 = u / 10 / 10 / 10 by omega, show u / 100 % 10 = u / 10 / 10 % 10 by omega]
        rfl
/-! ### A valid identifier's bytes -/
theorem digQ_id {s : ByteArray} (h : idB s = true) : digQ (s.extract 3 7) = true := by
  obtain ⟨h8, _, hd⟩ := id_bytes h
  have hz : (s.extract 3 7).size = 4 := by rw [ByteArray.size_extract]; omega
  unfold digQ
  rw [Bool.and_eq_true, decide_eq_true_eq, List.all_eq_true]
  refine ⟨hz, fun b hb => ?_⟩
  obtain ⟨j, hj, e⟩ := List.mem_iff_getElem.1 hb
  have hj4 : j < 4 := by rw [bs_length, hz] at hj; exact hj
  have e2 := cut_at s 3 7 j (by omega) (by omega)
  rw [List.getD_eq_getElem?_getD, List.getElem?_eq_getElem hj, e] at e2
  have e3 : b = (bs s).getD (3 + j) 0 := e2
  rw [e3, decide_eq_true_eq]
  exact hd j hj4
/-! ### The number within an identifier -/
theorem pow_le {j : Nat} (h : j < 4) : (10 : Int) ^ j ≤ 1000 := by
  match j, h with
  | 0, _ => decide
  | 1, _ => decide
  | 2, _ => decide
  | 3, _ => decide
theorem spec_next_loop {s : ByteArray} (h : idB s = true) (R : ByteArray) (K : Nat) (hR : ∀ k, K ≤ k → spec_l2Number.f k (s.extract 0 3) (numQ (s.extract 3 7) 4 + 1) = some R) (d : Nat) :
    ∀ (k j : Nat), j + d = 4 → d + K < k → spec_NextId.l0 k s (numQ (s.extract 3 7) j) ((3 + j : Nat) : Int) = some (R, true) := by
  obtain ⟨h8, _, hd⟩ := id_bytes h
  have hr := numQ_range _ (digQ_id h)
  induction d with
  | zero =>
    intro k j hj hk
    obtain ⟨k, rfl⟩ := kpos (d := 0) (k := k) (by omega)
    obtain rfl : j = 4 := by omega
    obtain ⟨n0, n1⟩ := hr 4 (Nat.le_refl _)
    have p4 : (10 : Int) ^ 4 = 10000 := by decide
    rw [p4] at n1
    have e := hR k (by omega)
    have hw : wrap64 (numQ (s.extract 3 7) 4 + 1) = numQ (s.extract 3 7) 4 + 1 := w64 (by omega) (by omega)
    rw [spec_NextId.l0, if_neg (by omega), if_pos (by omega), if_pos (by omega), hw, e, Option.bind_some]
  | succ d ih =>
    intro k j hj hk
    obtain ⟨k, rfl⟩ := kpos (d := 0) (k := k) (by omega)
    have hj4 : j < 4 := by omega
    obtain ⟨n0, n1⟩ := hr j (by omega)
    have p4 := pow_le hj4
    have hdj := hd j hj4
    have ih2 := ih k (j + 1) (by omega) (by omega)
    have e1 : numQ (s.extract 3 7) (j + 1) = 10 * numQ (s.extract 3 7) j + ((((bs s).getD (3 + j) 0).toNat : Int) - 48) := by
      rw [numQ, cut_at s 3 7 j (by omega) (by omega)]
    have hb := bt_list s (3 + j) (by omega)
    obtain ⟨n, hn⟩ : ∃ n, numQ (s.extract 3 7) j = n := ⟨_, rfl⟩
    obtain ⟨b, hbb⟩ : ∃ b, ((bs s).getD (3 + j) 0).toNat = b := ⟨_, rfl⟩
    rw [hn] at n0 n1 e1 ⊢
    rw [hbb] at hdj hb e1
    have m1 : ((3 + j : Nat) : Int) < 7 := by omega
    have m2 : (0 : Int) ≤ ((3 + j : Nat) : Int) := by omega
    have m3 : ((3 + j : Nat) : Int) < (s.size : Int) := by omega
    have q1 : -9223372036854775808 ≤ 10 * n ∧ 10 * n ≤ 9223372036854775807 := by omega
    have q2 : -9223372036854775808 ≤ 10 * n + (b : Int) ∧ 10 * n + (b : Int) ≤ 9223372036854775807 := by omega
    have q3 : -9223372036854775808 ≤ 10 * n + (b : Int) - 48 ∧ 10 * n + (b : Int) - 48 ≤ 9223372036854775807 := by omega
    have q4 : ((3 + j : Nat) : Int) + 1 = ((3 + (j + 1) : Nat) : Int) := by omega
    have q5 : 10 * n + (b : Int) - 48 = 10 * n + ((b : Int) - 48) := by omega
    have q6 : -9223372036854775808 ≤ (b : Int) ∧ (b : Int) ≤ 9223372036854775807 := by omega
    have q7 : -9223372036854775808 ≤ ((3 + (j + 1) : Nat) : Int) ∧ ((3 + (j + 1) : Nat) : Int) ≤ 9223372036854775807 := by omega
    rw [spec_NextId.l0, if_pos m1, if_pos m2, if_pos m3, hb, w64 q1.1 q1.2, w64 q6.1 q6.2, w64 q2.1 q2.2, w64 q3.1 q3.2, q4, w64 q7.1 q7.2, q5, ← e1]
    exact ih2
theorem nines (q : ByteArray) (hq : digQ q = true) (h : ¬ q.toList = ([57, 57, 57, 57] : List UInt8)) : numQ q 4 < 9999 := by
  unfold digQ at hq
  rw [Bool.and_eq_true, decide_eq_true_eq, List.all_eq_true] at hq
  obtain ⟨hz, ha⟩ := hq
  have hl : (bs q).length = 4 := by rw [bs_length]; exact hz
  match hb : bs q, hl with
  | [a, b, c, d], _ =>
    rw [hb] at ha
    have a1 := ha a (by simp)
    have a2 := ha b (by simp)
    have a3 := ha c (by simp)
    have a4 := ha d (by simp)
    simp only [decide_eq_true_eq] at a1 a2 a3 a4
    have e : numQ q 4 = 10 * (10 * (10 * (10 * 0 + ((a.toNat : Int) - 48)) + ((b.toNat : Int) - 48)) + ((c.toNat : Int) - 48)) + ((d.toNat : Int) - 48) := by
      simp only [numQ, hb]
      rfl
    rw [e]
    by_cases hall : a.toNat = 57 ∧ b.toNat = 57 ∧ c.toNat = 57 ∧ d.toNat = 57
    · exfalso
      apply h
      have f1 : a = 57 := UInt8.toNat_inj.1 hall.1
      have f2 : b = 57 := UInt8.toNat_inj.1 hall.2.1
      have f3 : c = 57 := UInt8.toNat_inj.1 hall.2.2.1
      have f4 : d = 57 := UInt8.toNat_inj.1 hall.2.2.2
      have hq2 : q = tx [57, 57, 57, 57] := by
        apply bs_inj
        rw [hb, f1, f2, f3, f4]
        rfl
      rw [hq2, ByteArray.toList_eq]
      rfl
    · omega
/-- The answer. -/
def nextR (s : ByteArray) : ByteArray × Bool :=
  if idB s = true ∧ ¬ (s.extract 3 7).toList = ([57, 57, 57, 57] : List UInt8) then
    (nextT (s.extract 0 3) (numQ (s.extract 3 7) 4 + 1).toNat ++ strOfNums [chk (nextT (s.extract 0 3) (numQ (s.extract 3 7) 4 + 1).toNat)], true)
  else (⟨#[]⟩, false)
theorem spec_next (s : ByteArray) (k : Nat) (hk : 40 ≤ k) : spec_NextId.f k s = some (nextR s) := by
  unfold spec_NextId.f nextR
  rw [spec_id s k (by omega), Option.bind_some]
  by_cases h : idB s = true
  · obtain ⟨h8, _, _⟩ := id_bytes h
    rw [if_pos h, if_pos (by omega), if_pos (by omega)]
    obtain ⟨k, rfl⟩ := kpos (d := 0) (k := k) (by omega)
    by_cases h9 : (s.extract 3 7).toList = ([57, 57, 57, 57] : List UInt8)
    · rw [beq_iff_eq.mpr h9, spec_NextId.j0, if_pos rfl, if_neg (by rintro ⟨_, h2⟩; exact h2 h9)]
    · have hlt := nines _ (digQ_id h) h9
      obtain ⟨n0, _⟩ := numQ_range _ (digQ_id h) 4 (Nat.le_refl _)
      obtain ⟨u, hu⟩ : ∃ u : Nat, numQ (s.extract 3 7) 4 + 1 = (u : Int) := ⟨(numQ (s.extract 3 7) 4 + 1).toNat, by omega⟩
      have hu2 : u < 10000 := by omega
      have hz : (s.extract 0 3).size = 3 := by rw [ByteArray.size_extract]; omega
      have e := spec_next_loop h (nextT (s.extract 0 3) u ++ strOfNums [chk (nextT (s.extract 0 3) u)]) 20 (fun k hk => by rw [hu]; exact number_ends _ u hz hu2 (seven_next h u hu2) k hk) 4 k 0 (by omega) (by omega)
      rw [beq_eq_false_iff_ne.mpr h9, spec_NextId.j0, if_neg (by decide), if_pos ⟨h, h9⟩, hu, Int.toNat_natCast]
      exact e
  · obtain ⟨k, rfl⟩ := kpos (d := 0) (k := k) (by omega)
    rw [if_neg h, spec_NextId.j0, if_pos rfl, if_neg (by rintro ⟨h2, _⟩; exact h h2)]
theorem impl_next (s : ByteArray) (k : Nat) (hk : 40 ≤ k) : impl_NextId.f k s = some (nextR s) := by
  unfold impl_NextId.f nextR
  rw [impl_id s k (by omega), Option.bind_some]
  by_cases h : idB s = true
  · obtain ⟨h8, _, _⟩ := id_bytes h
    have hq := digQ_id h
    rw [if_pos h, if_pos ⟨h8, hq⟩]
    by_cases h9 : (s.extract 3 7).toList = ([57, 57, 57, 57] : List UInt8)
    · rw [if_pos h9, if_neg (by rintro ⟨_, h2⟩; exact h2 h9)]
    · have hlt := nines _ hq h9
      obtain ⟨n0, _⟩ := numQ_range _ hq 4 (Nat.le_refl _)
      obtain ⟨u, hu⟩ : ∃ u : Nat, numQ (s.extract 3 7) 4 + 1 = (u : Int) := ⟨(numQ (s.extract 3 7) 4 + 1).toNat, by omega⟩
      have hu2 : u < 10000 := by omega
      have h7 := seven_next h u hu2
      have hc : impl_CheckLetter.f k (s.extract 0 3 ++ tx (dig4 u)) = some (strOfNums [chk (nextT (s.extract 0 3) u)], true) := by
        unfold impl_CheckLetter.f
        rw [show s.extract 0 3 ++ tx (dig4 u) = nextT (s.extract 0 3) u from rfl, impl_check _ k (by omega), if_pos h7]
        rfl
      rw [if_neg h9, if_pos ⟨h, h9⟩, hu, padded_ends u hu2 k (by omega), Option.bind_some, if_pos (by rw [tx_size]; show 4 ≤ 1000; decide), hc, Option.bind_some, if_pos (by show 1 ≤ 1000; decide), Int.toNat_natCast]
      rfl
  · rw [if_neg h, if_neg (by rintro ⟨h2, _⟩; exact h h2)]
end Go.Proofs.YtnifjoobkojgiaaDoor.X
/- What the reference's drawing of inputs answers: it always ends, within its bounds. -/
namespace Go.Proofs.YtnifjoobkojgiaaDoor.X
open Go.RowKit Go.Proofs.YtnifjoobkojgiaaDoorW.PrintWords Go.Proofs.YtnifjoobkojgiaaDoorW.PrintLast
set_option linter.unusedVariables false
set_option linter.unusedSimpArgs false
/-- The bytes of a code. -/
def Byt (l : List Int) : Prop := l.length ≤ 1000000 ∧ ∀ x ∈ l, 0 ≤ x ∧ x ≤ 255
/-- A cursor's place: not behind m. -/
def At (m a : Int) : Prop := 0 ≤ a ∧ a ≤ m
theorem At.up {m n a : Int} (h : At m a) (hm : m ≤ n) : At n a := ⟨h.1, Int.le_trans h.2 hm⟩
theorem byt_rd {l : List Int} (hl : Byt l) (a : Int) (h0 : 0 ≤ a) (h1 : a < (l.length : Int)) : 0 ≤ rd l a ∧ rd l a ≤ 255 := by
  obtain ⟨n, rfl⟩ : ∃ n : Nat, a = n := ⟨a.toNat, by omega⟩
  rw [rd_nat]
  exact hl.2 _ (getD_mem (by omega))
theorem low_byte (z : Int) : 0 ≤ wrap64 (Go.bits .and .u64 (IntKind.u64.wrap z / 1099511627776) 255) ∧ wrap64 (Go.bits .and .u64 (IntKind.u64.wrap z / 1099511627776) 255) ≤ 255 := by
  rw [IntKind.wrap_u64]
  have h0 : 0 ≤ z % 18446744073709551616 / 1099511627776 := by omega
  have h1 : z % 18446744073709551616 / 1099511627776 < 18446744073709551616 := by omega
  rw [u64_and _ _ h0 h1 (by decide) (by decide)]
  have hle : ((z % 18446744073709551616 / 1099511627776).toNat &&& (255 : Int).toNat) ≤ 255 := Nat.and_le_right
  generalize ((z % 18446744073709551616 / 1099511627776).toNat &&& (255 : Int).toNat) = q at hle
  rw [w64 (by omega) (by omega)]
  omega
theorem next_ok {l : List Int} (hl : Byt l) {m a : Int} (ha : At m a) (hm : m ≤ 1000000000000) (s : Int) : ∃ v a' s', spec_l1Cur_next.f l a s = some (v, a', s') ∧ (0 ≤ v ∧ v ≤ 255) ∧ At (m + 1) a' := by
  obtain ⟨h0, h1⟩ := ha
  have hw : wrap64 (a + 1) = a + 1 := w64 (by omega) (by omega)
  have h2 : At (m + 1) (a + 1) := ⟨by omega, by omega⟩
  unfold spec_l1Cur_next.f
  rw [hw]
  by_cases h : a < (l.length : Int)
  · obtain ⟨r0, r1⟩ := byt_rd hl a h0 h
    rw [if_pos h, if_pos h0, if_pos (by omega)]
    exact ⟨_, _, _, rfl, by rw [w64 (by omega) (by omega)]; exact ⟨r0, r1⟩, h2⟩
  · rw [if_neg h, if_neg (by omega)]
    exact ⟨_, _, _, rfl, low_byte _, h2⟩
theorem pick_ok {l : List Int} (hl : Byt l) {m a : Int} (ha : At m a) (hm : m ≤ 100000000000) (s n : Int) : ∃ v a' s', spec_l1Cur_pick.f l a s n = some (v, a', s') ∧ (0 ≤ v ∧ v ≤ 65535 ∧ (1 ≤ n → v < n)) ∧ At (m + 2) a' := by
  unfold spec_l1Cur_pick.f
  by_cases h : n ≤ 1
  · rw [if_pos h]
    exact ⟨_, _, _, rfl, ⟨by omega, by omega, by omega⟩, ha.up (by omega)⟩
  · rw [if_neg h]
    obtain ⟨v, a1, s1, e1, hv, ha1⟩ := next_ok hl ha (by omega) s
    rw [e1, Option.bind_some]
    have hn0 : ¬ n = 0 := by omega
    by_cases h2 : n > 200
    · rw [if_pos h2]
      obtain ⟨v2, a2, s2, e2, hv2, ha2⟩ := next_ok hl ha1 (by omega) s1
      rw [e2, Option.bind_some, if_neg hn0]
      refine ⟨_, _, _, rfl, ?_, ha2.up (by omega)⟩
      rw [w64 (x := v * 256) (by omega) (by omega), w64 (by omega) (by omega)]
      rw [Int.tmod_eq_emod_of_nonneg (by omega)]
      show 0 ≤ (v * 256 + v2) % n ∧ (v * 256 + v2) % n ≤ 65535 ∧ (1 ≤ n → (v * 256 + v2) % n < n)
      have b1 := Int.emod_nonneg (v * 256 + v2) hn0
      have b2 := Int.emod_lt_of_pos (v * 256 + v2) (b := n) (by omega)
      have b3 : (v * 256 + v2) % n ≤ v * 256 + v2 := by
        by_cases hq : v * 256 + v2 < n
        · rw [Int.emod_eq_of_lt (by omega) hq]; exact Int.le_refl _
        · omega
      exact ⟨b1, by omega, fun _ => b2⟩
    · rw [if_neg h2, if_neg hn0]
      refine ⟨_, _, _, rfl, ?_, ha1.up (by omega)⟩
      show 0 ≤ Int.tmod v n ∧ Int.tmod v n ≤ 65535 ∧ (1 ≤ n → Int.tmod v n < n)
      rw [Int.tmod_eq_emod_of_nonneg hv.1]
      have b1 := Int.emod_nonneg v hn0
      have b2 := Int.emod_lt_of_pos v (b := n) (by omega)
      exact ⟨b1, by omega, fun _ => b2⟩
theorem one_ok {l : List Int} (hl : Byt l) {m a : Int} (ha : At m a) (hm : m ≤ 100000000000) (s n : Int) : ∃ v a' s', spec_l1Cur_one.f l a s n = some (v, a', s') ∧ At (m + 2) a' := by
  obtain ⟨v, a1, s1, e1, _, ha1⟩ := pick_ok hl ha hm s n
  exact ⟨_, _, _, by unfold spec_l1Cur_one.f; rw [e1, Option.bind_some], ha1⟩
theorem of_ok {l : List Int} (hl : Byt l) {m a : Int} (ha : At m a) (hm : m ≤ 100000000000) (s : Int) (xs : List ByteArray) (hx : 1 ≤ xs.length) (P : ByteArray → Prop) (hP : ∀ x ∈ xs, P x) : ∃ v a' s', spec_l1Cur_of.f l a s xs = some (v, a', s') ∧ P v ∧ At (m + 2) a' := by
  obtain ⟨v, a1, s1, e1, hv, ha1⟩ := pick_ok hl ha hm s (xs.length : Int)
  refine ⟨_, _, _, by unfold spec_l1Cur_of.f; rw [e1, Option.bind_some, if_pos hv.1, if_pos (hv.2.2 (by omega))], ?_, ha1⟩
  have := hv.2.2 (by omega)
  exact hP _ (getD_mem (by omega))
theorem among_ok {l : List Int} (hl : Byt l) {m a : Int} (ha : At m a) (hm : m ≤ 100000000000) (s : Int) (xs : List Int) (hx : 1 ≤ xs.length) (P : Int → Prop) (hP : ∀ x ∈ xs, P x) : ∃ v a' s', spec_l1Cur_among.f l a s xs = some (v, a', s') ∧ P v ∧ At (m + 2) a' := by
  obtain ⟨v, a1, s1, e1, hv, ha1⟩ := pick_ok hl ha hm s (xs.length : Int)
  refine ⟨_, _, _, by unfold spec_l1Cur_among.f; rw [e1, Option.bind_some, if_pos hv.1, if_pos (hv.2.2 (by omega))], ?_, ha1⟩
  have := hv.2.2 (by omega)
  exact hP _ (getD_mem (by omega))
theorem spoilt_ok {l : List Int} (hl : Byt l) {m a : Int} (ha : At m a) (hm : m ≤ 1000000000) (s : Int) (t w : ByteArray) (hw : 1 ≤ w.size) (ht : t.size ≤ 1000000000) (hws : w.size ≤ 1000000) : ∃ v a' s', spec_l1Cur_spoilt.f l a s t w = some (v, a', s') ∧ v.size ≤ t.size + 1 ∧ At (m + 6) a' := by
  unfold spec_l1Cur_spoilt.f
  by_cases h : t.toList = ([] : List UInt8)
  · rw [if_pos h, if_pos hw]
    exact ⟨_, _, _, rfl, by rw [ByteArray.size_extract]; omega, ha.up (by omega)⟩
  · rw [if_neg h]
    have hpos : 1 ≤ t.size := by
      rcases Nat.eq_zero_or_pos t.size with h0 | h0
      · refine absurd ?_ h
        obtain ⟨d⟩ := t
        have : d.size = 0 := h0
        obtain rfl : d = #[] := Array.eq_empty_of_size_eq_zero this
        unfold ByteArray.toList ByteArray.toList.loop
        rfl
      · exact h0
    obtain ⟨i, a1, s1, e1, hi, ha1⟩ := pick_ok hl ha (by omega) s (t.size : Int)
    obtain ⟨j, a2, s2, e2, hj, ha2⟩ := pick_ok hl ha1 (by omega) s1 (w.size : Int)
    obtain ⟨c, a3, s3, e3, hc, ha3⟩ := pick_ok hl ha2 (by omega) s2 3
    have hj1 := hj.2.2 (by omega)
    have hi1 := hi.2.2 (by omega)
    rw [e1, Option.bind_some]
    simp only
    rw [e2, Option.bind_some]
    simp only
    rw [e3, Option.bind_some]
    simp only
    rw [if_pos ⟨⟨hi.1, hi1⟩, ⟨hj.1, hj1⟩, by omega, by omega⟩]
    refine ⟨_, _, _, rfl, ?_, ha3.up (by omega)⟩
    unfold spT spB
    split
    · simp only [ByteArray.size_append, ByteArray.size_extract]; omega
    · split
      · simp only [ByteArray.size_append, ByteArray.size_extract]; omega
      · simp only [ByteArray.size_append, ByteArray.size_extract]; omega
theorem any1_ok {l : List Int} (hl : Byt l) {m a : Int} (ha : At m a) (hm : m ≤ 100000000000) (s : Int) : ∃ v a' s', spec_l1Cur_any1.f l a s = some (v, a', s') ∧ v.size ≤ 10 ∧ At (m + 2) a' := by
  unfold spec_l1Cur_any1.f
  obtain ⟨v, a1, s1, e1, hv, ha1⟩ := of_ok hl ha hm s ([(⟨#[]⟩ : ByteArray), (⟨#[97]⟩ : ByteArray), (⟨#[97, 44, 98]⟩ : ByteArray), (⟨#[115, 111, 109, 101, 32, 119, 111, 114, 100, 115]⟩ : ByteArray), (⟨#[120, 35, 121]⟩ : ByteArray), (⟨#[45, 49, 50]⟩ : ByteArray), (⟨#[0, 255]⟩ : ByteArray), (⟨#[44, 44]⟩ : ByteArray), (⟨#[48]⟩ : ByteArray)] : List ByteArray) (by decide) (fun x => x.size ≤ 10) (by decide)
  rw [e1, Option.bind_some]
  exact ⟨_, _, _, rfl, hv, ha1⟩
end Go.Proofs.YtnifjoobkojgiaaDoor.X
/- Drawing identifiers: it always ends, with a text of at most nine bytes. -/
namespace Go.Proofs.YtnifjoobkojgiaaDoor.X
open Go.RowKit Go.Proofs.YtnifjoobkojgiaaDoorW.PrintWords Go.Proofs.YtnifjoobkojgiaaDoorW.PrintLast
set_option linter.unusedVariables false
set_option linter.unusedSimpArgs false
/-- Three letters: whatever number follows, it is an identifier. -/
def Letters (L : ByteArray) : Prop := L.size = 3 ∧ ∀ u, u < 10000 → sevenB (nextT L u) = true
theorem letters_of (s : ByteArray) (h : idB s = true) : Letters (s.extract 0 3) := by
  refine ⟨?_, fun u hu => seven_next h u hu⟩
  obtain ⟨h8, _⟩ := id_bytes h
  rw [ByteArray.size_extract]; omega
theorem l_ABC : Letters (⟨#[65, 66, 67]⟩ : ByteArray) := letters_of ⟨#[65, 66, 67, 48, 48, 48, 48, 85]⟩ (by decide +kernel)
theorem l_XYZ : Letters (⟨#[88, 89, 90]⟩ : ByteArray) := letters_of ⟨#[88, 89, 90, 48, 48, 48, 48, 85]⟩ (by decide +kernel)
theorem l_SEA : Letters (⟨#[83, 69, 65]⟩ : ByteArray) := letters_of ⟨#[83, 69, 65, 48, 48, 48, 48, 76]⟩ (by decide +kernel)
theorem l_ZZZ : Letters (⟨#[90, 90, 90]⟩ : ByteArray) := letters_of ⟨#[90, 90, 90, 48, 48, 48, 48, 69]⟩ (by decide +kernel)
theorem l_QQQ : Letters (⟨#[81, 81, 81]⟩ : ByteArray) := letters_of ⟨#[81, 81, 81, 48, 48, 48, 48, 80]⟩ (by decide +kernel)
theorem l_MAX : Letters (⟨#[77, 65, 88]⟩ : ByteArray) := letters_of ⟨#[77, 65, 88, 48, 48, 48, 48, 75]⟩ (by decide +kernel)
theorem number_ok {L : ByteArray} (h : Letters L) (n : Int) (h0 : 0 ≤ n) (h1 : n < 10000) (k : Nat) (hk : 20 ≤ k) : ∃ v, spec_l2Number.f k L n = some v ∧ v.size = 8 := by
  obtain ⟨u, rfl⟩ : ∃ u : Nat, n = u := ⟨n.toNat, by omega⟩
  refine ⟨_, number_ends L u h.1 (by omega) (h.2 u (by omega)) k hk, ?_⟩
  unfold nextT
  rw [ByteArray.size_append, ByteArray.size_append, h.1]
  rfl
theorem id_ok {l : List Int} (hl : Byt l) {m a : Int} (ha : At m a) (hm : m ≤ 1000000000) (s : Int) (k : Nat) (hk : 20 ≤ k) : ∃ v a' s', spec_l1Cur_id.f k l a s = some (v, a', s') ∧ v.size = 8 ∧ At (m + 6) a' := by
  unfold spec_l1Cur_id.f
  obtain ⟨L, a1, s1, e1, hL, ha1⟩ := of_ok hl ha (by omega) s ([(⟨#[65, 66, 67]⟩ : ByteArray), (⟨#[88, 89, 90]⟩ : ByteArray), (⟨#[83, 69, 65]⟩ : ByteArray), (⟨#[90, 90, 90]⟩ : ByteArray)] : List ByteArray) (by decide) Letters
    (by intro x hx; simp only [List.mem_cons, List.not_mem_nil, or_false] at hx; rcases hx with rfl | rfl | rfl | rfl; exact l_ABC; exact l_XYZ; exact l_SEA; exact l_ZZZ)
  rw [e1, Option.bind_some]
  obtain ⟨x, a2, s2, e2, hx, ha2⟩ := pick_ok hl ha1 (by omega) s1 200
  simp only
  rw [e2, Option.bind_some]
  obtain ⟨y, a3, s3, e3, hy, ha3⟩ := among_ok hl ha2 (by omega) s2 ([1, 7, 50] : List Int) (by decide) (fun y => 1 ≤ y ∧ y ≤ 50) (by decide)
  simp only
  rw [e3, Option.bind_some]
  have hx2 := hx.2.2 (by omega)
  have hx0 := hx.1
  have hp : 0 ≤ x * y ∧ x * y < 10000 := by
    refine ⟨Int.mul_nonneg hx0 (by omega), ?_⟩
    have : x * y ≤ 199 * 50 := Int.mul_le_mul (by omega) hy.2 (by omega) (by omega)
    omega
  obtain ⟨v, ev, hv⟩ := number_ok hL (x * y) hp.1 hp.2 k hk
  simp only
  rw [w64 (by omega) (by omega), ev, Option.bind_some]
  exact ⟨_, _, _, rfl, hv, ha3.up (by omega)⟩
theorem anyId_ok {l : List Int} (hl : Byt l) {m a : Int} (ha : At m a) (hm : m ≤ 100000000) (s : Int) (k : Nat) (hk : 21 ≤ k) : ∃ v a' s', spec_l1Cur_anyId.f k l a s = some (v, a', s') ∧ v.size ≤ 9 ∧ At (m + 16) a' := by
  have key : ∀ (x : ByteArray) (a s : Int), x.size ≤ 9 → At (m + 14) a → ∃ v a' s', spec_l1Cur_anyId.j0 k x l a s = some (v, a', s') ∧ v.size ≤ 9 ∧ At (m + 16) a' := by
    intro x a s hx ha
    obtain ⟨k, rfl⟩ := kpos (d := 0) (k := k) (by omega)
    obtain ⟨b, a1, s1, e1, ha1⟩ := one_ok hl ha (by omega) s 24
    simp only [spec_l1Cur_anyId.j0]
    rw [e1, Option.bind_some]
    simp only
    by_cases hb : b = true
    · obtain ⟨v, ev, hv⟩ := number_ok l_QQQ 9999 (by decide) (by decide) k (by omega)
      rw [if_pos hb, ev, Option.bind_some]
      exact ⟨_, _, _, rfl, by omega, ha1.up (by omega)⟩
    · rw [if_neg hb]
      exact ⟨_, _, _, rfl, hx, ha1.up (by omega)⟩
  unfold spec_l1Cur_anyId.f
  obtain ⟨i, a1, s1, e1, hi, ha1⟩ := id_ok hl ha (by omega) s k (by omega)
  rw [e1, Option.bind_some]
  simp only
  obtain ⟨b, a2, s2, e2, ha2⟩ := one_ok hl ha1 (by omega) s1 8
  rw [e2, Option.bind_some]
  simp only
  by_cases hb : b = true
  · obtain ⟨v, a3, s3, e3, hv, ha3⟩ := spoilt_ok hl ha2 (by omega) s2 i (⟨#[65, 48, 66, 49]⟩ : ByteArray) (by decide) (by omega) (by decide)
    rw [if_pos hb, e3, Option.bind_some]
    exact key _ _ _ (by simp only; omega) (ha3.up (by omega))
  · rw [if_neg hb]
    exact key _ _ _ (by omega) (ha2.up (by omega))
end Go.Proofs.YtnifjoobkojgiaaDoor.X
namespace Go.Proofs.YtnifjoobkojgiaaDoor.Pure
open Go.RowKit Go.Proofs.YtnifjoobkojgiaaDoor.X Go.Proofs.YtnifjoobkojgiaaDoorW.PrintWords Go.Proofs.YtnifjoobkojgiaaDoorW.PrintLast
set_option linter.unusedVariables false
set_option linter.unusedSimpArgs false
theorem chk_range (s : ByteArray) : 65 ≤ chk s ∧ chk s ≤ 87 := by
  unfold chk
  omega
theorem one_size (c : Int) : (strOfNums [c]).size = 1 := rfl
theorem bs_one (c : Int) (h0 : 0 ≤ c) (h1 : c ≤ 255) : bs (strOfNums [c]) = [UInt8.ofNat c.toNat] := by
  obtain ⟨n, rfl⟩ : ∃ n : Nat, c = n := ⟨c.toNat, by omega⟩
  rfl
theorem bs_app (a b : ByteArray) : bs (a ++ b) = bs a ++ bs b := by simp [bs]
theorem seal_id {s : ByteArray} (h : sevenB s = true) : idB (s ++ strOfNums [chk s]) = true := by
  have hz := (seven_bytes h).1
  have hc := chk_range s
  have hcut : (s ++ strOfNums [chk s]).extract 0 7 = s := by
    apply bs_inj
    rw [bs_extract, List.drop_zero, bs_app, List.take_append_of_le_length (by rw [bs_length]; omega), List.take_of_length_le (by rw [bs_length]; omega)]
  unfold idB
  rw [hcut, h]
  have h7 : bt (s ++ strOfNums [chk s]) 7 = chk s := by
    have := bt_list (s ++ strOfNums [chk s]) 7 (by rw [ByteArray.size_append, one_size]; omega)
    rw [show ((7 : Nat) : Int) = 7 from rfl] at this
    rw [this, bs_app, bs_one _ (by omega) (by omega), List.getD_eq_getElem?_getD, List.getElem?_append_right (by rw [bs_length]; omega), bs_length, hz]
    show ((UInt8.ofNat (chk s).toNat).toNat : Int) = chk s
    rw [UInt8.toNat_ofNat']
    omega
  rw [h7]
  simp [ByteArray.size_append, one_size, hz]
theorem id_no {s : ByteArray} (h : ¬ s.size = 8) : idB s = false := by
  unfold idB
  simp [h]
def ckR (s : ByteArray) : ByteArray × Bool := if sevenB s = true then (strOfNums [chk s], true) else (⟨#[]⟩, false)
theorem spec_ck (s : ByteArray) (k : Nat) (hk : 15 ≤ k) : spec_CheckLetter.f k s = some (ckR s) := by
  unfold spec_CheckLetter.f ckR
  rw [spec_seven s k (by omega), Option.bind_some]
  by_cases h : sevenB s = true
  · rw [if_pos h, if_pos h, spec_check s k (by omega) h, Option.bind_some]
  · rw [if_neg h, if_neg h]
theorem impl_ck (s : ByteArray) (k : Nat) (hk : 15 ≤ k) : impl_CheckLetter.f k s = some (ckR s) := by
  unfold impl_CheckLetter.f ckR
  rw [impl_check s k hk, Option.bind_some]
  by_cases h : sevenB s = true
  · rw [if_pos h, if_pos rfl, if_pos h]
  · rw [if_neg h, if_neg (by decide), if_neg h]
theorem less_dig {a b c d a' b' c' d' : Nat} (ha : a < 10) (hb : b < 10) (hc : c < 10) (hd : d < 10) (ha' : a' < 10) (hb' : b' < 10) (hc' : c' < 10) (hd' : d' < 10) (h : 1000 * a + 100 * b + 10 * c + d + 1 = 1000 * a' + 100 * b' + 10 * c' + d') :
    Op.bytesLess [dg a, dg b, dg c, dg d] [dg a', dg b', dg c', dg d'] = true := by
  have lt : ∀ x y, x < 10 → y < 10 → (decide (dg x < dg y) = decide (x < y)) := by
    intro x y hx hy
    rw [Bool.eq_iff_iff, decide_eq_true_eq, decide_eq_true_eq, UInt8.lt_iff_toNat_lt, dg_toNat x hx, dg_toNat y hy]
    omega
  have eq : ∀ x y, x < 10 → y < 10 → ((dg x == dg y) = decide (x = y)) := by
    intro x y hx hy
    rw [Bool.eq_iff_iff, beq_iff_eq, decide_eq_true_eq, ← UInt8.toNat_inj, dg_toNat x hx, dg_toNat y hy]
    omega
  simp only [Op.bytesLess, lt _ _ ha ha', lt _ _ hb hb', lt _ _ hc hc', lt _ _ hd hd', eq _ _ ha ha', eq _ _ hb hb', eq _ _ hc hc', eq _ _ hd hd', Bool.or_eq_true, Bool.and_eq_true, decide_eq_true_eq, Bool.false_eq_true, or_false, and_false]
  omega
theorem next_less {s : ByteArray} (h : idB s = true) (h9 : ¬ (s.extract 3 7).toList = ([57, 57, 57, 57] : List UInt8)) : Op.bytesLess (s.extract 3 7).toList (dig4 (numQ (s.extract 3 7) 4 + 1).toNat) = true := by
  have hq := digQ_id h
  have hn := nines _ hq h9
  obtain ⟨n0, _⟩ := numQ_range _ hq 4 (Nat.le_refl _)
  generalize s.extract 3 7 = q at *
  unfold digQ at hq
  rw [Bool.and_eq_true, decide_eq_true_eq, List.all_eq_true] at hq
  obtain ⟨hz, ha⟩ := hq
  have hl : (bs q).length = 4 := by rw [bs_length]; exact hz
  rw [ByteArray.toList_eq]
  match hb : bs q, hl with
  | [a, b, c, d], _ =>
    rw [hb] at ha
    have a1 := ha a (by simp)
    have a2 := ha b (by simp)
    have a3 := ha c (by simp)
    have a4 := ha d (by simp)
    simp only [decide_eq_true_eq] at a1 a2 a3 a4
    have e : numQ q 4 = 10 * (10 * (10 * (10 * 0 + ((a.toNat : Int) - 48)) + ((b.toNat : Int) - 48)) + ((c.toNat : Int) - 48)) + ((d.toNat : Int) - 48) := by
      simp only [numQ, hb]
      rfl
    rw [show q.data.toList = bs q from rfl, hb]
    have un : ∀ x : UInt8, 48 ≤ x.toNat → x = dg (x.toNat - 48) := by
      intro x hx
      unfold dg
      rw [show 48 + (x.toNat - 48) = x.toNat by omega, UInt8.ofNat_toNat]
    rw [un a a1.1, un b a2.1, un c a3.1, un d a4.1]
    unfold dig4
    refine less_dig (by omega) (by omega) (by omega) (by omega) (by omega) (by omega) (by omega) (by omega) ?_
    omega
theorem next_sem {s : ByteArray} (h : idB s = true) (h9 : ¬ (s.extract 3 7).toList = ([57, 57, 57, 57] : List UInt8)) (R : ByteArray) (hR : R = nextT (s.extract 0 3) (numQ (s.extract 3 7) 4 + 1).toNat ++ strOfNums [chk (nextT (s.extract 0 3) (numQ (s.extract 3 7) 4 + 1).toNat)]) :
    idB R = true ∧ R.size = 8 ∧ R.extract 0 3 = s.extract 0 3 ∧ Op.bytesLess (s.extract 3 7).toList (R.extract 3 7).toList = true := by
  have hl := next_less h h9
  have hn := nines _ (digQ_id h) h9
  obtain ⟨n0, _⟩ := numQ_range _ (digQ_id h) 4 (Nat.le_refl _)
  have hu : (numQ (s.extract 3 7) 4 + 1).toNat < 10000 := by omega
  have h7 := seven_next h _ hu
  have h8 := (id_bytes h).1
  generalize (numQ (s.extract 3 7) 4 + 1).toNat = u at *
  have hid := seal_id h7
  rw [← hR] at hid
  have hz3 : (s.extract 0 3).size = 3 := by rw [ByteArray.size_extract]; omega
  have hb : bs R = bs (s.extract 0 3) ++ (dig4 u ++ bs (strOfNums [chk (nextT (s.extract 0 3) u)])) := by
    rw [hR, bs_app]
    unfold nextT
    rw [bs_app, List.append_assoc]
    rfl
  have hl3 : (bs (s.extract 0 3)).length = 3 := by rw [bs_length]; exact hz3
  refine ⟨hid, (id_bytes hid).1, ?_, ?_⟩
  · apply bs_inj
    rw [bs_extract, List.drop_zero, hb, List.take_append_of_le_length (by omega), List.take_of_length_le (by omega)]
  · have e : (R.extract 3 7).toList = dig4 u := by
      rw [ByteArray.toList_eq, show (R.extract 3 7).data.toList = bs (R.extract 3 7) from rfl, bs_extract, hb, List.take_append, List.drop_append, hl3, List.take_of_length_le (by omega), List.drop_of_length_le (by rw [hl3]; omega), List.nil_append, hl3]
      rfl
    rw [e]
    exact hl
theorem draw_letter {l : List Int} (hl : Byt l) (k : Nat) (hk : 20 ≤ k) : ∃ s, spec_DrawCheckLetter.f k l = some s ∧ s.size ≤ 8 := by
  unfold spec_DrawCheckLetter.f
  obtain ⟨i, a1, s1, e1, hi, ha1⟩ := id_ok hl (show At 0 0 from ⟨by decide, by decide⟩) (by decide) 0 k hk
  rw [e1, Option.bind_some]
  simp only
  rw [if_pos (by decide), if_pos (by omega)]
  obtain ⟨b, a2, s2, e2, ha2⟩ := one_ok hl ha1 (by decide) s1 5
  rw [e2, Option.bind_some]
  simp only
  have hz : (i.extract 0 7).size = 7 := by rw [ByteArray.size_extract]; omega
  by_cases hb : b = true
  · obtain ⟨v, a3, s3, e3, hv, ha3⟩ := spoilt_ok hl ha2 (by decide) s2 (i.extract 0 7) (⟨#[97, 48, 90]⟩ : ByteArray) (by decide) (by omega) (by decide)
    rw [if_pos hb, e3, Option.bind_some]
    exact ⟨_, rfl, by simp only; omega⟩
  · rw [if_neg hb]
    exact ⟨_, rfl, by omega⟩
theorem draw_next {l : List Int} (hl : Byt l) (k : Nat) (hk : 21 ≤ k) : ∃ s, spec_DrawNextId.f k l = some s := by
  unfold spec_DrawNextId.f spec_DrawIsValidId.f
  obtain ⟨i, a1, s1, e1, hi, ha1⟩ := anyId_ok hl (show At 0 0 from ⟨by decide, by decide⟩) (by decide) 0 k hk
  rw [e1, Option.bind_some, Option.bind_some]
  exact ⟨_, rfl⟩
theorem j1_ends {l : List Int} (hl : Byt l) (k : Nat) (hk : 40 ≤ k) : laws_FnIdentifiers.j1 (k + 1) l false = some true := by
  obtain ⟨s, es⟩ := draw_next hl k (by omega)
  simp only [laws_FnIdentifiers.j1]
  rw [if_neg (by decide), es, Option.bind_some, impl_next s k hk, Option.bind_some, spec_next s k hk, Option.bind_some, if_pos rfl, if_neg (by simp)]
  unfold spec_IsValidId.f
  rw [impl_id s k (by omega), Option.bind_some, spec_id s k (by omega), Option.bind_some, Option.bind_some, if_neg (by simp)]
  by_cases h : idB s = true ∧ ¬ (s.extract 3 7).toList = ([57, 57, 57, 57] : List UInt8)
  · have e : nextR s = (nextT (s.extract 0 3) (numQ (s.extract 3 7) 4 + 1).toNat ++ strOfNums [chk (nextT (s.extract 0 3) (numQ (s.extract 3 7) 4 + 1).toNat)], true) := by unfold nextR; rw [if_pos h]
    obtain ⟨R, hR⟩ : ∃ R, R = nextT (s.extract 0 3) (numQ (s.extract 3 7) 4 + 1).toNat ++ strOfNums [chk (nextT (s.extract 0 3) (numQ (s.extract 3 7) 4 + 1).toNat)] := ⟨_, rfl⟩
    rw [← hR] at e
    obtain ⟨f1, f2, f3, f4⟩ := next_sem h.1 h.2 R hR
    have h8 := (id_bytes h.1).1
    rw [e]
    simp only
    rw [if_pos trivial, impl_id R k (by omega), f1, Option.bind_some, if_pos rfl, if_pos (by omega), if_pos (by decide), if_pos (by omega), if_pos (by omega), f3, if_pos rfl, if_pos (by decide), if_pos (by omega), if_pos (by omega), f4]
  · have e : nextR s = (⟨#[]⟩, false) := by unfold nextR; rw [if_neg h]
    rw [e]
    simp only
    rw [if_neg (by decide)]
theorem FnIdentifiers : laws_FnIdentifiers.Pure := by
  intro l hl
  refine ⟨60, ?_⟩
  unfold laws_FnIdentifiers.f laws_vBig.f
  rw [Option.bind_some]
  by_cases h : (l.length : Int) > 65536
  · rw [if_pos (decide_eq_true h)]
  · rw [if_neg (by simpa using h)]
    have hb : Byt l := ⟨by omega, hl.2⟩
    obtain ⟨s, es, hs⟩ := draw_letter hb 60 (by omega)
    rw [es, Option.bind_some, impl_ck s 60 (by omega), Option.bind_some, spec_ck s 60 (by omega), Option.bind_some, if_pos rfl]
    simp only [bne_self_eq_false, laws_FnIdentifiers.j0, Bool.false_eq_true, if_false]
    unfold ckR
    by_cases h7 : sevenB s = true
    · have hz := (seven_bytes h7).1
      rw [if_pos h7]
      simp only [if_true]
      have e8 : (s ++ strOfNums [chk s]).size = 8 := by rw [ByteArray.size_append, one_size]; omega
      rw [if_pos (by rw [one_size]; omega), impl_id _ 59 (by omega), seal_id h7, Option.bind_some, if_pos rfl, impl_id s 59 (by omega), id_no (by omega), Option.bind_some, if_neg (by decide), if_pos (by rw [e8, one_size]; omega), impl_id _ 59 (by omega), id_no (by rw [ByteArray.size_append, e8, one_size]; omega), Option.bind_some]
      exact j1_ends hb 58 (by omega)
    · rw [if_neg h7]
      simp only [Bool.false_eq_true, if_false]
      exact j1_ends hb 58 (by omega)
end Go.Proofs.YtnifjoobkojgiaaDoor.Pure
