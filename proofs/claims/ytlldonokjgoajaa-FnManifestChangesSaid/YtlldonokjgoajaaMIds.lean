/- What the printed functions on identifiers come to: three capital letters, four digits, and the check letter of these. -/
import Derived.Test.YtlldonokjgoajaaMBase
import Derived.Test.YtlldonokjgoajaaFbIds
namespace Go.Proofs.Ytlldonokjgoajaa.X
open Go.RowKit Go.Proofs.YtlldonokjgoajaaW.PrintWords Go.Proofs.YtlldonokjgoajaaW.PrintLast
set_option linter.unusedVariables false
set_option linter.unusedSimpArgs false

/-- Byte i is one that an identifier has there: a capital letter at 0, 1, 2, a digit behind. -/
def OkAt (s : ByteArray) (i : Int) : Prop := if i < 3 then 65 ≤ bt s i ∧ bt s i ≤ 90 else 48 ≤ bt s i ∧ bt s i ≤ 57
instance (s : ByteArray) (i : Int) : Decidable (OkAt s i) := by unfold OkAt; infer_instance
/-- Are the last d of the seven bytes as they should be? -/
def okFrom (s : ByteArray) : Nat → Bool
  | 0 => true
  | d + 1 => decide (OkAt s (6 - (d : Int))) && okFrom s d
/-- What byte i counts for. -/
def valAt (s : ByteArray) (i : Int) : Int := if i < 3 then bt s i - 64 else bt s i - 48
/-- What the last d of the seven bytes add to the sum. -/
def addFrom (s : ByteArray) : Nat → Int
  | 0 => 0
  | d + 1 => (8 - (d : Int)) * valAt s (6 - (d : Int)) + addFrom s d
/-- Seven bytes of an identifier. -/
def sevenB (s : ByteArray) : Bool := decide (s.size = 7) && okFrom s 7
/-- The check letter. -/
def chk (s : ByteArray) : Int := 65 + addFrom s 7 % 23

theorem seven_loop (s : ByteArray) (hs : s.size = 7) (d : Nat) : ∀ (k : Nat) (i : Int), d ≤ 7 → i = 7 - (d : Int) → d < k → spec_l2Seven.l0 k s i = some (okFrom s d) := by
  induction d with
  | zero =>
    intro k i _ hi hk
    obtain ⟨k, rfl⟩ : ∃ m, k = m + 1 := ⟨k - 1, by omega⟩
    simp only [spec_l2Seven.l0]; rw [if_neg (by omega)]; rfl
  | succ d ih =>
    intro k i h7 hi hk
    obtain ⟨k, rfl⟩ : ∃ m, k = m + 1 := ⟨k - 1, by omega⟩
    have hn := ih k (i + 1) (by omega) (by omega) (by omega)
    have e6 : 6 - (d : Int) = i := by omega
    simp only [spec_l2Seven.l0, okFrom, e6]
    rw [w64 (x := i + 1) (by omega) (by omega), hn]
    rw [if_pos (show i < 7 by omega)]
    have hsz : i < (s.size : Int) := by omega
    have h0 : 0 ≤ i := by omega
    by_cases h3 : i < 3
    · rw [if_pos h3, if_pos h0, if_pos hsz]
      simp only [OkAt, if_pos h3]
      rw [if_neg (show ¬ i > 2 by omega)]
      split
      · simp; omega
      · split
        · simp; omega
        · rw [decide_eq_true (by omega)]; rfl
    · rw [if_neg h3, if_pos (show i > 2 by omega), if_pos h0, if_pos hsz]
      simp only [OkAt, if_neg h3]
      split
      · simp; omega
      · split
        · simp; omega
        · rw [decide_eq_true (by omega)]; rfl

theorem spec_seven (s : ByteArray) (k : Nat) (hk : 8 ≤ k) : spec_l2Seven.f k s = some (sevenB s) := by
  unfold spec_l2Seven.f sevenB
  by_cases hs : s.size = 7
  · rw [if_pos (by omega), seven_loop s hs 7 k 0 (by omega) (by omega) (by omega)]
    simp [hs]
  · rw [if_neg (by omega)]
    simp [hs]

theorem val_range (s : ByteArray) (i : Int) (h : OkAt s i) : 0 ≤ valAt s i ∧ valAt s i ≤ 30 := by
  unfold OkAt at h
  unfold valAt
  split
  · rename_i h3; rw [if_pos h3] at h; omega
  · rename_i h3; rw [if_neg h3] at h; omega

theorem mul_range (a v : Int) (ha : 0 ≤ a) (ha8 : a ≤ 8) (hv : 0 ≤ v) (hv30 : v ≤ 30) : 0 ≤ a * v ∧ a * v ≤ 240 := by
  refine ⟨Int.mul_nonneg ha hv, ?_⟩
  have h1 : a * v ≤ 8 * v := Int.mul_le_mul_of_nonneg_right ha8 hv
  omega

theorem check_loop (s : ByteArray) (hs : s.size = 7) (d : Nat) : ∀ (k : Nat) (a i : Int), d ≤ 7 → i = 7 - (d : Int) → d < k → okFrom s d = true → 0 ≤ a → a ≤ 240 * i →
    spec_l2Check.l0 k s a i = some (65 + (a + addFrom s d) % 23) := by
  induction d with
  | zero =>
    intro k a i _ hi hk _ h0 ha
    obtain ⟨k, rfl⟩ : ∃ m, k = m + 1 := ⟨k - 1, by omega⟩
    simp only [spec_l2Check.l0, addFrom]; rw [if_neg (by omega), Int.tmod_eq_emod_of_nonneg h0]
    congr 1; omega
  | succ d ih =>
    intro k a i h7 hi hk hok h0 ha
    obtain ⟨k, rfl⟩ : ∃ m, k = m + 1 := ⟨k - 1, by omega⟩
    have e6 : 6 - (d : Int) = i := by omega
    have e8 : 8 - (d : Int) = i + 2 := by omega
    simp only [okFrom, e6, Bool.and_eq_true, decide_eq_true_eq] at hok
    have hv := val_range s i hok.1
    have hm := mul_range (i + 2) (valAt s i) (by omega) (by omega) hv.1 hv.2
    have hb := bt_range s i
    have hn := ih k (a + (i + 2) * valAt s i) (i + 1) (by omega) (by omega) (by omega) hok.2 (by omega) (by omega)
    simp only [spec_l2Check.l0, addFrom, e6, e8]
    rw [← Int.add_assoc, ← hn]
    rw [if_pos (show i < 7 by omega), if_pos (show 0 ≤ i by omega), if_pos (show i < (s.size : Int) by omega)]
    rw [w64 (x := i + 1) (by omega) (by omega), w64 (x := i + 2) (by omega) (by omega), w64 (x := bt s i) (by omega) (by omega)]
    rw [w64 (x := bt s i - 65) (by omega) (by omega), w64 (x := bt s i - 65 + 1) (by omega) (by omega), w64 (x := bt s i - 48) (by omega) (by omega)]
    by_cases h3 : i < 3
    · rw [if_pos h3]
      simp only [valAt, if_pos h3] at hm ⊢
      rw [show bt s i - 65 + 1 = bt s i - 64 by omega, Int.mul_comm, w64 (x := (i + 2) * (bt s i - 64)) (by omega) (by omega), w64 (by omega) (by omega)]
    · rw [if_neg h3]
      simp only [valAt, if_neg h3] at hm ⊢
      rw [Int.mul_comm, w64 (x := (i + 2) * (bt s i - 48)) (by omega) (by omega), w64 (by omega) (by omega)]

theorem spec_check (s : ByteArray) (k : Nat) (hk : 8 ≤ k) (h : sevenB s = true) : spec_l2Check.f k s = some (chk s) := by
  unfold sevenB at h
  simp only [Bool.and_eq_true, decide_eq_true_eq] at h
  unfold spec_l2Check.f chk
  rw [check_loop s h.1 7 k 0 0 (by omega) (by omega) (by omega) h.2 (by omega) (by omega)]
  simp

theorem impl_check_loop (s : ByteArray) (hs : s.size = 7) (d : Nat) : ∀ (k : Nat) (a i : Int), d ≤ 7 → i = 7 - (d : Int) → 2 * d < k → 0 ≤ a → a ≤ 240 * i →
    impl_checkLetter.l0 k s a 7 i = some (if okFrom s d = true then (65 + (a + addFrom s d) % 23, true) else (0, false)) := by
  induction d with
  | zero =>
    intro k a i _ hi hk h0 ha
    obtain ⟨k, rfl⟩ : ∃ m, k = m + 1 := ⟨k - 1, by omega⟩
    simp only [impl_checkLetter.l0, addFrom, okFrom, if_true]; rw [if_neg (by omega), Int.tmod_eq_emod_of_nonneg h0, w64 (by omega) (by omega)]
    congr 2; omega
  | succ d ih =>
    intro k a i h7 hi hk h0 ha
    obtain ⟨k, rfl⟩ : ∃ m, k = m + 2 := ⟨k - 2, by omega⟩
    have e6 : 6 - (d : Int) = i := by omega
    have e8 : 8 - (d : Int) = i + 2 := by omega
    have hb := bt_range s i
    have hi0 : 0 ≤ i := by omega
    have hsz : i < (s.size : Int) := by omega
    simp only [okFrom, addFrom, e6, e8, Bool.and_eq_true, decide_eq_true_eq]
    rw [show k + 2 = (k + 1) + 1 from rfl]
    simp only [impl_checkLetter.l0]
    rw [if_pos (show i < 7 by omega), if_pos hi0, if_pos hsz]
    by_cases hok : OkAt s i
    · have hv := val_range s i hok
      have hm := mul_range (i + 2) (valAt s i) (by omega) (by omega) hv.1 hv.2
      have hn := ih k (a + (i + 2) * valAt s i) (i + 1) (by omega) (by omega) (by omega) (by omega) (by omega)
      simp only [hok, true_and]
      rw [← Int.add_assoc, ← hn]
      by_cases h3 : i < 3
      · simp only [OkAt, if_pos h3] at hok
        rw [if_pos h3, if_pos (show bt s i ≥ 65 by omega), decide_eq_true hok.2]
        simp only [impl_checkLetter.j1, if_true]
        simp only [valAt, if_pos h3] at hm ⊢
        rw [w64 (x := i + 2) (by omega) (by omega), show (bt s i - 65) % 256 + 1 = bt s i - 64 by omega, w64 (x := (i + 2) * (bt s i - 64)) (by omega) (by omega), w64 (x := i + 1) (by omega) (by omega), w64 (by omega) (by omega)]
      · simp only [OkAt, if_neg h3] at hok
        rw [if_neg h3]
        simp only [impl_checkLetter.j1]
        rw [if_neg (by decide), if_pos (show i ≥ 3 by omega), if_pos (show bt s i ≥ 48 by omega), if_pos (show bt s i ≤ 57 by omega)]
        simp only [valAt, if_neg h3] at hm ⊢
        rw [w64 (x := i + 2) (by omega) (by omega), show (bt s i - 48) % 256 = bt s i - 48 by omega, w64 (x := (i + 2) * (bt s i - 48)) (by omega) (by omega), w64 (x := i + 1) (by omega) (by omega), w64 (by omega) (by omega)]
    · simp only [hok, false_and, if_false]
      simp only [OkAt] at hok
      by_cases h3 : i < 3
      · rw [if_pos h3] at hok ⊢
        by_cases h65 : bt s i ≥ 65
        · rw [if_pos h65, decide_eq_false (by omega)]
          simp only [impl_checkLetter.j1]
          rw [if_neg (by decide), if_neg (show ¬ i ≥ 3 by omega)]
        · rw [if_neg h65]
          simp only [impl_checkLetter.j1]
          rw [if_neg (by decide), if_neg (show ¬ i ≥ 3 by omega)]
      · rw [if_neg h3] at hok ⊢
        simp only [impl_checkLetter.j1]
        rw [if_neg (by decide), if_pos (show i ≥ 3 by omega)]
        split
        · rw [if_neg (by omega)]
        · rfl

theorem impl_check (s : ByteArray) (k : Nat) (hk : 15 ≤ k) : impl_checkLetter.f k s = some (if sevenB s = true then (chk s, true) else (0, false)) := by
  unfold impl_checkLetter.f sevenB chk
  by_cases hs : s.size = 7
  · rw [if_pos (by omega), hs]
    rw [show (((7 : Nat) : Int)) = 7 from rfl, impl_check_loop s hs 7 k 0 0 (by omega) (by omega) (by omega) (by omega) (by omega)]
    simp
  · rw [if_neg (by omega)]
    simp [hs]

/-- Is it an identifier? -/
def idB (s : ByteArray) : Bool := decide (s.size = 8) && sevenB (s.extract 0 7) && decide (bt s 7 = chk (s.extract 0 7))

theorem spec_id (s : ByteArray) (k : Nat) (hk : 15 ≤ k) : spec_l2Id.f k s = some (idB s) := by
  unfold spec_l2Id.f idB
  by_cases hs : s.size = 8
  · rw [if_pos (by omega), if_pos (by omega), if_pos (by omega), spec_seven _ k (by omega)]
    simp only [Option.bind_some]
    by_cases h7 : sevenB (s.extract 0 7) = true
    · rw [if_pos h7, if_pos (by omega), spec_check _ k (by omega) h7]
      simp [hs, h7]
      rw [Bool.eq_iff_iff]; simp
    · rw [if_neg h7]
      simp [h7]
  · rw [if_neg (by omega)]
    simp [hs]

theorem impl_id (s : ByteArray) (k : Nat) (hk : 15 ≤ k) : impl_IsValidId.f k s = some (idB s) := by
  unfold impl_IsValidId.f idB
  by_cases hs : s.size = 8
  · rw [if_pos (by omega), if_pos (by omega), if_pos (by omega), impl_check _ k (by omega)]
    simp only [Option.bind_some]
    by_cases h7 : sevenB (s.extract 0 7) = true
    · rw [if_pos h7]
      simp only [if_true]
      rw [if_pos (by omega)]
      simp [hs, h7]
      rw [Bool.eq_iff_iff]; simp
    · rw [if_neg h7]
      simp [h7]
  · rw [if_neg (by omega)]
    simp [hs]

end Go.Proofs.Ytlldonokjgoajaa.X
