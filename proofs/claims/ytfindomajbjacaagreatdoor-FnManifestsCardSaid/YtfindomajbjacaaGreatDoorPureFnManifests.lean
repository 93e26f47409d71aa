/- The law FnManifests answers true for every code. No condition beyond the form's own. -/
import Derived.Test.YtfindomajbjacaaGreatDoorFlawsFnManifests
import Derived.Test.YtfindomajbjacaaGreatDoorOpen
import Derived.Test.YtfindomajbjacaaGreatDoorMBase
import Derived.Test.YtfindomajbjacaaGreatDoorFbIds
import Derived.Test.YtfindomajbjacaaGreatDoorMRange
import Derived.Test.YtfindomajbjacaaGreatDoorFbGoodA
import Derived.Test.YtfindomajbjacaaGreatDoorMNum
import Derived.Test.YtfindomajbjacaaGreatDoorGJoin
import Derived.Test.YtfindomajbjacaaGreatDoorFspecl4Text
import Derived.Test.YtfindomajbjacaaGreatDoorFbCText
import Derived.Lib.Join
import Derived.Test.YtfindomajbjacaaGreatDoorMBs
import Derived.Test.YtfindomajbjacaaGreatDoorFspecl1Split
import Derived.Lib.SplitLaws
import Derived.Lib.IndexLaws
import Derived.Test.YtfindomajbjacaaGreatDoorGSplit
import Derived.Test.YtfindomajbjacaaGreatDoorGParseInt
import Derived.Test.YtfindomajbjacaaGreatDoorFspecl1Read
import Derived.Lib.ItoaMem
import Derived.Test.YtfindomajbjacaaGreatDoorFspecl4Parse
import Derived.Test.YtfindomajbjacaaGreatDoorFimplParseContainer
import Derived.Test.YtfindomajbjacaaGreatDoorGindexOf
import Derived.Test.YtfindomajbjacaaGreatDoorFbGood
import Derived.Test.YtfindomajbjacaaGreatDoorGManifestText
import Derived.Test.YtfindomajbjacaaGreatDoorFbMan
import Derived.Test.YtfindomajbjacaaGreatDoorFspecl2Number
import Derived.Test.YtfindomajbjacaaGreatDoorGlinesOf
import Derived.Test.YtfindomajbjacaaGreatDoorFimplParseManifest
import Derived.Test.YtfindomajbjacaaGreatDoorFbCur
import Derived.Test.YtfindomajbjacaaGreatDoorGspoilt
import Derived.Laws.BitsAllLaws
import Derived.Laws.Bits64
import Derived.Test.YtfindomajbjacaaGreatDoorFspecl1Curid
import Derived.Test.YtfindomajbjacaaGreatDoorFspecl1CuranyId
import Derived.Test.YtfindomajbjacaaGreatDoorFspecl1Curcontainer
import Derived.Test.YtfindomajbjacaaGreatDoorFspecl1CuranyContainer
import Derived.Test.YtfindomajbjacaaGreatDoorFspecl1Curcontainers
-- Written by a program of ours (wip/bin/rows.py). Not trusted: Lean checks it.
namespace Go.Proofs.YtfindomajbjacaaGreatDoor.X
open Go.RowKit Go.Proofs.YtfindomajbjacaaGreatDoorW.PrintWords Go.Proofs.YtfindomajbjacaaGreatDoorW.PrintLast
/-- The law's one pure statement. -/
def laws_FnManifests.Pure : Prop := ∀ (l0 : (List Int)), (WL WU8) l0 → ∃ k, laws_FnManifests.f k l0 = some true
end Go.Proofs.YtfindomajbjacaaGreatDoor.X
/- What the printed functions on identifiers come to: three capital letters, four digits, and the check letter of these. -/
namespace Go.Proofs.YtfindomajbjacaaGreatDoor.X
open Go.RowKit Go.Proofs.YtfindomajbjacaaGreatDoorW.PrintWords Go.Proofs.YtfindomajbjacaaGreatDoorW.PrintLast
set_option linter.unusedVariables false
set_option linter.unusedSimpArgs false

/-- Byte i is one that an identifier has there: a capital letter at 0, 1, 2, a digit behind. -/
def OkAt (s : ByteArray) (i : Int) : Prop := if i < 3 then 65 ≤ bt s i ∧ bt s i ≤ 90 else 48 ≤ bt s i ∧ bt s i ≤ 57
instance (s : ByteArray) (i : Int) : Decidable (OkAt s i) := by unfold OkAt; infer_instance
/-- Are the last d of the seven bytes as they should be? -/
def okFrom (s : ByteArray) : Nat → Bool
  | 0 => true
  | d + 1 => decide (OkAt s (6 - (d : Int))) && okFrom s d
/-- What byte i counts for. -/
def valAt (s : ByteArray) (i : Int) : Int := if i < 3 then bt s i - 64 else bt s i - 48
/-- What the last d of the seven bytes add to the sum. -/
def addFrom (s : ByteArray) : Nat → Int
  | 0 => 0
  | d + 1 => (8 - (d : Int)) * valAt s (6 - (d : Int)) + addFrom s d
/-- Seven bytes of an identifier. -/
def sevenB (s : ByteArray) : Bool := decide (s.size = 7) && okFrom s 7
/-- The check letter. -/
def chk (s : ByteArray) : Int := 65 + addFrom s 7 % 23

theorem seven_loop (s : ByteArray) (hs : s.size = 7) (d : Nat) : ∀ (k : Nat) (i : Int), d ≤ 7 → i = 7 - (d : Int) → d < k → spec_l2Seven.l0 k s i = some (okFrom s d) := by
  induction d with
  | zero =>
    intro k i _ hi hk
    obtain ⟨k, rfl⟩ : ∃ m, k = m + 1 := ⟨k - 1, by omega⟩
    simp only [spec_l2Seven.l0]; rw [if_neg (by omega)]; rfl
  | succ d ih =>
    intro k i h7 hi hk
    obtain ⟨k, rfl⟩ : ∃ m, k = m + 1 := ⟨k - 1, by omega⟩
    have hn := ih k (i + 1) (by omega) (by omega) (by omega)
    have e6 : 6 - (d : Int) = i := by omega
    simp only [spec_l2Seven.l0, okFrom, e6]
    rw [w64 (x := i + 1) (by omega) (by omega), hn]
    rw [if_pos (show i < 7 by omega)]
    have hsz : i < (s.size : Int) := by omega
    have h0 : 0 ≤ i := by omega
    by_cases h3 : i < 3
    · rw [if_pos h3, if_pos h0, if_pos hsz]
      simp only [OkAt, if_pos h3]
      rw [if_neg (show ¬ i > 2 by omega)]
      split
      · simp; omega
      · split
        · simp; omega
        · rw [decide_eq_true (by omega)]; rfl
    · rw [if_neg h3, if_pos (show i > 2 by omega), if_pos h0, if_pos hsz]
      simp only [OkAt, if_neg h3]
      split
      · simp; omega
      · split
        · simp; omega
        · rw [decide_eq_true (by omega)]; rfl

theorem spec_seven (s : ByteArray) (k : Nat) (hk : 8 ≤ k) : spec_l2Seven.f k s = some (sevenB s) := by
  unfold spec_l2Seven.f sevenB
  by_cases hs : s.size = 7
  · rw [if_pos (by omega), seven_loop s hs 7 k 0 (by omega) (by omega) (by omega)]
    simp [hs]
  · rw [if_neg (by omega)]
    simp [hs]

theorem val_range (s : ByteArray) (i : Int) (h : OkAt s i) : 0 ≤ valAt s i ∧ valAt s i ≤ 30 := by
  unfold OkAt at h
  unfold valAt
  split
  · rename_i h3; rw [if_pos h3] at h; omega
  · rename_i h3; rw [if_neg h3] at h; omega

theorem mul_range (a v : Int) (ha : 0 ≤ a) (ha8 : a ≤ 8) (hv : 0 ≤ v) (hv30 : v ≤ 30) : 0 ≤ a * v ∧ a * v ≤ 240 := by
  refine ⟨Int.mul_nonneg ha hv, ?_⟩
  have h1 : a * v ≤ 8 * v := Int.mul_le_mul_of_nonneg_right ha8 hv
  omega

theorem check_loop (s : ByteArray) (hs : s.size = 7) (d : Nat) : ∀ (k : Nat) (a i : Int), d ≤ 7 → i = 7 - (d : Int) → d < k → okFrom s d = true → 0 ≤ a → a ≤ 240 * i →
    spec_l2Check.l0 k s a i = some (65 + (a + addFrom s d) % 23) := by
  induction d with
  | zero =>
    intro k a i _ hi hk _ h0 ha
    obtain ⟨k, rfl⟩ : ∃ m, k = m + 1 := ⟨k - 1, by omega⟩
    simp only [spec_l2Check.l0, addFrom]; rw [if_neg (by omega), Int.tmod_eq_emod_of_nonneg h0]
    congr 1; omega
  | succ d ih =>
    intro k a i h7 hi hk hok h0 ha
    obtain ⟨k, rfl⟩ : ∃ m, k = m + 1 := ⟨k - 1, by omega⟩
    have e6 : 6 - (d : Int) = i := by omega
    have e8 : 8 - (d : Int) = i + 2 := by omega
    simp only [okFrom, e6, Bool.and_eq_true, decide_eq_true_eq] at hok
    have hv := val_range s i hok.1
    have hm := mul_range (i + 2) (valAt s i) (by omega) (by omega) hv.1 hv.2
    have hb := bt_range s i
    have hn := ih k (a + (i + 2) * valAt s i) (i + 1) (by omega) (by omega) (by omega) hok.2 (by omega) (by omega)
    simp only [spec_l2Check.l0, addFrom, e6, e8]
    rw [← Int.add_assoc, ← hn]
    rw [if_pos (show i < 7 by omega), if_pos (show 0 ≤ i by omega), if_pos (show i < (s.size : Int) by omega)]
    rw [w64 (x := i + 1) (by omega) (by omega), w64 (x := i + 2) (by omega) (by omega), w64 (x := bt s i) (by omega) (by omega)]
    rw [w64 (x := bt s i - 65) (by omega) (by omega), w64 (x := bt s i - 65 + 1) (by omega) (by omega), w64 (x := bt s i - 48) (by omega) (by omega)]
    by_cases h3 : i < 3
    · rw [if_pos h3]
      simp only [valAt, if_pos h3] at hm ⊢
      rw [show bt s i - 65 + 1 = bt s i - 64 by omega, Int.mul_comm, w64 (x := (i + 2) * (bt s i - 64)) (by omega) (by omega), w64 (by omega) (by omega)]
    · rw [if_neg h3]
      simp only [valAt, if_neg h3] at hm ⊢
      rw [Int.mul_comm, w64 (x := (i + 2) * (bt s i - 48)) (by omega) (by omega), w64 (by omega) (by omega)]

theorem spec_check (s : ByteArray) (k : Nat) (hk : 8 ≤ k) (h : sevenB s = true) : spec_l2Check.f k s = some (chk s) := by
  unfold sevenB at h
  simp only [Bool.and_eq_true, decide_eq_true_eq] at h
  unfold spec_l2Check.f chk
  rw [check_loop s h.1 7 k 0 0 (by omega) (by omega) (by omega) h.2 (by omega) (by omega)]
  simp

theorem impl_check_loop (s : ByteArray) (hs : s.size = 7) (d : Nat) : ∀ (k : Nat) (a i : Int), d ≤ 7 → i = 7 - (d : Int) → 2 * d < k → 0 ≤ a → a ≤ 240 * i →
    impl_checkLetter.l0 k s a 7 i = some (if okFrom s d = true then (65 + (a + addFrom s d) % 23, true) else (0, false)) := by
  induction d with
  | zero =>
    intro k a i _ hi hk h0 ha
    obtain ⟨k, rfl⟩ : ∃ m, k = m + 1 := ⟨k - 1, by omega⟩
    simp only [impl_checkLetter.l0, addFrom, okFrom, if_true]; rw [if_neg (by omega), Int.tmod_eq_emod_of_nonneg h0, w64 (by omega) (by omega)]
    congr 2; omega
  | succ d ih =>
    intro k a i h7 hi hk h0 ha
    obtain ⟨k, rfl⟩ : ∃ m, k = m + 2 := ⟨k - 2, by omega⟩
    have e6 : 6 - (d : Int) = i := by omega
    have e8 : 8 - (d : Int) = i + 2 := by omega
    have hb := bt_range s i
    have hi0 : 0 ≤ i := by omega
    have hsz : i < (s.size : Int) := by omega
    simp only [okFrom, addFrom, e6, e8, Bool.and_eq_true, decide_eq_true_eq]
    rw [show k + 2 = (k + 1) + 1 from rfl]
    simp only [impl_checkLetter.l0]
    rw [if_pos (show i < 7 by omega), if_pos hi0, if_pos hsz]
    by_cases hok : OkAt s i
    · have hv := val_range s i hok
      have hm := mul_range (i + 2) (valAt s i) (by omega) (by omega) hv.1 hv.2
      have hn := ih k (a + (i + 2) * valAt s i) (i + 1) (by omega) (by omega) (by omega) (by omega) (by omega)
      simp only [hok, true_and]
      rw [← Int.add_assoc, ← hn]
      by_cases h3 : i < 3
      · simp only [OkAt, if_pos h3] at hok
        rw [if_pos h3, if_pos (show bt s i ≥ 65 by omega), decide_eq_true hok.2]
        simp only [impl_checkLetter.j1, if_true]
        simp only [valAt, if_pos h3] at hm ⊢
        rw [w64 (x := i + 2) (by omega) (by omega), show (bt s i - 65) % 256 + 1 = bt s i - 64 by omega, w64 (x := (i + 2) * (bt s i - 64)) (by omega) (by omega), w64 (x := i + 1) (by omega) (by omega), w64 (by omega) (by omega)]
      · simp only [OkAt, if_neg h3] at hok
        rw [if_neg h3]
        simp only [impl_checkLetter.j1]
        rw [if_neg (by decide), if_pos (show i ≥ 3 by omega), if_pos (show bt s i ≥ 48 by omega), if_pos (show bt s i ≤ 57 by omega)]
        simp only [valAt, if_neg h3] at hm ⊢
        rw [w64 (x := i + 2) (by omega) (by omega), show (bt s i - 48) % 256 = bt s i - 48 by omega, w64 (x := (i + 2) * (bt s i - 48)) (by omega) (by omega), w64 (x := i + 1) (by omega) (by omega), w64 (by omega) (by omega)]
    · simp only [hok, false_and, if_false]
      simp only [OkAt] at hok
      by_cases h3 : i < 3
      · rw [if_pos h3] at hok ⊢
        by_cases h65 : bt s i ≥ 65
        · rw [if_pos h65, decide_eq_false (by omega)]
          simp only [impl_checkLetter.j1]
          rw [if_neg (by decide), if_neg (show ¬ i ≥ 3 by omega)]
        · rw [if_neg h65]
          simp only [impl_checkLetter.j1]
          rw [if_neg (by decide), if_neg (show ¬ i ≥ 3 by omega)]
      · rw [if_neg h3] at hok ⊢
        simp only [impl_checkLetter.j1]
        rw [if_neg (by decide), if_pos (show i ≥ 3 by omega)]
        split
        · rw [if_neg (by omega)]
        · rfl

theorem impl_check (s : ByteArray) (k : Nat) (hk : 15 ≤ k) : impl_checkLetter.f k s = some (if sevenB s = true then (chk s, true) else (0, false)) := by
  unfold impl_checkLetter.f sevenB chk
  by_cases hs : s.size = 7
  · rw [if_pos (by omega), hs]
    rw [show (((7 : Nat) : Int)) = 7 from rfl, impl_check_loop s hs 7 k 0 0 (by omega) (by omega) (by omega) (by omega) (by omega)]
    simp
  · rw [if_neg (by omega)]
    simp [hs]

/-- Is it an identifier? -/
def idB (s : ByteArray) : Bool := decide (s.size = 8) && sevenB (s.extract 0 7) && decide (bt s 7 = chk (s.extract 0 7))

theorem spec_id (s : ByteArray) (k : Nat) (hk : 15 ≤ k) : spec_l2Id.f k s = some (idB s) := by
  unfold spec_l2Id.f idB
  by_cases hs : s.size = 8
  · rw [if_pos (by omega), if_pos (by omega), if_pos (by omega), spec_seven _ k (by omega)]
    simp only [Option.bind_some]
    by_cases h7 : sevenB (s.extract 0 7) = true
    · rw [if_pos h7, if_pos (by omega), spec_check _ k (by omega) h7]
      simp [hs, h7]
      rw [Bool.eq_iff_iff]; simp
    · rw [if_neg h7]
      simp [h7]
  · rw [if_neg (by omega)]
    simp [hs]

theorem impl_id (s : ByteArray) (k : Nat) (hk : 15 ≤ k) : impl_IsValidId.f k s = some (idB s) := by
  unfold impl_IsValidId.f idB
  by_cases hs : s.size = 8
  · rw [if_pos (by omega), if_pos (by omega), if_pos (by omega), impl_check _ k (by omega)]
    simp only [Option.bind_some]
    by_cases h7 : sevenB (s.extract 0 7) = true
    · rw [if_pos h7]
      simp only [if_true]
      rw [if_pos (by omega)]
      simp [hs, h7]
      rw [Bool.eq_iff_iff]; simp
    · rw [if_neg h7]
      simp [h7]
  · rw [if_neg (by omega)]
    simp [hs]

end Go.Proofs.YtfindomajbjacaaGreatDoor.X
/- Is a container valid: the program's IsValidContainer and the reference's l2Good. -/
namespace Go.Proofs.YtfindomajbjacaaGreatDoor.X
open Go.RowKit Go.Proofs.YtfindomajbjacaaGreatDoorW.PrintWords Go.Proofs.YtfindomajbjacaaGreatDoorW.PrintLast
set_option linter.unusedVariables false
set_option linter.unusedSimpArgs false
def goodB (id : ByteArray) (size weight cargo port : Int) : Bool := idB id && inB size 1 2 && inB weight 1 32000 && inB cargo 1 3 && inB port 1 9
theorem spec_good (a : ByteArray) (s w c p : Int) (k : Nat) (hk : 15 ≤ k) : spec_l2Good.f k a s w c p = some (goodB a s w c p) := by
  unfold spec_l2Good.f goodB
  rw [spec_id a k hk]
  simp only [l1In_ends, Option.bind_some]
  cases idB a <;> cases inB s 1 2 <;> cases inB w 1 32000 <;> cases inB c 1 3 <;> cases inB p 1 9 <;> rfl
theorem impl_good (a : ByteArray) (s w c p : Int) (k : Nat) (hk : 15 ≤ k) : impl_IsValidContainer.f k a s w c p = some (goodB a s w c p) := by
  unfold impl_IsValidContainer.f goodB
  rw [impl_id a k hk]
  simp only [within_ends, Option.bind_some]
  cases idB a <;> cases inB s 1 2 <;> cases inB w 1 32000 <;> cases inB c 1 3 <;> cases inB p 1 9 <;> rfl
end Go.Proofs.YtfindomajbjacaaGreatDoor.X
/- The text of a container: the reference's sums of texts, the program's join of five words. -/
namespace Go.Proofs.YtfindomajbjacaaGreatDoor.X
open Go.RowKit Go.Proofs.YtfindomajbjacaaGreatDoorW.PrintWords Go.Proofs.YtfindomajbjacaaGreatDoorW.PrintLast
set_option linter.unusedVariables false
set_option linter.unusedSimpArgs false
def spB : ByteArray := ⟨#[32]⟩
def szW (s : Int) : ByteArray := if s = 1 then ⟨#[115, 109, 97, 108, 108]⟩ else if s = 2 then ⟨#[108, 97, 114, 103, 101]⟩ else ⟨#[]⟩
def cgW (c : Int) : ByteArray := if c = 1 then ⟨#[112, 108, 97, 105, 110]⟩ else if c = 2 then ⟨#[114, 101, 101, 102, 101, 114]⟩ else if c = 3 then ⟨#[100, 97, 110, 103, 101, 114]⟩ else ⟨#[]⟩
theorem szW_size (s : Int) : (szW s).size ≤ 6 := by
  unfold szW
  split
  · decide
  · split <;> decide
theorem cgW_size (s : Int) : (cgW s).size ≤ 6 := by
  unfold cgW
  split
  · decide
  · split
    · decide
    · split <;> decide
theorem spB_size : spB.size = 1 := rfl
def contT (a : ByteArray) (s w c p : Int) : ByteArray := ((((((((a ++ spB) ++ szW s) ++ spB) ++ tx (Lib.itoa w)) ++ spB) ++ cgW c) ++ spB) ++ tx (Lib.itoa p))
theorem contT_size (a : ByteArray) (s w c p : Int) : (contT a s w c p).size = a.size + 1 + (szW s).size + 1 + (Lib.itoa w).length + 1 + (cgW c).size + 1 + (Lib.itoa p).length := by
  unfold contT
  simp only [ByteArray.size_append, spB_size, tx_size]
theorem rd_size (s : Int) (h0 : 1 ≤ s) (h1 : s ≤ 2) : rdOf ByteArray.empty ([(⟨#[]⟩ : ByteArray), (⟨#[115, 109, 97, 108, 108]⟩ : ByteArray), (⟨#[108, 97, 114, 103, 101]⟩ : ByteArray)] : List ByteArray) s = szW s := by
  obtain rfl | rfl : s = 1 ∨ s = 2 := by omega
  · rfl
  · rfl
theorem rd_cargo (s : Int) (h0 : 1 ≤ s) (h1 : s ≤ 3) : rdOf ByteArray.empty ([(⟨#[]⟩ : ByteArray), (⟨#[112, 108, 97, 105, 110]⟩ : ByteArray), (⟨#[114, 101, 101, 102, 101, 114]⟩ : ByteArray), (⟨#[100, 97, 110, 103, 101, 114]⟩ : ByteArray)] : List ByteArray) s = cgW s := by
  obtain rfl | rfl | rfl : s = 1 ∨ s = 2 ∨ s = 3 := by omega
  · rfl
  · rfl
  · rfl
theorem l4Text_ends (a : ByteArray) (s w c p : Int) (ha : a.size ≤ 1048576) (hs : 1 ≤ s ∧ s ≤ 2) (hw : -1000000000000 ≤ w ∧ w ≤ 1000000000000) (hc : 1 ≤ c ∧ c ≤ 3) (hp : -1000000000000 ≤ p ∧ p ≤ 1000000000000) (k : Nat) (hk : 20 ≤ k) :
    spec_l4Text.f k a s w c p = some (contT a s w c p) := by
  unfold spec_l4Text.f contT
  have z1 := szW_size s
  have z2 := cgW_size c
  have z3 := itoa_length w hw.1 hw.2
  have z4 := itoa_length p hp.1 hp.2
  rw [Option.bind_some, if_pos (by omega), if_pos (by show s < ((3 : Nat) : Int); omega), Option.bind_some, if_pos (by omega), if_pos (by show c < ((4 : Nat) : Int); omega), rd_size s hs.1 hs.2, rd_cargo c hc.1 hc.2, l1Num_ends w hw.1 hw.2 k hk, l1Num_ends p hp.1 hp.2 k hk]
  rw [show (⟨#[32]⟩ : ByteArray) = spB from rfl, Option.bind_some, Option.bind_some]
  generalize szW s = S at *
  generalize cgW c = C at *
  have t1 : (tx (Lib.itoa w)).size ≤ 19 := z3
  have t2 : (tx (Lib.itoa p)).size ≤ 19 := z4
  rw [if_pos (by (try simp only [ByteArray.size_append, spB_size]); omega), if_pos (by (try simp only [ByteArray.size_append, spB_size]); omega), if_pos (by (try simp only [ByteArray.size_append, spB_size]); omega), if_pos (by (try simp only [ByteArray.size_append, spB_size]); omega), if_pos (by (try simp only [ByteArray.size_append, spB_size]); omega), if_pos (by (try simp only [ByteArray.size_append, spB_size]); omega), if_pos (by (try simp only [ByteArray.size_append, spB_size]); omega), if_pos (by (try simp only [ByteArray.size_append, spB_size]); omega)]
theorem join_five (a b c d e : ByteArray) : joinB [a, b, c, d, e] spB = ((((((((a ++ spB) ++ b) ++ spB) ++ c) ++ spB) ++ d) ++ spB) ++ e) := by
  apply ByteArray.ext
  unfold joinB
  simp [Lib.join_cons, Lib.joinTail, spB]
theorem join_len (l : List (List UInt8)) (sep : List UInt8) (r : ByteArray) (h : (⟨(Lib.join l sep).toArray⟩ : ByteArray) = r) : (Lib.join l sep).length = r.size := by
  rw [← h]; rfl
theorem containerText_ends (a : ByteArray) (s w c p : Int) (ha : a.size ≤ 1048576) (hs : 1 ≤ s ∧ s ≤ 2) (hw : -1000000000000 ≤ w ∧ w ≤ 1000000000000) (hc : 1 ≤ c ∧ c ≤ 3) (hp : -1000000000000 ≤ p ∧ p ≤ 1000000000000) :
    impl_containerText.f a s w c p = some (contT a s w c p) := by
  have z1 := szW_size s
  have z2 := cgW_size c
  have z3 := itoa_length w hw.1 hw.2
  have z4 := itoa_length p hp.1 hp.2
  have hz := contT_size a s w c p
  unfold impl_containerText.f impl_sizeWords.f impl_cargoWords.f
  rw [Option.bind_some, if_pos (by omega), if_pos (by show s < ((3 : Nat) : Int); omega), decimal_ends w hw.1 hw.2, Option.bind_some, Option.bind_some, if_pos (by omega), if_pos (by show c < ((4 : Nat) : Int); omega), decimal_ends p hp.1 hp.2, Option.bind_some, rd_size s hs.1 hs.2, rd_cargo c hc.1 hc.2, show (⟨#[32]⟩ : ByteArray) = spB from rfl]
  have hj : joinB [a, szW s, tx (Lib.itoa w), cgW c, tx (Lib.itoa p)] spB = contT a s w c p := join_five _ _ _ _ _
  have hl := join_len _ _ _ hj
  have h5 : strings_Join.f [a, szW s, tx (Lib.itoa w), cgW c, tx (Lib.itoa p)] spB = some (contT a s w c p) := by
    unfold strings_Join.f
    rw [if_pos ⟨by simp only [List.length_cons, List.length_nil]; omega, by rw [hl]; omega⟩, hj]
  rw [h5, Option.bind_some]
end Go.Proofs.YtfindomajbjacaaGreatDoor.X
/- A container that is told to be a good one. -/
namespace Go.Proofs.YtfindomajbjacaaGreatDoor.X
open Go.RowKit Go.Proofs.YtfindomajbjacaaGreatDoorW.PrintWords Go.Proofs.YtfindomajbjacaaGreatDoorW.PrintLast
set_option linter.unusedVariables false
set_option linter.unusedSimpArgs false
set_option linter.unusedVariables false
def goodC (x : S50) : Bool := goodB x.f0 x.f1 x.f2 x.f3 x.f4
end Go.Proofs.YtfindomajbjacaaGreatDoor.X
/- The text of a good container. -/
namespace Go.Proofs.YtfindomajbjacaaGreatDoor.X
open Go.RowKit Go.Proofs.YtfindomajbjacaaGreatDoorW.PrintWords Go.Proofs.YtfindomajbjacaaGreatDoorW.PrintLast
set_option linter.unusedVariables false
set_option linter.unusedSimpArgs false
def contC (x : S50) : ByteArray := contT x.f0 x.f1 x.f2 x.f3 x.f4
theorem goodC_parts {x : S50} (h : goodC x = true) : x.f0.size = 8 ∧ (1 ≤ x.f1 ∧ x.f1 ≤ 2) ∧ (1 ≤ x.f2 ∧ x.f2 ≤ 32000) ∧ (1 ≤ x.f3 ∧ x.f3 ≤ 3) ∧ (1 ≤ x.f4 ∧ x.f4 ≤ 9) := by
  unfold goodC goodB inB idB at h
  simp only [Bool.and_eq_true, decide_eq_true_eq] at h
  exact ⟨h.1.1.1.1.1.1, h.1.1.1.2, h.1.1.2, h.1.2, h.2⟩
theorem contC_size {x : S50} (h : goodC x = true) : (contC x).size ≤ 90 := by
  obtain ⟨h0, h1, h2, h3, h4⟩ := goodC_parts h
  unfold contC
  rw [contT_size]
  have := szW_size x.f1
  have := cgW_size x.f3
  have := itoa_length x.f2 (by omega) (by omega)
  have := itoa_length x.f4 (by omega) (by omega)
  omega
theorem specText_ends {x : S50} (h : goodC x = true) (k : Nat) (hk : 20 ≤ k) : spec_l4Text.f k x.f0 x.f1 x.f2 x.f3 x.f4 = some (contC x) := by
  obtain ⟨h0, h1, h2, h3, h4⟩ := goodC_parts h
  exact l4Text_ends _ _ _ _ _ (by omega) h1 (by omega) h3 (by omega) k hk
theorem implText_ends {x : S50} (h : goodC x = true) : impl_containerText.f x.f0 x.f1 x.f2 x.f3 x.f4 = some (contC x) := by
  obtain ⟨h0, h1, h2, h3, h4⟩ := goodC_parts h
  exact containerText_ends _ _ _ _ _ (by omega) h1 (by omega) h3 (by omega)
end Go.Proofs.YtfindomajbjacaaGreatDoor.X
/- A text cut at each sign of one byte: the reference's loop, the library's pieces, the first piece. -/
namespace Go.Proofs.YtfindomajbjacaaGreatDoor.X
open Go.RowKit Go.Proofs.YtfindomajbjacaaGreatDoorW.PrintWords Go.Proofs.YtfindomajbjacaaGreatDoorW.PrintLast
set_option linter.unusedVariables false
set_option linter.unusedSimpArgs false
def preH (p : List UInt8) : List (List UInt8) → List (List UInt8)
  | [] => [p]
  | h :: t => (p ++ h) :: t
def splitL (c : UInt8) : List UInt8 → List (List UInt8)
  | [] => [[]]
  | b :: r => if b = c then [] :: splitL c r else preH [b] (splitL c r)
theorem splitL_some (c : UInt8) : ∀ l, ∃ h t, splitL c l = h :: t
  | [] => ⟨[], [], rfl⟩
  | b :: r => by
    obtain ⟨h, t, e⟩ := splitL_some c r
    unfold splitL
    split
    · exact ⟨_, _, rfl⟩
    · rw [e]; exact ⟨_, _, rfl⟩
theorem indexByte_cons (b c : UInt8) (l : List UInt8) : Lib.indexByte (b :: l) c = if (b == c) = true then 0 else if (Lib.indexByte l c == -1) = true then -1 else Lib.indexByte l c + 1 := rfl
theorem splitL_miss (c : UInt8) : ∀ l, Lib.indexByte l c = -1 → splitL c l = [l]
  | [], _ => rfl
  | b :: r, h => by
    rw [indexByte_cons] at h
    by_cases h1 : (b == c) = true
    · rw [if_pos h1] at h; omega
    · rw [if_neg h1] at h
      by_cases h2 : (Lib.indexByte r c == -1) = true
      · have ih := splitL_miss c r (by simpa using h2)
        unfold splitL
        rw [if_neg (by simpa using h1), ih]
        rfl
      · rw [if_neg h2] at h
        have := Lib.indexByte_ge r c
        omega
theorem splitL_hit (c : UInt8) : ∀ (l : List UInt8) (j : Nat), Lib.indexByte l c = (j : Int) → splitL c l = l.take j :: splitL c (l.drop (j + 1))
  | [], j, h => by simp [Lib.indexByte] at h
  | b :: r, j, h => by
    rw [indexByte_cons] at h
    by_cases h1 : (b == c) = true
    · rw [if_pos h1] at h
      obtain rfl : j = 0 := by omega
      rw [splitL, if_pos (by simpa using h1)]
      rfl
    · rw [if_neg h1] at h
      by_cases h2 : (Lib.indexByte r c == -1) = true
      · rw [if_pos h2] at h; omega
      · rw [if_neg h2] at h
        obtain ⟨q, rfl⟩ : ∃ q, j = q + 1 := ⟨j - 1, by have := Lib.indexByte_ge r c; rw [beq_iff_eq] at h2; omega⟩
        have ih := splitL_hit c r q (by omega)
        rw [splitL, if_neg (by simpa using h1), ih]
        rfl
theorem splitK_eq (c : UInt8) : ∀ (n : Nat) (l : List UInt8), l.length ≤ n → Lib.splitK [c] 0 (Lib.count l [c]) l = splitL c l := by
  intro n
  induction n with
  | zero =>
    intro l h
    obtain rfl : l = [] := List.length_eq_zero_iff.1 (by omega)
    rw [Lib.count_miss (by rw [Lib.index_one]; rfl)]
    rfl
  | succ n ih =>
    intro l h
    have hge := Lib.indexByte_ge l c
    by_cases hm : Lib.indexByte l c = -1
    · rw [Lib.count_miss (by rw [Lib.index_one]; exact hm), splitL_miss c l hm]
      rfl
    · obtain ⟨j, hj⟩ : ∃ j : Nat, Lib.indexByte l c = j := ⟨(Lib.indexByte l c).toNat, by omega⟩
      have hi : Lib.index l [c] = (j : Int) := by rw [Lib.index_one]; exact hj
      have hlt : j < l.length := (List.getElem?_eq_some_iff.1 (Lib.indexByte_some hj).1).1
      have hr := ih (l.drop (j + 1)) (by rw [List.length_drop]; omega)
      rw [Lib.count_hit (by simp) hi, splitL_hit c l j hj, Nat.add_comm 1, Lib.splitK, if_neg (by rw [hi, beq_iff_eq]; omega), hi]
      show l.take (((j : Int)).toNat + 0) :: Lib.splitK [c] 0 (Lib.count (l.drop (j + 1)) [c]) (l.drop (((j : Int)).toNat + 1)) = _
      rw [Int.toNat_natCast, Nat.add_zero, hr]
theorem l1Split_loop (s : ByteArray) (c : UInt8) (hx : s.size ≤ 1048576) (d : Nat) : ∀ (k f i : Nat) (out : List ByteArray), i + d = s.size → d < k → f ≤ i → out.length + d ≤ 2000000 →
    ∃ ys, spec_l1Split.l0 k s (c.toNat : Int) out (f : Int) (i : Int) = some ys ∧ ys.map bs = out.map bs ++ preH (((bs s).take i).drop f) (splitL c ((bs s).drop i)) ∧ ys.length ≤ out.length + d + 1 := by
  induction d with
  | zero =>
    intro k f i out hi hk hf ho
    obtain ⟨k, rfl⟩ := kpos hk
    have n1 : ¬ ((i : Int) < (s.size : Int)) := by omega
    have n2 : (0 : Int) ≤ (f : Int) := by omega
    have n3 : (f : Int) ≤ (s.size : Int) := by omega
    have n4 : out.length < 8796093022208 := by omega
    unfold spec_l1Split.l0
    rw [if_neg n1, if_pos n2, if_pos n3, if_pos n4]
    refine ⟨_, rfl, ?_, by simp⟩
    rw [List.map_append, List.map_cons, List.map_nil, bs_extract, show i = s.size by omega, show (bs s).drop s.size = [] from List.drop_of_length_le (by rw [bs_length]; omega), Int.toNat_natCast]
    simp [splitL, preH]
  | succ d ih =>
    intro k f i out hi hk hf ho
    obtain ⟨k, rfl⟩ := kpos hk
    have hlt : i < s.size := by omega
    have hlb : i < (bs s).length := by rw [bs_length]; exact hlt
    have n1 : ((i : Int) < (s.size : Int)) := by omega
    have n2 : (0 : Int) ≤ (i : Int) := by omega
    have n3 : (0 : Int) ≤ (f : Int) := by omega
    have n4 : (f : Int) ≤ (i : Int) := by omega
    have n5 : (i : Int) ≤ (s.size : Int) := by omega
    have n6 : out.length < 8796093022208 := by omega
    have e1 : (bs s).drop i = (bs s).getD i 0 :: (bs s).drop (i + 1) := getD_cons hlb
    obtain ⟨h, t, eL⟩ := splitL_some c ((bs s).drop (i + 1))
    unfold spec_l1Split.l0
    rw [if_pos n1, if_pos n2, bt_list s i hlt, wnext hlt (by omega), e1]
    by_cases hc : (bs s).getD i 0 = c
    · obtain ⟨ys, h1, h2, h3⟩ := ih k (i + 1) (i + 1) (out ++ [s.extract f i]) (by omega) (by omega) (by omega) (by simp; omega)
      rw [if_pos (by rw [hc]), if_pos n3, if_pos n4, if_pos n5, if_pos n6, Int.toNat_natCast, Int.toNat_natCast]
      refine ⟨ys, h1, ?_, by simp at h3; omega⟩
      rw [h2, List.map_append, List.map_cons, List.map_nil, bs_extract, eL, show ((bs s).take (i + 1)).drop (i + 1) = [] from List.drop_of_length_le (by rw [List.length_take]; omega), splitL, if_pos hc, eL]
      simp [preH]
    · obtain ⟨ys, h1, h2, h3⟩ := ih k f (i + 1) out (by omega) (by omega) (by omega) (by omega)
      have hn : ¬ ((((bs s).getD i 0).toNat : Int) = (c.toNat : Int)) := fun e => hc (UInt8.toNat_inj.1 (by omega))
      rw [if_neg hn]
      refine ⟨ys, h1, ?_, by omega⟩
      rw [h2, splitL, if_neg hc, eL, take_succ_getD (z := (0 : UInt8)) hlb, List.drop_append_of_le_length (by rw [List.length_take]; omega)]
      simp [preH]
theorem l1Split_ends (s : ByteArray) (c : UInt8) (hx : s.size ≤ 1048576) (k : Nat) (hk : 1048577 ≤ k) :
    ∃ ys, spec_l1Split.f k s (c.toNat : Int) = some ys ∧ ys.map bs = splitL c (bs s) ∧ ys.length ≤ s.size + 1 := by
  obtain ⟨ys, h1, h2, h3⟩ := l1Split_loop s c hx s.size k 0 0 [] (by omega) (by omega) (by omega) (by simp; omega)
  obtain ⟨h, t, e⟩ := splitL_some c (bs s)
  refine ⟨ys, h1, ?_, by simpa using h3⟩
  simp only [List.drop_zero] at h2
  rw [h2, e]
  simp [preH]
end Go.Proofs.YtfindomajbjacaaGreatDoor.X
/- Texts cut at a sign and joined by it: each undoes the other. -/
namespace Go.Proofs.YtfindomajbjacaaGreatDoor.X
open Go.RowKit Go.Proofs.YtfindomajbjacaaGreatDoorW.PrintWords Go.Proofs.YtfindomajbjacaaGreatDoorW.PrintLast
set_option linter.unusedVariables false
set_option linter.unusedSimpArgs false
theorem split_same (s : ByteArray) (c : UInt8) (hx : s.size ≤ 1048576) (k : Nat) (hk : 1048577 ≤ k) : ∃ ys, spec_l1Split.f k s (c.toNat : Int) = some ys ∧ strings_Split.f s ⟨#[c]⟩ = some ys ∧ ys.map bs = splitL c (bs s) ∧ ys.length ≤ s.size + 1 := by
  obtain ⟨ys, h1, h2, h3⟩ := l1Split_ends s c hx k hk
  refine ⟨ys, h1, ?_, h2, h3⟩
  unfold strings_Split.f
  rw [if_pos ⟨rfl, hx⟩]
  refine congrArg some (map_bs_inj _ _ ?_)
  rw [h2]
  exact (Lib.splitB_data ⟨#[c]⟩ 0 (Lib.countB s ⟨#[c]⟩) s).trans (splitK_eq c (bs s).length (bs s) (Nat.le_refl _))
theorem joinTail_cons (sep x : List UInt8) (r : List (List UInt8)) : Lib.joinTail sep (x :: r) = sep ++ x ++ Lib.joinTail sep r := by simp [Lib.joinTail]
/-- Joined again, the pieces are the text. -/
theorem join_splitL (c : UInt8) : ∀ l, Lib.join (splitL c l) [c] = l
  | [] => Lib.join_one _ _
  | b :: r => by
    have ih := join_splitL c r
    obtain ⟨h, t, e⟩ := splitL_some c r
    rw [e, Lib.join_cons] at ih
    unfold splitL
    split
    · rename_i hb
      rw [Lib.join_cons, e, joinTail_cons, hb, List.nil_append, List.append_assoc, ih]
      rfl
    · rw [e, preH, Lib.join_cons, List.append_assoc, ih]
      rfl
theorem splitL_app (c : UInt8) : ∀ (p l : List UInt8), c ∉ p → splitL c (p ++ c :: l) = p :: splitL c l
  | [], l, _ => by rw [List.nil_append, splitL, if_pos rfl]
  | b :: p, l, h => by
    rw [List.cons_append, splitL, if_neg (fun e => h (by rw [e]; exact List.mem_cons_self)), splitL_app c p l (fun e => h (List.mem_cons_of_mem _ e))]
    rfl
theorem splitL_one (c : UInt8) : ∀ (p : List UInt8), c ∉ p → splitL c p = [p]
  | [], _ => rfl
  | b :: p, h => by
    rw [splitL, if_neg (fun e => h (by rw [e]; exact List.mem_cons_self)), splitL_one c p (fun e => h (List.mem_cons_of_mem _ e))]
    rfl
/-- Cut again, the joined text gives the pieces. -/
theorem splitL_join (c : UInt8) : ∀ (x : List UInt8) (r : List (List UInt8)), (∀ p ∈ x :: r, c ∉ p) → splitL c (Lib.join (x :: r) [c]) = x :: r
  | x, [], h => by rw [Lib.join_one]; exact splitL_one c x (h x List.mem_cons_self)
  | x, y :: r, h => by
    have ih := splitL_join c y r (fun p hp => h p (List.mem_cons_of_mem _ hp))
    rw [Lib.join_cons, joinTail_cons]
    rw [Lib.join_cons] at ih
    rw [show x ++ ([c] ++ y ++ Lib.joinTail [c] r) = x ++ c :: (y ++ Lib.joinTail [c] r) by simp, splitL_app c x _ (h x List.mem_cons_self), ih]
/-- Each piece is without the sign. -/
theorem splitL_free (c : UInt8) : ∀ (l : List UInt8), ∀ p ∈ splitL c l, c ∉ p
  | [], p, hp => by
    rw [splitL, List.mem_singleton] at hp
    rw [hp]; simp
  | b :: r, p, hp => by
    have ih := splitL_free c r
    unfold splitL at hp
    split at hp
    · rcases List.mem_cons.1 hp with rfl | h
      · simp
      · exact ih p h
    · rename_i hb
      obtain ⟨h, t, e⟩ := splitL_some c r
      rw [e, preH] at hp
      rcases List.mem_cons.1 hp with rfl | h2
      · rw [List.singleton_append, List.mem_cons]
        rintro (e1 | e2)
        · exact hb e1.symm
        · exact ih h (by rw [e]; exact List.mem_cons_self) e2
      · exact ih p (by rw [e]; exact List.mem_cons_of_mem _ h2)
/-- No piece is longer than the text. -/
theorem piece_len (c : UInt8) : ∀ (l : List UInt8), ∀ p ∈ splitL c l, p.length ≤ l.length
  | [], p, hp => by
    rw [splitL, List.mem_singleton] at hp
    rw [hp]; simp
  | b :: r, p, hp => by
    have ih := piece_len c r
    unfold splitL at hp
    split at hp
    · rcases List.mem_cons.1 hp with rfl | h
      · simp
      · have := ih p h; simp; omega
    · obtain ⟨h, t, e⟩ := splitL_some c r
      rw [e, preH] at hp
      rcases List.mem_cons.1 hp with rfl | h2
      · have := ih h (by rw [e]; exact List.mem_cons_self)
        simp; omega
      · have := ih p (by rw [e]; exact List.mem_cons_of_mem _ h2)
        simp; omega
end Go.Proofs.YtfindomajbjacaaGreatDoor.X
/- The reference's reading of a number comes to the same as the program's. -/
namespace Go.Proofs.YtfindomajbjacaaGreatDoor.X
open Go.RowKit Go.Proofs.YtfindomajbjacaaGreatDoorW.PrintWords Go.Proofs.YtfindomajbjacaaGreatDoorW.PrintLast
set_option linter.unusedVariables false
set_option linter.unusedSimpArgs false
def dig (b : UInt8) : Bool := decide (48 ≤ b.toNat ∧ b.toNat ≤ 57)
def valL : Nat → List UInt8 → Nat
  | acc, [] => acc
  | acc, b :: r => valL (10 * acc + (b.toNat - 48)) r
def okD (t : List UInt8) : Bool := decide (1 ≤ t.length ∧ t.length ≤ 6) && t.all dig
theorem valL_snoc : ∀ (l : List UInt8) (acc : Nat) (b : UInt8), valL acc (l ++ [b]) = 10 * valL acc l + (b.toNat - 48)
  | [], acc, b => rfl
  | c :: l, acc, b => valL_snoc l _ b
theorem valL_bound : ∀ (l : List UInt8) (acc j : Nat), l.all dig = true → acc < 10 ^ j → valL acc l < 10 ^ (j + l.length)
  | [], acc, j, _, h => h
  | c :: l, acc, j, ha, h => by
    simp only [List.all_cons, Bool.and_eq_true] at ha
    have hc : 48 ≤ c.toNat ∧ c.toNat ≤ 57 := by have := ha.1; unfold dig at this; simpa using this
    have := valL_bound l (10 * acc + (c.toNat - 48)) (j + 1) ha.2 (by rw [Nat.pow_succ]; omega)
    rw [show j + (c :: l).length = j + 1 + l.length by simp; omega]
    exact this
theorem parse_digits : ∀ (l : List UInt8) (acc j : Nat), l.all dig = true → acc < 10 ^ j → j + l.length ≤ 6 → Lib.parseUint10 acc l = .ok (valL acc l)
  | [], acc, j, _, _, _ => rfl
  | c :: l, acc, j, ha, h, hj => by
    simp only [List.all_cons, Bool.and_eq_true] at ha
    have hc : 48 ≤ c.toNat ∧ c.toNat ≤ 57 := by have := ha.1; unfold dig at this; simpa using this
    simp only [List.length_cons] at hj
    have h6 : 10 ^ j ≤ 10 ^ 6 := Nat.pow_le_pow_right (by omega) (by omega)
    have h7 : acc < 1000000 := Nat.lt_of_lt_of_le h h6
    have ih := parse_digits l (10 * acc + (c.toNat - 48)) (j + 1) ha.2 (by rw [Nat.pow_succ]; omega) (by omega)
    rw [Lib.parseUint10, if_pos hc, if_neg (by omega), if_neg (by omega), Nat.mul_comm acc 10, ih]
    rfl
theorem dig_of (m : Nat) (h : m < 10) : dig (UInt8.ofNat (48 + m)) = true ∧ (UInt8.ofNat (48 + m)).toNat = 48 + m := by
  have e : (UInt8.ofNat (48 + m)).toNat = 48 + m := by
    rw [UInt8.toNat_ofNat']
    omega
  refine ⟨?_, e⟩
  unfold dig
  rw [e, decide_eq_true_eq]
  omega
theorem dec_facts (d : Nat) : ∀ u, u < 10 ^ (d + 1) → (Lib.decDigits u).all dig = true ∧ valL 0 (Lib.decDigits u) = u ∧ 1 ≤ (Lib.decDigits u).length := by
  induction d with
  | zero =>
    intro u h
    have h10 : u < 10 := by simpa using h
    obtain ⟨e1, e2⟩ := dig_of u h10
    rw [dec_small h10]
    refine ⟨by rw [List.all_cons, e1]; rfl, ?_, by simp⟩
    show 10 * 0 + ((UInt8.ofNat (48 + u)).toNat - 48) = u
    rw [e2]; omega
  | succ d ih =>
    intro u h
    by_cases h10 : u < 10
    · obtain ⟨e1, e2⟩ := dig_of u h10
      rw [dec_small h10]
      refine ⟨by rw [List.all_cons, e1]; rfl, ?_, by simp⟩
      show 10 * 0 + ((UInt8.ofNat (48 + u)).toNat - 48) = u
      rw [e2]; omega
    · have h3 : u / 10 < 10 ^ (d + 1) := by rw [Nat.div_lt_iff_lt_mul (by omega), ← Nat.pow_succ]; exact h
      obtain ⟨i1, i2, i3⟩ := ih _ h3
      obtain ⟨e1, e2⟩ := dig_of (u % 10) (Nat.mod_lt _ (by omega))
      rw [dec_big h10]
      refine ⟨by rw [List.all_append, i1, List.all_cons, e1]; rfl, ?_, by rw [List.length_append]; simp⟩
      rw [valL_snoc, i2, e2]
      omega
theorem dec_ok (u : Nat) (h : u < 1000000) : okD (Lib.decDigits u) = true := by
  obtain ⟨h1, _, h3⟩ := dec_facts 5 u h
  have h2 := dec_length 5 u h
  unfold okD
  rw [h1, Bool.and_true, decide_eq_true_eq]
  omega
/-- Behind a minus sign. -/
def tlL : List UInt8 → List UInt8
  | b :: c :: r => if b = 45 then c :: r else b :: c :: r
  | l => l
def tl (s : ByteArray) : ByteArray := if (s.size : Int) > 1 then (if (bt s 0 == 45) = true then s.extract 1 s.size else s) else s
theorem tl_bs (s : ByteArray) : bs (tl s) = tlL (bs s) := by
  unfold tl
  have hl := bs_length s
  rcases hb : bs s with _ | ⟨b, _ | ⟨c, r⟩⟩
  · rw [hb] at hl
    rw [if_neg (by simp at hl; omega), hb]; rfl
  · rw [hb] at hl
    rw [if_neg (by simp at hl; omega), hb]; rfl
  · rw [hb] at hl
    simp only [List.length_cons] at hl
    have e0 : bt s 0 = (b.toNat : Int) := by
      have := bt_list s 0 (by omega)
      rw [hb] at this
      exact this
    rw [if_pos (by omega), e0]
    show _ = if b = 45 then c :: r else b :: c :: r
    by_cases h : b = 45
    · rw [if_pos h, if_pos (by rw [h]; rfl), bs_extract, hb, List.take_of_length_le (by simp; omega)]
      rfl
    · rw [if_neg h, if_neg (by rw [beq_iff_eq]; exact fun e => h (UInt8.toNat_inj.1 (by show b.toNat = 45; omega))), hb]
def finR (s t : ByteArray) (v : Nat) : Int × Bool :=
  if (t.size : Int) < (s.size : Int) then (if (tx (Lib.itoa (-(v : Int)))).toList = s.toList then (-(v : Int), true) else (0, false)) else (if (tx (Lib.itoa (v : Int))).toList = s.toList then ((v : Int), true) else (0, false))
def specR (s : ByteArray) : Int × Bool := if okD (bs (tl s)) = true then finR s (tl s) (valL 0 (bs (tl s))) else (0, false)
theorem l1Read_loop (s t : ByteArray) (h6 : t.size ≤ 6) (d : Nat) : ∀ (k i m : Nat), i + d = t.size → d + 30 < k → m < 10 ^ i →
    spec_l1Read.l0 k s t (m : Int) (i : Int) = some (if ((bs t).drop i).all dig = true then finR s t (valL m ((bs t).drop i)) else (0, false)) := by
  induction d with
  | zero =>
    intro k i m hi hk hm
    obtain ⟨k, rfl⟩ := kpos (d := 0) (k := k) (by omega)
    have p6 : 10 ^ i ≤ 10 ^ 6 := Nat.pow_le_pow_right (by omega) (by omega)
    have m6 : m < 1000000 := Nat.lt_of_lt_of_le hm p6
    have n1 : ¬ ((i : Int) < (t.size : Int)) := by omega
    have b1 : (-9223372036854775808 : Int) ≤ -(m : Int) := by omega
    have b2 : -(m : Int) ≤ 9223372036854775807 := by omega
    have c1 := l1Num_ends (-(m : Int)) (by omega) (by omega) k (by omega)
    have c2 := l1Num_ends (m : Int) (by omega) (by omega) k (by omega)
    have w1 : wrap64 (-(m : Int)) = -(m : Int) := w64 b1 b2
    unfold spec_l1Read.l0
    rw [if_neg n1, List.drop_of_length_le (by rw [bs_length]; omega), w1, c1, c2, Option.bind_some, Option.bind_some]
    rw [if_pos (show ([] : List UInt8).all dig = true from rfl)]
    unfold finR valL
    split <;> split <;> rfl
  | succ d ih =>
    intro k i m hi hk hm
    obtain ⟨k, rfl⟩ := kpos (d := 0) (k := k) (by omega)
    have hlt : i < t.size := by omega
    have hlb : i < (bs t).length := by rw [bs_length]; exact hlt
    have p6 : 10 ^ i ≤ 10 ^ 6 := Nat.pow_le_pow_right (by omega) (by omega)
    have m6 : m < 1000000 := Nat.lt_of_lt_of_le hm p6
    obtain ⟨b, hb⟩ : ∃ b, (bs t).getD i 0 = b := ⟨_, rfl⟩
    have e1 : (bs t).drop i = b :: (bs t).drop (i + 1) := by rw [← hb]; exact getD_cons hlb
    have n1 : (i : Int) < (t.size : Int) := by omega
    have n2 : (0 : Int) ≤ (i : Int) := by omega
    unfold spec_l1Read.l0
    rw [if_pos n1, if_pos n2, bt_list t i hlt, hb, e1]
    by_cases h1 : (b.toNat : Int) < 48
    · have hd : dig b = false := by unfold dig; rw [decide_eq_false_iff_not]; omega
      rw [if_pos h1, List.all_cons, hd, Bool.false_and, if_neg (by decide)]
    · rw [if_neg h1]
      by_cases h2 : (b.toNat : Int) > 57
      · have hd : dig b = false := by unfold dig; rw [decide_eq_false_iff_not]; omega
        rw [if_pos h2, List.all_cons, hd, Bool.false_and, if_neg (by decide)]
      · have hd : dig b = true := by unfold dig; rw [decide_eq_true_eq]; omega
        have hr := ih k (i + 1) (10 * m + (b.toNat - 48)) (by omega) (by omega) (by rw [Nat.pow_succ]; omega)
        have x1 : (-9223372036854775808 : Int) ≤ 10 * (m : Int) := by omega
        have x2 : 10 * (m : Int) ≤ 9223372036854775807 := by omega
        have x3 : ((b.toNat : Int) - 48) % 256 = ((b.toNat - 48 : Nat) : Int) := by omega
        have x4 : (-9223372036854775808 : Int) ≤ 10 * (m : Int) + ((b.toNat - 48 : Nat) : Int) := by omega
        have x5 : 10 * (m : Int) + ((b.toNat - 48 : Nat) : Int) ≤ 9223372036854775807 := by omega
        have x6 : 10 * (m : Int) + ((b.toNat - 48 : Nat) : Int) = ((10 * m + (b.toNat - 48) : Nat) : Int) := by omega
        rw [if_neg h2, w64 x1 x2, x3, w64 x4 x5, x6, wnext hlt (by omega), hr, List.all_cons, hd, Bool.true_and]
        rfl
theorem l1Read_ends (s : ByteArray) (k : Nat) (hk : 100 ≤ k) : spec_l1Read.f k s = some (specR s) := by
  obtain ⟨k, rfl⟩ : ∃ q, k = q + 2 := ⟨k - 2, by omega⟩
  have core : ∀ t : ByteArray, spec_l1Read.j1 (k + 1) s t = some (if okD (bs t) = true then finR s t (valL 0 (bs t)) else (0, false)) := by
    intro t
    simp only [spec_l1Read.j1]
    rw [l1In_ends, Option.bind_some]
    unfold okD
    rw [bs_length]
    by_cases h : 1 ≤ t.size ∧ t.size ≤ 6
    · have hin : inB (t.size : Int) 1 6 = true := by unfold inB; rw [decide_eq_true_eq]; omega
      have := l1Read_loop s t h.2 t.size k 0 0 (by omega) (by omega) (by decide)
      rw [show ((0 : Nat) : Int) = 0 from rfl, List.drop_zero] at this
      rw [if_pos hin, this, decide_eq_true h, Bool.true_and]
    · have hin : ¬ (inB (t.size : Int) 1 6 = true) := by unfold inB; rw [decide_eq_true_eq]; omega
      rw [if_neg hin, decide_eq_false h, Bool.false_and, if_neg (by decide)]
  unfold spec_l1Read.f specR tl
  by_cases h1 : (s.size : Int) > 1
  · rw [if_pos h1, if_pos (by omega), if_pos h1]
    simp only [spec_l1Read.j0]
    by_cases h2 : (bt s 0 == 45) = true
    · rw [if_pos h2, if_pos h2, if_pos (by omega)]
      exact core _
    · rw [if_neg h2, if_neg h2]
      exact core _
  · rw [if_neg h1, if_neg h1]
    simp only [spec_l1Read.j0]
    rw [if_neg (by decide)]
    exact core _
theorem toList_bs (a b : ByteArray) : a.toList = b.toList ↔ bs a = bs b := by
  unfold bs
  rw [ByteArray.toList_eq, ByteArray.toList_eq]
theorem mag_ok (l : List UInt8) (h : okD l = true) : Lib.parseMag l = .ok (valL 0 l) ∧ valL 0 l < 1000000 := by
  unfold okD at h
  simp only [Bool.and_eq_true, decide_eq_true_eq] at h
  have hb := valL_bound l 0 0 h.2 (by decide)
  have h6 : 10 ^ (0 + l.length) ≤ 10 ^ 6 := Nat.pow_le_pow_right (by omega) (by omega)
  refine ⟨?_, Nat.lt_of_lt_of_le hb h6⟩
  unfold Lib.parseMag
  rw [if_neg (by intro e; rw [e] at h; simp at h)]
  exact parse_digits l 0 0 h.2 (by decide) (by omega)
theorem in_six (v : Int) (h : -1000000 < v ∧ v < 1000000) : inB v (-999999) 999999 = true := by
  unfold inB
  rw [decide_eq_true_eq]
  omega
theorem tl_cons (b : UInt8) (r : List UInt8) (h : ¬ b = 45) : tlL (b :: r) = b :: r := by
  cases r with
  | nil => rfl
  | cons c r => exact if_neg h
theorem read_ok (s : ByteArray) (hk : okD (bs (tl s)) = true) : specR s = readR s := by
  obtain ⟨hm, hv⟩ := mag_ok _ hk
  have ht := tl_bs s
  have hs := bs_length s
  have hts := bs_length (tl s)
  unfold specR
  rw [if_pos hk]
  unfold readR finR
  rcases hb : bs s with _ | ⟨b, r⟩
  · rw [ht, hb] at hk
    exact absurd hk (by decide)
  · rw [show s.data.toList = b :: r from hb]
    rw [hb] at ht hs
    simp only [List.length_cons] at hs
    by_cases h45 : b = 45
    · subst h45
      cases hr : r with
      | nil =>
        rw [hr] at ht
        rw [ht] at hk
        exact absurd hk (by decide)
      | cons c r' =>
        rw [← hr]
        have ht2 : bs (tl s) = r := by
          rw [ht, hr]
          show (if (45 : UInt8) = 45 then c :: r' else 45 :: c :: r') = _
          rw [if_pos rfl]
        rw [ht2] at hm hv hts ⊢
        have e1 : Lib.signed (.ok (valL 0 r)) = .ok (-(valL 0 r : Int)) := if_neg (by omega)
        rw [Lib.atoiAll_minus, hm, e1]
        dsimp only
        rw [if_pos (by omega), if_pos (in_six _ (by omega))]
    · have ht2 : bs (tl s) = b :: r := by rw [ht]; exact tl_cons b r h45
      rw [ht2] at hm hv hts hk ⊢
      simp only [List.length_cons] at hts
      have hd : dig b = true := by
        unfold okD at hk
        simp only [Bool.and_eq_true, List.all_cons] at hk
        exact hk.2.1
      unfold dig at hd
      rw [decide_eq_true_eq] at hd
      have e1 : Lib.signless (.ok (valL 0 (b :: r))) = .ok ((valL 0 (b :: r) : Nat) : Int) := if_neg (by omega)
      rw [Lib.atoiAll_plain b r (by omega) (by omega), hm, e1]
      dsimp only
      rw [if_neg (by omega), if_pos (in_six _ (by omega))]
theorem read_no (s : ByteArray) (hk : ¬ okD (bs (tl s)) = true) : specR s = readR s := by
  unfold specR
  rw [if_neg hk]
  unfold readR
  rcases ha : Lib.atoiAll s.data.toList with v | _ | _
  · dsimp only
    by_cases hin : inB v (-999999) 999999 = true
    · rw [if_pos hin]
      unfold inB at hin
      rw [decide_eq_true_eq] at hin
      by_cases he : (tx (Lib.itoa v)).toList = s.toList
      · exfalso
        apply hk
        rw [toList_bs] at he
        have he2 : Lib.itoa v = bs s := he
        rw [tl_bs, ← he2]
        unfold Lib.itoa
        by_cases hn : v < 0
        · rw [if_pos hn]
          have hok := dec_ok v.natAbs (by omega)
          rcases hd : Lib.decDigits v.natAbs with _ | ⟨c, r⟩
          · rw [hd] at hok; exact absurd hok (by decide)
          · rw [hd] at hok
            show okD (if (45 : UInt8) = 45 then c :: r else 45 :: c :: r) = true
            rw [if_pos rfl]
            exact hok
        · rw [if_neg hn]
          have hok := dec_ok v.toNat (by omega)
          rcases hd : Lib.decDigits v.toNat with _ | ⟨c, r⟩
          · rw [hd] at hok; exact absurd hok (by decide)
          · rw [hd] at hok
            have hc : dig c = true := by
              unfold okD at hok
              simp only [Bool.and_eq_true, List.all_cons] at hok
              exact hok.2.1
            rw [tl_cons c r (by rintro rfl; exact absurd hc (by decide))]
            exact hok
      · rw [if_neg he]
    · rw [if_neg hin]
  · rfl
  · rfl
theorem read_same (s : ByteArray) : specR s = readR s := by
  by_cases h : okD (bs (tl s)) = true
  · exact read_ok s h
  · exact read_no s h
end Go.Proofs.YtfindomajbjacaaGreatDoor.X
/- A decimal numeral is read as its number; and a text that is read is the numeral. -/
namespace Go.Proofs.YtfindomajbjacaaGreatDoor.X
open Go.RowKit Go.Proofs.YtfindomajbjacaaGreatDoorW.PrintWords Go.Proofs.YtfindomajbjacaaGreatDoorW.PrintLast
set_option linter.unusedVariables false
set_option linter.unusedSimpArgs false
theorem dec_head {u : Nat} (h : u < 1000000) : tlL (Lib.decDigits u) = Lib.decDigits u := by
  have hok := dec_ok u h
  rcases hd : Lib.decDigits u with _ | ⟨c, r⟩
  · rfl
  · rw [hd] at hok
    have hc : dig c = true := by
      unfold okD at hok
      simp only [Bool.and_eq_true, List.all_cons] at hok
      exact hok.2.1
    exact tl_cons c r (by rintro rfl; exact absurd hc (by decide))
theorem bs_tx (l : List UInt8) : bs (tx l) = l := rfl
theorem readR_dec (u : Nat) (h : u < 1000000) : readR (tx (Lib.decDigits u)) = ((u : Int), true) := by
  rw [← read_same]
  have ht : bs (tl (tx (Lib.decDigits u))) = Lib.decDigits u := by rw [tl_bs, bs_tx, dec_head h]
  have hz : (tl (tx (Lib.decDigits u))).size = (Lib.decDigits u).length := by rw [← bs_length, ht]
  obtain ⟨_, hv, _⟩ := dec_facts 5 u h
  unfold specR
  rw [ht, if_pos (dec_ok u h), hv]
  unfold finR
  rw [hz, tx_size, if_neg (by omega), Lib.itoa_nonneg, if_pos rfl]
/-- What is read as a number is the number's numeral. -/
theorem readR_true {s : ByteArray} {v : Int} (h : readR s = (v, true)) : s = tx (Lib.itoa v) ∧ -999999 ≤ v ∧ v ≤ 999999 := by
  unfold readR at h
  rcases ha : Lib.atoiAll s.data.toList with u | _ | _
  · rw [ha] at h
    dsimp only at h
    split at h
    · rename_i hin
      split at h
      · rename_i he
        obtain rfl := (Prod.mk.inj h).1
        unfold inB at hin
        rw [decide_eq_true_eq] at hin
        rw [toList_bs] at he
        exact ⟨(bs_inj he).symm, hin⟩
      · cases (Prod.mk.inj h).2
    · cases (Prod.mk.inj h).2
  · rw [ha] at h
    cases (Prod.mk.inj h).2
  · rw [ha] at h
    cases (Prod.mk.inj h).2
theorem readR_range (s : ByteArray) : -999999 ≤ (readR s).1 ∧ (readR s).1 ≤ 999999 := by
  unfold readR
  split
  · split
    · rename_i hin
      unfold inB at hin
      rw [decide_eq_true_eq] at hin
      split
      · exact hin
      · exact ⟨by decide, by decide⟩
    · exact ⟨by decide, by decide⟩
  · exact ⟨by decide, by decide⟩
theorem dec_chars (u : Nat) (c : UInt8) (hc : dig c = false) (h : u < 1000000) : c ∉ Lib.decDigits u := by
  intro hm
  obtain ⟨h1, _, _⟩ := dec_facts 5 u h
  have := List.all_eq_true.1 h1 c hm
  rw [hc] at this
  cases this
end Go.Proofs.YtfindomajbjacaaGreatDoor.X
/- Reading a container's text: the reference (each word must be known, each number must read well, the text must be its own), the program (numbers and words that are none are no container's): both come to the same. -/
namespace Go.Proofs.YtfindomajbjacaaGreatDoor.X
open Go.RowKit Go.Proofs.YtfindomajbjacaaGreatDoorW.PrintWords Go.Proofs.YtfindomajbjacaaGreatDoorW.PrintLast
set_option linter.unusedVariables false
set_option linter.unusedSimpArgs false
theorem readR_no {s : ByteArray} (h : (readR s).2 = false) : (readR s).1 = 0 := by
  unfold readR at h ⊢
  split at h
  · split at h
    · split at h
      · cases h
      · rename_i h1 h2
        rw [if_pos h1, if_neg h2]
    · rename_i h1
      rw [if_neg h1]
  · rfl
theorem itoa_short (n : Int) (h0 : 0 ≤ n) (h1 : n < 100000) : (Lib.itoa n).length ≤ 5 := by
  unfold Lib.itoa
  rw [if_neg (by omega)]
  exact dec_length 4 n.toNat (by omega)
theorem contC_short {x : S50} (h : goodC x = true) : (contC x).size ≤ 60 := by
  obtain ⟨h0, h1, h2, h3, h4⟩ := goodC_parts h
  unfold contC
  rw [contT_size]
  have := szW_size x.f1
  have := cgW_size x.f3
  have := itoa_short x.f2 (by omega) (by omega)
  have := itoa_short x.f4 (by omega) (by omega)
  omega
theorem l4Index3 (e a b w : ByteArray) (k : Nat) (hk : 4 ≤ k) : spec_l4Index.f k [e, a, b] w = some (if a.toList = w.toList then 1 else if b.toList = w.toList then 2 else 0) := by
  obtain ⟨k, rfl⟩ : ∃ m, k = m + 1 + 1 + 1 := ⟨k - 3, by omega⟩
  have w1 : wrap64 (1 + 1) = 2 := by rw [w64 (by omega) (by omega)]; rfl
  have w2 : wrap64 (2 + 1) = 3 := by rw [w64 (by omega) (by omega)]; rfl
  unfold spec_l4Index.f
  rw [spec_l4Index.l0, if_pos (by show (1 : Int) < 3; decide), if_pos (by decide), w1, show rdOf ByteArray.empty [e, a, b] 1 = a from rfl]
  split
  · rfl
  · rw [spec_l4Index.l0, if_pos (by show (2 : Int) < 3; decide), if_pos (by decide), w2, show rdOf ByteArray.empty [e, a, b] 2 = b from rfl]
    split
    · rfl
    · rw [spec_l4Index.l0, if_neg (by show ¬ (3 : Int) < 3; decide)]
theorem l4Index4 (e a b c w : ByteArray) (k : Nat) (hk : 5 ≤ k) : spec_l4Index.f k [e, a, b, c] w = some (if a.toList = w.toList then 1 else if b.toList = w.toList then 2 else if c.toList = w.toList then 3 else 0) := by
  obtain ⟨k, rfl⟩ : ∃ m, k = m + 1 + 1 + 1 + 1 := ⟨k - 4, by omega⟩
  have w1 : wrap64 (1 + 1) = 2 := by rw [w64 (by omega) (by omega)]; rfl
  have w2 : wrap64 (2 + 1) = 3 := by rw [w64 (by omega) (by omega)]; rfl
  have w3 : wrap64 (3 + 1) = 4 := by rw [w64 (by omega) (by omega)]; rfl
  unfold spec_l4Index.f
  rw [spec_l4Index.l0, if_pos (by show (1 : Int) < 4; decide), if_pos (by decide), w1, show rdOf ByteArray.empty [e, a, b, c] 1 = a from rfl]
  split
  · rfl
  · rw [spec_l4Index.l0, if_pos (by show (2 : Int) < 4; decide), if_pos (by decide), w2, show rdOf ByteArray.empty [e, a, b, c] 2 = b from rfl]
    split
    · rfl
    · rw [spec_l4Index.l0, if_pos (by show (3 : Int) < 4; decide), if_pos (by decide), w3, show rdOf ByteArray.empty [e, a, b, c] 3 = c from rfl]
      split
      · rfl
      · rw [spec_l4Index.l0, if_neg (by show ¬ (4 : Int) < 4; decide)]
theorem index3 (e a b w : ByteArray) (k : Nat) (hk : 5 ≤ k) : slices_Index_string_string.f k [e, a, b] w = some (if w.toList = e.toList then 0 else if w.toList = a.toList then 1 else if w.toList = b.toList then 2 else -1) := by
  obtain ⟨k, rfl⟩ : ∃ m, k = m + 1 + 1 + 1 + 1 := ⟨k - 4, by omega⟩
  have w0 : wrap64 (0 + 1) = 1 := by rw [w64 (by omega) (by omega)]; rfl
  have w1 : wrap64 (1 + 1) = 2 := by rw [w64 (by omega) (by omega)]; rfl
  have w2 : wrap64 (2 + 1) = 3 := by rw [w64 (by omega) (by omega)]; rfl
  unfold slices_Index_string_string.f
  rw [show (([e, a, b] : List ByteArray).length : Int) = 3 from rfl]
  rw [slices_Index_string_string.l0, if_pos (by decide), if_pos (by decide), if_pos (by show (0 : Int) < 3; decide), w0, show rdOf ByteArray.empty [e, a, b] 0 = e from rfl]
  split
  · rfl
  · rw [slices_Index_string_string.l0, if_pos (by decide), if_pos (by decide), if_pos (by show (1 : Int) < 3; decide), w1, show rdOf ByteArray.empty [e, a, b] 1 = a from rfl]
    split
    · rfl
    · rw [slices_Index_string_string.l0, if_pos (by decide), if_pos (by decide), if_pos (by show (2 : Int) < 3; decide), w2, show rdOf ByteArray.empty [e, a, b] 2 = b from rfl]
      split
      · rfl
      · rw [slices_Index_string_string.l0, if_neg (by decide)]
theorem index4 (e a b c w : ByteArray) (k : Nat) (hk : 6 ≤ k) : slices_Index_string_string.f k [e, a, b, c] w = some (if w.toList = e.toList then 0 else if w.toList = a.toList then 1 else if w.toList = b.toList then 2 else if w.toList = c.toList then 3 else -1) := by
  obtain ⟨k, rfl⟩ : ∃ m, k = m + 1 + 1 + 1 + 1 + 1 := ⟨k - 5, by omega⟩
  have w0 : wrap64 (0 + 1) = 1 := by rw [w64 (by omega) (by omega)]; rfl
  have w1 : wrap64 (1 + 1) = 2 := by rw [w64 (by omega) (by omega)]; rfl
  have w2 : wrap64 (2 + 1) = 3 := by rw [w64 (by omega) (by omega)]; rfl
  have w3 : wrap64 (3 + 1) = 4 := by rw [w64 (by omega) (by omega)]; rfl
  unfold slices_Index_string_string.f
  rw [show (([e, a, b, c] : List ByteArray).length : Int) = 4 from rfl]
  rw [slices_Index_string_string.l0, if_pos (by decide), if_pos (by decide), if_pos (by show (0 : Int) < 4; decide), w0, show rdOf ByteArray.empty [e, a, b, c] 0 = e from rfl]
  split
  · rfl
  · rw [slices_Index_string_string.l0, if_pos (by decide), if_pos (by decide), if_pos (by show (1 : Int) < 4; decide), w1, show rdOf ByteArray.empty [e, a, b, c] 1 = a from rfl]
    split
    · rfl
    · rw [slices_Index_string_string.l0, if_pos (by decide), if_pos (by decide), if_pos (by show (2 : Int) < 4; decide), w2, show rdOf ByteArray.empty [e, a, b, c] 2 = b from rfl]
      split
      · rfl
      · rw [slices_Index_string_string.l0, if_pos (by decide), if_pos (by decide), if_pos (by show (3 : Int) < 4; decide), w3, show rdOf ByteArray.empty [e, a, b, c] 3 = c from rfl]
        split
        · rfl
        · rw [slices_Index_string_string.l0, if_neg (by decide)]
/-- The two searches for a word: they agree where it is found behind the first one. -/
theorem idx_agree3 {e a b w : List UInt8} {S0 S1 : Int} (h0 : S0 = if a = w then 1 else if b = w then 2 else 0) (h1 : S1 = if w = e then 0 else if w = a then 1 else if w = b then 2 else -1) (hea : e ≠ a) (heb : e ≠ b) : (1 ≤ S1 → S0 = S1) ∧ (1 ≤ S0 → S1 = S0) := by
  by_cases c1 : w = e
  · subst c1
    rw [if_pos rfl] at h1
    rw [if_neg (fun h => hea h.symm), if_neg (fun h => heb h.symm)] at h0
    omega
  · rw [if_neg c1] at h1
    by_cases c2 : w = a
    · rw [if_pos c2] at h1; rw [if_pos c2.symm] at h0; omega
    · rw [if_neg c2] at h1; rw [if_neg (fun h => c2 h.symm)] at h0
      by_cases c3 : w = b
      · rw [if_pos c3] at h1; rw [if_pos c3.symm] at h0; omega
      · rw [if_neg c3] at h1; rw [if_neg (fun h => c3 h.symm)] at h0; omega
theorem idx_agree4 {e a b c w : List UInt8} {S0 S1 : Int} (h0 : S0 = if a = w then 1 else if b = w then 2 else if c = w then 3 else 0) (h1 : S1 = if w = e then 0 else if w = a then 1 else if w = b then 2 else if w = c then 3 else -1) (hea : e ≠ a) (heb : e ≠ b) (hec : e ≠ c) : (1 ≤ S1 → S0 = S1) ∧ (1 ≤ S0 → S1 = S0) := by
  by_cases c1 : w = e
  · subst c1
    rw [if_pos rfl] at h1
    rw [if_neg (fun h => hea h.symm), if_neg (fun h => heb h.symm), if_neg (fun h => hec h.symm)] at h0
    omega
  · rw [if_neg c1] at h1
    by_cases c2 : w = a
    · rw [if_pos c2] at h1; rw [if_pos c2.symm] at h0; omega
    · rw [if_neg c2] at h1; rw [if_neg (fun h => c2 h.symm)] at h0
      by_cases c3 : w = b
      · rw [if_pos c3] at h1; rw [if_pos c3.symm] at h0; omega
      · rw [if_neg c3] at h1; rw [if_neg (fun h => c3 h.symm)] at h0
        by_cases c4 : w = c
        · rw [if_pos c4] at h1; rw [if_pos c4.symm] at h0; omega
        · rw [if_neg c4] at h1; rw [if_neg (fun h => c4 h.symm)] at h0; omega
abbrev PC := Option (ByteArray × Int × Int × Int × Int × Bool)
def noC : PC := some ((⟨#[]⟩ : ByteArray), 0, 0, 0, 0, false)
def yesC (x : S50) : PC := some (x.f0, x.f1, x.f2, x.f3, x.f4, true)
theorem parse_both (s : ByteArray) (hs : s.size ≤ 1048576) (k : Nat) (hk : 1048700 ≤ k) :
    (spec_l4Parse.f k s = noC ∧ impl_ParseContainer.f k s = noC) ∨ ∃ x, spec_l4Parse.f k s = yesC x ∧ impl_ParseContainer.f k s = yesC x ∧ goodC x = true ∧ contC x = s := by
  obtain ⟨ys, e1, e2, e3, e4⟩ := split_same s 32 hs k (by omega)
  obtain ⟨k, rfl⟩ := kpos (d := 0) (k := k) (by omega)
  unfold spec_l4Parse.f impl_ParseContainer.f
  rw [show (32 : Int) = ((32 : UInt8).toNat : Int) from rfl, e1, e2]
  simp only [Option.bind_some]
  by_cases h5 : (ys.length : Int) = 5
  · have hb5 : ((ys.length : Int) != 5) = false := bne_eq_false_iff_eq.2 h5
    rw [hb5]
    obtain ⟨w0, h0⟩ : ∃ w, rdOf ByteArray.empty ys 0 = w := ⟨_, rfl⟩
    obtain ⟨w1, h1⟩ : ∃ w, rdOf ByteArray.empty ys 1 = w := ⟨_, rfl⟩
    obtain ⟨w2, h2⟩ : ∃ w, rdOf ByteArray.empty ys 2 = w := ⟨_, rfl⟩
    obtain ⟨w3, h3⟩ : ∃ w, rdOf ByteArray.empty ys 3 = w := ⟨_, rfl⟩
    obtain ⟨w4, h4⟩ : ∃ w, rdOf ByteArray.empty ys 4 = w := ⟨_, rfl⟩
    have hsz : ∀ i : Nat, i < ys.length → (rdOf ByteArray.empty ys (i : Int)).size ≤ 1048576 := by
      intro i hi
      have hm : rdOf ByteArray.empty ys (i : Int) ∈ ys := by
        unfold rdOf
        rw [Int.toNat_natCast]
        exact getD_mem hi
      have hm2 : bs (rdOf ByteArray.empty ys (i : Int)) ∈ splitL 32 (bs s) := by rw [← e3]; exact List.mem_map_of_mem hm
      have := piece_len 32 (bs s) _ hm2
      rw [bs_length, bs_length] at this
      omega
    have z2 := hsz 2 (by omega)
    have z4 := hsz 4 (by omega)
    have z0 := hsz 0 (by omega)
    rw [show ((2 : Nat) : Int) = 2 from rfl, h2] at z2
    rw [show ((4 : Nat) : Int) = 4 from rfl, h4] at z4
    rw [show ((0 : Nat) : Int) = 0 from rfl, h0] at z0
    obtain ⟨S0, hS0⟩ : ∃ S0 : Int, S0 = if (szW 1).toList = w1.toList then 1 else if (szW 2).toList = w1.toList then 2 else 0 := ⟨_, rfl⟩
    obtain ⟨S1, hS1⟩ : ∃ S1 : Int, S1 = if w1.toList = (⟨#[]⟩ : ByteArray).toList then 0 else if w1.toList = (szW 1).toList then 1 else if w1.toList = (szW 2).toList then 2 else -1 := ⟨_, rfl⟩
    obtain ⟨C0, hC0⟩ : ∃ C0 : Int, C0 = if (cgW 1).toList = w3.toList then 1 else if (cgW 2).toList = w3.toList then 2 else if (cgW 3).toList = w3.toList then 3 else 0 := ⟨_, rfl⟩
    obtain ⟨C1, hC1⟩ : ∃ C1 : Int, C1 = if w3.toList = (⟨#[]⟩ : ByteArray).toList then 0 else if w3.toList = (cgW 1).toList then 1 else if w3.toList = (cgW 2).toList then 2 else if w3.toList = (cgW 3).toList then 3 else -1 := ⟨_, rfl⟩
    have ne : ∀ (b : UInt8) (l : List UInt8), (⟨#[]⟩ : ByteArray).toList ≠ (⟨(b :: l).toArray⟩ : ByteArray).toList := by
      intro b l h
      rw [ByteArray.toList_eq, ByteArray.toList_eq] at h
      cases h
    obtain ⟨a1, a2⟩ := idx_agree3 hS0 hS1 (ne 115 [109, 97, 108, 108]) (ne 108 [97, 114, 103, 101])
    obtain ⟨b1, b2⟩ := idx_agree4 hC0 hC1 (ne 112 [108, 97, 105, 110]) (ne 114 [101, 101, 102, 101, 114]) (ne 100 [97, 110, 103, 101, 114])
    obtain ⟨v, hv⟩ : ∃ v, readR w2 = v := ⟨_, rfl⟩
    obtain ⟨p, hp⟩ : ∃ p, readR w4 = p := ⟨_, rfl⟩
    have nv : v.2 = false → v.1 = 0 := by rw [← hv]; exact readR_no
    have np : p.2 = false → p.1 = 0 := by rw [← hp]; exact readR_no
    have iv : impl_ParseInt.f w2 = some v := by unfold impl_ParseInt.f; rw [if_pos (by omega), hv]
    have ip : impl_ParseInt.f w4 = some p := by unfold impl_ParseInt.f; rw [if_pos (by omega), hp]
    have sv : spec_l1Read.f k w2 = some v := by rw [l1Read_ends w2 k (by omega), read_same, hv]
    have sp : spec_l1Read.f k w4 = some p := by rw [l1Read_ends w4 k (by omega), read_same, hp]
    have i3 := index3 ⟨#[]⟩ (szW 1) (szW 2) w1 (k + 1) (by omega)
    have i4 := index4 ⟨#[]⟩ (cgW 1) (cgW 2) (cgW 3) w3 (k + 1) (by omega)
    have l3 := l4Index3 ⟨#[]⟩ (szW 1) (szW 2) w1 k (by omega)
    have l4 := l4Index4 ⟨#[]⟩ (cgW 1) (cgW 2) (cgW 3) w3 k (by omega)
    rw [← hS1] at i3
    rw [← hC1] at i4
    rw [← hS0] at l3
    rw [← hC0] at l4
    have n0 : (0 : Int) < (ys.length : Int) := by omega
    have n1 : (1 : Int) < (ys.length : Int) := by omega
    have n2 : (2 : Int) < (ys.length : Int) := by omega
    have n3 : (3 : Int) < (ys.length : Int) := by omega
    have n4 : (4 : Int) < (ys.length : Int) := by omega
    have zs : impl_sizeWords.f = some [(⟨#[]⟩ : ByteArray), szW 1, szW 2] := rfl
    have zc : impl_cargoWords.f = some [(⟨#[]⟩ : ByteArray), cgW 1, cgW 2, cgW 3] := rfl
    clear hS0 hS1 hC0 hC1 hv hp ne hsz e1 e2 e3 e4
    rw [if_pos h5, if_pos n0, zs, Option.bind_some, if_pos n1, h1, i3, Option.bind_some, zc, Option.bind_some, if_pos n3, h3, i4, Option.bind_some, if_pos n2, h2, iv, Option.bind_some, if_pos n4, h4, ip, Option.bind_some, h0, impl_good _ _ _ _ _ (k + 1) (by omega), Option.bind_some]
    have tx1 : goodB w0 S1 v.1 C1 p.1 = true → impl_containerText.f w0 S1 v.1 C1 p.1 = some (contC ⟨w0, S1, v.1, C1, p.1⟩) := fun hg => implText_ends (x := ⟨w0, S1, v.1, C1, p.1⟩) hg
    by_cases h60 : (s.size : Int) > 60
    · rw [if_pos h60]
      simp only [spec_l4Parse.j0, if_true]
      refine .inl ⟨rfl, ?_⟩
      by_cases hg : goodB w0 S1 v.1 C1 p.1 = true
      · rw [if_pos hg, tx1 hg, Option.bind_some]
        by_cases ht : (contC (⟨w0, S1, v.1, C1, p.1⟩ : S50)).toList = s.toList
        · exfalso
          have he : contC (⟨w0, S1, v.1, C1, p.1⟩ : S50) = s := bs_inj ((toList_bs _ _).1 ht)
          have hsm := contC_short (x := ⟨w0, S1, v.1, C1, p.1⟩) hg
          rw [he] at hsm
          omega
        · rw [if_neg ht]; rfl
      · rw [if_neg hg]; rfl
    rw [if_neg h60]
    simp only [spec_l4Parse.j0]
    rw [if_neg (by decide), if_pos n2, h2, sv, Option.bind_some, if_pos n4, h4, sp, Option.bind_some, if_pos n0, if_pos n1, h1]
    rw [show (⟨#[115, 109, 97, 108, 108]⟩ : ByteArray) = szW 1 from rfl, show (⟨#[108, 97, 114, 103, 101]⟩ : ByteArray) = szW 2 from rfl, l3, Option.bind_some, if_pos n3, h3]
    rw [show (⟨#[112, 108, 97, 105, 110]⟩ : ByteArray) = cgW 1 from rfl, show (⟨#[114, 101, 101, 102, 101, 114]⟩ : ByteArray) = cgW 2 from rfl, show (⟨#[100, 97, 110, 103, 101, 114]⟩ : ByteArray) = cgW 3 from rfl, l4, Option.bind_some, h0, spec_good _ _ _ _ _ k (by omega)]
    clear iv ip sv sp i3 i4 l3 l4 zs zc h0 h1 h2 h3 h4
    by_cases hg : goodB w0 S1 v.1 C1 p.1 = true
    · have hgx : goodC (⟨w0, S1, v.1, C1, p.1⟩ : S50) = true := hg
      have hg2 := hg
      unfold goodB inB at hg2
      simp only [Bool.and_eq_true, decide_eq_true_eq] at hg2
      have f1 := a1 (by omega)
      have f3 := b1 (by omega)
      subst f1 f3
      have t1 : v.2 = true := by
        cases hvv : v.2 with
        | true => rfl
        | false => have := nv hvv; omega
      have t2 : p.2 = true := by
        cases hpp : p.2 with
        | true => rfl
        | false => have := np hpp; omega
      have tx2 : spec_l4Text.f k w0 S0 v.1 C0 p.1 = some (contC ⟨w0, S0, v.1, C0, p.1⟩) := specText_ends (x := ⟨w0, S0, v.1, C0, p.1⟩) hg k (by omega)
      rw [if_pos hg, tx1 hg, Option.bind_some, if_pos t1, if_pos t2, Option.bind_some, if_pos hg, tx2, Option.bind_some]
      by_cases ht : (contC (⟨w0, S0, v.1, C0, p.1⟩ : S50)).toList = s.toList
      · have he : contC (⟨w0, S0, v.1, C0, p.1⟩ : S50) = s := bs_inj ((toList_bs _ _).1 ht)
        simp only [if_pos ht]
        exact .inr ⟨⟨w0, S0, v.1, C0, p.1⟩, rfl, rfl, hgx, he⟩
      · simp only [if_neg ht]
        exact .inl ⟨rfl, rfl⟩
    · rw [if_neg hg]
      have hg0 : ¬ goodB w0 S0 v.1 C0 p.1 = true := by
        intro hg0
        have hg2 := hg0
        unfold goodB inB at hg2
        simp only [Bool.and_eq_true, decide_eq_true_eq] at hg2
        have f1 := a2 (by omega)
        have f3 := b2 (by omega)
        rw [f1, f3] at hg
        exact hg hg0
      rw [Option.bind_some, if_neg hg0]
      refine .inl ⟨?_, rfl⟩
      split
      · split <;> rfl
      · rfl
  · have hb5 : ((ys.length : Int) != 5) = true := bne_iff_ne.2 h5
    rw [hb5, if_neg h5]
    simp only [spec_l4Parse.j0, if_true, ite_self]
    exact .inl ⟨rfl, rfl⟩
end Go.Proofs.YtfindomajbjacaaGreatDoor.X
/- What the printed functions on lists of containers come to: the size that is left, the copy, the comparison, the search, the test of a list. -/
namespace Go.Proofs.YtfindomajbjacaaGreatDoor.X
open Go.RowKit Go.Proofs.YtfindomajbjacaaGreatDoorW.PrintWords Go.Proofs.YtfindomajbjacaaGreatDoorW.PrintLast
set_option linter.unusedVariables false
set_option linter.unusedSimpArgs false

theorem rdC61_nat (xs : List S50) (n : Nat) : rd_T50 xs (n : Int) = xs.getD n z50 := rfl
def sameId (id : ByteArray) (x : S50) : Bool := x.f0.toList == id.toList
theorem Find_loop (cs : List S50) (id : ByteArray) (hx : cs.length ≤ 1048576) (d : Nat) : ∀ (k n : Nat), n + d = cs.length → d < k → spec_l2Find.l0 k cs id (n : Int) = some (idxI (sameId id) (cs.drop n) (n : Int)) := by
  induction d with
  | zero =>
    intro k n hn hk
    obtain ⟨k, rfl⟩ := kpos hk
    simp only [spec_l2Find.l0]
    rw [if_neg (by omega), List.drop_of_length_le (by omega)]
    rfl
  | succ d ih =>
    intro k n hn hk
    obtain ⟨k, rfl⟩ := kpos hk
    have hlt : n < cs.length := by omega
    simp only [spec_l2Find.l0]
    rw [if_pos (by omega), if_pos (by omega), rdC61_nat, getD_cons (z := z50) hlt]
    simp only [idxI]
    by_cases h : (cs.getD n z50).f0.toList = id.toList
    · rw [if_pos h, if_pos (by unfold sameId; rw [beq_iff_eq]; exact h)]
    · rw [if_neg h, if_neg (by unfold sameId; rw [beq_iff_eq]; exact h), wnext hlt (by omega), ih k (n + 1) (by omega) (by omega)]
      rfl
theorem Find_ends (cs : List S50) (id : ByteArray) (hx : cs.length ≤ 1048576) (k : Nat) (hk : 1048577 ≤ k) : spec_l2Find.f k cs id = some (idxI (sameId id) cs 0) := by
  unfold spec_l2Find.f
  have := Find_loop cs id hx cs.length k 0 (by omega) (by omega)
  rw [show ((0 : Nat) : Int) = 0 from rfl, List.drop_zero] at this
  exact this
theorem indexOf_ends (cs : List S50) (id : ByteArray) : impl_indexOf.f cs id = some (idxI (sameId id) cs 0) := rfl
theorem idxI_first {α : Type} (p : α → Bool) (z : α) : ∀ (l : List α) (s : Int) (i : Nat), i < l.length → p (l.getD i z) = true → (idxI p l s = s + i ↔ (l.take i).any p = false)
  | [], s, i, h, _ => by simp at h
  | x :: l, s, i, h, hp => by
    simp only [idxI]
    cases i with
    | zero => rw [if_pos (by simpa using hp)]; simp
    | succ i =>
      by_cases hx : p x = true
      · rw [if_pos hx]
        simp only [List.take_succ_cons, List.any_cons, hx, Bool.true_or]
        constructor
        · intro h1; omega
        · intro h1; cases h1
      · rw [if_neg hx]
        have := idxI_first p z l (s + 1) i (by simpa using h) (by simpa using hp)
        simp only [List.take_succ_cons, List.any_cons, Bool.not_eq_true] at hx ⊢
        rw [hx, Bool.false_or, ← this]
        constructor <;> intro h1 <;> omega

/-! ### the test of a list -/
def stepC (cs : List S50) (i : Nat) : Bool := goodC (cs.getD i z50) && !((cs.take i).any (sameId (cs.getD i z50).f0))
def listC (cs : List S50) : Nat → Nat → Bool
  | 0, _ => true
  | d + 1, i => stepC cs i && listC cs d (i + 1)
def validC (cs : List S50) : Bool := decide (cs.length ≤ 12) && listC cs cs.length 0
theorem impl_list_loop (cs : List S50) (hx : cs.length ≤ 1048576) (d : Nat) : ∀ (k i : Nat), i + d = cs.length → d + 20 < k → impl_IsValidContainers.l0 k cs cs (cs.length : Int) (i : Int) = some (listC cs d i && decide (cs.length ≤ 12)) := by
  induction d with
  | zero =>
    intro k i hi hk
    obtain ⟨k, rfl⟩ := kpos (d := 0) (k := k) (by omega)
    simp only [impl_IsValidContainers.l0]
    rw [if_neg (by omega)]
    simp only [listC, Bool.true_and]
    congr 1
    rw [Bool.eq_iff_iff, decide_eq_true_eq, decide_eq_true_eq]
    omega
  | succ d ih =>
    intro k i hi hk
    obtain ⟨k, rfl⟩ := kpos (d := 0) (k := k) (by omega)
    have hlt : i < cs.length := by omega
    simp only [impl_IsValidContainers.l0, listC, stepC]
    rw [if_pos (by omega), if_pos (by omega), if_pos (by omega), rdC61_nat, impl_good _ _ _ _ _ k (by omega), show goodB _ _ _ _ _ = goodC (cs.getD i z50) from rfl]
    simp only [Option.bind_some]
    by_cases hg : goodC (cs.getD i z50) = true
    · rw [if_pos hg, if_pos (by omega), indexOf_ends, Int.toNat_natCast, hg, Bool.true_and]
      simp only [Option.bind_some, ge_iff_le]
      by_cases ha : (cs.take i).any (sameId (cs.getD i z50).f0) = true
      · rw [if_pos ((idxI_any _ _ 0 (by omega)).2 ha), ha]
        rfl
      · rw [if_neg (fun h => ha ((idxI_any _ _ 0 (by omega)).1 h)), wnext hlt (by omega), ih k (i + 1) (by omega) (by omega)]
        rw [Bool.not_eq_true] at ha
        rw [ha]
        rfl
    · rw [if_neg hg]
      rw [Bool.not_eq_true] at hg
      rw [hg]
      rfl
theorem impl_valid (cs : List S50) (hx : cs.length ≤ 1048576) (k : Nat) (hk : 1048600 ≤ k) : impl_IsValidContainers.f k cs = some (validC cs) := by
  unfold impl_IsValidContainers.f validC
  have := impl_list_loop cs hx cs.length k 0 (by omega) (by omega)
  rw [show ((0 : Nat) : Int) = 0 from rfl] at this
  rw [this, Bool.and_comm]
theorem spec_list_loop (cs : List S50) (hx : cs.length ≤ 12) (d : Nat) : ∀ (k i : Nat), i + d = cs.length → 2 * d + 1048600 < k → spec_l2List.l0 k cs (i : Int) = some (listC cs d i) := by
  induction d with
  | zero =>
    intro k i hi hk
    obtain ⟨k, rfl⟩ : ∃ m, k = m + 2 := ⟨k - 2, by omega⟩
    simp only [spec_l2List.l0]
    rw [if_neg (by omega)]
    simp only [spec_l2List.j1, Bool.false_eq_true, if_false, listC]
    congr 1
    rw [decide_eq_true_eq]
    omega
  | succ d ih =>
    intro k i hi hk
    obtain ⟨k, rfl⟩ : ∃ m, k = m + 2 := ⟨k - 2, by omega⟩
    have hlt : i < cs.length := by omega
    have h12 : decide ((i : Int) ≤ 12) = true := decide_eq_true (by omega)
    simp only [spec_l2List.l0]
    rw [if_pos (by omega), h12]
    simp only [spec_l2List.j1, if_true, listC, stepC]
    rw [if_pos (by omega), if_pos (by omega), rdC61_nat, spec_good _ _ _ _ _ k (by omega), show goodB _ _ _ _ _ = goodC (cs.getD i z50) from rfl]
    simp only [Option.bind_some]
    by_cases hg : goodC (cs.getD i z50) = true
    · rw [if_pos hg, hg, Bool.true_and, Find_ends _ _ (by omega) k (by omega)]
      simp only [Option.bind_some]
      have hself : sameId (cs.getD i z50).f0 (cs.getD i z50) = true := by unfold sameId; simp
      have hf := idxI_first (sameId (cs.getD i z50).f0) z50 cs 0 i hlt hself
      rw [Int.zero_add] at hf
      by_cases ha : (cs.take i).any (sameId (cs.getD i z50).f0) = false
      · rw [if_pos (hf.2 ha), ha, wnext hlt (by omega), ih k (i + 1) (by omega) (by omega)]
        rfl
      · rw [if_neg (fun h => ha (hf.1 h))]
        simp only [Bool.not_eq_false] at ha
        rw [ha]
        rfl
    · rw [if_neg hg]
      rw [Bool.not_eq_true] at hg
      rw [hg]
      rfl
theorem spec_list_long (cs : List S50) (hx : cs.length ≤ 1048576) (h12 : 12 < cs.length) (d : Nat) : ∀ (k i : Nat), i + d = 13 → 2 * d + 1048600 < k → spec_l2List.l0 k cs (i : Int) = some false := by
  induction d with
  | zero =>
    intro k i hi hk
    obtain ⟨k, rfl⟩ : ∃ m, k = m + 2 := ⟨k - 2, by omega⟩
    have e1 : decide ((i : Int) ≤ 12) = false := decide_eq_false (by omega)
    simp only [spec_l2List.l0, e1, ite_self, spec_l2List.j1, Bool.false_eq_true, if_false]
    congr 1
    rw [decide_eq_false_iff_not]
    omega
  | succ d ih =>
    intro k i hi hk
    obtain ⟨k, rfl⟩ : ∃ m, k = m + 2 := ⟨k - 2, by omega⟩
    have hlt : i < cs.length := by omega
    have e1 : decide ((i : Int) ≤ 12) = true := decide_eq_true (by omega)
    simp only [spec_l2List.l0]
    rw [if_pos (by omega), e1]
    simp only [spec_l2List.j1, if_true]
    rw [if_pos (by omega), if_pos (by omega), rdC61_nat, spec_good _ _ _ _ _ k (by omega)]
    simp only [Option.bind_some]
    split
    · rw [Find_ends _ _ (by omega) k (by omega)]
      simp only [Option.bind_some]
      split
      · rw [wnext hlt (by omega), ih k (i + 1) (by omega) (by omega)]
      · rfl
    · rfl
theorem spec_valid (cs : List S50) (hx : cs.length ≤ 1048576) (k : Nat) (hk : 1048700 ≤ k) : spec_l2List.f k cs = some (validC cs) := by
  unfold spec_l2List.f validC
  by_cases h : cs.length ≤ 12
  · have := spec_list_loop cs h cs.length k 0 (by omega) (by omega)
    rw [show ((0 : Nat) : Int) = 0 from rfl] at this
    rw [this, decide_eq_true h, Bool.true_and]
  · have := spec_list_long cs hx (by omega) 13 k 0 (by omega) (by omega)
    rw [show ((0 : Nat) : Int) = 0 from rfl] at this
    rw [this, decide_eq_false h, Bool.false_and]
end Go.Proofs.YtfindomajbjacaaGreatDoor.X
/- The text of a list of containers: the reference's sum of texts, what the program has written to its builder. -/
namespace Go.Proofs.YtfindomajbjacaaGreatDoor.X
open Go.RowKit Go.Proofs.YtfindomajbjacaaGreatDoorW.PrintWords Go.Proofs.YtfindomajbjacaaGreatDoorW.PrintLast
set_option linter.unusedVariables false
set_option linter.unusedSimpArgs false
def nlB : ByteArray := ⟨#[10]⟩
theorem nlB_size : nlB.size = 1 := rfl
def manA : ByteArray → List S50 → ByteArray
  | acc, [] => acc
  | acc, x :: r => manA ((acc ++ contC x) ++ nlB) r
theorem listC_good (cs : List S50) (d : Nat) : ∀ i, listC cs d i = true → ∀ j, i ≤ j → j < i + d → goodC (cs.getD j z50) = true := by
  induction d with
  | zero => intro i h j h1 h2; omega
  | succ d ih =>
    intro i h j h1 h2
    simp only [listC, Bool.and_eq_true] at h
    by_cases hj : j = i
    · subst hj
      have := h.1
      unfold stepC at this
      simp only [Bool.and_eq_true] at this
      exact this.1
    · exact ih (i + 1) h.2 j (by omega) (by omega)
theorem valid_good {cs : List S50} (h : validC cs = true) : cs.length ≤ 12 ∧ ∀ x ∈ cs, goodC x = true := by
  unfold validC at h
  simp only [Bool.and_eq_true, decide_eq_true_eq] at h
  refine ⟨h.1, fun x hx => ?_⟩
  obtain ⟨j, hj, rfl⟩ := List.mem_iff_getElem.mp hx
  have := listC_good cs cs.length 0 h.2 j (by omega) (by omega)
  rwa [List.getD_eq_getElem?_getD, List.getElem?_eq_getElem hj] at this
theorem spec_man_loop (cs : List S50) (hl : cs.length ≤ 1000000) (hg : ∀ x ∈ cs, goodC x = true) (d : Nat) : ∀ (k n : Nat) (acc : ByteArray), n + d = cs.length → d + 25 < k → acc.size ≤ 100 * n → spec_l4Manifest.l0 k cs acc (n : Int) = some (manA acc (cs.drop n)) := by
  induction d with
  | zero =>
    intro k n acc hn hk ha
    obtain ⟨k, rfl⟩ := kpos (d := 0) (k := k) (by omega)
    simp only [spec_l4Manifest.l0]
    rw [if_neg (by omega), List.drop_of_length_le (by omega)]
    rfl
  | succ d ih =>
    intro k n acc hn hk ha
    obtain ⟨k, rfl⟩ := kpos (d := 0) (k := k) (by omega)
    have hlt : n < cs.length := by omega
    have hx := hg _ (getD_mem (z := z50) hlt)
    have hs := contC_size hx
    have h2 := ih k (n + 1) ((acc ++ contC (cs.getD n z50)) ++ nlB) (by omega) (by omega) (by simp only [ByteArray.size_append, nlB_size]; omega)
    simp only [spec_l4Manifest.l0]
    rw [if_pos (by omega), if_pos (by omega), rdC61_nat, specText_ends hx k (by omega), getD_cons (z := z50) hlt]
    simp only [Option.bind_some, manA]
    rw [if_pos (by omega), if_pos (by simp only [ByteArray.size_append]; omega), wnext hlt (by omega)]
    exact h2
theorem spec_man (cs : List S50) (hl : cs.length ≤ 1000000) (hg : ∀ x ∈ cs, goodC x = true) (k : Nat) (hk : cs.length + 25 < k) : spec_l4Manifest.f k cs = some (manA ⟨#[]⟩ cs) := by
  unfold spec_l4Manifest.f
  exact spec_man_loop cs hl hg cs.length k 0 _ (by omega) hk (by decide)
theorem bs_sum (a t : ByteArray) : a.data.toList ++ (t ++ (⟨#[10]⟩ : ByteArray)).data.toList = ((a ++ t) ++ nlB).data.toList := by
  simp [nlB]
theorem impl_man_list : ∀ (cs : List S50) (a : ByteArray), (∀ x ∈ cs, goodC x = true) → a.size + 100 * cs.length ≤ 100000000000 → manB a.data.toList cs = some (manA a cs).data.toList
  | [], a, _, _ => rfl
  | x :: r, a, hg, ha => by
    have hx := hg x (List.mem_cons_self ..)
    have hs := contC_size hx
    simp only [List.length_cons] at ha
    have hl : a.data.toList.length = a.size := rfl
    have ih := impl_man_list r ((a ++ contC x) ++ nlB) (fun y hy => hg y (List.mem_cons_of_mem _ hy)) (by simp only [ByteArray.size_append, nlB_size]; omega)
    simp only [manB, manA]
    rw [implText_ends hx, Option.bind_some, if_pos ⟨by omega, by omega⟩, bs_sum, ih]
theorem impl_man (cs : List S50) (hl : cs.length ≤ 1000000) (hg : ∀ x ∈ cs, goodC x = true) : impl_manifestText.f cs = some (manA ⟨#[]⟩ cs) := by
  unfold impl_manifestText.f
  have := impl_man_list cs ⟨#[]⟩ hg (by show 0 + 100 * cs.length ≤ _; omega)
  rw [show ([] : List UInt8) = (⟨#[]⟩ : ByteArray).data.toList from rfl, this]
  rfl
/-- Both texts of a list. -/
def manR (cs : List S50) : ByteArray × Bool := if validC cs = true then (manA ⟨#[]⟩ cs, true) else (⟨#[]⟩, false)
end Go.Proofs.YtfindomajbjacaaGreatDoor.X
/- The reference's numbered identifiers: three letters, four digits, the check letter. -/
namespace Go.Proofs.YtfindomajbjacaaGreatDoor.X
open Go.RowKit Go.Proofs.YtfindomajbjacaaGreatDoorW.PrintWords Go.Proofs.YtfindomajbjacaaGreatDoorW.PrintLast
set_option linter.unusedVariables false
set_option linter.unusedSimpArgs false
def dg (u : Nat) : UInt8 := UInt8.ofNat (48 + u)
def dig4 (u : Nat) : List UInt8 := [dg (u / 1000 % 10), dg (u / 100 % 10), dg (u / 10 % 10), dg (u % 10)]
theorem dg_toNat (u : Nat) (h : u < 10) : (dg u).toNat = 48 + u := by
  match u, h with
  | 0, _ => rfl
  | 1, _ => rfl
  | 2, _ => rfl
  | 3, _ => rfl
  | 4, _ => rfl
  | 5, _ => rfl
  | 6, _ => rfl
  | 7, _ => rfl
  | 8, _ => rfl
  | 9, _ => rfl
  | u + 10, h => omega
theorem num_step (u d : Nat) (hu : u < 10000) (hd : 0 < d) (hd2 : d ≤ 1000) (x : ByteArray) (hx : x.size ≤ 1000) (k : Nat) :
    spec_l2Number.l0 (k + 1) (u : Int) x (d : Int) = spec_l2Number.l0 k (u : Int) (x ++ tx [dg (u / d % 10)]) ((d / 10 : Nat) : Int) := by
  have e1 : Int.tdiv (u : Int) (d : Int) = ((u / d : Nat) : Int) := by rw [Int.tdiv_eq_ediv_of_nonneg (Int.natCast_nonneg u)]; rfl
  have e2 : Int.tdiv (d : Int) 10 = ((d / 10 : Nat) : Int) := by rw [Int.tdiv_eq_ediv_of_nonneg (Int.natCast_nonneg d)]; rfl
  have b1 : u / d ≤ u := Nat.div_le_self u d
  have b2 : d / 10 ≤ d := Nat.div_le_self d 10
  obtain ⟨v, hv⟩ : ∃ v, u / d = v := ⟨_, rfl⟩
  obtain ⟨c, hc⟩ : ∃ c, d / 10 = c := ⟨_, rfl⟩
  rw [hv] at b1 e1
  rw [hc] at b2 e2
  have b3 : v % 10 < 10 := Nat.mod_lt _ (by decide)
  obtain ⟨r, hr⟩ : ∃ r, v % 10 = r := ⟨_, rfl⟩
  have e3 : Int.tmod ((v : Nat) : Int) 10 = ((r : Nat) : Int) := by rw [← hr, Int.tmod_eq_emod_of_nonneg (Int.natCast_nonneg v)]; rfl
  rw [hr] at b3
  have hcut : (⟨#[48, 49, 50, 51, 52, 53, 54, 55, 56, 57]⟩ : ByteArray).extract r (r + 1) = tx [dg r] := digit_cut r b3
  rw [hv, hc, hr]
  clear hv hc hr
  have n1 : (d : Int) > 0 := by omega
  have n2 : ¬ (d : Int) = 0 := by omega
  have n3 : (0 : Int) ≤ (r : Int) := by omega
  have n4 : (r : Int) ≤ ((r + 1 : Nat) : Int) := by omega
  have n5 : ((r + 1 : Nat) : Int) ≤ 10 := by omega
  have n6 : x.size + (tx [dg r]).size ≤ 9223372036854775807 := by rw [tx_size, List.length_singleton]; omega
  have q1 : -9223372036854775808 ≤ (v : Int) ∧ (v : Int) ≤ 9223372036854775807 := by omega
  have q2 : -9223372036854775808 ≤ (c : Int) ∧ (c : Int) ≤ 9223372036854775807 := by omega
  have q3 : -9223372036854775808 ≤ ((r + 1 : Nat) : Int) ∧ ((r + 1 : Nat) : Int) ≤ 9223372036854775807 := by omega
  have q4 : (r : Int) + 1 = ((r + 1 : Nat) : Int) := by omega
  rw [spec_l2Number.l0, if_pos n1, if_neg n2, e1, e2, w64 q1.1 q1.2, w64 q2.1 q2.2, e3, q4, w64 q3.1 q3.2, if_pos n3, if_pos n4, if_pos n5, Int.toNat_natCast, Int.toNat_natCast, hcut, if_pos n6]
def nextT (L : ByteArray) (u : Nat) : ByteArray := L ++ tx (dig4 u)
theorem number_ends (L : ByteArray) (u : Nat) (hL : L.size = 3) (hu : u < 10000) (h7 : sevenB (nextT L u) = true) (k : Nat) (hk : 20 ≤ k) :
    spec_l2Number.f k L (u : Int) = some (nextT L u ++ strOfNums [chk (nextT L u)]) := by
  obtain ⟨k, rfl⟩ : ∃ m, k = m + 1 + 1 + 1 + 1 + 1 := ⟨k - 5, by omega⟩
  have e : (((L ++ tx [dg (u / 1000 % 10)]) ++ tx [dg (u / 100 % 10)]) ++ tx [dg (u / 10 % 10)]) ++ tx [dg (u / 1 % 10)] = nextT L u := by
    unfold nextT dig4
    rw [Nat.div_one]
    have aa : ∀ a b c : ByteArray, (a ++ b) ++ c = a ++ (b ++ c) := fun a b c => by
      apply ByteArray.ext
      simp [Array.append_assoc]
    rw [aa, tx_append, aa, tx_append, aa, tx_append]
    rfl
  have hz : (nextT L u).size = 7 := by unfold nextT; rw [ByteArray.size_append, hL]; rfl
  unfold spec_l2Number.f
  rw [show (1000 : Int) = ((1000 : Nat) : Int) from rfl]
  rw [num_step u 1000 hu (by omega) (by omega) L (by omega), show 1000 / 10 = 100 from rfl]
  rw [num_step u 100 hu (by omega) (by omega) _ (by rw [ByteArray.size_append, hL]; show 3 + 1 ≤ 1000; decide), show 100 / 10 = 10 from rfl]
  rw [num_step u 10 hu (by omega) (by omega) _ (by rw [ByteArray.size_append, ByteArray.size_append, hL]; show 3 + 1 + 1 ≤ 1000; decide), show 10 / 10 = 1 from rfl]
  rw [num_step u 1 hu (by omega) (by omega) _ (by rw [ByteArray.size_append, ByteArray.size_append, ByteArray.size_append, hL]; show 3 + 1 + 1 + 1 ≤ 1000; decide), show 1 / 10 = 0 from rfl]
  rw [e, spec_l2Number.l0, if_neg (by omega), spec_check _ k (by omega) h7, Option.bind_some, Option.bind_some]
  rw [if_pos (by rw [hz]; show 7 + 1 ≤ 9223372036854775807; decide)]
theorem okFrom_at (s : ByteArray) : ∀ d : Nat, okFrom s d = true → ∀ i : Int, 7 - (d : Int) ≤ i → i < 7 → OkAt s i
  | 0, _, i, h1, h2 => by omega
  | d + 1, h, i, h1, h2 => by
    rw [okFrom, Bool.and_eq_true, decide_eq_true_eq] at h
    by_cases e : i = 6 - (d : Int)
    · rw [e]; exact h.1
    · exact okFrom_at s d h.2 i (by omega) h2
theorem okFrom_mk (s : ByteArray) (h : ∀ i : Int, 0 ≤ i → i < 7 → OkAt s i) : ∀ d : Nat, d ≤ 7 → okFrom s d = true
  | 0, _ => rfl
  | d + 1, hd => by
    rw [okFrom, Bool.and_eq_true, decide_eq_true_eq]
    exact ⟨h _ (by omega) (by omega), okFrom_mk s h d (by omega)⟩
theorem seven_bytes {s : ByteArray} (h : sevenB s = true) : s.size = 7 ∧ ∀ i : Int, 0 ≤ i → i < 7 → OkAt s i := by
  unfold sevenB at h
  rw [Bool.and_eq_true, decide_eq_true_eq] at h
  exact ⟨h.1, fun i h0 h1 => okFrom_at s 7 h.2 i (by omega) h1⟩
theorem cut_at (s : ByteArray) (a b j : Nat) (hb : b ≤ s.size) (hj : a + j < b) : (bs (s.extract a b)).getD j 0 = (bs s).getD (a + j) 0 := by
  rw [bs_extract, List.getD_eq_getElem?_getD, List.getD_eq_getElem?_getD, List.getElem?_drop, List.getElem?_take, if_pos hj]
theorem id_bytes {s : ByteArray} (h : idB s = true) : s.size = 8 ∧ (∀ i : Nat, i < 3 → 65 ≤ ((bs s).getD i 0).toNat ∧ ((bs s).getD i 0).toNat ≤ 90) ∧ (∀ j : Nat, j < 4 → 48 ≤ ((bs s).getD (3 + j) 0).toNat ∧ ((bs s).getD (3 + j) 0).toNat ≤ 57) := by
  unfold idB at h
  rw [Bool.and_eq_true, Bool.and_eq_true, decide_eq_true_eq] at h
  obtain ⟨⟨h8, h7⟩, _⟩ := h
  obtain ⟨hz, ho⟩ := seven_bytes h7
  have key : ∀ i : Nat, i < 7 → bt (s.extract 0 7) (i : Int) = (((bs s).getD i 0).toNat : Int) := by
    intro i hi
    have := cut_at s 0 7 i (by omega) (by omega)
    rw [Nat.zero_add] at this
    rw [bt_list _ i (by omega), this]
  refine ⟨h8, fun i hi => ?_, fun j hj => ?_⟩
  · have := ho (i : Int) (by omega) (by omega)
    unfold OkAt at this
    rw [if_pos (by omega), key i (by omega)] at this
    omega
  · have := ho ((3 + j : Nat) : Int) (by omega) (by omega)
    unfold OkAt at this
    rw [if_neg (by omega), key (3 + j) (by omega)] at this
    omega
theorem seven_next {s : ByteArray} (h : idB s = true) (u : Nat) (hu : u < 10000) : sevenB (nextT (s.extract 0 3) u) = true := by
  obtain ⟨h8, hl, _⟩ := id_bytes h
  have hz : (nextT (s.extract 0 3) u).size = 7 := by
    unfold nextT
    rw [ByteArray.size_append, ByteArray.size_extract, tx_size]
    show min 3 s.size - 0 + 4 = 7
    omega
  have hb : bs (nextT (s.extract 0 3) u) = (bs s).take 3 ++ dig4 u := by
    unfold nextT
    have e := bs_extract s 0 3
    rw [List.drop_zero] at e
    rw [← e]
    simp [bs, tx]
  have h3 : ((bs s).take 3).length = 3 := by rw [List.length_take, bs_length]; omega
  unfold sevenB
  rw [Bool.and_eq_true, decide_eq_true_eq]
  refine ⟨hz, okFrom_mk _ (fun i h0 h7 => ?_) 7 (Nat.le_refl _)⟩
  obtain ⟨n, rfl⟩ : ∃ n : Nat, i = (n : Int) := ⟨i.toNat, by omega⟩
  unfold OkAt
  rw [bt_list _ n (by omega), hb]
  by_cases hn : n < 3
  · rw [if_pos (by omega), List.getD_eq_getElem?_getD, List.getElem?_append_left (by omega), List.getElem?_take, if_pos hn, ← List.getD_eq_getElem?_getD]
    have := hl n hn
    omega
  · rw [if_neg (by omega), List.getD_eq_getElem?_getD, List.getElem?_append_right (by omega), h3, ← List.getD_eq_getElem?_getD]
    have m1 := dg_toNat (u / 1000 % 10) (by omega)
    have m2 := dg_toNat (u / 100 % 10) (by omega)
    have m3 := dg_toNat (u / 10 % 10) (by omega)
    have m4 := dg_toNat (u % 10) (by omega)
    obtain h | h | h | h : n = 3 ∨ n = 4 ∨ n = 5 ∨ n = 6 := by omega
    · subst h
      show (48 : Int) ≤ ((dg (u / 1000 % 10)).toNat : Int) ∧ ((dg (u / 1000 % 10)).toNat : Int) ≤ 57
      rw [m1]; omega
    · subst h
      show (48 : Int) ≤ ((dg (u / 100 % 10)).toNat : Int) ∧ ((dg (u / 100 % 10)).toNat : Int) ≤ 57
      rw [m2]; omega
    · subst h
      show (48 : Int) ≤ ((dg (u / 10 % 10)).toNat : Int) ∧ ((dg (u / 10 % 10)).toNat : Int) ≤ 57
      rw [m3]; omega
    · subst h
      show (48 : Int) ≤ ((dg (u % 10)).toNat : Int) ∧ ((dg (u % 10)).toNat : Int) ≤ 57
      rw [m4]; omega
end Go.Proofs.YtfindomajbjacaaGreatDoor.X
/- The text of a good container is read as that container; the lines of a manifest's text. -/
namespace Go.Proofs.YtfindomajbjacaaGreatDoor.X
open Go.RowKit Go.Proofs.YtfindomajbjacaaGreatDoorW.PrintWords Go.Proofs.YtfindomajbjacaaGreatDoorW.PrintLast
set_option linter.unusedVariables false
set_option linter.unusedSimpArgs false
theorem bs_app (a b : ByteArray) : bs (a ++ b) = bs a ++ bs b := by simp [bs]
theorem id_chars {s : ByteArray} (h : idB s = true) : ∀ c ∈ bs s, 48 ≤ c.toNat ∧ c.toNat ≤ 90 := by
  obtain ⟨h8, h3, h4⟩ := id_bytes h
  have h7 : 48 ≤ ((bs s).getD 7 0).toNat ∧ ((bs s).getD 7 0).toNat ≤ 90 := by
    unfold idB at h
    simp only [Bool.and_eq_true, decide_eq_true_eq] at h
    have hc : 65 ≤ chk (s.extract 0 7) ∧ chk (s.extract 0 7) ≤ 87 := by unfold chk; omega
    have := bt_list s 7 (by omega)
    rw [show ((7 : Nat) : Int) = 7 from rfl, h.2] at this
    omega
  intro c hc
  obtain ⟨i, hi, rfl⟩ := List.mem_iff_getElem.1 hc
  have e : (bs s)[i] = (bs s).getD i 0 := by rw [List.getD_eq_getElem?_getD, List.getElem?_eq_getElem hi]; rfl
  rw [e]
  rw [bs_length] at hi
  by_cases h0 : i < 3
  · have := h3 i h0; omega
  · by_cases h1 : i = 7
    · subst h1; exact h7
    · have := h4 (i - 3) (by omega)
      rw [show 3 + (i - 3) = i by omega] at this
      omega
theorem id_no_char {c : UInt8} {s : ByteArray} (h : idB s = true) (hc : c.toNat < 48) : c ∉ bs s := fun hm => by have := id_chars h c hm; omega
theorem itoa_no {c : UInt8} (n : Int) (h0 : 0 ≤ n) (h1 : n < 1000000) (hc : dig c = false) : c ∉ Lib.itoa n := by
  obtain ⟨u, rfl⟩ : ∃ u : Nat, n = u := ⟨n.toNat, by omega⟩
  rw [Lib.itoa_nonneg]
  exact dec_chars u c hc (by omega)
theorem szW_no {c : UInt8} (s : Int) (h : 1 ≤ s ∧ s ≤ 2) (hc : c.toNat < 48) : c ∉ bs (szW s) := by
  have : ∀ b ∈ bs (szW s), 48 ≤ b.toNat := by
    obtain rfl | rfl : s = 1 ∨ s = 2 := by omega
    · decide
    · decide
  intro hm
  have := this c hm
  omega
theorem cgW_no {c : UInt8} (s : Int) (h : 1 ≤ s ∧ s ≤ 3) (hc : c.toNat < 48) : c ∉ bs (cgW s) := by
  have : ∀ b ∈ bs (cgW s), 48 ≤ b.toNat := by
    obtain rfl | rfl | rfl : s = 1 ∨ s = 2 ∨ s = 3 := by omega
    · decide
    · decide
    · decide
  intro hm
  have := this c hm
  omega
theorem cont_bs (x : S50) : bs (contC x) = bs x.f0 ++ 32 :: (bs (szW x.f1) ++ 32 :: (Lib.itoa x.f2 ++ 32 :: (bs (cgW x.f3) ++ 32 :: Lib.itoa x.f4))) := by
  unfold contC contT
  simp only [bs_app, bs_tx, List.append_assoc, show bs spB = [32] from rfl, List.cons_append, List.nil_append]
theorem goodC_id {x : S50} (h : goodC x = true) : idB x.f0 = true := by
  unfold goodC goodB at h
  simp only [Bool.and_eq_true] at h
  exact h.1.1.1.1
theorem cont_words {x : S50} (h : goodC x = true) : splitL 32 (bs (contC x)) = [bs x.f0, bs (szW x.f1), Lib.itoa x.f2, bs (cgW x.f3), Lib.itoa x.f4] := by
  obtain ⟨_, h1, h2, h3, h4⟩ := goodC_parts h
  rw [cont_bs, splitL_app _ _ _ (id_no_char (goodC_id h) (by decide)), splitL_app _ _ _ (szW_no _ h1 (by decide)), splitL_app _ _ _ (itoa_no _ (by omega) (by omega) (by decide)), splitL_app _ _ _ (cgW_no _ h3 (by decide)), splitL_one _ _ (itoa_no _ (by omega) (by omega) (by decide))]
theorem cont_line {x : S50} (h : goodC x = true) : (10 : UInt8) ∉ bs (contC x) := by
  obtain ⟨_, h1, h2, h3, h4⟩ := goodC_parts h
  rw [cont_bs]
  simp only [List.mem_append, List.mem_cons, not_or]
  exact ⟨id_no_char (goodC_id h) (by decide), by decide, szW_no _ h1 (by decide), by decide, itoa_no _ (by omega) (by omega) (by decide), by decide, cgW_no _ h3 (by decide), by decide, itoa_no _ (by omega) (by omega) (by decide)⟩
theorem szI (s : Int) (h : 1 ≤ s ∧ s ≤ 2) : (if (szW 1).toList = (szW s).toList then (1 : Int) else if (szW 2).toList = (szW s).toList then 2 else 0) = s := by
  obtain rfl | rfl : s = 1 ∨ s = 2 := by omega
  · rw [if_pos rfl]
  · rw [if_neg (fun e => absurd ((toList_bs _ _).1 e) (by decide)), if_pos rfl]
theorem cgI (s : Int) (h : 1 ≤ s ∧ s ≤ 3) : (if (cgW 1).toList = (cgW s).toList then (1 : Int) else if (cgW 2).toList = (cgW s).toList then 2 else if (cgW 3).toList = (cgW s).toList then 3 else 0) = s := by
  obtain rfl | rfl | rfl : s = 1 ∨ s = 2 ∨ s = 3 := by omega
  · rw [if_pos rfl]
  · rw [if_neg (fun e => absurd ((toList_bs _ _).1 e) (by decide)), if_pos rfl]
  · rw [if_neg (fun e => absurd ((toList_bs _ _).1 e) (by decide)), if_neg (fun e => absurd ((toList_bs _ _).1 e) (by decide)), if_pos rfl]
theorem readR_itoa (n : Int) (h0 : 0 ≤ n) (h1 : n < 1000000) : readR (tx (Lib.itoa n)) = (n, true) := by
  obtain ⟨u, rfl⟩ : ∃ u : Nat, n = u := ⟨n.toNat, by omega⟩
  rw [Lib.itoa_nonneg]
  exact readR_dec u (by omega)
theorem parse_text {x : S50} (h : goodC x = true) (k : Nat) (hk : 1048700 ≤ k) : spec_l4Parse.f k (contC x) = yesC x := by
  have hsm := contC_short h
  obtain ⟨_, h1, h2, h3, h4⟩ := goodC_parts h
  obtain ⟨ys, e1, e2, e3, e4⟩ := split_same (contC x) 32 (by omega) k (by omega)
  rw [cont_words h] at e3
  have hy : ys = [x.f0, szW x.f1, tx (Lib.itoa x.f2), cgW x.f3, tx (Lib.itoa x.f4)] := map_bs_inj _ _ (by rw [e3]; rfl)
  subst hy
  clear e2 e3 e4
  obtain ⟨k, rfl⟩ := kpos (d := 0) (k := k) (by omega)
  have l3 := l4Index3 ⟨#[]⟩ (szW 1) (szW 2) (szW x.f1) k (by omega)
  have l4 := l4Index4 ⟨#[]⟩ (cgW 1) (cgW 2) (cgW 3) (cgW x.f3) k (by omega)
  rw [szI _ h1] at l3
  rw [cgI _ h3] at l4
  have v1 := l1Read_ends (tx (Lib.itoa x.f2)) k (by omega)
  have v2 := l1Read_ends (tx (Lib.itoa x.f4)) k (by omega)
  rw [read_same, readR_itoa _ (by omega) (by omega)] at v1 v2
  have g := spec_good x.f0 x.f1 x.f2 x.f3 x.f4 k (by omega)
  have t := specText_ends h k (by omega)
  unfold spec_l4Parse.f
  rw [show (32 : Int) = ((32 : UInt8).toNat : Int) from rfl, e1, Option.bind_some, if_neg (by omega)]
  rw [show ((([x.f0, szW x.f1, tx (Lib.itoa x.f2), cgW x.f3, tx (Lib.itoa x.f4)] : List ByteArray).length : Int) != 5) = false from rfl]
  simp only [spec_l4Parse.j0]
  rw [if_neg (by decide), if_pos (by show (2 : Int) < ((5 : Nat) : Int); decide)]
  rw [show rdOf ByteArray.empty ([x.f0, szW x.f1, tx (Lib.itoa x.f2), cgW x.f3, tx (Lib.itoa x.f4)] : List ByteArray) 2 = tx (Lib.itoa x.f2) from rfl, v1, Option.bind_some, if_pos (by show (4 : Int) < ((5 : Nat) : Int); decide)]
  rw [show rdOf ByteArray.empty ([x.f0, szW x.f1, tx (Lib.itoa x.f2), cgW x.f3, tx (Lib.itoa x.f4)] : List ByteArray) 4 = tx (Lib.itoa x.f4) from rfl, v2, Option.bind_some, if_pos (by show (0 : Int) < ((5 : Nat) : Int); decide), if_pos (by show (1 : Int) < ((5 : Nat) : Int); decide)]
  rw [show rdOf ByteArray.empty ([x.f0, szW x.f1, tx (Lib.itoa x.f2), cgW x.f3, tx (Lib.itoa x.f4)] : List ByteArray) 1 = szW x.f1 from rfl, show rdOf ByteArray.empty ([x.f0, szW x.f1, tx (Lib.itoa x.f2), cgW x.f3, tx (Lib.itoa x.f4)] : List ByteArray) 3 = cgW x.f3 from rfl, show rdOf ByteArray.empty ([x.f0, szW x.f1, tx (Lib.itoa x.f2), cgW x.f3, tx (Lib.itoa x.f4)] : List ByteArray) 0 = x.f0 from rfl]
  rw [show (⟨#[115, 109, 97, 108, 108]⟩ : ByteArray) = szW 1 from rfl, show (⟨#[108, 97, 114, 103, 101]⟩ : ByteArray) = szW 2 from rfl, l3, Option.bind_some, if_pos (by show (3 : Int) < ((5 : Nat) : Int); decide)]
  rw [show (⟨#[112, 108, 97, 105, 110]⟩ : ByteArray) = cgW 1 from rfl, show (⟨#[114, 101, 101, 102, 101, 114]⟩ : ByteArray) = cgW 2 from rfl, show (⟨#[100, 97, 110, 103, 101, 114]⟩ : ByteArray) = cgW 3 from rfl, l4, Option.bind_some]
  dsimp only
  rw [if_pos rfl, if_pos rfl, g, Option.bind_some, if_pos (show goodB x.f0 x.f1 x.f2 x.f3 x.f4 = true from h), t, Option.bind_some, if_pos rfl]
  rfl
theorem cont_inj {x y : S50} (hx : goodC x = true) (hy : goodC y = true) (h : contC x = contC y) : x = y := by
  have a := parse_text hx 1048700 (by omega)
  have b := parse_text hy 1048700 (by omega)
  rw [h] at a
  have e := Option.some.inj (a.symm.trans b)
  simp only [Prod.mk.injEq, and_true] at e
  obtain ⟨e0, e1, e2, e3, e4⟩ := e
  cases x
  cases y
  simp only at e0 e1 e2 e3 e4
  subst e0 e1 e2 e3 e4
  rfl
theorem conts_inj : ∀ (xs ys : List S50), (∀ x ∈ xs, goodC x = true) → (∀ y ∈ ys, goodC y = true) → xs.map contC = ys.map contC → xs = ys
  | [], [], _, _, _ => rfl
  | [], y :: ys, _, _, h => by cases h
  | x :: xs, [], _, _, h => by cases h
  | x :: xs, y :: ys, hx, hy, h => by
    simp only [List.map_cons, List.cons.injEq] at h
    rw [cont_inj (hx x List.mem_cons_self) (hy y List.mem_cons_self) h.1, conts_inj xs ys (fun z hz => hx z (List.mem_cons_of_mem _ hz)) (fun z hz => hy z (List.mem_cons_of_mem _ hz)) h.2]
/-- The lines of a manifest's text. -/
theorem manA_bs : ∀ (cs : List S50) (acc : ByteArray), bs (manA acc cs) = bs acc ++ (cs.map (fun x => bs (contC x) ++ [10])).flatten
  | [], acc => by simp [manA]
  | x :: r, acc => by
    rw [manA, manA_bs r, bs_app, bs_app, List.map_cons, List.flatten_cons, List.append_assoc, List.append_assoc, show bs nlB = [10] from rfl]
    simp
theorem man_lines : ∀ (cs : List S50), (∀ x ∈ cs, goodC x = true) → splitL 10 ((cs.map (fun x => bs (contC x) ++ [10])).flatten) = (cs.map contC ++ [(⟨#[]⟩ : ByteArray)]).map bs
  | [], _ => rfl
  | x :: r, h => by
    rw [List.map_cons, List.flatten_cons, List.append_assoc, List.singleton_append, splitL_app _ _ _ (cont_line (h x List.mem_cons_self)), man_lines r (fun z hz => h z (List.mem_cons_of_mem _ hz))]
    rfl
/-- Pieces without the sign tell the text. -/
theorem split_inj (c : UInt8) (a b : List UInt8) (h : splitL c a = splitL c b) : a = b := by
  rw [← join_splitL c a, h, join_splitL]
theorem manA_size (cs : List S50) (h : ∀ x ∈ cs, goodC x = true) : ∀ acc : ByteArray, (manA acc cs).size ≤ acc.size + 61 * cs.length := by
  induction cs with
  | nil => intro acc; simp [manA]
  | cons x r ih =>
    intro acc
    have h1 := contC_short (h x List.mem_cons_self)
    have h2 := ih (fun z hz => h z (List.mem_cons_of_mem _ hz)) ((acc ++ contC x) ++ nlB)
    rw [ByteArray.size_append, ByteArray.size_append, nlB_size] at h2
    rw [manA, List.length_cons]
    omega
/-- What has been read is valid, and its text is the text. -/
theorem man_read {s : ByteArray} {m : List S50} (hv : validC m = true) (h : (m.map contC ++ [(⟨#[]⟩ : ByteArray)]).map bs = splitL 10 (bs s)) : manR m = (s, true) := by
  unfold manR
  rw [if_pos hv]
  have hg := (valid_good hv).2
  have : bs (manA ⟨#[]⟩ m) = bs s := by
    apply split_inj 10
    rw [← h, manA_bs, show bs (⟨#[]⟩ : ByteArray) = [] from rfl, List.nil_append, man_lines m hg]
  rw [bs_inj this]
end Go.Proofs.YtfindomajbjacaaGreatDoor.X
/- Reading a manifest's text by the program: what is read is valid, and its texts are the lines; and the text of a valid list is read as the list. -/
namespace Go.Proofs.YtfindomajbjacaaGreatDoor.X
open Go.RowKit Go.Proofs.YtfindomajbjacaaGreatDoorW.PrintWords Go.Proofs.YtfindomajbjacaaGreatDoorW.PrintLast
set_option linter.unusedVariables false
set_option linter.unusedSimpArgs false
theorem impl_text {x : S50} (h : goodC x = true) (k : Nat) (hk : 1048700 ≤ k) : impl_ParseContainer.f k (contC x) = yesC x := by
  have hsm := contC_short h
  have e := parse_text h k hk
  rcases parse_both (contC x) (by omega) k hk with ⟨q1, _⟩ | ⟨y, q1, q2, _, _⟩
  · rw [e] at q1
    have := Option.some.inj q1
    simp at this
  · rw [← e, q1, q2]
theorem man_loop (ls : List ByteArray) (hl : ls.length ≤ 100000) (hs : ∀ x ∈ ls, x.size ≤ 1048576) (d : Nat) : ∀ (k i : Nat) (acc : List S50), i + d = ls.length → 1048800 + d ≤ k → acc.length ≤ i →
    ∃ r : List S50 × Bool, impl_ParseManifest.l0 k acc ls (ls.length : Int) (i : Int) = some r ∧ r.1.length ≤ 100000 ∧ (r.2 = true → validC r.1 = true ∧ ∃ m, r.1 = acc ++ m ∧ m.map contC = ls.drop i) := by
  induction d with
  | zero =>
    intro k i acc hi hk ha
    obtain ⟨k, rfl⟩ := kpos (d := 0) (k := k) (by omega)
    have e2 := impl_valid acc (by omega) k (by omega)
    have n1 : ¬ ((i : Int) < (ls.length : Int)) := by omega
    simp only [impl_ParseManifest.l0]
    rw [if_neg n1, e2, Option.bind_some]
    by_cases hv : validC acc = true
    · rw [if_pos hv]
      exact ⟨(acc, true), rfl, by show acc.length ≤ _; omega, fun _ => ⟨hv, [], by simp, by rw [List.drop_of_length_le (by omega)]; rfl⟩⟩
    · rw [if_neg hv]
      exact ⟨([], false), rfl, by simp, fun h => by cases h⟩
  | succ d ih =>
    intro k i acc hi hk ha
    obtain ⟨k, rfl⟩ := kpos (d := 0) (k := k) (by omega)
    have hlt : i < ls.length := by omega
    have p1 : (i : Int) < (ls.length : Int) := by omega
    have p2 : (0 : Int) ≤ (i : Int) := by omega
    have p4 : acc.length < 2932031007402 := by omega
    have hm : rdOf ByteArray.empty ls (i : Int) ∈ ls := by
      unfold rdOf
      rw [Int.toNat_natCast]
      exact getD_mem hlt
    have hw : wrap64 ((i : Int) + 1) = ((i + 1 : Nat) : Int) := wnext hlt (by omega)
    simp only [impl_ParseManifest.l0, if_pos p1, if_pos p2, if_pos p4, hw]
    rcases parse_both _ (hs _ hm) k (by omega) with ⟨q1, q2⟩ | ⟨x, q1, q2, q3, q4⟩
    · rw [q2]
      simp only [noC, Option.bind_some, Bool.false_eq_true, if_false]
      exact ⟨([], false), rfl, by simp, fun h => by cases h⟩
    · obtain ⟨r, r2, r3, r4⟩ := ih k (i + 1) (acc ++ [x]) (by omega) (by omega) (by simp; omega)
      rw [q2]
      simp only [yesC, Option.bind_some, if_true]
      refine ⟨r, r2, r3, fun h => ?_⟩
      obtain ⟨v, m, m1, m2⟩ := r4 h
      refine ⟨v, x :: m, by rw [m1]; simp, ?_⟩
      rw [List.map_cons, m2, q4, getD_cons (z := ByteArray.empty) hlt]
      rfl
theorem lines_is (s : ByteArray) (ls : List ByteArray) (z : ByteArray) (e2 : strings_Split.f s ⟨#[10]⟩ = some (ls ++ [z])) (e3 : (ls ++ [z]).map bs = splitL 10 (bs s)) (hl : ls.length ≤ 1048577) :
    impl_linesOf.f s = some (ls, z.toList == ([] : List UInt8)) := by
  unfold impl_linesOf.f
  by_cases h0 : s.toList = ([] : List UInt8)
  · have hb : bs s = [] := by rw [← h0, ByteArray.toList_eq]; rfl
    rw [hb] at e3
    have e4 : (ls ++ [z]).map bs = [[]] := e3
    have hlen := congrArg List.length e4
    simp at hlen
    subst hlen
    simp only [List.nil_append, List.map_cons, List.map_nil, List.cons.injEq, and_true] at e4
    rw [if_pos h0]
    have hz : z.toList = [] := by rw [ByteArray.toList_eq]; exact e4
    rw [hz]
    rfl
  · have c1 : 0 < (ls ++ [z]).length ∧ (ls ++ [z]).length ≤ 2000000 := by rw [List.length_append, List.length_singleton]; omega
    rw [if_neg h0, e2, Option.bind_some, if_pos c1]
    have c2 : (ls ++ [z]).length - 1 = ls.length := by rw [List.length_append, List.length_singleton]; omega
    rw [c2, List.take_left]
    have c3 : rdOf ByteArray.empty (ls ++ [z]) ((ls.length : Nat) : Int) = z := by
      unfold rdOf
      rw [Int.toNat_natCast, List.getD_eq_getElem?_getD, List.getElem?_append_right (Nat.le_refl _), Nat.sub_self]
      rfl
    rw [c3]
theorem impl_read (s : ByteArray) (hs : s.size ≤ 1048576) (k : Nat) (hk : 1200000 ≤ k) :
    ∃ r : List S50 × Bool, impl_ParseManifest.f k s = some r ∧ r.1.length ≤ 100000 ∧ (r.2 = true → validC r.1 = true ∧ manR r.1 = (s, true)) := by
  obtain ⟨ys, e1, e2, e3, e4⟩ := split_same s 10 hs 1048577 (by omega)
  obtain ⟨h, t, e⟩ := splitL_some 10 (bs s)
  have hne : ys ≠ [] := by
    rintro rfl
    rw [e] at e3
    cases e3
  obtain ⟨ls, z, rfl⟩ : ∃ ls z, ys = ls ++ [z] := ⟨ys.dropLast, ys.getLast hne, (List.dropLast_concat_getLast hne).symm⟩
  have hlen : (ls ++ [z]).length = ls.length + 1 := by rw [List.length_append, List.length_singleton]
  have hlin := lines_is s ls z e2 e3 (by omega)
  obtain ⟨k, rfl⟩ := kpos (d := 0) (k := k) (by omega)
  unfold impl_ParseManifest.f
  rw [hlin, Option.bind_some]
  dsimp only
  by_cases h4 : (s.size : Int) > 4000
  · refine ⟨([], false), ?_, by simp, fun h => by cases h⟩
    rw [decide_eq_true h4]
    split <;> simp only [impl_ParseManifest.j0, if_true]
  by_cases hz : z.toList = ([] : List UInt8)
  · have z2 : (z.toList == ([] : List UInt8)) = true := beq_iff_eq.2 hz
    rw [z2, if_pos rfl, decide_eq_false h4]
    simp only [impl_ParseManifest.j0, Bool.false_eq_true, if_false]
    have hsz : ∀ x ∈ ls, x.size ≤ 1048576 := by
      intro x hx
      have hm2 : bs x ∈ splitL 10 (bs s) := by rw [← e3]; exact List.mem_map_of_mem (List.mem_append_left _ hx)
      have := piece_len 10 (bs s) _ hm2
      rw [bs_length, bs_length] at this
      omega
    obtain ⟨r, r2, r3, r4⟩ := man_loop ls (by omega) hsz ls.length k 0 [] (by omega) (by omega) (by simp)
    refine ⟨r, r2, r3, fun h => ?_⟩
    obtain ⟨v, m, m1, m2⟩ := r4 h
    refine ⟨v, man_read v ?_⟩
    rw [m1, List.nil_append, m2, List.drop_zero]
    have hzz : z = (⟨#[]⟩ : ByteArray) := bs_inj ((toList_bs _ _).1 (hz.trans (by rw [ByteArray.toList_eq])))
    rw [← hzz]
    exact e3
  · have z2 : (z.toList == ([] : List UInt8)) = false := beq_eq_false_iff_ne.2 hz
    rw [z2, if_neg (by decide)]
    refine ⟨([], false), ?_, by simp, fun h => by cases h⟩
    simp only [impl_ParseManifest.j0, if_true]
theorem text_loop (cs : List S50) (hl : cs.length ≤ 1000) (hg : ∀ x ∈ cs, goodC x = true) (hv : validC cs = true) (d : Nat) : ∀ (k i : Nat), i + d = cs.length → 1048800 + d ≤ k →
    impl_ParseManifest.l0 k (cs.take i) (cs.map contC) (cs.length : Int) (i : Int) = some (cs, true) := by
  have hml : (cs.map contC).length = cs.length := List.length_map _
  induction d with
  | zero =>
    intro k i hi hk
    obtain ⟨k, rfl⟩ := kpos (d := 0) (k := k) (by omega)
    have n1 : ¬ ((i : Int) < (cs.length : Int)) := by omega
    simp only [impl_ParseManifest.l0]
    rw [if_neg n1, List.take_of_length_le (by omega), impl_valid cs (by omega) k (by omega), Option.bind_some, if_pos hv]
  | succ d ih =>
    intro k i hi hk
    obtain ⟨k, rfl⟩ := kpos (d := 0) (k := k) (by omega)
    have hlt : i < cs.length := by omega
    have p1 : (i : Int) < (cs.length : Int) := by omega
    have p2 : (0 : Int) ≤ (i : Int) := by omega
    have p3 : (i : Int) < ((cs.map contC).length : Int) := by rw [hml]; omega
    have p4 : (cs.take i).length < 2932031007402 := by rw [List.length_take]; omega
    have g1 : rdOf ByteArray.empty (cs.map contC) (i : Int) = contC cs[i] := by
      unfold rdOf
      rw [Int.toNat_natCast, List.getD_eq_getElem?_getD, List.getElem?_map, List.getElem?_eq_getElem hlt]
      rfl
    have hw : wrap64 ((i : Int) + 1) = ((i + 1 : Nat) : Int) := wnext hlt (by omega)
    have ht := impl_text (hg cs[i] (List.getElem_mem hlt)) k (by omega)
    have h2 := ih k (i + 1) (by omega) (by omega)
    rw [List.take_succ_eq_append_getElem hlt] at h2
    simp only [impl_ParseManifest.l0, if_pos p1, if_pos p2, if_pos p3, if_pos p4, g1, hw]
    rw [ht]
    simp only [yesC, Option.bind_some, if_true]
    exact h2
/-- The text of a valid list is read as the list. -/
theorem man_text {cs : List S50} (hv : validC cs = true) (k : Nat) (hk : 1200000 ≤ k) : impl_ParseManifest.f k (manA ⟨#[]⟩ cs) = some (cs, true) := by
  obtain ⟨h12, hg⟩ := valid_good hv
  have hsz := manA_size cs hg ⟨#[]⟩
  have h0 : (⟨#[]⟩ : ByteArray).size = 0 := rfl
  obtain ⟨ys, e1, e2, e3, e4⟩ := split_same (manA ⟨#[]⟩ cs) 10 (by omega) 1048577 (by omega)
  have e5 := e3
  rw [manA_bs, show bs (⟨#[]⟩ : ByteArray) = [] from rfl, List.nil_append, man_lines cs hg] at e5
  have hy := map_bs_inj _ _ e5
  subst hy
  have hml : (cs.map contC).length = cs.length := List.length_map _
  have hlin := lines_is _ _ _ e2 e3 (by omega)
  obtain ⟨k, rfl⟩ := kpos (d := 0) (k := k) (by omega)
  have hloop := text_loop cs (by omega) hg hv cs.length k 0 (by omega) (by omega)
  unfold impl_ParseManifest.f
  rw [hlin, Option.bind_some]
  dsimp only
  have z1 : ((⟨#[]⟩ : ByteArray).toList == ([] : List UInt8)) = true := beq_iff_eq.2 (by rw [ByteArray.toList_eq])
  rw [z1, if_pos rfl, decide_eq_false (by omega)]
  simp only [impl_ParseManifest.j0, Bool.false_eq_true, if_false]
  rw [hml]
  exact hloop
end Go.Proofs.YtfindomajbjacaaGreatDoor.X
/- What the reference's drawing of inputs answers: it always ends, within its bounds. -/
namespace Go.Proofs.YtfindomajbjacaaGreatDoor.X
open Go.RowKit Go.Proofs.YtfindomajbjacaaGreatDoorW.PrintWords Go.Proofs.YtfindomajbjacaaGreatDoorW.PrintLast
set_option linter.unusedVariables false
set_option linter.unusedSimpArgs false
/-- The bytes of a code. -/
def Byt (l : List Int) : Prop := l.length ≤ 1000000 ∧ ∀ x ∈ l, 0 ≤ x ∧ x ≤ 255
/-- A cursor's place: not behind m. -/
def At (m a : Int) : Prop := 0 ≤ a ∧ a ≤ m
theorem At.up {m n a : Int} (h : At m a) (hm : m ≤ n) : At n a := ⟨h.1, Int.le_trans h.2 hm⟩
theorem byt_rd {l : List Int} (hl : Byt l) (a : Int) (h0 : 0 ≤ a) (h1 : a < (l.length : Int)) : 0 ≤ rd l a ∧ rd l a ≤ 255 := by
  obtain ⟨n, rfl⟩ : ∃ n : Nat, a = n := ⟨a.toNat, by omega⟩
  rw [rd_nat]
  exact hl.2 _ (getD_mem (by omega))
theorem low_byte (z : Int) : 0 ≤ wrap64 (Go.bits .and .u64 (IntKind.u64.wrap z / 1099511627776) 255) ∧ wrap64 (Go.bits .and .u64 (IntKind.u64.wrap z / 1099511627776) 255) ≤ 255 := by
  rw [IntKind.wrap_u64]
  have h0 : 0 ≤ z % 18446744073709551616 / 1099511627776 := by omega
  have h1 : z % 18446744073709551616 / 1099511627776 < 18446744073709551616 := by omega
  rw [u64_and _ _ h0 h1 (by decide) (by decide)]
  have hle : ((z % 18446744073709551616 / 1099511627776).toNat &&& (255 : Int).toNat) ≤ 255 := Nat.and_le_right
  generalize ((z % 18446744073709551616 / 1099511627776).toNat &&& (255 : Int).toNat) = q at hle
  rw [w64 (by omega) (by omega)]
  omega
theorem next_ok {l : List Int} (hl : Byt l) {m a : Int} (ha : At m a) (hm : m ≤ 1000000000000) (s : Int) : ∃ v a' s', spec_l1Cur_next.f l a s = some (v, a', s') ∧ (0 ≤ v ∧ v ≤ 255) ∧ At (m + 1) a' := by
  obtain ⟨h0, h1⟩ := ha
  have hw : wrap64 (a + 1) = a + 1 := w64 (by omega) (by omega)
  have h2 : At (m + 1) (a + 1) := ⟨by omega, by omega⟩
  unfold spec_l1Cur_next.f
  rw [hw]
  by_cases h : a < (l.length : Int)
  · obtain ⟨r0, r1⟩ := byt_rd hl a h0 h
    rw [if_pos h, if_pos h0, if_pos (by omega)]
    exact ⟨_, _, _, rfl, by rw [w64 (by omega) (by omega)]; exact ⟨r0, r1⟩, h2⟩
  · rw [if_neg h, if_neg (by omega)]
    exact ⟨_, _, _, rfl, low_byte _, h2⟩
theorem pick_ok {l : List Int} (hl : Byt l) {m a : Int} (ha : At m a) (hm : m ≤ 100000000000) (s n : Int) : ∃ v a' s', spec_l1Cur_pick.f l a s n = some (v, a', s') ∧ (0 ≤ v ∧ v ≤ 65535 ∧ (1 ≤ n → v < n)) ∧ At (m + 2) a' := by
  unfold spec_l1Cur_pick.f
  by_cases h : n ≤ 1
  · rw [if_pos h]
    exact ⟨_, _, _, rfl, ⟨by omega, by omega, by omega⟩, ha.up (by omega)⟩
  · rw [if_neg h]
    obtain ⟨v, a1, s1, e1, hv, ha1⟩ := next_ok hl ha (by omega) s
    rw [e1, Option.bind_some]
    have hn0 : ¬ n = 0 := by omega
    by_cases h2 : n > 200
    · rw [if_pos h2]
      obtain ⟨v2, a2, s2, e2, hv2, ha2⟩ := next_ok hl ha1 (by omega) s1
      rw [e2, Option.bind_some, if_neg hn0]
      refine ⟨_, _, _, rfl, ?_, ha2.up (by omega)⟩
      rw [w64 (x := v * 256) (by omega) (by omega), w64 (by omega) (by omega)]
      rw [Int.tmod_eq_emod_of_nonneg (by omega)]
      show 0 ≤ (v * 256 + v2) % n ∧ (v * 256 + v2) % n ≤ 65535 ∧ (1 ≤ n → (v * 256 + v2) % n < n)
      have b1 := Int.emod_nonneg (v * 256 + v2) hn0
      have b2 := Int.emod_lt_of_pos (v * 256 + v2) (b := n) (by omega)
      have b3 : (v * 256 + v2) % n ≤ v * 256 + v2 := by
        by_cases hq : v * 256 + v2 < n
        · rw [Int.emod_eq_of_lt (by omega) hq]; exact Int.le_refl _
        · omega
      exact ⟨b1, by omega, fun _ => b2⟩
    · rw [if_neg h2, if_neg hn0]
      refine ⟨_, _, _, rfl, ?_, ha1.up (by omega)⟩
      show 0 ≤ Int.tmod v n ∧ Int.tmod v n ≤ 65535 ∧ (1 ≤ n → Int.tmod v n < n)
      rw [Int.tmod_eq_emod_of_nonneg hv.1]
      have b1 := Int.emod_nonneg v hn0
      have b2 := Int.emod_lt_of_pos v (b := n) (by omega)
      exact ⟨b1, by omega, fun _ => b2⟩
theorem one_ok {l : List Int} (hl : Byt l) {m a : Int} (ha : At m a) (hm : m ≤ 100000000000) (s n : Int) : ∃ v a' s', spec_l1Cur_one.f l a s n = some (v, a', s') ∧ At (m + 2) a' := by
  obtain ⟨v, a1, s1, e1, _, ha1⟩ := pick_ok hl ha hm s n
  exact ⟨_, _, _, by unfold spec_l1Cur_one.f; rw [e1, Option.bind_some], ha1⟩
theorem of_ok {l : List Int} (hl : Byt l) {m a : Int} (ha : At m a) (hm : m ≤ 100000000000) (s : Int) (xs : List ByteArray) (hx : 1 ≤ xs.length) (P : ByteArray → Prop) (hP : ∀ x ∈ xs, P x) : ∃ v a' s', spec_l1Cur_of.f l a s xs = some (v, a', s') ∧ P v ∧ At (m + 2) a' := by
  obtain ⟨v, a1, s1, e1, hv, ha1⟩ := pick_ok hl ha hm s (xs.length : Int)
  refine ⟨_, _, _, by unfold spec_l1Cur_of.f; rw [e1, Option.bind_some, if_pos hv.1, if_pos (hv.2.2 (by omega))], ?_, ha1⟩
  have := hv.2.2 (by omega)
  exact hP _ (getD_mem (by omega))
theorem among_ok {l : List Int} (hl : Byt l) {m a : Int} (ha : At m a) (hm : m ≤ 100000000000) (s : Int) (xs : List Int) (hx : 1 ≤ xs.length) (P : Int → Prop) (hP : ∀ x ∈ xs, P x) : ∃ v a' s', spec_l1Cur_among.f l a s xs = some (v, a', s') ∧ P v ∧ At (m + 2) a' := by
  obtain ⟨v, a1, s1, e1, hv, ha1⟩ := pick_ok hl ha hm s (xs.length : Int)
  refine ⟨_, _, _, by unfold spec_l1Cur_among.f; rw [e1, Option.bind_some, if_pos hv.1, if_pos (hv.2.2 (by omega))], ?_, ha1⟩
  have := hv.2.2 (by omega)
  exact hP _ (getD_mem (by omega))
theorem spoilt_ok {l : List Int} (hl : Byt l) {m a : Int} (ha : At m a) (hm : m ≤ 1000000000) (s : Int) (t w : ByteArray) (hw : 1 ≤ w.size) (ht : t.size ≤ 1000000000) (hws : w.size ≤ 1000000) : ∃ v a' s', spec_l1Cur_spoilt.f l a s t w = some (v, a', s') ∧ v.size ≤ t.size + 1 ∧ At (m + 6) a' := by
  unfold spec_l1Cur_spoilt.f
  by_cases h : t.toList = ([] : List UInt8)
  · rw [if_pos h, if_pos hw]
    exact ⟨_, _, _, rfl, by rw [ByteArray.size_extract]; omega, ha.up (by omega)⟩
  · rw [if_neg h]
    have hpos : 1 ≤ t.size := by
      rcases Nat.eq_zero_or_pos t.size with h0 | h0
      · refine absurd ?_ h
        obtain ⟨d⟩ := t
        have : d.size = 0 := h0
        obtain rfl : d = #[] := Array.eq_empty_of_size_eq_zero this
        unfold ByteArray.toList ByteArray.toList.loop
        rfl
      · exact h0
    obtain ⟨i, a1, s1, e1, hi, ha1⟩ := pick_ok hl ha (by omega) s (t.size : Int)
    obtain ⟨j, a2, s2, e2, hj, ha2⟩ := pick_ok hl ha1 (by omega) s1 (w.size : Int)
    obtain ⟨c, a3, s3, e3, hc, ha3⟩ := pick_ok hl ha2 (by omega) s2 3
    have hj1 := hj.2.2 (by omega)
    have hi1 := hi.2.2 (by omega)
    rw [e1, Option.bind_some]
    simp only
    rw [e2, Option.bind_some]
    simp only
    rw [e3, Option.bind_some]
    simp only
    rw [if_pos ⟨⟨hi.1, hi1⟩, ⟨hj.1, hj1⟩, by omega, by omega⟩]
    refine ⟨_, _, _, rfl, ?_, ha3.up (by omega)⟩
    unfold spoT spoB
    split
    · simp only [ByteArray.size_append, ByteArray.size_extract]; omega
    · split
      · simp only [ByteArray.size_append, ByteArray.size_extract]; omega
      · simp only [ByteArray.size_append, ByteArray.size_extract]; omega
end Go.Proofs.YtfindomajbjacaaGreatDoor.X
/- Drawing identifiers: it always ends, with a text of at most nine bytes. -/
namespace Go.Proofs.YtfindomajbjacaaGreatDoor.X
open Go.RowKit Go.Proofs.YtfindomajbjacaaGreatDoorW.PrintWords Go.Proofs.YtfindomajbjacaaGreatDoorW.PrintLast
set_option linter.unusedVariables false
set_option linter.unusedSimpArgs false
/-- Three letters: whatever number follows, it is an identifier. -/
def Letters (L : ByteArray) : Prop := L.size = 3 ∧ ∀ u, u < 10000 → sevenB (nextT L u) = true
theorem letters_of (s : ByteArray) (h : idB s = true) : Letters (s.extract 0 3) := by
  refine ⟨?_, fun u hu => seven_next h u hu⟩
  obtain ⟨h8, _⟩ := id_bytes h
  rw [ByteArray.size_extract]; omega
theorem l_ABC : Letters (⟨#[65, 66, 67]⟩ : ByteArray) := letters_of ⟨#[65, 66, 67, 48, 48, 48, 48, 85]⟩ (by decide +kernel)
theorem l_XYZ : Letters (⟨#[88, 89, 90]⟩ : ByteArray) := letters_of ⟨#[88, 89, 90, 48, 48, 48, 48, 85]⟩ (by decide +kernel)
theorem l_SEA : Letters (⟨#[83, 69, 65]⟩ : ByteArray) := letters_of ⟨#[83, 69, 65, 48, 48, 48, 48, 76]⟩ (by decide +kernel)
theorem l_ZZZ : Letters (⟨#[90, 90, 90]⟩ : ByteArray) := letters_of ⟨#[90, 90, 90, 48, 48, 48, 48, 69]⟩ (by decide +kernel)
theorem l_QQQ : Letters (⟨#[81, 81, 81]⟩ : ByteArray) := letters_of ⟨#[81, 81, 81, 48, 48, 48, 48, 80]⟩ (by decide +kernel)
theorem l_MAX : Letters (⟨#[77, 65, 88]⟩ : ByteArray) := letters_of ⟨#[77, 65, 88, 48, 48, 48, 48, 75]⟩ (by decide +kernel)
theorem number_ok {L : ByteArray} (h : Letters L) (n : Int) (h0 : 0 ≤ n) (h1 : n < 10000) (k : Nat) (hk : 20 ≤ k) : ∃ v, spec_l2Number.f k L n = some v ∧ v.size = 8 := by
  obtain ⟨u, rfl⟩ : ∃ u : Nat, n = u := ⟨n.toNat, by omega⟩
  refine ⟨_, number_ends L u h.1 (by omega) (h.2 u (by omega)) k hk, ?_⟩
  unfold nextT
  rw [ByteArray.size_append, ByteArray.size_append, h.1]
  rfl
theorem id_ok {l : List Int} (hl : Byt l) {m a : Int} (ha : At m a) (hm : m ≤ 1000000000) (s : Int) (k : Nat) (hk : 20 ≤ k) : ∃ v a' s', spec_l1Cur_id.f k l a s = some (v, a', s') ∧ v.size = 8 ∧ At (m + 6) a' := by
  unfold spec_l1Cur_id.f
  obtain ⟨L, a1, s1, e1, hL, ha1⟩ := of_ok hl ha (by omega) s ([(⟨#[65, 66, 67]⟩ : ByteArray), (⟨#[88, 89, 90]⟩ : ByteArray), (⟨#[83, 69, 65]⟩ : ByteArray), (⟨#[90, 90, 90]⟩ : ByteArray)] : List ByteArray) (by decide) Letters
    (by intro x hx; simp only [List.mem_cons, List.not_mem_nil, or_false] at hx; rcases hx with rfl | rfl | rfl | rfl; exact l_ABC; exact l_XYZ; exact l_SEA; exact l_ZZZ)
  rw [e1, Option.bind_some]
  obtain ⟨x, a2, s2, e2, hx, ha2⟩ := pick_ok hl ha1 (by omega) s1 200
  simp only
  rw [e2, Option.bind_some]
  obtain ⟨y, a3, s3, e3, hy, ha3⟩ := among_ok hl ha2 (by omega) s2 ([1, 7, 50] : List Int) (by decide) (fun y => 1 ≤ y ∧ y ≤ 50) (by decide)
  simp only
  rw [e3, Option.bind_some]
  have hx2 := hx.2.2 (by omega)
  have hx0 := hx.1
  have hp : 0 ≤ x * y ∧ x * y < 10000 := by
    refine ⟨Int.mul_nonneg hx0 (by omega), ?_⟩
    have : x * y ≤ 199 * 50 := Int.mul_le_mul (by omega) hy.2 (by omega) (by omega)
    omega
  obtain ⟨v, ev, hv⟩ := number_ok hL (x * y) hp.1 hp.2 k hk
  simp only
  rw [w64 (by omega) (by omega), ev, Option.bind_some]
  exact ⟨_, _, _, rfl, hv, ha3.up (by omega)⟩
theorem anyId_ok {l : List Int} (hl : Byt l) {m a : Int} (ha : At m a) (hm : m ≤ 100000000) (s : Int) (k : Nat) (hk : 21 ≤ k) : ∃ v a' s', spec_l1Cur_anyId.f k l a s = some (v, a', s') ∧ v.size ≤ 9 ∧ At (m + 16) a' := by
  have key : ∀ (x : ByteArray) (a s : Int), x.size ≤ 9 → At (m + 14) a → ∃ v a' s', spec_l1Cur_anyId.j0 k x l a s = some (v, a', s') ∧ v.size ≤ 9 ∧ At (m + 16) a' := by
    intro x a s hx ha
    obtain ⟨k, rfl⟩ := kpos (d := 0) (k := k) (by omega)
    obtain ⟨b, a1, s1, e1, ha1⟩ := one_ok hl ha (by omega) s 24
    simp only [spec_l1Cur_anyId.j0]
    rw [e1, Option.bind_some]
    simp only
    by_cases hb : b = true
    · obtain ⟨v, ev, hv⟩ := number_ok l_QQQ 9999 (by decide) (by decide) k (by omega)
      rw [if_pos hb, ev, Option.bind_some]
      exact ⟨_, _, _, rfl, by omega, ha1.up (by omega)⟩
    · rw [if_neg hb]
      exact ⟨_, _, _, rfl, hx, ha1.up (by omega)⟩
  unfold spec_l1Cur_anyId.f
  obtain ⟨i, a1, s1, e1, hi, ha1⟩ := id_ok hl ha (by omega) s k (by omega)
  rw [e1, Option.bind_some]
  simp only
  obtain ⟨b, a2, s2, e2, ha2⟩ := one_ok hl ha1 (by omega) s1 8
  rw [e2, Option.bind_some]
  simp only
  by_cases hb : b = true
  · obtain ⟨v, a3, s3, e3, hv, ha3⟩ := spoilt_ok hl ha2 (by omega) s2 i (⟨#[65, 48, 66, 49]⟩ : ByteArray) (by decide) (by omega) (by decide)
    rw [if_pos hb, e3, Option.bind_some]
    exact key _ _ _ (by simp only; omega) (ha3.up (by omega))
  · rw [if_neg hb]
    exact key _ _ _ (by omega) (ha2.up (by omega))
end Go.Proofs.YtfindomajbjacaaGreatDoor.X
/- Drawing containers and lists of containers: it always ends; a list is short. -/
namespace Go.Proofs.YtfindomajbjacaaGreatDoor.X
open Go.RowKit Go.Proofs.YtfindomajbjacaaGreatDoorW.PrintWords Go.Proofs.YtfindomajbjacaaGreatDoorW.PrintLast
set_option linter.unusedVariables false
set_option linter.unusedSimpArgs false
theorem container_ok {l : List Int} (hl : Byt l) {m a : Int} (ha : At m a) (hm : m ≤ 100000000) (s : Int) (k : Nat) (hk : 20 ≤ k) :
    ∃ id b c d e a' s', spec_l1Cur_container.f k l a s = some (id, b, c, d, e, a', s') ∧ id.size = 8 ∧ (1 ≤ b ∧ b ≤ 2) ∧ (1 ≤ c ∧ c ≤ 32000) ∧ (1 ≤ d ∧ d ≤ 3) ∧ (1 ≤ e ∧ e ≤ 4) ∧ At (m + 14) a' := by
  unfold spec_l1Cur_container.f
  obtain ⟨v, a1, s1, e1, hv, ha1⟩ := id_ok hl ha (by omega) s k hk
  rw [e1, Option.bind_some]
  dsimp only
  obtain ⟨x, a2, s2, e2, hx, ha2⟩ := pick_ok hl ha1 (by omega) s1 2
  have hx2 := hx.2.2 (by omega)
  have hx0 := hx.1
  rw [e2, Option.bind_some]
  dsimp only
  obtain ⟨y, a3, s3, e3, hy, ha3⟩ := among_ok hl ha2 (by omega) s2 ([1, 2000, 8000, 12000, 20000, 28000, 32000] : List Int) (by decide) (fun y => 1 ≤ y ∧ y ≤ 32000) (by decide)
  rw [e3, Option.bind_some]
  dsimp only
  obtain ⟨z, a4, s4, e4, hz, ha4⟩ := among_ok hl ha3 (by omega) s3 ([1, 1, 2, 3] : List Int) (by decide) (fun y => 1 ≤ y ∧ y ≤ 3) (by decide)
  rw [e4, Option.bind_some]
  dsimp only
  obtain ⟨p, a5, s5, e5, hp, ha5⟩ := pick_ok hl ha4 (by omega) s4 4
  have hp2 := hp.2.2 (by omega)
  have hp0 := hp.1
  rw [e5, Option.bind_some]
  dsimp only
  rw [w64 (show -9223372036854775808 ≤ 1 + x by omega) (by omega), w64 (show -9223372036854775808 ≤ 1 + p by omega) (by omega)]
  exact ⟨_, _, _, _, _, _, _, rfl, hv, by omega, hy, hz, by omega, ha5.up (by omega)⟩
theorem anyContainer_ok {l : List Int} (hl : Byt l) {m a : Int} (ha : At m a) (hm : m ≤ 10000000) (s : Int) (k : Nat) (hk : 21 ≤ k) :
    ∃ id b c d e a' s', spec_l1Cur_anyContainer.f k l a s = some (id, b, c, d, e, a', s') ∧ id.size ≤ 9 ∧ At (m + 32) a' := by
  unfold spec_l1Cur_anyContainer.f
  obtain ⟨id, b, c, d, e, a1, s1, e1, hid, _, _, _, _, ha1⟩ := container_ok hl ha (by omega) s k (by omega)
  rw [e1, Option.bind_some]
  dsimp only
  obtain ⟨x, a2, s2, e2, hx, ha2⟩ := pick_ok hl ha1 (by omega) s1 24
  rw [e2, Option.bind_some]
  dsimp only
  by_cases h0 : x = 0
  · rw [if_pos h0]
    obtain ⟨v, a3, s3, e3, hv, ha3⟩ := anyId_ok hl ha2 (by omega) s2 k (by omega)
    rw [e3, Option.bind_some]
    exact ⟨_, _, _, _, _, _, _, rfl, hv, ha3.up (by omega)⟩
  rw [if_neg h0]
  by_cases h1 : x = 1
  · rw [if_pos h1]
    obtain ⟨v, a3, s3, e3, hv, ha3⟩ := among_ok hl ha2 (by omega) s2 ([0, 3, 2] : List Int) (by decide) (fun _ => True) (fun _ _ => trivial)
    rw [e3, Option.bind_some]
    exact ⟨_, _, _, _, _, _, _, rfl, by omega, ha3.up (by omega)⟩
  rw [if_neg h1]
  by_cases h2 : x = 2
  · rw [if_pos h2]
    obtain ⟨v, a3, s3, e3, hv, ha3⟩ := among_ok hl ha2 (by omega) s2 ([0, 32001, 32000, 1] : List Int) (by decide) (fun _ => True) (fun _ _ => trivial)
    rw [e3, Option.bind_some]
    exact ⟨_, _, _, _, _, _, _, rfl, by omega, ha3.up (by omega)⟩
  rw [if_neg h2]
  by_cases h3 : x = 3
  · rw [if_pos h3]
    obtain ⟨v, a3, s3, e3, hv, ha3⟩ := among_ok hl ha2 (by omega) s2 ([0, 4, 3] : List Int) (by decide) (fun _ => True) (fun _ _ => trivial)
    rw [e3, Option.bind_some]
    exact ⟨_, _, _, _, _, _, _, rfl, by omega, ha3.up (by omega)⟩
  rw [if_neg h3]
  by_cases h4 : x = 4
  · rw [if_pos h4]
    obtain ⟨v, a3, s3, e3, hv, ha3⟩ := among_ok hl ha2 (by omega) s2 ([0, 10, 9] : List Int) (by decide) (fun _ => True) (fun _ _ => trivial)
    rw [e3, Option.bind_some]
    exact ⟨_, _, _, _, _, _, _, rfl, by omega, ha3.up (by omega)⟩
  rw [if_neg h4]
  exact ⟨_, _, _, _, _, _, _, rfl, by omega, ha2.up (by omega)⟩
/-- Containers whose numbers are short texts. -/
def Short (xs : List S50) : Prop := ∀ x ∈ xs, x.f0.size ≤ 9
theorem Short.snoc {xs : List S50} (h : Short xs) (x : S50) (hx : x.f0.size ≤ 9) : Short (xs ++ [x]) := by
  intro y hy
  rcases List.mem_append.1 hy with h1 | h1
  · exact h y h1
  · rw [List.mem_singleton.1 h1]; exact hx
theorem containers_l1 {l : List Int} (hl : Byt l) (d : Nat) : ∀ (k : Nat) (xs : List S50) (i m a s : Int), Short xs → 0 ≤ i → i + d = 14 → d + 25 < k → (xs.length : Int) ≤ 8 + i → At m a → m + 2 * d ≤ 10000000 →
    ∃ ys a' s', spec_l1Cur_containers.l1 k xs i l a s = some (ys, a', s') ∧ ys.length ≤ 30 ∧ Short ys ∧ At (m + 2 * d + 2) a' := by
  induction d with
  | zero =>
    intro k xs i m a s hxs h0 hi hk hx ha hm
    obtain ⟨k, rfl⟩ := kpos (d := 0) (k := k) (by omega)
    obtain ⟨v, a1, s1, e1, hv, ha1⟩ := pick_ok hl ha (by omega) s 2
    simp only [spec_l1Cur_containers.l1]
    rw [e1, Option.bind_some]
    dsimp only
    have hn : ¬ i < 14 := by omega
    by_cases hc : (xs.length : Int) < wrap64 (12 + v)
    · rw [if_pos hc, if_neg hn]
      exact ⟨_, _, _, rfl, by omega, hxs, ha1.up (by omega)⟩
    · rw [if_neg hc]
      exact ⟨_, _, _, rfl, by omega, hxs, ha1.up (by omega)⟩
  | succ d ih =>
    intro k xs i m a s hxs h0 hi hk hx ha hm
    obtain ⟨k, rfl⟩ := kpos (d := 0) (k := k) (by omega)
    obtain ⟨v, a1, s1, e1, hv, ha1⟩ := pick_ok hl ha (by omega) s 2
    simp only [spec_l1Cur_containers.l1]
    rw [e1, Option.bind_some]
    dsimp only
    have hn : i < 14 := by omega
    by_cases hc : (xs.length : Int) < wrap64 (12 + v)
    · obtain ⟨t, et, ht⟩ := number_ok l_MAX i h0 (by omega) k (by omega)
      rw [if_pos hc, if_pos hn, et, Option.bind_some, if_pos (by omega), w64 (show -9223372036854775808 ≤ i + 1 by omega) (by omega)]
      obtain ⟨ys, a2, s2, q1, q2, q3, q4⟩ := ih k (xs ++ [(⟨t, 1, wrap64 (100 + i), 1, wrap64 (1 + Int.tmod i 9)⟩ : S50)]) (i + 1) (m + 2) a1 s1 (hxs.snoc _ (by show t.size ≤ 9; omega)) (by omega) (by omega) (by omega) (by rw [List.length_append, List.length_singleton]; omega) ha1 (by omega)
      exact ⟨ys, a2, s2, q1, q2, q3, q4.up (by omega)⟩
    · rw [if_neg hc]
      exact ⟨_, _, _, rfl, by omega, hxs, ha1.up (by omega)⟩
theorem containers_l0 {l : List Int} (hl : Byt l) (d : Nat) : ∀ (k : Nat) (xs : List S50) (n m a s : Int), Short xs → n = d → d + 1048700 < k → (xs.length : Int) + d ≤ 8 → At m a → m + 14 * d ≤ 1000000 →
    ∃ ys a' s', spec_l1Cur_containers.l0 k xs n l a s = some (ys, a', s') ∧ ys.length ≤ 30 ∧ Short ys ∧ At (m + 14 * d + 34) a' := by
  induction d with
  | zero =>
    intro k xs n m a s hxs hn hk hx ha hm
    obtain ⟨k, rfl⟩ := kpos (d := 0) (k := k) (by omega)
    simp only [spec_l1Cur_containers.l0]
    rw [if_neg (by omega)]
    obtain ⟨v, a1, s1, e1, hv, ha1⟩ := pick_ok hl ha (by omega) s 20
    rw [e1, Option.bind_some]
    dsimp only
    by_cases h0 : v = 0
    · obtain ⟨id, b, c, dd, e, a2, s2, e2, hid, ha2⟩ := anyContainer_ok hl ha1 (by omega) s1 k (by omega)
      rw [if_pos h0, e2, Option.bind_some, if_pos (by omega)]
      exact ⟨_, _, _, rfl, by rw [List.length_append, List.length_singleton]; omega, hxs.snoc _ hid, ha2.up (by omega)⟩
    rw [if_neg h0]
    by_cases h1 : v = 1
    · rw [if_pos h1]
      by_cases hp : (xs.length : Int) > 0
      · obtain ⟨j, a2, s2, e2, hj, ha2⟩ := pick_ok hl ha1 (by omega) s1 (xs.length : Int)
        have hj2 := hj.2.2 (by omega)
        have hj0 := hj.1
        rw [if_pos hp, e2, Option.bind_some]
        dsimp only
        rw [if_pos hj0, if_pos hj2, if_pos (by omega)]
        refine ⟨_, _, _, rfl, by rw [List.length_append, List.length_singleton]; omega, hxs.snoc _ ?_, ha2.up (by omega)⟩
        show (rd_T50 xs j).f0.size ≤ 9
        obtain ⟨q, rfl⟩ : ∃ q : Nat, j = q := ⟨j.toNat, by omega⟩
        rw [rdC61_nat]
        exact hxs _ (getD_mem (by omega))
      · rw [if_neg hp]
        exact ⟨_, _, _, rfl, by omega, hxs, ha1.up (by omega)⟩
    rw [if_neg h1]
    by_cases h2 : v = 2
    · rw [if_pos h2]
      obtain ⟨ys, a2, s2, q1, q2, q3, q4⟩ := containers_l1 hl 14 k xs 0 _ a1 s1 hxs (by omega) (by omega) (by omega) (by omega) ha1 (by omega)
      exact ⟨ys, a2, s2, q1, q2, q3, q4.up (by omega)⟩
    · rw [if_neg h2]
      exact ⟨_, _, _, rfl, by omega, hxs, ha1.up (by omega)⟩
  | succ d ih =>
    intro k xs n m a s hxs hn hk hx ha hm
    obtain ⟨k, rfl⟩ := kpos (d := 0) (k := k) (by omega)
    obtain ⟨id, b, c, dd, e, a1, s1, e1, hid, _, _, _, _, ha1⟩ := container_ok hl ha (by omega) s k (by omega)
    have hf := Find_ends xs id (by omega) k (by omega)
    simp only [spec_l1Cur_containers.l0]
    rw [if_pos (by omega), e1, Option.bind_some]
    dsimp only
    rw [hf, Option.bind_some, w64 (show -9223372036854775808 ≤ n - 1 by omega) (by omega)]
    by_cases ht : idxI (sameId id) xs 0 < 0
    · rw [if_pos ht, if_pos (by omega)]
      obtain ⟨ys, a2, s2, q1, q2, q3, q4⟩ := ih k (xs ++ [(⟨id, b, c, dd, e⟩ : S50)]) (n - 1) (m + 14) a1 s1 (hxs.snoc _ (by show id.size ≤ 9; omega)) (by omega) (by omega) (by rw [List.length_append, List.length_singleton]; omega) ha1 (by omega)
      exact ⟨ys, a2, s2, q1, q2, q3, q4.up (by omega)⟩
    · rw [if_neg ht]
      obtain ⟨ys, a2, s2, q1, q2, q3, q4⟩ := ih k xs (n - 1) (m + 14) a1 s1 hxs (by omega) (by omega) (by omega) ha1 (by omega)
      exact ⟨ys, a2, s2, q1, q2, q3, q4.up (by omega)⟩
theorem containers_ok {l : List Int} (hl : Byt l) {m a : Int} (ha : At m a) (hm : m ≤ 100000) (s : Int) (k : Nat) (hk : 1048800 ≤ k) :
    ∃ ys a' s', spec_l1Cur_containers.f k l a s = some (ys, a', s') ∧ ys.length ≤ 30 ∧ Short ys ∧ At (m + 150) a' := by
  unfold spec_l1Cur_containers.f
  obtain ⟨v, a1, s1, e1, hv, ha1⟩ := pick_ok hl ha (by omega) s 8
  have hv2 := hv.2.2 (by omega)
  have hv0 := hv.1
  rw [e1, Option.bind_some]
  dsimp only
  obtain ⟨n, rfl⟩ : ∃ n : Nat, v = n := ⟨v.toNat, by omega⟩
  obtain ⟨ys, a2, s2, q1, q2, q3, q4⟩ := containers_l0 hl n k [] (n : Int) (m + 2) a1 s1 (fun x hx => by cases hx) rfl (by omega) (by simp; omega) ha1 (by omega)
  exact ⟨ys, a2, s2, q1, q2, q3, q4.up (by omega)⟩
end Go.Proofs.YtfindomajbjacaaGreatDoor.X
namespace Go.Proofs.YtfindomajbjacaaGreatDoor.Pure
open Go.RowKit Go.Proofs.YtfindomajbjacaaGreatDoor.X Go.Proofs.YtfindomajbjacaaGreatDoorW.PrintWords Go.Proofs.YtfindomajbjacaaGreatDoorW.PrintLast
set_option linter.unusedVariables false
set_option linter.unusedSimpArgs false
theorem spec_manT (cs : List S50) (hl : cs.length ≤ 1048576) (k : Nat) (hk : 1048700 ≤ k) : spec_ManifestText.f k cs = some (manR cs) := by
  unfold spec_ManifestText.f manR
  rw [spec_valid cs hl k hk, Option.bind_some]
  by_cases h : validC cs = true
  · obtain ⟨h1, h2⟩ := valid_good h
    rw [if_pos h, if_pos h, spec_man cs (by omega) h2 k (by omega), Option.bind_some]
  · rw [if_neg h, if_neg h]
theorem impl_manT (cs : List S50) (hl : cs.length ≤ 1048576) (k : Nat) (hk : 1048700 ≤ k) : impl_ManifestText.f k cs = some (manR cs) := by
  unfold impl_ManifestText.f manR
  rw [impl_valid cs hl k (by omega), Option.bind_some]
  by_cases h : validC cs = true
  · obtain ⟨h1, h2⟩ := valid_good h
    rw [if_pos h, if_pos h, impl_man cs (by omega) h2, Option.bind_some]
  · rw [if_neg h, if_neg h]
theorem vList_loop (cs : List S50) (hx : cs.length ≤ 1048576) (d : Nat) : ∀ (k i : Nat), i + d = cs.length → d < k → laws_vList.l0 k cs cs (i : Int) = some true := by
  induction d with
  | zero =>
    intro k i hi hk
    obtain ⟨k, rfl⟩ := kpos hk
    simp only [laws_vList.l0]
    rw [if_neg (by omega)]
  | succ d ih =>
    intro k i hi hk
    obtain ⟨k, rfl⟩ := kpos hk
    have hlt : i < cs.length := by omega
    simp only [laws_vList.l0]
    rw [if_pos (by omega), if_pos (by omega), if_pos (by omega), if_neg (by simp), wnext hlt (by omega)]
    exact ih k (i + 1) (by omega) (by omega)
theorem vList_refl (cs : List S50) (hx : cs.length ≤ 1048576) (k : Nat) (hk : 1048577 ≤ k) : laws_vList.f k cs cs = some true := by
  unfold laws_vList.f
  rw [if_pos rfl]
  have := vList_loop cs hx cs.length k 0 (by omega) (by omega)
  rw [show ((0 : Nat) : Int) = 0 from rfl] at this
  exact this
theorem text_ok (id : ByteArray) (b c d e : Int) (hid : id.size = 8) (hb : 1 ≤ b ∧ b ≤ 2) (hc : 1 ≤ c ∧ c ≤ 32000) (hd : 1 ≤ d ∧ d ≤ 3) (he : 1 ≤ e ∧ e ≤ 4) (k : Nat) (hk : 20 ≤ k) : ∃ t, spec_l4Text.f k id b c d e = some t ∧ t.size ≤ 90 := by
  refine ⟨_, l4Text_ends id b c d e (by omega) hb (by omega) hd (by omega) k hk, ?_⟩
  have z1 := szW_size b
  have z2 := cgW_size d
  have z3 := itoa_length c (by omega) (by omega)
  have z4 := itoa_length e (by omega) (by omega)
  rw [contT_size]
  omega
theorem drawM_loop {l : List Int} (hl : Byt l) (d : Nat) : ∀ (k : Nat) (x : ByteArray) (n m a s : Int), n = d → d + 30 < k → x.size + 100 * d ≤ 1000 → At m a → m + 14 * d ≤ 1000000 → ∃ t, spec_DrawParseManifest.l0 k x n l a s = some t ∧ t.size ≤ 1001 := by
  induction d with
  | zero =>
    intro k x n m a s hn hk hx ha hm
    obtain ⟨k, rfl⟩ := kpos (d := 0) (k := k) (by omega)
    obtain ⟨v, a1, s1, e1, ha1⟩ := one_ok hl ha (by omega) s 5
    simp only [spec_DrawParseManifest.l0]
    rw [if_neg (by omega), e1, Option.bind_some]
    dsimp only
    by_cases hv : v = true
    · obtain ⟨t, a2, s2, e2, ht, _⟩ := spoilt_ok hl ha1 (by omega) s1 x (⟨#[49, 32, 65, 10]⟩ : ByteArray) (by decide) (by omega) (by decide)
      rw [if_pos hv, e2, Option.bind_some]
      exact ⟨_, rfl, by show t.size ≤ 1001; omega⟩
    · rw [if_neg hv]
      exact ⟨_, rfl, by omega⟩
  | succ d ih =>
    intro k x n m a s hn hk hx ha hm
    obtain ⟨k, rfl⟩ := kpos (d := 0) (k := k) (by omega)
    obtain ⟨id, b, c, dd, e, a1, s1, e1, hid, hb, hc, hd, he, ha1⟩ := container_ok hl ha (by omega) s k (by omega)
    obtain ⟨t, et, ht⟩ := text_ok id b c dd e hid hb hc hd he k (by omega)
    simp only [spec_DrawParseManifest.l0]
    rw [if_pos (by omega), e1, Option.bind_some]
    dsimp only
    rw [et, Option.bind_some, if_pos (by omega), if_pos (by rw [ByteArray.size_append]; omega), w64 (show -9223372036854775808 ≤ n - 1 by omega) (by omega)]
    exact ih k _ (n - 1) (m + 14) a1 s1 (by omega) (by omega) (by rw [ByteArray.size_append, ByteArray.size_append, show (⟨#[10]⟩ : ByteArray).size = 1 from rfl]; omega) ha1 (by omega)
theorem drawM {l : List Int} (hl : Byt l) (k : Nat) (hk : 50 ≤ k) : ∃ t, spec_DrawParseManifest.f k l = some t ∧ t.size ≤ 1001 := by
  unfold spec_DrawParseManifest.f
  obtain ⟨v, a1, s1, e1, hv, ha1⟩ := pick_ok hl (show At 0 0 from ⟨by decide, by decide⟩) (by decide) 0 4
  have hv2 := hv.2.2 (by omega)
  have hv0 := hv.1
  rw [e1, Option.bind_some]
  dsimp only
  obtain ⟨n, rfl⟩ : ∃ n : Nat, v = n := ⟨v.toNat, by omega⟩
  exact drawM_loop hl n k ⟨#[]⟩ (n : Int) _ a1 s1 rfl (by omega) (by show 0 + 100 * n ≤ 1000; omega) ha1 (by omega)
theorem drawC {l : List Int} (hl : Byt l) (k : Nat) (hk : 50 ≤ k) : ∃ t, spec_DrawParseContainer.f k l = some t ∧ t.size ≤ 1001 := by
  unfold spec_DrawParseContainer.f
  obtain ⟨id, b, c, dd, e, a1, s1, e1, hid, hb, hc, hd, he, ha1⟩ := container_ok hl (show At 0 0 from ⟨by decide, by decide⟩) (by decide) 0 k (by omega)
  obtain ⟨t, et, ht⟩ := text_ok id b c dd e hid hb hc hd he k (by omega)
  obtain ⟨v, a2, s2, e2, ha2⟩ := one_ok hl ha1 (by omega) s1 4
  rw [e1, Option.bind_some]
  dsimp only
  rw [et, Option.bind_some, e2, Option.bind_some]
  dsimp only
  by_cases hv : v = true
  · obtain ⟨u, a3, s3, e3, hu, _⟩ := spoilt_ok hl ha2 (by omega) s2 t (⟨#[49, 32, 112, 65]⟩ : ByteArray) (by decide) (by omega) (by decide)
    rw [if_pos hv, e3, Option.bind_some]
    exact ⟨_, rfl, by show u.size ≤ 1001; omega⟩
  · rw [if_neg hv]
    exact ⟨_, rfl, by omega⟩
theorem no_good : goodB (⟨#[]⟩ : ByteArray) 0 0 0 0 = false := by
  unfold goodB idB
  rfl
theorem j1_ends {l : List Int} (hl : Byt l) (k : Nat) (hk : 1200000 ≤ k) : laws_FnManifests.j1 (k + 1) l false = some true := by
  obtain ⟨t, et, ht⟩ := drawC hl k (by omega)
  simp only [laws_FnManifests.j1]
  rw [if_neg (by decide), et, Option.bind_some]
  unfold spec_ParseContainer.f
  rcases parse_both t (by omega) k (by omega) with ⟨q1, q2⟩ | ⟨x, q1, q2, q3, q4⟩
  · rw [q1, q2]
    simp only [noC, Option.bind_some]
    have e : impl_ContainerText.f k (⟨#[]⟩ : ByteArray) 0 0 0 0 = some ((⟨#[]⟩ : ByteArray), false) := by
      unfold impl_ContainerText.f
      rw [impl_good _ _ _ _ _ k (by omega), Option.bind_some, if_neg (by rw [no_good]; decide)]
    rw [e, Option.bind_some, if_pos (by simp), if_pos (by rfl), if_neg (by decide)]
  · rw [q1, q2]
    simp only [yesC, Option.bind_some]
    have e : impl_ContainerText.f k x.f0 x.f1 x.f2 x.f3 x.f4 = some (t, true) := by
      unfold impl_ContainerText.f
      rw [impl_good _ _ _ _ _ k (by omega), Option.bind_some, if_pos (show goodB x.f0 x.f1 x.f2 x.f3 x.f4 = true from q3), implText_ends q3, Option.bind_some, q4]
    rw [e, Option.bind_some, if_pos (by simp), if_pos (by rfl)]
    simp
theorem j0_ends {l : List Int} (hl : Byt l) (k : Nat) (hk : 1200001 ≤ k) : laws_FnManifests.j0 (k + 1) l false = some true := by
  obtain ⟨t, et, ht⟩ := drawM hl k (by omega)
  obtain ⟨r, er, hr, hv⟩ := impl_read t (by omega) k (by omega)
  have em := impl_manT r.1 (by omega) k (by omega)
  obtain ⟨k, rfl⟩ := kpos (d := 0) (k := k) (by omega)
  have hj := j1_ends hl k (by omega)
  simp only [laws_FnManifests.j0]
  rw [if_neg (by decide), et, Option.bind_some, er, Option.bind_some, em, Option.bind_some]
  by_cases h : r.2 = true
  · obtain ⟨_, hm⟩ := hv h
    rw [if_pos h, hm, if_pos rfl, bne_self_eq_false]
    exact hj
  · rw [if_neg h]
    exact hj
theorem FnManifests : laws_FnManifests.Pure := by
  intro l hl
  refine ⟨1200002 + 1, ?_⟩
  unfold laws_FnManifests.f laws_vBig.f
  rw [Option.bind_some]
  by_cases h : (l.length : Int) > 65536
  · rw [if_pos (decide_eq_true h)]
  · rw [if_neg (by simpa using h)]
    have hb : Byt l := ⟨by omega, hl.2⟩
    have hj := j0_ends hb (1200002) (by omega)
    obtain ⟨cs, a1, s1, e1, hc, _, _⟩ := containers_ok hb (show At 0 0 from ⟨by decide, by decide⟩) (by decide) 0 (1200002 + 1) (by omega)
    have ed : spec_DrawManifestText.f (1200002 + 1) l = some cs := by
      unfold spec_DrawManifestText.f spec_DrawIsValidContainers.f
      rw [e1, Option.bind_some, Option.bind_some]
    rw [ed, Option.bind_some, impl_manT cs (by omega) _ (by omega), Option.bind_some, spec_manT cs (by omega) _ (by omega)]
    by_cases hv : validC cs = true
    · have e2 : manR cs = (manA ⟨#[]⟩ cs, true) := if_pos hv
      rw [e2]
      dsimp only
      rw [man_text hv _ (by omega), Option.bind_some, Option.bind_some, if_pos rfl, bne_self_eq_false, if_neg (by decide), if_pos rfl, if_pos rfl, vList_refl cs (by omega) _ (by omega), Option.bind_some]
      exact hj
    · have e2 : manR cs = ((⟨#[]⟩ : ByteArray), false) := if_neg hv
      obtain ⟨r, er, _, _⟩ := impl_read (⟨#[]⟩ : ByteArray) (by decide) (1200002 + 1) (by omega)
      rw [e2]
      dsimp only
      rw [er, Option.bind_some, Option.bind_some, if_pos rfl, bne_self_eq_false, if_neg (by decide), if_neg (by decide)]
      exact hj
end Go.Proofs.YtfindomajbjacaaGreatDoor.Pure
