/- The law FnExactParseManifest answers true for every text. No condition beyond the form's own. -/
import Derived.Test.YtfindomajbjacaaDoorFlawsFnExactParseManifest
import Derived.Test.YtfindomajbjacaaDoorOpen
import Derived.Test.YtfindomajbjacaaDoorMBase
import Derived.Test.YtfindomajbjacaaDoorFbIds
import Derived.Test.YtfindomajbjacaaDoorMRange
import Derived.Test.YtfindomajbjacaaDoorFbGoodA
import Derived.Test.YtfindomajbjacaaDoorMNum
import Derived.Test.YtfindomajbjacaaDoorGJoin
import Derived.Test.YtfindomajbjacaaDoorFspecl4Text
import Derived.Test.YtfindomajbjacaaDoorFbCText
import Derived.Lib.Join
import Derived.Test.YtfindomajbjacaaDoorMBs
import Derived.Test.YtfindomajbjacaaDoorFspecl1Split
import Derived.Lib.SplitLaws
import Derived.Lib.IndexLaws
import Derived.Test.YtfindomajbjacaaDoorGSplit
import Derived.Test.YtfindomajbjacaaDoorGParseInt
import Derived.Test.YtfindomajbjacaaDoorFspecl1Read
import Derived.Lib.ItoaMem
import Derived.Test.YtfindomajbjacaaDoorFspecl4Parse
import Derived.Test.YtfindomajbjacaaDoorFimplParseContainer
import Derived.Test.YtfindomajbjacaaDoorGindexOf
import Derived.Test.YtfindomajbjacaaDoorFbHelpC
import Derived.Test.YtfindomajbjacaaDoorFbGood
import Derived.Test.YtfindomajbjacaaDoorGlinesOf
import Derived.Test.YtfindomajbjacaaDoorFspecParseManifest
import Derived.Test.YtfindomajbjacaaDoorFimplParseManifest
import Derived.Test.YtfindomajbjacaaDoorFbText
import Derived.Test.YtfindomajbjacaaDoorFbHelpM
-- Written by a program of ours (wip/bin/rows.py). Not trusted: Lean checks it.
namespace Go.Proofs.YtfindomajbjacaaDoor.X
open Go.RowKit Go.Proofs.YtfindomajbjacaaDoorW.PrintWords Go.Proofs.YtfindomajbjacaaDoorW.PrintLast
/-- The law's one pure statement. -/
def laws_FnExactParseManifest.Pure : Prop := ∀ (a0 : ByteArray), WS a0 → ∃ k, laws_FnExactParseManifest.f k a0 = some true
end Go.Proofs.YtfindomajbjacaaDoor.X
/- What the printed functions on identifiers come to: three capital letters, four digits, and the check letter of these. -/
namespace Go.Proofs.YtfindomajbjacaaDoor.X
open Go.RowKit Go.Proofs.YtfindomajbjacaaDoorW.PrintWords Go.Proofs.YtfindomajbjacaaDoorW.PrintLast
set_option linter.unusedVariables false
set_option linter.unusedSimpArgs false

/-- Byte i is one that an identifier has there: a capital letter at 0, 1, 2, a digit behind. -/
def OkAt (s : ByteArray) (i : Int) : Prop := if i < 3 then 65 ≤ bt s i ∧ bt s i ≤ 90 else 48 ≤ bt s i ∧ bt s i ≤ 57
instance (s : ByteArray) (i : Int) : Decidable (OkAt s i) := by unfold OkAt; infer_instance
/-- Are the last d of the seven bytes as they should be? -/
def okFrom (s : ByteArray) : Nat → Bool
  | 0 => true
  | d + 1 => decide (OkAt s (6 - (d : Int))) && okFrom s d
/-- What byte i counts for. -/
def valAt (s : ByteArray) (i : Int) : Int := if i < 3 then bt s i - 64 else bt s i - 48
/-- What the last d of the seven bytes add to the sum. -/
def addFrom (s : ByteArray) : Nat → Int
  | 0 => 0
  | d + 1 => (8 - (d : Int)) * valAt s (6 - (d : Int)) + addFrom s d
/-- Seven bytes of an identifier. -/
def sevenB (s : ByteArray) : Bool := decide (s.size = 7) && okFrom s 7
/-- The check letter. -/
def chk (s : ByteArray) : Int := 65 + addFrom s 7 % 23

theorem seven_loop (s : ByteArray) (hs : s.size = 7) (d : Nat) : ∀ (k : Nat) (i : Int), d ≤ 7 → i = 7 - (d : Int) → d < k → spec_l2Seven.l0 k s i = some (okFrom s d) := by
  induction d with
  | zero =>
    intro k i _ hi hk
    obtain ⟨k, rfl⟩ : ∃ m, k = m + 1 := ⟨k - 1, by omega⟩
    simp only [spec_l2Seven.l0]; rw [if_neg (by omega)]; rfl
  | succ d ih =>
    intro k i h7 hi hk
    obtain ⟨k, rfl⟩ : ∃ m, k = m + 1 := ⟨k - 1, by omega⟩
    have hn := ih k (i + 1) (by omega) (by omega) (by omega)
    have e6 : 6 - (d : Int) = i := by omega
    simp only [spec_l2Seven.l0, okFrom, e6]
    rw [w64 (x := i + 1) (by omega) (by omega), hn]
    rw [if_pos (show i < 7 by omega)]
    have hsz : i < (s.size : Int) := by omega
    have h0 : 0 ≤ i := by omega
    by_cases h3 : i < 3
    · rw [if_pos h3, if_pos h0, if_pos hsz]
      simp only [OkAt, if_pos h3]
      rw [if_neg (show ¬ i > 2 by omega)]
      split
      · simp; omega
      · split
        · simp; omega
        · rw [decide_eq_true (by omega)]; rfl
    · rw [if_neg h3, if_pos (show i > 2 by omega), if_pos h0, if_pos hsz]
      simp only [OkAt, if_neg h3]
      split
      · simp; omega
      · split
        · simp; omega
        · rw [decide_eq_true (by omega)]; rfl

theorem spec_seven (s : ByteArray) (k : Nat) (hk : 8 ≤ k) : spec_l2Seven.f k s = some (sevenB s) := by
  unfold spec_l2Seven.f sevenB
  by_cases hs : s.size = 7
  · rw [if_pos (by omega), seven_loop s hs 7 k 0 (by omega) (by omega) (by omega)]
    simp [hs]
  · rw [if_neg (by omega)]
    simp [hs]

theorem val_range (s : ByteArray) (i : Int) (h : OkAt s i) : 0 ≤ valAt s i ∧ valAt s i ≤ 30 := by
  unfold OkAt at h
  unfold valAt
  split
  · rename_i h3; rw [if_pos h3] at h; omega
  · rename_i h3; rw [if_neg h3] at h; omega

theorem mul_range (a v : Int) (ha : 0 ≤ a) (ha8 : a ≤ 8) (hv : 0 ≤ v) (hv30 : v ≤ 30) : 0 ≤ a * v ∧ a * v ≤ 240 := by
  refine ⟨Int.mul_nonneg ha hv, ?_⟩
  have h1 : a * v ≤ 8 * v := Int.mul_le_mul_of_nonneg_right ha8 hv
  omega

theorem check_loop (s : ByteArray) (hs : s.size = 7) (d : Nat) : ∀ (k : Nat) (a i : Int), d ≤ 7 → i = 7 - (d : Int) → d < k → okFrom s d = true → 0 ≤ a → a ≤ 240 * i →
    spec_l2Check.l0 k s a i = some (65 + (a + addFrom s d) % 23) := by
  induction d with
  | zero =>
    intro k a i _ hi hk _ h0 ha
    obtain ⟨k, rfl⟩ : ∃ m, k = m + 1 := ⟨k - 1, by omega⟩
    simp only [spec_l2Check.l0, addFrom]; rw [if_neg (by omega), Int.tmod_eq_emod_of_nonneg h0]
    congr 1; omega
  | succ d ih =>
    intro k a i h7 hi hk hok h0 ha
    obtain ⟨k, rfl⟩ : ∃ m, k = m + 1 := ⟨k - 1, by omega⟩
    have e6 : 6 - (d : Int) = i := by omega
    have e8 : 8 - (d : Int) = i + 2 := by omega
    simp only [okFrom, e6, Bool.and_eq_true, decide_eq_true_eq] at hok
    have hv := val_range s i hok.1
    have hm := mul_range (i + 2) (valAt s i) (by omega) (by omega) hv.1 hv.2
    have hb := bt_range s i
    have hn := ih k (a + (i + 2) * valAt s i) (i + 1) (by omega) (by omega) (by omega) hok.2 (by omega) (by omega)
    simp only [spec_l2Check.l0, addFrom, e6, e8]
    rw [← Int.add_assoc, ← hn]
    rw [if_pos (show i < 7 by omega), if_pos (show 0 ≤ i by omega), if_pos (show i < (s.size : Int) by omega)]
    rw [w64 (x := i + 1) (by omega) (by omega), w64 (x := i + 2) (by omega) (by omega), w64 (x := bt s i) (by omega) (by omega)]
    rw [w64 (x := bt s i - 65) (by omega) (by omega), w64 (x := bt s i - 65 + 1) (by omega) (by omega), w64 (x := bt s i - 48) (by omega) (by omega)]
    by_cases h3 : i < 3
    · rw [if_pos h3]
      simp only [valAt, if_pos h3] at hm ⊢
      rw [show bt s i - 65 + 1 = bt s i - 64 by omega, Int.mul_comm, w64 (x := (i + 2) * (bt s i - 64)) (by omega) (by omega), w64 (by omega) (by omega)]
    · rw [if_neg h3]
      simp only [valAt, if_neg h3] at hm ⊢
      rw [Int.mul_comm, w64 (x := (i + 2) * (bt s i - 48)) (by omega) (by omega), w64 (by omega) (by omega)]

theorem spec_check (s : ByteArray) (k : Nat) (hk : 8 ≤ k) (h : sevenB s = true) : spec_l2Check.f k s = some (chk s) := by
  unfold sevenB at h
  simp only [Bool.and_eq_true, decide_eq_true_eq] at h
  unfold spec_l2Check.f chk
  rw [check_loop s h.1 7 k 0 0 (by omega) (by omega) (by omega) h.2 (by omega) (by omega)]
  simp

theorem impl_check_loop (s : ByteArray) (hs : s.size = 7) (d : Nat) : ∀ (k : Nat) (a i : Int), d ≤ 7 → i = 7 - (d : Int) → 2 * d < k → 0 ≤ a → a ≤ 240 * i →
    impl_checkLetter.l0 k s a 7 i = some (if okFrom s d = true then (65 + (a + addFrom s d) % 23, true) else (0, false)) := by
  induction d with
  | zero =>
    intro k a i _ hi hk h0 ha
    obtain ⟨k, rfl⟩ : ∃ m, k = m + 1 := ⟨k - 1, by omega⟩
    simp only [impl_checkLetter.l0, addFrom, okFrom, if_true]; rw [if_neg (by omega), Int.tmod_eq_emod_of_nonneg h0, w64 (by omega) (by omega)]
    congr 2; omega
  | succ d ih =>
    intro k a i h7 hi hk h0 ha
    obtain ⟨k, rfl⟩ : ∃ m, k = m + 2 := ⟨k - 2, by omega⟩
    have e6 : 6 - (d : Int) = i := by omega
    have e8 : 8 - (d : Int) = i + 2 := by omega
    have hb := bt_range s i
    have hi0 : 0 ≤ i := by omega
    have hsz : i < (s.size : Int) := by omega
    simp only [okFrom, addFrom, e6, e8, Bool.and_eq_true, decide_eq_true_eq]
    rw [show k + 2 = (k + 1) + 1 from rfl]
    simp only [impl_checkLetter.l0]
    rw [if_pos (show i < 7 by omega), if_pos hi0, if_pos hsz]
    by_cases hok : OkAt s i
    · have hv := val_range s i hok
      have hm := mul_range (i + 2) (valAt s i) (by omega) (by omega) hv.1 hv.2
      have hn := ih k (a + (i + 2) * valAt s i) (i + 1) (by omega) (by omega) (by omega) (by omega) (by omega)
      simp only [hok, true_and]
      rw [← Int.add_assoc, ← hn]
      by_cases h3 : i < 3
      · simp only [OkAt, if_pos h3] at hok
        rw [if_pos h3, if_pos (show bt s i ≥ 65 by omega), decide_eq_true hok.2]
        simp only [impl_checkLetter.j1, if_true]
        simp only [valAt, if_pos h3] at hm ⊢
        rw [w64 (x := i + 2) (by omega) (by omega), show (bt s i - 65) % 256 + 1 = bt s i - 64 by omega, w64 (x := (i + 2) * (bt s i - 64)) (by omega) (by omega), w64 (x := i + 1) (by omega) (by omega), w64 (by omega) (by omega)]
      · simp only [OkAt, if_neg h3] at hok
        rw [if_neg h3]
        simp only [impl_checkLetter.j1]
        rw [if_neg (by decide), if_pos (show i ≥ 3 by omega), if_pos (show bt s i ≥ 48 by omega), if_pos (show bt s i ≤ 57 by omega)]
        simp only [valAt, if_neg h3] at hm ⊢
        rw [w64 (x := i + 2) (by omega) (by omega), show (bt s i - 48) % 256 = bt s i - 48 by omega, w64 (x := (i + 2) * (bt s i - 48)) (by omega) (by omega), w64 (x := i + 1) (by omega) (by omega), w64 (by omega) (by omega)]
    · simp only [hok, false_and, if_false]
      simp only [OkAt] at hok
      by_cases h3 : i < 3
      · rw [if_pos h3] at hok ⊢
        by_cases h65 : bt s i ≥ 65
        · rw [if_pos h65, decide_eq_false (by omega)]
          simp only [impl_checkLetter.j1]
          rw [if_neg (by decide), if_neg (show ¬ i ≥ 3 by omega)]
        · rw [if_neg h65]
          simp only [impl_checkLetter.j1]
          rw [if_neg (by decide), if_neg (show ¬ i ≥ 3 by omega)]
      · rw [if_neg h3] at hok ⊢
        simp only [impl_checkLetter.j1]
        rw [if_neg (by decide), if_pos (show i ≥ 3 by omega)]
        split
        · rw [if_neg (by omega)]
        · rfl

theorem impl_check (s : ByteArray) (k : Nat) (hk : 15 ≤ k) : impl_checkLetter.f k s = some (if sevenB s = true then (chk s, true) else (0, false)) := by
  unfold impl_checkLetter.f sevenB chk
  by_cases hs : s.size = 7
  · rw [if_pos (by omega), hs]
    rw [show (((7 : Nat) : Int)) = 7 from rfl, impl_check_loop s hs 7 k 0 0 (by omega) (by omega) (by omega) (by omega) (by omega)]
    simp
  · rw [if_neg (by omega)]
    simp [hs]

/-- Is it an identifier? -/
def idB (s : ByteArray) : Bool := decide (s.size = 8) && sevenB (s.extract 0 7) && decide (bt s 7 = chk (s.extract 0 7))

theorem spec_id (s : ByteArray) (k : Nat) (hk : 15 ≤ k) : spec_l2Id.f k s = some (idB s) := by
  unfold spec_l2Id.f idB
  by_cases hs : s.size = 8
  · rw [if_pos (by omega), if_pos (by omega), if_pos (by omega), spec_seven _ k (by omega)]
    simp only [Option.bind_some]
    by_cases h7 : sevenB (s.extract 0 7) = true
    · rw [if_pos h7, if_pos (by omega), spec_check _ k (by omega) h7]
      simp [hs, h7]
      rw [Bool.eq_iff_iff]; simp
    · rw [if_neg h7]
      simp [h7]
  · rw [if_neg (by omega)]
    simp [hs]

theorem impl_id (s : ByteArray) (k : Nat) (hk : 15 ≤ k) : impl_IsValidId.f k s = some (idB s) := by
  unfold impl_IsValidId.f idB
  by_cases hs : s.size = 8
  · rw [if_pos (by omega), if_pos (by omega), if_pos (by omega), impl_check _ k (by omega)]
    simp only [Option.bind_some]
    by_cases h7 : sevenB (s.extract 0 7) = true
    · rw [if_pos h7]
      simp only [if_true]
      rw [if_pos (by omega)]
      simp [hs, h7]
      rw [Bool.eq_iff_iff]; simp
    · rw [if_neg h7]
      simp [h7]
  · rw [if_neg (by omega)]
    simp [hs]

end Go.Proofs.YtfindomajbjacaaDoor.X
/- Is a container valid: the program's IsValidContainer and the reference's l2Good. -/
namespace Go.Proofs.YtfindomajbjacaaDoor.X
open Go.RowKit Go.Proofs.YtfindomajbjacaaDoorW.PrintWords Go.Proofs.YtfindomajbjacaaDoorW.PrintLast
set_option linter.unusedVariables false
set_option linter.unusedSimpArgs false
def goodB (id : ByteArray) (size weight cargo port : Int) : Bool := idB id && inB size 1 2 && inB weight 1 32000 && inB cargo 1 3 && inB port 1 9
theorem spec_good (a : ByteArray) (s w c p : Int) (k : Nat) (hk : 15 ≤ k) : spec_l2Good.f k a s w c p = some (goodB a s w c p) := by
  unfold spec_l2Good.f goodB
  rw [spec_id a k hk]
  simp only [l1In_ends, Option.bind_some]
  cases idB a <;> cases inB s 1 2 <;> cases inB w 1 32000 <;> cases inB c 1 3 <;> cases inB p 1 9 <;> rfl
theorem impl_good (a : ByteArray) (s w c p : Int) (k : Nat) (hk : 15 ≤ k) : impl_IsValidContainer.f k a s w c p = some (goodB a s w c p) := by
  unfold impl_IsValidContainer.f goodB
  rw [impl_id a k hk]
  simp only [within_ends, Option.bind_some]
  cases idB a <;> cases inB s 1 2 <;> cases inB w 1 32000 <;> cases inB c 1 3 <;> cases inB p 1 9 <;> rfl
end Go.Proofs.YtfindomajbjacaaDoor.X
/- The text of a container: the reference's sums of texts, the program's join of five words. -/
namespace Go.Proofs.YtfindomajbjacaaDoor.X
open Go.RowKit Go.Proofs.YtfindomajbjacaaDoorW.PrintWords Go.Proofs.YtfindomajbjacaaDoorW.PrintLast
set_option linter.unusedVariables false
set_option linter.unusedSimpArgs false
def spB : ByteArray := ⟨#[32]⟩
def szW (s : Int) : ByteArray := if s = 1 then ⟨#[115, 109, 97, 108, 108]⟩ else if s = 2 then ⟨#[108, 97, 114, 103, 101]⟩ else ⟨#[]⟩
def cgW (c : Int) : ByteArray := if c = 1 then ⟨#[112, 108, 97, 105, 110]⟩ else if c = 2 then ⟨#[114, 101, 101, 102, 101, 114]⟩ else if c = 3 then ⟨#[100, 97, 110, 103, 101, 114]⟩ else ⟨#[]⟩
theorem szW_size (s : Int) : (szW s).size ≤ 6 := by
  unfold szW
  split
  · decide
  · split <;> decide
theorem cgW_size (s : Int) : (cgW s).size ≤ 6 := by
  unfold cgW
  split
  · decide
  · split
    · decide
    · split <;> decide
theorem spB_size : spB.size = 1 := rfl
def contT (a : ByteArray) (s w c p : Int) : ByteArray := ((((((((a ++ spB) ++ szW s) ++ spB) ++ tx (Lib.itoa w)) ++ spB) ++ cgW c) ++ spB) ++ tx (Lib.itoa p))
theorem contT_size (a : ByteArray) (s w c p : Int) : (contT a s w c p).size = a.size + 1 + (szW s).size + 1 + (Lib.itoa w).length + 1 + (cgW c).size + 1 + (Lib.itoa p).length := by
  unfold contT
  simp only [ByteArray.size_append, spB_size, tx_size]
theorem rd_size (s : Int) (h0 : 1 ≤ s) (h1 : s ≤ 2) : rdOf ByteArray.empty ([(⟨#[]⟩ : ByteArray), (⟨#[115, 109, 97, 108, 108]⟩ : ByteArray), (⟨#[108, 97, 114, 103, 101]⟩ : ByteArray)] : List ByteArray) s = szW s := by
  obtain rfl | rfl : s = 1 ∨ s = 2 := by omega
  · rfl
  · rfl
theorem rd_cargo (s : Int) (h0 : 1 ≤ s) (h1 : s ≤ 3) : rdOf ByteArray.empty ([(⟨#[]⟩ : ByteArray), (⟨#[112, 108, 97, 105, 110]⟩ : ByteArray), (⟨#[114, 101, 101, 102, 101, 114]⟩ : ByteArray), (⟨#[100, 97, 110, 103, 101, 114]⟩ : ByteArray)] : List ByteArray) s = cgW s := by
  obtain rfl | rfl | rfl : s = 1 ∨ s = 2 ∨ s = 3 := by omega
  · rfl
  · rfl
  · rfl
theorem l4Text_ends (a : ByteArray) (s w c p : Int) (ha : a.size ≤ 1048576) (hs : 1 ≤ s ∧ s ≤ 2) (hw : -1000000000000 ≤ w ∧ w ≤ 1000000000000) (hc : 1 ≤ c ∧ c ≤ 3) (hp : -1000000000000 ≤ p ∧ p ≤ 1000000000000) (k : Nat) (hk : 20 ≤ k) :
    spec_l4Text.f k a s w c p = some (contT a s w c p) := by
  unfold spec_l4Text.f contT
  have z1 := szW_size s
  have z2 := cgW_size c
  have z3 := itoa_length w hw.1 hw.2
  have z4 := itoa_length p hp.1 hp.2
  rw [Option.bind_some, if_pos (by omega), if_pos (by show s < ((3 : Nat) : Int); omega), Option.bind_some, if_pos (by omega), if_pos (by show c < ((4 : Nat) : Int); omega), rd_size s hs.1 hs.2, rd_cargo c hc.1 hc.2, l1Num_ends w hw.1 hw.2 k hk, l1Num_ends p hp.1 hp.2 k hk]
  rw [show (⟨#[32]⟩ : ByteArray) = spB from rfl, Option.bind_some, Option.bind_some]
  generalize szW s = S at *
  generalize cgW c = C at *
  have t1 : (tx (Lib.itoa w)).size ≤ 19 := z3
  have t2 : (tx (Lib.itoa p)).size ≤ 19 := z4
  rw [if_pos (by (try simp only [ByteArray.size_append, spB_size]); omega), if_pos (by (try simp only [ByteArray.size_append, spB_size]); omega), if_pos (by (try simp only [ByteArray.size_append, spB_size]); omega), if_pos (by (try simp only [ByteArray.size_append, spB_size]); omega), if_pos (by (try simp only [ByteArray.size_append, spB_size]); omega), if_pos (by (try simp only [ByteArray.size_append, spB_size]); omega), if_pos (by (try simp only [ByteArray.size_append, spB_size]); omega), if_pos (by (try simp only [ByteArray.size_append, spB_size]); omega)]
theorem join_five (a b c d e : ByteArray) : joinB [a, b, c, d, e] spB = ((((((((a ++ spB) ++ b) ++ spB) ++ c) ++ spB) ++ d) ++ spB) ++ e) := by
  apply ByteArray.ext
  unfold joinB
  simp [Lib.join_cons, Lib.joinTail, spB]
theorem join_len (l : List (List UInt8)) (sep : List UInt8) (r : ByteArray) (h : (⟨(Lib.join l sep).toArray⟩ : ByteArray) = r) : (Lib.join l sep).length = r.size := by
  rw [← h]; rfl
theorem containerText_ends (a : ByteArray) (s w c p : Int) (ha : a.size ≤ 1048576) (hs : 1 ≤ s ∧ s ≤ 2) (hw : -1000000000000 ≤ w ∧ w ≤ 1000000000000) (hc : 1 ≤ c ∧ c ≤ 3) (hp : -1000000000000 ≤ p ∧ p ≤ 1000000000000) :
    impl_containerText.f a s w c p = some (contT a s w c p) := by
  have z1 := szW_size s
  have z2 := cgW_size c
  have z3 := itoa_length w hw.1 hw.2
  have z4 := itoa_length p hp.1 hp.2
  have hz := contT_size a s w c p
  unfold impl_containerText.f impl_sizeWords.f impl_cargoWords.f
  rw [Option.bind_some, if_pos (by omega), if_pos (by show s < ((3 : Nat) : Int); omega), decimal_ends w hw.1 hw.2, Option.bind_some, Option.bind_some, if_pos (by omega), if_pos (by show c < ((4 : Nat) : Int); omega), decimal_ends p hp.1 hp.2, Option.bind_some, rd_size s hs.1 hs.2, rd_cargo c hc.1 hc.2, show (⟨#[32]⟩ : ByteArray) = spB from rfl]
  have hj : joinB [a, szW s, tx (Lib.itoa w), cgW c, tx (Lib.itoa p)] spB = contT a s w c p := join_five _ _ _ _ _
  have hl := join_len _ _ _ hj
  have h5 : strings_Join.f [a, szW s, tx (Lib.itoa w), cgW c, tx (Lib.itoa p)] spB = some (contT a s w c p) := by
    unfold strings_Join.f
    rw [if_pos ⟨by simp only [List.length_cons, List.length_nil]; omega, by rw [hl]; omega⟩, hj]
  rw [h5, Option.bind_some]
end Go.Proofs.YtfindomajbjacaaDoor.X
/- A container that is told to be a good one. -/
namespace Go.Proofs.YtfindomajbjacaaDoor.X
open Go.RowKit Go.Proofs.YtfindomajbjacaaDoorW.PrintWords Go.Proofs.YtfindomajbjacaaDoorW.PrintLast
set_option linter.unusedVariables false
set_option linter.unusedSimpArgs false
set_option linter.unusedVariables false
def goodC (x : S27) : Bool := goodB x.f0 x.f1 x.f2 x.f3 x.f4
end Go.Proofs.YtfindomajbjacaaDoor.X
/- The text of a good container. -/
namespace Go.Proofs.YtfindomajbjacaaDoor.X
open Go.RowKit Go.Proofs.YtfindomajbjacaaDoorW.PrintWords Go.Proofs.YtfindomajbjacaaDoorW.PrintLast
set_option linter.unusedVariables false
set_option linter.unusedSimpArgs false
def contC (x : S27) : ByteArray := contT x.f0 x.f1 x.f2 x.f3 x.f4
theorem goodC_parts {x : S27} (h : goodC x = true) : x.f0.size = 8 ∧ (1 ≤ x.f1 ∧ x.f1 ≤ 2) ∧ (1 ≤ x.f2 ∧ x.f2 ≤ 32000) ∧ (1 ≤ x.f3 ∧ x.f3 ≤ 3) ∧ (1 ≤ x.f4 ∧ x.f4 ≤ 9) := by
  unfold goodC goodB inB idB at h
  simp only [Bool.and_eq_true, decide_eq_true_eq] at h
  exact ⟨h.1.1.1.1.1.1, h.1.1.1.2, h.1.1.2, h.1.2, h.2⟩
theorem contC_size {x : S27} (h : goodC x = true) : (contC x).size ≤ 90 := by
  obtain ⟨h0, h1, h2, h3, h4⟩ := goodC_parts h
  unfold contC
  rw [contT_size]
  have := szW_size x.f1
  have := cgW_size x.f3
  have := itoa_length x.f2 (by omega) (by omega)
  have := itoa_length x.f4 (by omega) (by omega)
  omega
theorem specText_ends {x : S27} (h : goodC x = true) (k : Nat) (hk : 20 ≤ k) : spec_l4Text.f k x.f0 x.f1 x.f2 x.f3 x.f4 = some (contC x) := by
  obtain ⟨h0, h1, h2, h3, h4⟩ := goodC_parts h
  exact l4Text_ends _ _ _ _ _ (by omega) h1 (by omega) h3 (by omega) k hk
theorem implText_ends {x : S27} (h : goodC x = true) : impl_containerText.f x.f0 x.f1 x.f2 x.f3 x.f4 = some (contC x) := by
  obtain ⟨h0, h1, h2, h3, h4⟩ := goodC_parts h
  exact containerText_ends _ _ _ _ _ (by omega) h1 (by omega) h3 (by omega)
end Go.Proofs.YtfindomajbjacaaDoor.X
/- A text cut at each sign of one byte: the reference's loop, the library's pieces, the first piece. -/
namespace Go.Proofs.YtfindomajbjacaaDoor.X
open Go.RowKit Go.Proofs.YtfindomajbjacaaDoorW.PrintWords Go.Proofs.YtfindomajbjacaaDoorW.PrintLast
set_option linter.unusedVariables false
set_option linter.unusedSimpArgs false
def preH (p : List UInt8) : List (List UInt8) → List (List UInt8)
  | [] => [p]
  | h :: t => (p ++ h) :: t
def splitL (c : UInt8) : List UInt8 → List (List UInt8)
  | [] => [[]]
  | b :: r => if b = c then [] :: splitL c r else preH [b] (splitL c r)
theorem splitL_some (c : UInt8) : ∀ l, ∃ h t, splitL c l = h :: t
  | [] => ⟨[], [], rfl⟩
  | b :: r => by
    obtain ⟨h, t, e⟩ := splitL_some c r
    unfold splitL
    split
    · exact ⟨_, _, rfl⟩
    · rw [e]; exact ⟨_, _, rfl⟩
theorem indexByte_cons (b c : UInt8) (l : List UInt8) : Lib.indexByte (b :: l) c = if (b == c) = true then 0 else if (Lib.indexByte l c == -1) = true then -1 else Lib.indexByte l c + 1 := rfl
theorem splitL_miss (c : UInt8) : ∀ l, Lib.indexByte l c = -1 → splitL c l = [l]
  | [], _ => rfl
  | b :: r, h => by
    rw [indexByte_cons] at h
    by_cases h1 : (b == c) = true
    · rw [if_pos h1] at h; omega
    · rw [if_neg h1] at h
      by_cases h2 : (Lib.indexByte r c == -1) = true
      · have ih := splitL_miss c r (by simpa using h2)
        unfold splitL
        rw [if_neg (by simpa using h1), ih]
        rfl
      · rw [if_neg h2] at h
        have := Lib.indexByte_ge r c
        omega
theorem splitL_hit (c : UInt8) : ∀ (l : List UInt8) (j : Nat), Lib.indexByte l c = (j : Int) → splitL c l = l.take j :: splitL c (l.drop (j + 1))
  | [], j, h => by simp [Lib.indexByte] at h
  | b :: r, j, h => by
    rw [indexByte_cons] at h
    by_cases h1 : (b == c) = true
    · rw [if_pos h1] at h
      obtain rfl : j = 0 := by omega
      rw [splitL, if_pos (by simpa using h1)]
      rfl
    · rw [if_neg h1] at h
      by_cases h2 : (Lib.indexByte r c == -1) = true
      · rw [if_pos h2] at h; omega
      · rw [if_neg h2] at h
        obtain ⟨q, rfl⟩ : ∃ q, j = q + 1 := ⟨j - 1, by have := Lib.indexByte_ge r c; rw [beq_iff_eq] at h2; omega⟩
        have ih := splitL_hit c r q (by omega)
        rw [splitL, if_neg (by simpa using h1), ih]
        rfl
theorem splitK_eq (c : UInt8) : ∀ (n : Nat) (l : List UInt8), l.length ≤ n → Lib.splitK [c] 0 (Lib.count l [c]) l = splitL c l := by
  intro n
  induction n with
  | zero =>
    intro l h
    obtain rfl : l = [] := List.length_eq_zero_iff.1 (by omega)
    rw [Lib.count_miss (by rw [Lib.index_one]; rfl)]
    rfl
  | succ n ih =>
    intro l h
    have hge := Lib.indexByte_ge l c
    by_cases hm : Lib.indexByte l c = -1
    · rw [Lib.count_miss (by rw [Lib.index_one]; exact hm), splitL_miss c l hm]
      rfl
    · obtain ⟨j, hj⟩ : ∃ j : Nat, Lib.indexByte l c = j := ⟨(Lib.indexByte l c).toNat, by omega⟩
      have hi : Lib.index l [c] = (j : Int) := by rw [Lib.index_one]; exact hj
      have hlt : j < l.length := (List.getElem?_eq_some_iff.1 (Lib.indexByte_some hj).1).1
      have hr := ih (l.drop (j + 1)) (by rw [List.length_drop]; omega)
      rw [Lib.count_hit (by simp) hi, splitL_hit c l j hj, Nat.add_comm 1, Lib.splitK, if_neg (by rw [hi, beq_iff_eq]; omega), hi]
      show l.take (((j : Int)).toNat + 0) :: Lib.splitK [c] 0 (Lib.count (l.drop (j + 1)) [c]) (l.drop (((j : Int)).toNat + 1)) = _
      rw [Int.toNat_natCast, Nat.add_zero, hr]
theorem l1Split_loop (s : ByteArray) (c : UInt8) (hx : s.size ≤ 1048576) (d : Nat) : ∀ (k f i : Nat) (out : List ByteArray), i + d = s.size → d < k → f ≤ i → out.length + d ≤ 2000000 →
    ∃ ys, spec_l1Split.l0 k s (c.toNat : Int) out (f : Int) (i : Int) = some ys ∧ ys.map bs = out.map bs ++ preH (((bs s).take i).drop f) (splitL c ((bs s).drop i)) ∧ ys.length ≤ out.length + d + 1 := by
  induction d with
  | zero =>
    intro k f i out hi hk hf ho
    obtain ⟨k, rfl⟩ := kpos hk
    have n1 : ¬ ((i : Int) < (s.size : Int)) := by omega
    have n2 : (0 : Int) ≤ (f : Int) := by omega
    have n3 : (f : Int) ≤ (s.size : Int) := by omega
    have n4 : out.length < 8796093022208 := by omega
    unfold spec_l1Split.l0
    rw [if_neg n1, if_pos n2, if_pos n3, if_pos n4]
    refine ⟨_, rfl, ?_, by simp⟩
    rw [List.map_append, List.map_cons, List.map_nil, bs_extract, show i = s.size by omega, show (bs s).drop s.size = [] from List.drop_of_length_le (by rw [bs_length]; omega), Int.toNat_natCast]
    simp [splitL, preH]
  | succ d ih =>
    intro k f i out hi hk hf ho
    obtain ⟨k, rfl⟩ := kpos hk
    have hlt : i < s.size := by omega
    have hlb : i < (bs s).length := by rw [bs_length]; exact hlt
    have n1 : ((i : Int) < (s.size : Int)) := by omega
    have n2 : (0 : Int) ≤ (i : Int) := by omega
    have n3 : (0 : Int) ≤ (f : Int) := by omega
    have n4 : (f : Int) ≤ (i : Int) := by omega
    have n5 : (i : Int) ≤ (s.size : Int) := by omega
    have n6 : out.length < 8796093022208 := by omega
    have e1 : (bs s).drop i = (bs s).getD i 0 :: (bs s).drop (i + 1) := getD_cons hlb
    obtain ⟨h, t, eL⟩ := splitL_some c ((bs s).drop (i + 1))
    unfold spec_l1Split.l0
    rw [if_pos n1, if_pos n2, bt_list s i hlt, wnext hlt (by omega), e1]
    by_cases hc : (bs s).getD i 0 = c
    · obtain ⟨ys, h1, h2, h3⟩ := ih k (i + 1) (i + 1) (out ++ [s.extract f i]) (by omega) (by omega) (by omega) (by simp; omega)
      rw [if_pos (by rw [hc]), if_pos n3, if_pos n4, if_pos n5, if_pos n6, Int.toNat_natCast, Int.toNat_natCast]
      refine ⟨ys, h1, ?_, by simp at h3; omega⟩
      rw [h2, List.map_append, List.map_cons, List.map_nil, bs_extract, eL, show ((bs s).take (i + 1)).drop (i + 1) = [] from List.drop_of_length_le (by rw [List.length_take]; omega), splitL, if_pos hc, eL]
      simp [preH]
    · obtain ⟨ys, h1, h2, h3⟩ := ih k f (i + 1) out (by omega) (by omega) (by omega) (by omega)
      have hn : ¬ ((((bs s).getD i 0).toNat : Int) = (c.toNat : Int)) := fun e => hc (UInt8.toNat_inj.1 (by omega))
      rw [if_neg hn]
      refine ⟨ys, h1, ?_, by omega⟩
      rw [h2, splitL, if_neg hc, eL, take_succ_getD (z := (0 : UInt8)) hlb, List.drop_append_of_le_length (by rw [List.length_take]; omega)]
      simp [preH]
theorem l1Split_ends (s : ByteArray) (c : UInt8) (hx : s.size ≤ 1048576) (k : Nat) (hk : 1048577 ≤ k) :
    ∃ ys, spec_l1Split.f k s (c.toNat : Int) = some ys ∧ ys.map bs = splitL c (bs s) ∧ ys.length ≤ s.size + 1 := by
  obtain ⟨ys, h1, h2, h3⟩ := l1Split_loop s c hx s.size k 0 0 [] (by omega) (by omega) (by omega) (by simp; omega)
  obtain ⟨h, t, e⟩ := splitL_some c (bs s)
  refine ⟨ys, h1, ?_, by simpa using h3⟩
  simp only [List.drop_zero] at h2
  rw [h2, e]
  simp [preH]
end Go.Proofs.YtfindomajbjacaaDoor.X
/- Texts cut at a sign and joined by it: each undoes the other. -/
namespace Go.Proofs.YtfindomajbjacaaDoor.X
open Go.RowKit Go.Proofs.YtfindomajbjacaaDoorW.PrintWords Go.Proofs.YtfindomajbjacaaDoorW.PrintLast
set_option linter.unusedVariables false
set_option linter.unusedSimpArgs false
theorem split_same (s : ByteArray) (c : UInt8) (hx : s.size ≤ 1048576) (k : Nat) (hk : 1048577 ≤ k) : ∃ ys, spec_l1Split.f k s (c.toNat : Int) = some ys ∧ strings_Split.f s ⟨#[c]⟩ = some ys ∧ ys.map bs = splitL c (bs s) ∧ ys.length ≤ s.size + 1 := by
  obtain ⟨ys, h1, h2, h3⟩ := l1Split_ends s c hx k hk
  refine ⟨ys, h1, ?_, h2, h3⟩
  unfold strings_Split.f
  rw [if_pos ⟨rfl, hx⟩]
  refine congrArg some (map_bs_inj _ _ ?_)
  rw [h2]
  exact (Lib.splitB_data ⟨#[c]⟩ 0 (Lib.countB s ⟨#[c]⟩) s).trans (splitK_eq c (bs s).length (bs s) (Nat.le_refl _))
theorem joinTail_cons (sep x : List UInt8) (r : List (List UInt8)) : Lib.joinTail sep (x :: r) = sep ++ x ++ Lib.joinTail sep r := by simp [Lib.joinTail]
/-- Joined again, the pieces are the text. -/
theorem join_splitL (c : UInt8) : ∀ l, Lib.join (splitL c l) [c] = l
  | [] => Lib.join_one _ _
  | b :: r => by
    have ih := join_splitL c r
    obtain ⟨h, t, e⟩ := splitL_some c r
    rw [e, Lib.join_cons] at ih
    unfold splitL
    split
    · rename_i hb
      rw [Lib.join_cons, e, joinTail_cons, hb, List.nil_append, List.append_assoc, ih]
      rfl
    · rw [e, preH, Lib.join_cons, List.append_assoc, ih]
      rfl
theorem splitL_app (c : UInt8) : ∀ (p l : List UInt8), c ∉ p → splitL c (p ++ c :: l) = p :: splitL c l
  | [], l, _ => by rw [List.nil_append, splitL, if_pos rfl]
  | b :: p, l, h => by
    rw [List.cons_append, splitL, if_neg (fun e => h (by rw [e]; exact List.mem_cons_self)), splitL_app c p l (fun e => h (List.mem_cons_of_mem _ e))]
    rfl
theorem splitL_one (c : UInt8) : ∀ (p : List UInt8), c ∉ p → splitL c p = [p]
  | [], _ => rfl
  | b :: p, h => by
    rw [splitL, if_neg (fun e => h (by rw [e]; exact List.mem_cons_self)), splitL_one c p (fun e => h (List.mem_cons_of_mem _ e))]
    rfl
/-- Cut again, the joined text gives the pieces. -/
theorem splitL_join (c : UInt8) : ∀ (x : List UInt8) (r : List (List UInt8)), (∀ p ∈ x :: r, c ∉ p) → splitL c (Lib.join (x :: r) [c]) = x :: r
  | x, [], h => by rw [Lib.join_one]; exact splitL_one c x (h x List.mem_cons_self)
  | x, y :: r, h => by
    have ih := splitL_join c y r (fun p hp => h p (List.mem_cons_of_mem _ hp))
    rw [Lib.join_cons, joinTail_cons]
    rw [Lib.join_cons] at ih
    rw [show x ++ ([c] ++ y ++ Lib.joinTail [c] r) = x ++ c :: (y ++ Lib.joinTail [c] r) by simp, splitL_app c x _ (h x List.mem_cons_self), ih]
/-- Each piece is without the sign. -/
theorem splitL_free (c : UInt8) : ∀ (l : List UInt8), ∀ p ∈ splitL c l, c ∉ p
  | [], p, hp => by
    rw [splitL, List.mem_singleton] at hp
    rw [hp]; simp
  | b :: r, p, hp => by
    have ih := splitL_free c r
    unfold splitL at hp
    split at hp
    · rcases List.mem_cons.1 hp with rfl | h
      · simp
      · exact ih p h
    · rename_i hb
      obtain ⟨h, t, e⟩ := splitL_some c r
      rw [e, preH] at hp
      rcases List.mem_cons.1 hp with rfl | h2
      · rw [List.singleton_append, List.mem_cons]
        rintro (e1 | e2)
        · exact hb e1.symm
        · exact ih h (by rw [e]; exact List.mem_cons_self) e2
      · exact ih p (by rw [e]; exact List.mem_cons_of_mem _ h2)
/-- No piece is longer than the text. -/
theorem piece_len (c : UInt8) : ∀ (l : List UInt8), ∀ p ∈ splitL c l, p.length ≤ l.length
  | [], p, hp => by
    rw [splitL, List.mem_singleton] at hp
    rw [hp]; simp
  | b :: r, p, hp => by
    have ih := piece_len c r
    unfold splitL at hp
    split at hp
    · rcases List.mem_cons.1 hp with rfl | h
      · simp
      · have := ih p h; simp; omega
    · obtain ⟨h, t, e⟩ := splitL_some c r
      rw [e, preH] at hp
      rcases List.mem_cons.1 hp with rfl | h2
      · have := ih h (by rw [e]; exact List.mem_cons_self)
        simp; omega
      · have := ih p (by rw [e]; exact List.mem_cons_of_mem _ h2)
        simp; omega
end Go.Proofs.YtfindomajbjacaaDoor.X
/- The reference's reading of a number comes to the same as the program's. -/
namespace Go.Proofs.YtfindomajbjacaaDoor.X
open Go.RowKit Go.Proofs.YtfindomajbjacaaDoorW.PrintWords Go.Proofs.YtfindomajbjacaaDoorW.PrintLast
set_option linter.unusedVariables false
set_option linter.unusedSimpArgs false
def dig (b : UInt8) : Bool := decide (48 ≤ b.toNat ∧ b.toNat ≤ 57)
def valL : Nat → List UInt8 → Nat
  | acc, [] => acc
  | acc, b :: r => valL (10 * acc + (b.toNat - 48)) r
def okD (t : List UInt8) : Bool := decide (1 ≤ t.length ∧ t.length ≤ 6) && t.all dig
theorem valL_snoc : ∀ (l : List UInt8) (acc : Nat) (b : UInt8), valL acc (l ++ [b]) = 10 * valL acc l + (b.toNat - 48)
  | [], acc, b => rfl
  | c :: l, acc, b => valL_snoc l _ b
theorem valL_bound : ∀ (l : List UInt8) (acc j : Nat), l.all dig = true → acc < 10 ^ j → valL acc l < 10 ^ (j + l.length)
  | [], acc, j, _, h => h
  | c :: l, acc, j, ha, h => by
    simp only [List.all_cons, Bool.and_eq_true] at ha
    have hc : 48 ≤ c.toNat ∧ c.toNat ≤ 57 := by have := ha.1; unfold dig at this; simpa using this
    have := valL_bound l (10 * acc + (c.toNat - 48)) (j + 1) ha.2 (by rw [Nat.pow_succ]; omega)
    rw [show j + (c :: l).length = j + 1 + l.length by simp; omega]
    exact this
theorem parse_digits : ∀ (l : List UInt8) (acc j : Nat), l.all dig = true → acc < 10 ^ j → j + l.length ≤ 6 → Lib.parseUint10 acc l = .ok (valL acc l)
  | [], acc, j, _, _, _ => rfl
  | c :: l, acc, j, ha, h, hj => by
    simp only [List.all_cons, Bool.and_eq_true] at ha
    have hc : 48 ≤ c.toNat ∧ c.toNat ≤ 57 := by have := ha.1; unfold dig at this; simpa using this
    simp only [List.length_cons] at hj
    have h6 : 10 ^ j ≤ 10 ^ 6 := Nat.pow_le_pow_right (by omega) (by omega)
    have h7 : acc < 1000000 := Nat.lt_of_lt_of_le h h6
    have ih := parse_digits l (10 * acc + (c.toNat - 48)) (j + 1) ha.2 (by rw [Nat.pow_succ]; omega) (by omega)
    rw [Lib.parseUint10, if_pos hc, if_neg (by omega), if_neg (by omega), Nat.mul_comm acc 10, ih]
    rfl
theorem dig_of (m : Nat) (h : m < 10) : dig (UInt8.ofNat (48 + m)) = true ∧ (UInt8.ofNat (48 + m)).toNat = 48 + m := by
  have e : (UInt8.ofNat (48 + m)).toNat = 48 + m := by
    rw [UInt8.toNat_ofNat']
    omega
  refine ⟨?_, e⟩
  unfold dig
  rw [e, decide_eq_true_eq]
  omega
theorem dec_facts (d : Nat) : ∀ u, u < 10 ^ (d + 1) → (Lib.decDigits u).all dig = true ∧ valL 0 (Lib.decDigits u) = u ∧ 1 ≤ (Lib.decDigits u).length := by
  induction d with
  | zero =>
    intro u h
    have h10 : u < 10 := by simpa using h
    obtain ⟨e1, e2⟩ := dig_of u h10
    rw [dec_small h10]
    refine ⟨by rw [List.all_cons, e1]; rfl, ?_, by simp⟩
    show 10 * 0 + ((UInt8.ofNat (48 + u)).toNat - 48) = u
    rw [e2]; omega
  | succ d ih =>
    intro u h
    by_cases h10 : u < 10
    · obtain ⟨e1, e2⟩ := dig_of u h10
      rw [dec_small h10]
      refine ⟨by rw [List.all_cons, e1]; rfl, ?_, by simp⟩
      show 10 * 0 + ((UInt8.ofNat (48 + u)).toNat - 48) = u
      rw [e2]; omega
    · have h3 : u / 10 < 10 ^ (d + 1) := by rw [Nat.div_lt_iff_lt_mul (by omega), ← Nat.pow_succ]; exact h
      obtain ⟨i1, i2, i3⟩ := ih _ h3
      obtain ⟨e1, e2⟩ := dig_of (u % 10) (Nat.mod_lt _ (by omega))
      rw [dec_big h10]
      refine ⟨by rw [List.all_append, i1, List.all_cons, e1]; rfl, ?_, by rw [List.length_append]; simp⟩
      rw [valL_snoc, i2, e2]
      omega
theorem dec_ok (u : Nat) (h : u < 1000000) : okD (Lib.decDigits u) = true := by
  obtain ⟨h1, _, h3⟩ := dec_facts 5 u h
  have h2 := dec_length 5 u h
  unfold okD
  rw [h1, Bool.and_true, decide_eq_true_eq]
  omega
/-- Behind a minus sign. -/
def tlL : List UInt8 → List UInt8
  | b :: c :: r => if b = 45 then c :: r else b :: c :: r
  | l => l
def tl (s : ByteArray) : ByteArray := if (s.size : Int) > 1 then (if (bt s 0 == 45) = true then s.extract 1 s.size else s) else s
theorem tl_bs (s : ByteArray) : bs (tl s) = tlL (bs s) := by
  unfold tl
  have hl := bs_length s
  rcases hb : bs s with _ | ⟨b, _ | ⟨c, r⟩⟩
  · rw [hb] at hl
    rw [if_neg (by simp at hl; omega), hb]; rfl
  · rw [hb] at hl
    rw [if_neg (by simp at hl; omega), hb]; rfl
  · rw [hb] at hl
    simp only [List.length_cons] at hl
    have e0 : bt s 0 = (b.toNat : Int) := by
      have := bt_list s 0 (by omega)
      rw [hb] at this
      exact this
    rw [if_pos (by omega), e0]
    show _ = if b = 45 then c :: r else b :: c :: r
    by_cases h : b = 45
    · rw [if_pos h, if_pos (by rw [h]; rfl), bs_extract, hb, List.take_of_length_le (by simp; omega)]
      rfl
    · rw [if_neg h, if_neg (by rw [beq_iff_eq]; exact fun e => h (UInt8.toNat_inj.1 (by show b.toNat = 45; omega))), hb]
def finR (s t : ByteArray) (v : Nat) : Int × Bool :=
  if (t.size : Int) < (s.size : Int) then (if (tx (Lib.itoa (-(v : Int)))).toList = s.toList then (-(v : Int), true) else (0, false)) else (if (tx (Lib.itoa (v : Int))).toList = s.toList then ((v : Int), true) else (0, false))
def specR (s : ByteArray) : Int × Bool := if okD (bs (tl s)) = true then finR s (tl s) (valL 0 (bs (tl s))) else (0, false)
theorem l1Read_loop (s t : ByteArray) (h6 : t.size ≤ 6) (d : Nat) : ∀ (k i m : Nat), i + d = t.size → d + 30 < k → m < 10 ^ i →
    spec_l1Read.l0 k s t (m : Int) (i : Int) = some (if ((bs t).drop i).all dig = true then finR s t (valL m ((bs t).drop i)) else (0, false)) := by
  induction d with
  | zero =>
    intro k i m hi hk hm
    obtain ⟨k, rfl⟩ := kpos (d := 0) (k := k) (by omega)
    have p6 : 10 ^ i ≤ 10 ^ 6 := Nat.pow_le_pow_right (by omega) (by omega)
    have m6 : m < 1000000 := Nat.lt_of_lt_of_le hm p6
    have n1 : ¬ ((i : Int) < (t.size : Int)) := by omega
    have b1 : (-9223372036854775808 : Int) ≤ -(m : Int) := by omega
    have b2 : -(m : Int) ≤ 9223372036854775807 := by omega
    have c1 := l1Num_ends (-(m : Int)) (by omega) (by omega) k (by omega)
    have c2 := l1Num_ends (m : Int) (by omega) (by omega) k (by omega)
    have w1 : wrap64 (-(m : Int)) = -(m : Int) := w64 b1 b2
    unfold spec_l1Read.l0
    rw [if_neg n1, List.drop_of_length_le (by rw [bs_length]; omega), w1, c1, c2, Option.bind_some, Option.bind_some]
    rw [if_pos (show ([] : List UInt8).all dig = true from rfl)]
    unfold finR valL
    split <;> split <;> rfl
  | succ d ih =>
    intro k i m hi hk hm
    obtain ⟨k, rfl⟩ := kpos (d := 0) (k := k) (by omega)
    have hlt : i < t.size := by omega
    have hlb : i < (bs t).length := by rw [bs_length]; exact hlt
    have p6 : 10 ^ i ≤ 10 ^ 6 := Nat.pow_le_pow_right (by omega) (by omega)
    have m6 : m < 1000000 := Nat.lt_of_lt_of_le hm p6
    obtain ⟨b, hb⟩ : ∃ b, (bs t).getD i 0 = b := ⟨_, rfl⟩
    have e1 : (bs t).drop i = b :: (bs t).drop (i + 1) := by rw [← hb]; exact getD_cons hlb
    have n1 : (i : Int) < (t.size : Int) := by omega
    have n2 : (0 : Int) ≤ (i : Int) := by omega
    unfold spec_l1Read.l0
    rw [if_pos n1, if_pos n2, bt_list t i hlt, hb, e1]
    by_cases h1 : (b.toNat : Int) < 48
    · have hd : dig b = false := by unfold dig; rw [decide_eq_false_iff_not]; omega
      rw [if_pos h1, List.all_cons, hd, Bool.false_and, if_neg (by decide)]
    · rw [if_neg h1]
      by_cases h2 : (b.toNat : Int) > 57
      · have hd : dig b = false := by unfold dig; rw [decide_eq_false_iff_not]; omega
        rw [if_pos h2, List.all_cons, hd, Bool.false_and, if_neg (by decide)]
      · have hd : dig b = true := by unfold dig; rw [decide_eq_true_eq]; omega
        have hr := ih k (i + 1) (10 * m + (b.toNat - 48)) (by omega) (by omega) (by rw [Nat.pow_succ]; omega)
        have x1 : (-9223372036854775808 : Int) ≤ 10 * (m : Int) := by omega
        have x2 : 10 * (m : Int) ≤ 9223372036854775807 := by omega
        have x3 : ((b.toNat : Int) - 48) % 256 = ((b.toNat - 48 : Nat) : Int) := by omega
        have x4 : (-9223372036854775808 : Int) ≤ 10 * (m : Int) + ((b.toNat - 48 : Nat) : Int) := by omega
        have x5 : 10 * (m : Int) + ((b.toNat - 48 : Nat) : Int) ≤ 9223372036854775807 := by omega
        have x6 : 10 * (m : Int) + ((b.toNat - 48 : Nat) : Int) = ((10 * m + (b.toNat - 48) : Nat) : Int) := by omega
        rw [if_neg h2, w64 x1 x2, x3, w64 x4 x5, x6, wnext hlt (by omega), hr, List.all_cons, hd, Bool.true_and]
        rfl
theorem l1Read_ends (s : ByteArray) (k : Nat) (hk : 100 ≤ k) : spec_l1Read.f k s = some (specR s) := by
  obtain ⟨k, rfl⟩ : ∃ q, k = q + 2 := ⟨k - 2, by omega⟩
  have core : ∀ t : ByteArray, spec_l1Read.j1 (k + 1) s t = some (if okD (bs t) = true then finR s t (valL 0 (bs t)) else (0, false)) := by
    intro t
    simp only [spec_l1Read.j1]
    rw [l1In_ends, Option.bind_some]
    unfold okD
    rw [bs_length]
    by_cases h : 1 ≤ t.size ∧ t.size ≤ 6
    · have hin : inB (t.size : Int) 1 6 = true := by unfold inB; rw [decide_eq_true_eq]; omega
      have := l1Read_loop s t h.2 t.size k 0 0 (by omega) (by omega) (by decide)
      rw [show ((0 : Nat) : Int) = 0 from rfl, List.drop_zero] at this
      rw [if_pos hin, this, decide_eq_true h, Bool.true_and]
    · have hin : ¬ (inB (t.size : Int) 1 6 = true) := by unfold inB; rw [decide_eq_true_eq]; omega
      rw [if_neg hin, decide_eq_false h, Bool.false_and, if_neg (by decide)]
  unfold spec_l1Read.f specR tl
  by_cases h1 : (s.size : Int) > 1
  · rw [if_pos h1, if_pos (by omega), if_pos h1]
    simp only [spec_l1Read.j0]
    by_cases h2 : (bt s 0 == 45) = true
    · rw [if_pos h2, if_pos h2, if_pos (by omega)]
      exact core _
    · rw [if_neg h2, if_neg h2]
      exact core _
  · rw [if_neg h1, if_neg h1]
    simp only [spec_l1Read.j0]
    rw [if_neg (by decide)]
    exact core _
theorem toList_bs (a b : ByteArray) : a.toList = b.toList ↔ bs a = bs b := by
  unfold bs
  rw [ByteArray.toList_eq, ByteArray.toList_eq]
theorem mag_ok (l : List UInt8) (h : okD l = true) : Lib.parseMag l = .ok (valL 0 l) ∧ valL 0 l < 1000000 := by
  unfold okD at h
  simp only [Bool.and_eq_true, decide_eq_true_eq] at h
  have hb := valL_bound l 0 0 h.2 (by decide)
  have h6 : 10 ^ (0 + l.length) ≤ 10 ^ 6 := Nat.pow_le_pow_right (by omega) (by omega)
  refine ⟨?_, Nat.lt_of_lt_of_le hb h6⟩
  unfold Lib.parseMag
  rw [if_neg (by intro e; rw [e] at h; simp at h)]
  exact parse_digits l 0 0 h.2 (by decide) (by omega)
theorem in_six (v : Int) (h : -1000000 < v ∧ v < 1000000) : inB v (-999999) 999999 = true := by
  unfold inB
  rw [decide_eq_true_eq]
  omega
theorem tl_cons (b : UInt8) (r : List UInt8) (h : ¬ b = 45) : tlL (b :: r) = b :: r := by
  cases r with
  | nil => rfl
  | cons c r => exact if_neg h
theorem read_ok (s : ByteArray) (hk : okD (bs (tl s)) = true) : specR s = readR s := by
  obtain ⟨hm, hv⟩ := mag_ok _ hk
  have ht := tl_bs s
  have hs := bs_length s
  have hts := bs_length (tl s)
  unfold specR
  rw [if_pos hk]
  unfold readR finR
  rcases hb : bs s with _ | ⟨b, r⟩
  · rw [ht, hb] at hk
    exact absurd hk (by decide)
  · rw [show s.data.toList = b :: r from hb]
    rw [hb] at ht hs
    simp only [List.length_cons] at hs
    by_cases h45 : b = 45
    · subst h45
      cases hr : r with
      | nil =>
        rw [hr] at ht
        rw [ht] at hk
        exact absurd hk (by decide)
      | cons c r' =>
        rw [← hr]
        have ht2 : bs (tl s) = r := by
          rw [ht, hr]
          show (if (45 : UInt8) = 45 then c :: r' else 45 :: c :: r') = _
          rw [if_pos rfl]
        rw [ht2] at hm hv hts ⊢
        have e1 : Lib.signed (.ok (valL 0 r)) = .ok (-(valL 0 r : Int)) := if_neg (by omega)
        rw [Lib.atoiAll_minus, hm, e1]
        dsimp only
        rw [if_pos (by omega), if_pos (in_six _ (by omega))]
    · have ht2 : bs (tl s) = b :: r := by rw [ht]; exact tl_cons b r h45
      rw [ht2] at hm hv hts hk ⊢
      simp only [List.length_cons] at hts
      have hd : dig b = true := by
        unfold okD at hk
        simp only [Bool.and_eq_true, List.all_cons] at hk
        exact hk.2.1
      unfold dig at hd
      rw [decide_eq_true_eq] at hd
      have e1 : Lib.signless (.ok (valL 0 (b :: r))) = .ok ((valL 0 (b :: r) : Nat) : Int) := if_neg (by omega)
      rw [Lib.atoiAll_plain b r (by omega) (by omega), hm, e1]
      dsimp only
      rw [if_neg (by omega), if_pos (in_six _ (by omega))]
theorem read_no (s : ByteArray) (hk : ¬ okD (bs (tl s)) = true) : specR s = readR s := by
  unfold specR
  rw [if_neg hk]
  unfold readR
  rcases ha : Lib.atoiAll s.data.toList with v | _ | _
  · dsimp only
    by_cases hin : inB v (-999999) 999999 = true
    · rw [if_pos hin]
      unfold inB at hin
      rw [decide_eq_true_eq] at hin
      by_cases he : (tx (Lib.itoa v)).toList = s.toList
      · exfalso
        apply hk
        rw [toList_bs] at he
        have he2 : Lib.itoa v = bs s := he
        rw [tl_bs, ← he2]
        unfold Lib.itoa
        by_cases hn : v < 0
        · rw [if_pos hn]
          have hok := dec_ok v.natAbs (by omega)
          rcases hd : Lib.decDigits v.natAbs with _ | ⟨c, r⟩
          · rw [hd] at hok; exact absurd hok (by decide)
          · rw [hd] at hok
            show okD (if (45 : UInt8) = 45 then c :: r else 45 :: c :: r) = true
            rw [if_pos rfl]
            exact hok
        · rw [if_neg hn]
          have hok := dec_ok v.toNat (by omega)
          rcases hd : Lib.decDigits v.toNat with _ | ⟨c, r⟩
          · rw [hd] at hok; exact absurd hok (by decide)
          · rw [hd] at hok
            have hc : dig c = true := by
              unfold okD at hok
              simp only [Bool.and_eq_true, List.all_cons] at hok
              exact hok.2.1
            rw [tl_cons c r (by rintro rfl; exact absurd hc (by decide))]
            exact hok
      · rw [if_neg he]
    · rw [if_neg hin]
  · rfl
  · rfl
theorem read_same (s : ByteArray) : specR s = readR s := by
  by_cases h : okD (bs (tl s)) = true
  · exact read_ok s h
  · exact read_no s h
end Go.Proofs.YtfindomajbjacaaDoor.X
/- A decimal numeral is read as its number; and a text that is read is the numeral. -/
namespace Go.Proofs.YtfindomajbjacaaDoor.X
open Go.RowKit Go.Proofs.YtfindomajbjacaaDoorW.PrintWords Go.Proofs.YtfindomajbjacaaDoorW.PrintLast
set_option linter.unusedVariables false
set_option linter.unusedSimpArgs false
theorem dec_head {u : Nat} (h : u < 1000000) : tlL (Lib.decDigits u) = Lib.decDigits u := by
  have hok := dec_ok u h
  rcases hd : Lib.decDigits u with _ | ⟨c, r⟩
  · rfl
  · rw [hd] at hok
    have hc : dig c = true := by
      unfold okD at hok
      simp only [Bool.and_eq_true, List.all_cons] at hok
      exact hok.2.1
    exact tl_cons c r (by rintro rfl; exact absurd hc (by decide))
theorem bs_tx (l : List UInt8) : bs (tx l) = l := rfl
theorem readR_dec (u : Nat) (h : u < 1000000) : readR (tx (Lib.decDigits u)) = ((u : Int), true) := by
  rw [← read_same]
  have ht : bs (tl (tx (Lib.decDigits u))) = Lib.decDigits u := by rw [tl_bs, bs_tx, dec_head h]
  have hz : (tl (tx (Lib.decDigits u))).size = (Lib.decDigits u).length := by rw [← bs_length, ht]
  obtain ⟨_, hv, _⟩ := dec_facts 5 u h
  unfold specR
  rw [ht, if_pos (dec_ok u h), hv]
  unfold finR
  rw [hz, tx_size, if_neg (by omega), Lib.itoa_nonneg, if_pos rfl]
/-- What is read as a number is the number's numeral. -/
theorem readR_true {s : ByteArray} {v : Int} (h : readR s = (v, true)) : s = tx (Lib.itoa v) ∧ -999999 ≤ v ∧ v ≤ 999999 := by
  unfold readR at h
  rcases ha : Lib.atoiAll s.data.toList with u | _ | _
  · rw [ha] at h
    dsimp only at h
    split at h
    · rename_i hin
      split at h
      · rename_i he
        obtain rfl := (Prod.mk.inj h).1
        unfold inB at hin
        rw [decide_eq_true_eq] at hin
        rw [toList_bs] at he
        exact ⟨(bs_inj he).symm, hin⟩
      · cases (Prod.mk.inj h).2
    · cases (Prod.mk.inj h).2
  · rw [ha] at h
    cases (Prod.mk.inj h).2
  · rw [ha] at h
    cases (Prod.mk.inj h).2
theorem readR_range (s : ByteArray) : -999999 ≤ (readR s).1 ∧ (readR s).1 ≤ 999999 := by
  unfold readR
  split
  · split
    · rename_i hin
      unfold inB at hin
      rw [decide_eq_true_eq] at hin
      split
      · exact hin
      · exact ⟨by decide, by decide⟩
    · exact ⟨by decide, by decide⟩
  · exact ⟨by decide, by decide⟩
theorem dec_chars (u : Nat) (c : UInt8) (hc : dig c = false) (h : u < 1000000) : c ∉ Lib.decDigits u := by
  intro hm
  obtain ⟨h1, _, _⟩ := dec_facts 5 u h
  have := List.all_eq_true.1 h1 c hm
  rw [hc] at this
  cases this
end Go.Proofs.YtfindomajbjacaaDoor.X
/- Reading a container's text: the reference (each word must be known, each number must read well, the text must be its own), the program (numbers and words that are none are no container's): both come to the same. -/
namespace Go.Proofs.YtfindomajbjacaaDoor.X
open Go.RowKit Go.Proofs.YtfindomajbjacaaDoorW.PrintWords Go.Proofs.YtfindomajbjacaaDoorW.PrintLast
set_option linter.unusedVariables false
set_option linter.unusedSimpArgs false
theorem readR_no {s : ByteArray} (h : (readR s).2 = false) : (readR s).1 = 0 := by
  unfold readR at h ⊢
  split at h
  · split at h
    · split at h
      · cases h
      · rename_i h1 h2
        rw [if_pos h1, if_neg h2]
    · rename_i h1
      rw [if_neg h1]
  · rfl
theorem itoa_short (n : Int) (h0 : 0 ≤ n) (h1 : n < 100000) : (Lib.itoa n).length ≤ 5 := by
  unfold Lib.itoa
  rw [if_neg (by omega)]
  exact dec_length 4 n.toNat (by omega)
theorem contC_short {x : S27} (h : goodC x = true) : (contC x).size ≤ 60 := by
  obtain ⟨h0, h1, h2, h3, h4⟩ := goodC_parts h
  unfold contC
  rw [contT_size]
  have := szW_size x.f1
  have := cgW_size x.f3
  have := itoa_short x.f2 (by omega) (by omega)
  have := itoa_short x.f4 (by omega) (by omega)
  omega
theorem l4Index3 (e a b w : ByteArray) (k : Nat) (hk : 4 ≤ k) : spec_l4Index.f k [e, a, b] w = some (if a.toList = w.toList then 1 else if b.toList = w.toList then 2 else 0) := by
  obtain ⟨k, rfl⟩ : ∃ m, k = m + 1 + 1 + 1 := ⟨k - 3, by omega⟩
  have w1 : wrap64 (1 + 1) = 2 := by rw [w64 (by omega) (by omega)]; rfl
  have w2 : wrap64 (2 + 1) = 3 := by rw [w64 (by omega) (by omega)]; rfl
  unfold spec_l4Index.f
  rw [spec_l4Index.l0, if_pos (by show (1 : Int) < 3; decide), if_pos (by decide), w1, show rdOf ByteArray.empty [e, a, b] 1 = a from rfl]
  split
  · rfl
  · rw [spec_l4Index.l0, if_pos (by show (2 : Int) < 3; decide), if_pos (by decide), w2, show rdOf ByteArray.empty [e, a, b] 2 = b from rfl]
    split
    · rfl
    · rw [spec_l4Index.l0, if_neg (by show ¬ (3 : Int) < 3; decide)]
theorem l4Index4 (e a b c w : ByteArray) (k : Nat) (hk : 5 ≤ k) : spec_l4Index.f k [e, a, b, c] w = some (if a.toList = w.toList then 1 else if b.toList = w.toList then 2 else if c.toList = w.toList then 3 else 0) := by
  obtain ⟨k, rfl⟩ : ∃ m, k = m + 1 + 1 + 1 + 1 := ⟨k - 4, by omega⟩
  have w1 : wrap64 (1 + 1) = 2 := by rw [w64 (by omega) (by omega)]; rfl
  have w2 : wrap64 (2 + 1) = 3 := by rw [w64 (by omega) (by omega)]; rfl
  have w3 : wrap64 (3 + 1) = 4 := by rw [w64 (by omega) (by omega)]; rfl
  unfold spec_l4Index.f
  rw [spec_l4Index.l0, if_pos (by show (1 : Int) < 4; decide), if_pos (by decide), w1, show rdOf ByteArray.empty [e, a, b, c] 1 = a from rfl]
  split
  · rfl
  · rw [spec_l4Index.l0, if_pos (by show (2 : Int) < 4; decide), if_pos (by decide), w2, show rdOf ByteArray.empty [e, a, b, c] 2 = b from rfl]
    split
    · rfl
    · rw [spec_l4Index.l0, if_pos (by show (3 : Int) < 4; decide), if_pos (by decide), w3, show rdOf ByteArray.empty [e, a, b, c] 3 = c from rfl]
      split
      · rfl
      · rw [spec_l4Index.l0, if_neg (by show ¬ (4 : Int) < 4; decide)]
theorem index3 (e a b w : ByteArray) (k : Nat) (hk : 5 ≤ k) : slices_Index_string_string.f k [e, a, b] w = some (if w.toList = e.toList then 0 else if w.toList = a.toList then 1 else if w.toList = b.toList then 2 else -1) := by
  obtain ⟨k, rfl⟩ : ∃ m, k = m + 1 + 1 + 1 + 1 := ⟨k - 4, by omega⟩
  have w0 : wrap64 (0 + 1) = 1 := by rw [w64 (by omega) (by omega)]; rfl
  have w1 : wrap64 (1 + 1) = 2 := by rw [w64 (by omega) (by omega)]; rfl
  have w2 : wrap64 (2 + 1) = 3 := by rw [w64 (by omega) (by omega)]; rfl
  unfold slices_Index_string_string.f
  rw [show (([e, a, b] : List ByteArray).length : Int) = 3 from rfl]
  rw [slices_Index_string_string.l0, if_pos (by decide), if_pos (by decide), if_pos (by show (0 : Int) < 3; decide), w0, show rdOf ByteArray.empty [e, a, b] 0 = e from rfl]
  split
  · rfl
  · rw [slices_Index_string_string.l0, if_pos (by decide), if_pos (by decide), if_pos (by show (1 : Int) < 3; decide), w1, show rdOf ByteArray.empty [e, a, b] 1 = a from rfl]
    split
    · rfl
    · rw [slices_Index_string_string.l0, if_pos (by decide), if_pos (by decide), if_pos (by show (2 : Int) < 3; decide), w2, show rdOf ByteArray.empty [e, a, b] 2 = b from rfl]
      split
      · rfl
      · rw [slices_Index_string_string.l0, if_neg (by decide)]
theorem index4 (e a b c w : ByteArray) (k : Nat) (hk : 6 ≤ k) : slices_Index_string_string.f k [e, a, b, c] w = some (if w.toList = e.toList then 0 else if w.toList = a.toList then 1 else if w.toList = b.toList then 2 else if w.toList = c.toList then 3 else -1) := by
  obtain ⟨k, rfl⟩ : ∃ m, k = m + 1 + 1 + 1 + 1 + 1 := ⟨k - 5, by omega⟩
  have w0 : wrap64 (0 + 1) = 1 := by rw [w64 (by omega) (by omega)]; rfl
  have w1 : wrap64 (1 + 1) = 2 := by rw [w64 (by omega) (by omega)]; rfl
  have w2 : wrap64 (2 + 1) = 3 := by rw [w64 (by omega) (by omega)]; rfl
  have w3 : wrap64 (3 + 1) = 4 := by rw [w64 (by omega) (by omega)]; rfl
  unfold slices_Index_string_string.f
  rw [show (([e, a, b, c] : List ByteArray).length : Int) = 4 from rfl]
  rw [slices_Index_string_string.l0, if_pos (by decide), if_pos (by decide), if_pos (by show (0 : Int) < 4; decide), w0, show rdOf ByteArray.empty [e, a, b, c] 0 = e from rfl]
  split
  · rfl
  · rw [slices_Index_string_string.l0, if_pos (by decide), if_pos (by decide), if_pos (by show (1 : Int) < 4; decide), w1, show rdOf ByteArray.empty [e, a, b, c] 1 = a from rfl]
    split
    · rfl
    · rw [slices_Index_string_string.l0, if_pos (by decide), if_pos (by decide), if_pos (by show (2 : Int) < 4; decide), w2, show rdOf ByteArray.empty [e, a, b, c] 2 = b from rfl]
      split
      · rfl
      · rw [slices_Index_string_string.l0, if_pos (by decide), if_pos (by decide), if_pos (by show (3 : Int) < 4; decide), w3, show rdOf ByteArray.empty [e, a, b, c] 3 = c from rfl]
        split
        · rfl
        · rw [slices_Index_string_string.l0, if_neg (by decide)]
/-- The two searches for a word: they agree where it is found behind the first one. -/
theorem idx_agree3 {e a b w : List UInt8} {S0 S1 : Int} (h0 : S0 = if a = w then 1 else if b = w then 2 else 0) (h1 : S1 = if w = e then 0 else if w = a then 1 else if w = b then 2 else -1) (hea : e ≠ a) (heb : e ≠ b) : (1 ≤ S1 → S0 = S1) ∧ (1 ≤ S0 → S1 = S0) := by
  by_cases c1 : w = e
  · subst c1
    rw [if_pos rfl] at h1
    rw [if_neg (fun h => hea h.symm), if_neg (fun h => heb h.symm)] at h0
    omega
  · rw [if_neg c1] at h1
    by_cases c2 : w = a
    · rw [if_pos c2] at h1; rw [if_pos c2.symm] at h0; omega
    · rw [if_neg c2] at h1; rw [if_neg (fun h => c2 h.symm)] at h0
      by_cases c3 : w = b
      · rw [if_pos c3] at h1; rw [if_pos c3.symm] at h0; omega
      · rw [if_neg c3] at h1; rw [if_neg (fun h => c3 h.symm)] at h0; omega
theorem idx_agree4 {e a b c w : List UInt8} {S0 S1 : Int} (h0 : S0 = if a = w then 1 else if b = w then 2 else if c = w then 3 else 0) (h1 : S1 = if w = e then 0 else if w = a then 1 else if w = b then 2 else if w = c then 3 else -1) (hea : e ≠ a) (heb : e ≠ b) (hec : e ≠ c) : (1 ≤ S1 → S0 = S1) ∧ (1 ≤ S0 → S1 = S0) := by
  by_cases c1 : w = e
  · subst c1
    rw [if_pos rfl] at h1
    rw [if_neg (fun h => hea h.symm), if_neg (fun h => heb h.symm), if_neg (fun h => hec h.symm)] at h0
    omega
  · rw [if_neg c1] at h1
    by_cases c2 : w = a
    · rw [if_pos c2] at h1; rw [if_pos c2.symm] at h0; omega
    · rw [if_neg c2] at h1; rw [if_neg (fun h => c2 h.symm)] at h0
      by_cases c3 : w = b
      · rw [if_pos c3] at h1; rw [if_pos c3.symm] at h0; omega
      · rw [if_neg c3] at h1; rw [if_neg (fun h => c3 h.symm)] at h0
        by_cases c4 : w = c
        · rw [if_pos c4] at h1; rw [if_pos c4.symm] at h0; omega
        · rw [if_neg c4] at h1; rw [if_neg (fun h => c4 h.symm)] at h0; omega
abbrev PC := Option (ByteArray × Int × Int × Int × Int × Bool)
def noC : PC := some ((⟨#[]⟩ : ByteArray), 0, 0, 0, 0, false)
def yesC (x : S27) : PC := some (x.f0, x.f1, x.f2, x.f3, x.f4, true)
theorem parse_both (s : ByteArray) (hs : s.size ≤ 1048576) (k : Nat) (hk : 1048700 ≤ k) :
    (spec_l4Parse.f k s = noC ∧ impl_ParseContainer.f k s = noC) ∨ ∃ x, spec_l4Parse.f k s = yesC x ∧ impl_ParseContainer.f k s = yesC x ∧ goodC x = true ∧ contC x = s := by
  obtain ⟨ys, e1, e2, e3, e4⟩ := split_same s 32 hs k (by omega)
  obtain ⟨k, rfl⟩ := kpos (d := 0) (k := k) (by omega)
  unfold spec_l4Parse.f impl_ParseContainer.f
  rw [show (32 : Int) = ((32 : UInt8).toNat : Int) from rfl, e1, e2]
  simp only [Option.bind_some]
  by_cases h5 : (ys.length : Int) = 5
  · have hb5 : ((ys.length : Int) != 5) = false := bne_eq_false_iff_eq.2 h5
    rw [hb5]
    obtain ⟨w0, h0⟩ : ∃ w, rdOf ByteArray.empty ys 0 = w := ⟨_, rfl⟩
    obtain ⟨w1, h1⟩ : ∃ w, rdOf ByteArray.empty ys 1 = w := ⟨_, rfl⟩
    obtain ⟨w2, h2⟩ : ∃ w, rdOf ByteArray.empty ys 2 = w := ⟨_, rfl⟩
    obtain ⟨w3, h3⟩ : ∃ w, rdOf ByteArray.empty ys 3 = w := ⟨_, rfl⟩
    obtain ⟨w4, h4⟩ : ∃ w, rdOf ByteArray.empty ys 4 = w := ⟨_, rfl⟩
    have hsz : ∀ i : Nat, i < ys.length → (rdOf ByteArray.empty ys (i : Int)).size ≤ 1048576 := by
      intro i hi
      have hm : rdOf ByteArray.empty ys (i : Int) ∈ ys := by
        unfold rdOf
        rw [Int.toNat_natCast]
        exact getD_mem hi
      have hm2 : bs (rdOf ByteArray.empty ys (i : Int)) ∈ splitL 32 (bs s) := by rw [← e3]; exact List.mem_map_of_mem hm
      have := piece_len 32 (bs s) _ hm2
      rw [bs_length, bs_length] at this
      omega
    have z2 := hsz 2 (by omega)
    have z4 := hsz 4 (by omega)
    have z0 := hsz 0 (by omega)
    rw [show ((2 : Nat) : Int) = 2 from rfl, h2] at z2
    rw [show ((4 : Nat) : Int) = 4 from rfl, h4] at z4
    rw [show ((0 : Nat) : Int) = 0 from rfl, h0] at z0
    obtain ⟨S0, hS0⟩ : ∃ S0 : Int, S0 = if (szW 1).toList = w1.toList then 1 else if (szW 2).toList = w1.toList then 2 else 0 := ⟨_, rfl⟩
    obtain ⟨S1, hS1⟩ : ∃ S1 : Int, S1 = if w1.toList = (⟨#[]⟩ : ByteArray).toList then 0 else if w1.toList = (szW 1).toList then 1 else if w1.toList = (szW 2).toList then 2 else -1 := ⟨_, rfl⟩
    obtain ⟨C0, hC0⟩ : ∃ C0 : Int, C0 = if (cgW 1).toList = w3.toList then 1 else if (cgW 2).toList = w3.toList then 2 else if (cgW 3).toList = w3.toList then 3 else 0 := ⟨_, rfl⟩
    obtain ⟨C1, hC1⟩ : ∃ C1 : Int, C1 = if w3.toList = (⟨#[]⟩ : ByteArray).toList then 0 else if w3.toList = (cgW 1).toList then 1 else if w3.toList = (cgW 2).toList then 2 else if w3.toList = (cgW 3).toList then 3 else -1 := ⟨_, rfl⟩
    have ne : ∀ (b : UInt8) (l : List UInt8), (⟨#[]⟩ : ByteArray).toList ≠ (⟨(b :: l).toArray⟩ : ByteArray).toList := by
      intro b l h
      rw [ByteArray.toList_eq, ByteArray.toList_eq] at h
      cases h
    obtain ⟨a1, a2⟩ := idx_agree3 hS0 hS1 (ne 115 [109, 97, 108, 108]) (ne 108 [97, 114, 103, 101])
    obtain ⟨b1, b2⟩ := idx_agree4 hC0 hC1 (ne 112 [108, 97, 105, 110]) (ne 114 [101, 101, 102, 101, 114]) (ne 100 [97, 110, 103, 101, 114])
    obtain ⟨v, hv⟩ : ∃ v, readR w2 = v := ⟨_, rfl⟩
    obtain ⟨p, hp⟩ : ∃ p, readR w4 = p := ⟨_, rfl⟩
    have nv : v.2 = false → v.1 = 0 := by rw [← hv]; exact readR_no
    have np : p.2 = false → p.1 = 0 := by rw [← hp]; exact readR_no
    have iv : impl_ParseInt.f w2 = some v := by unfold impl_ParseInt.f; rw [if_pos (by omega), hv]
    have ip : impl_ParseInt.f w4 = some p := by unfold impl_ParseInt.f; rw [if_pos (by omega), hp]
    have sv : spec_l1Read.f k w2 = some v := by rw [l1Read_ends w2 k (by omega), read_same, hv]
    have sp : spec_l1Read.f k w4 = some p := by rw [l1Read_ends w4 k (by omega), read_same, hp]
    have i3 := index3 ⟨#[]⟩ (szW 1) (szW 2) w1 (k + 1) (by omega)
    have i4 := index4 ⟨#[]⟩ (cgW 1) (cgW 2) (cgW 3) w3 (k + 1) (by omega)
    have l3 := l4Index3 ⟨#[]⟩ (szW 1) (szW 2) w1 k (by omega)
    have l4 := l4Index4 ⟨#[]⟩ (cgW 1) (cgW 2) (cgW 3) w3 k (by omega)
    rw [← hS1] at i3
    rw [← hC1] at i4
    rw [← hS0] at l3
    rw [← hC0] at l4
    have n0 : (0 : Int) < (ys.length : Int) := by omega
    have n1 : (1 : Int) < (ys.length : Int) := by omega
    have n2 : (2 : Int) < (ys.length : Int) := by omega
    have n3 : (3 : Int) < (ys.length : Int) := by omega
    have n4 : (4 : Int) < (ys.length : Int) := by omega
    have zs : impl_sizeWords.f = some [(⟨#[]⟩ : ByteArray), szW 1, szW 2] := rfl
    have zc : impl_cargoWords.f = some [(⟨#[]⟩ : ByteArray), cgW 1, cgW 2, cgW 3] := rfl
    clear hS0 hS1 hC0 hC1 hv hp ne hsz e1 e2 e3 e4
    rw [if_pos h5, if_pos n0, zs, Option.bind_some, if_pos n1, h1, i3, Option.bind_some, zc, Option.bind_some, if_pos n3, h3, i4, Option.bind_some, if_pos n2, h2, iv, Option.bind_some, if_pos n4, h4, ip, Option.bind_some, h0, impl_good _ _ _ _ _ (k + 1) (by omega), Option.bind_some]
    have tx1 : goodB w0 S1 v.1 C1 p.1 = true → impl_containerText.f w0 S1 v.1 C1 p.1 = some (contC ⟨w0, S1, v.1, C1, p.1⟩) := fun hg => implText_ends (x := ⟨w0, S1, v.1, C1, p.1⟩) hg
    by_cases h60 : (s.size : Int) > 60
    · rw [if_pos h60]
      simp only [spec_l4Parse.j0, if_true]
      refine .inl ⟨rfl, ?_⟩
      by_cases hg : goodB w0 S1 v.1 C1 p.1 = true
      · rw [if_pos hg, tx1 hg, Option.bind_some]
        by_cases ht : (contC (⟨w0, S1, v.1, C1, p.1⟩ : S27)).toList = s.toList
        · exfalso
          have he : contC (⟨w0, S1, v.1, C1, p.1⟩ : S27) = s := bs_inj ((toList_bs _ _).1 ht)
          have hsm := contC_short (x := ⟨w0, S1, v.1, C1, p.1⟩) hg
          rw [he] at hsm
          omega
        · rw [if_neg ht]; rfl
      · rw [if_neg hg]; rfl
    rw [if_neg h60]
    simp only [spec_l4Parse.j0]
    rw [if_neg (by decide), if_pos n2, h2, sv, Option.bind_some, if_pos n4, h4, sp, Option.bind_some, if_pos n0, if_pos n1, h1]
    rw [show (⟨#[115, 109, 97, 108, 108]⟩ : ByteArray) = szW 1 from rfl, show (⟨#[108, 97, 114, 103, 101]⟩ : ByteArray) = szW 2 from rfl, l3, Option.bind_some, if_pos n3, h3]
    rw [show (⟨#[112, 108, 97, 105, 110]⟩ : ByteArray) = cgW 1 from rfl, show (⟨#[114, 101, 101, 102, 101, 114]⟩ : ByteArray) = cgW 2 from rfl, show (⟨#[100, 97, 110, 103, 101, 114]⟩ : ByteArray) = cgW 3 from rfl, l4, Option.bind_some, h0, spec_good _ _ _ _ _ k (by omega)]
    clear iv ip sv sp i3 i4 l3 l4 zs zc h0 h1 h2 h3 h4
    by_cases hg : goodB w0 S1 v.1 C1 p.1 = true
    · have hgx : goodC (⟨w0, S1, v.1, C1, p.1⟩ : S27) = true := hg
      have hg2 := hg
      unfold goodB inB at hg2
      simp only [Bool.and_eq_true, decide_eq_true_eq] at hg2
      have f1 := a1 (by omega)
      have f3 := b1 (by omega)
      subst f1 f3
      have t1 : v.2 = true := by
        cases hvv : v.2 with
        | true => rfl
        | false => have := nv hvv; omega
      have t2 : p.2 = true := by
        cases hpp : p.2 with
        | true => rfl
        | false => have := np hpp; omega
      have tx2 : spec_l4Text.f k w0 S0 v.1 C0 p.1 = some (contC ⟨w0, S0, v.1, C0, p.1⟩) := specText_ends (x := ⟨w0, S0, v.1, C0, p.1⟩) hg k (by omega)
      rw [if_pos hg, tx1 hg, Option.bind_some, if_pos t1, if_pos t2, Option.bind_some, if_pos hg, tx2, Option.bind_some]
      by_cases ht : (contC (⟨w0, S0, v.1, C0, p.1⟩ : S27)).toList = s.toList
      · have he : contC (⟨w0, S0, v.1, C0, p.1⟩ : S27) = s := bs_inj ((toList_bs _ _).1 ht)
        simp only [if_pos ht]
        exact .inr ⟨⟨w0, S0, v.1, C0, p.1⟩, rfl, rfl, hgx, he⟩
      · simp only [if_neg ht]
        exact .inl ⟨rfl, rfl⟩
    · rw [if_neg hg]
      have hg0 : ¬ goodB w0 S0 v.1 C0 p.1 = true := by
        intro hg0
        have hg2 := hg0
        unfold goodB inB at hg2
        simp only [Bool.and_eq_true, decide_eq_true_eq] at hg2
        have f1 := a2 (by omega)
        have f3 := b2 (by omega)
        rw [f1, f3] at hg
        exact hg hg0
      rw [Option.bind_some, if_neg hg0]
      refine .inl ⟨?_, rfl⟩
      split
      · split <;> rfl
      · rfl
  · have hb5 : ((ys.length : Int) != 5) = true := bne_iff_ne.2 h5
    rw [hb5, if_neg h5]
    simp only [spec_l4Parse.j0, if_true, ite_self]
    exact .inl ⟨rfl, rfl⟩
end Go.Proofs.YtfindomajbjacaaDoor.X
/- What the printed functions on lists of containers come to: the size that is left, the copy, the comparison, the search, the test of a list. -/
namespace Go.Proofs.YtfindomajbjacaaDoor.X
open Go.RowKit Go.Proofs.YtfindomajbjacaaDoorW.PrintWords Go.Proofs.YtfindomajbjacaaDoorW.PrintLast
set_option linter.unusedVariables false
set_option linter.unusedSimpArgs false

def c67 (x : S23) : S27 := ⟨x.f0, x.f1, x.f2, x.f3, x.f4⟩
def totC : List S23 → Nat
  | [] => 0
  | s :: r => s.f0.size + totC r
theorem rdC67_nat (xs : List S23) (n : Nat) : rd_T23 xs (n : Int) = xs.getD n z23 := rfl
theorem rdC61_nat (xs : List S27) (n : Nat) : rd_T27 xs (n : Int) = xs.getD n z27 := rfl
theorem szContainerS_loop (ss : List S23) (hx : ss.length ≤ 9223372036854775807) (hs : ∀ s ∈ ss, s.f0.size ≤ 9223372036854775807) (d : Nat) : ∀ (k n : Nat) (a : Int), n + d = ss.length → d < k → 0 ≤ a → a ≤ 1048576 →
    laws_szContainerS.l0 k ss a (n : Int) = some (if a - (totC (ss.drop n) : Int) < 0 then -1 else a - (totC (ss.drop n) : Int)) := by
  induction d with
  | zero =>
    intro k n a hn hk ha ha2
    obtain ⟨k, rfl⟩ := kpos hk
    simp only [laws_szContainerS.l0]
    have ht : totC (ss.drop n) = 0 := by rw [List.drop_of_length_le (by omega)]; rfl
    rw [if_neg (by omega), ht, if_neg (by omega)]
    simp
  | succ d ih =>
    intro k n a hn hk ha ha2
    obtain ⟨k, rfl⟩ := kpos hk
    have hlt : n < ss.length := by omega
    have hz := hs _ (getD_mem (z := z23) hlt)
    have ht : totC (ss.drop n) = (ss.getD n z23).f0.size + totC (ss.drop (n + 1)) := by rw [getD_cons (z := z23) hlt]; rfl
    simp only [laws_szContainerS.l0]
    rw [if_pos (by omega), if_pos (by omega), rdC67_nat, ht]
    unfold laws_szContainer.f
    rw [w64 (by omega) (by omega)]
    by_cases h : a - ((ss.getD n z23).f0.size : Int) < 0
    · rw [if_pos h]
      simp only [Option.bind_some]
      rw [if_pos (by omega), if_pos (by omega)]
    · rw [if_neg h]
      simp only [Option.bind_some]
      rw [if_neg h, wnext hlt hx, ih k (n + 1) _ (by omega) (by omega) (by omega) (by omega)]
      by_cases h2 : a - ((ss.getD n z23).f0.size : Int) - (totC (ss.drop (n + 1)) : Int) < 0
      · rw [if_pos h2, if_pos (by omega)]
      · rw [if_neg h2, if_neg (by omega)]
        congr 1
        omega
theorem szContainerS_ends (ss : List S23) (hx : ss.length ≤ 9223372036854775807) (hs : ∀ s ∈ ss, s.f0.size ≤ 9223372036854775807) (k : Nat) (hk : 1048577 ≤ k) :
    laws_szContainerS.f k ss 1048576 = some (if (1048576 : Int) - ss.length - totC ss < 0 then -1 else (1048576 : Int) - ss.length - totC ss) := by
  unfold laws_szContainerS.f
  rw [w64 (by omega) (by omega)]
  by_cases h : (1048576 : Int) - ss.length < 0
  · rw [if_pos h, if_pos (by omega)]
  · rw [if_neg h]
    have := szContainerS_loop ss hx hs ss.length k 0 ((1048576 : Int) - ss.length) (by omega) (by omega) (by omega) (by omega)
    rw [show ((0 : Nat) : Int) = 0 from rfl, List.drop_zero] at this
    exact this
theorem toContainerS_loop (ss : List S23) (hx : ss.length ≤ 1048576) (d : Nat) : ∀ (k n : Nat) (ys : List S27), n ≤ ss.length → ss.length - n = d → d < k → ys.length = ss.length → ys.take n = (ss.take n).map c67 →
    laws_toContainerS.l0 k ss ys (n : Int) = some (ss.map c67) := by
  induction d with
  | zero =>
    intro k n ys hn hd hk hl hy
    obtain ⟨k, rfl⟩ := kpos hk
    simp only [laws_toContainerS.l0]
    rw [if_neg (by omega), fill_end c67 hl (by omega) hy]
  | succ d ih =>
    intro k n ys hn hd hk hl hy
    obtain ⟨k, rfl⟩ := kpos hk
    have hlt : n < ss.length := by omega
    obtain ⟨e1, e2⟩ := fill_step (z := z23) c67 hl hlt hy
    have hn1 := ih k (n + 1) _ (by omega) (by omega) (by omega) e2 e1
    simp only [laws_toContainerS.l0, laws_toContainer.f, Option.bind_some]
    rw [if_pos (by omega), if_pos (by omega), if_pos (by omega), wnext hlt (by omega), Int.toNat_natCast]
    exact hn1
theorem toContainerS_ends (ss : List S23) (hx : ss.length ≤ 1048576) (k : Nat) (hk : 1048577 ≤ k) : laws_toContainerS.f k ss = some (ss.map c67) := by
  unfold laws_toContainerS.f
  rw [if_pos (by omega), if_pos (by omega)]
  have := toContainerS_loop ss hx ss.length k 0 (List.replicate (ss.length : Int).toNat z27) (by omega) (by omega) (by omega) (by simp) (by simp)
  exact this
theorem eqContainerS_loop (ss : List S27) (hx : ss.length ≤ 1048576) (d : Nat) : ∀ (k n : Nat), n + d = ss.length → d < k → laws_eqContainerS.l0 k ss ss (n : Int) = some true := by
  induction d with
  | zero =>
    intro k n hn hk
    obtain ⟨k, rfl⟩ := kpos hk
    simp only [laws_eqContainerS.l0]
    rw [if_neg (by omega)]
  | succ d ih =>
    intro k n hn hk
    obtain ⟨k, rfl⟩ := kpos hk
    have hlt : n < ss.length := by omega
    simp only [laws_eqContainerS.l0, laws_eqContainer.f, if_true, Option.bind_some]
    rw [if_pos (by omega), if_pos (by omega), if_pos (by omega), wnext hlt (by omega)]
    exact ih k (n + 1) (by omega) (by omega)
theorem eqContainerS_refl (ss : List S27) (hx : ss.length ≤ 1048576) (k : Nat) (hk : 1048577 ≤ k) : laws_eqContainerS.f k ss ss = some true := by
  unfold laws_eqContainerS.f
  rw [if_pos rfl]
  exact eqContainerS_loop ss hx ss.length k 0 (by omega) (by omega)

/-! ### the search -/
def sameId (id : ByteArray) (x : S27) : Bool := x.f0.toList == id.toList
theorem Find_loop (cs : List S27) (id : ByteArray) (hx : cs.length ≤ 1048576) (d : Nat) : ∀ (k n : Nat), n + d = cs.length → d < k → spec_l2Find.l0 k cs id (n : Int) = some (idxI (sameId id) (cs.drop n) (n : Int)) := by
  induction d with
  | zero =>
    intro k n hn hk
    obtain ⟨k, rfl⟩ := kpos hk
    simp only [spec_l2Find.l0]
    rw [if_neg (by omega), List.drop_of_length_le (by omega)]
    rfl
  | succ d ih =>
    intro k n hn hk
    obtain ⟨k, rfl⟩ := kpos hk
    have hlt : n < cs.length := by omega
    simp only [spec_l2Find.l0]
    rw [if_pos (by omega), if_pos (by omega), rdC61_nat, getD_cons (z := z27) hlt]
    simp only [idxI]
    by_cases h : (cs.getD n z27).f0.toList = id.toList
    · rw [if_pos h, if_pos (by unfold sameId; rw [beq_iff_eq]; exact h)]
    · rw [if_neg h, if_neg (by unfold sameId; rw [beq_iff_eq]; exact h), wnext hlt (by omega), ih k (n + 1) (by omega) (by omega)]
      rfl
theorem Find_ends (cs : List S27) (id : ByteArray) (hx : cs.length ≤ 1048576) (k : Nat) (hk : 1048577 ≤ k) : spec_l2Find.f k cs id = some (idxI (sameId id) cs 0) := by
  unfold spec_l2Find.f
  have := Find_loop cs id hx cs.length k 0 (by omega) (by omega)
  rw [show ((0 : Nat) : Int) = 0 from rfl, List.drop_zero] at this
  exact this
theorem indexOf_ends (cs : List S27) (id : ByteArray) : impl_indexOf.f cs id = some (idxI (sameId id) cs 0) := rfl
theorem idxI_first {α : Type} (p : α → Bool) (z : α) : ∀ (l : List α) (s : Int) (i : Nat), i < l.length → p (l.getD i z) = true → (idxI p l s = s + i ↔ (l.take i).any p = false)
  | [], s, i, h, _ => by simp at h
  | x :: l, s, i, h, hp => by
    simp only [idxI]
    cases i with
    | zero => rw [if_pos (by simpa using hp)]; simp
    | succ i =>
      by_cases hx : p x = true
      · rw [if_pos hx]
        simp only [List.take_succ_cons, List.any_cons, hx, Bool.true_or]
        constructor
        · intro h1; omega
        · intro h1; cases h1
      · rw [if_neg hx]
        have := idxI_first p z l (s + 1) i (by simpa using h) (by simpa using hp)
        simp only [List.take_succ_cons, List.any_cons, Bool.not_eq_true] at hx ⊢
        rw [hx, Bool.false_or, ← this]
        constructor <;> intro h1 <;> omega

/-! ### the test of a list -/
def stepC (cs : List S27) (i : Nat) : Bool := goodC (cs.getD i z27) && !((cs.take i).any (sameId (cs.getD i z27).f0))
def listC (cs : List S27) : Nat → Nat → Bool
  | 0, _ => true
  | d + 1, i => stepC cs i && listC cs d (i + 1)
def validC (cs : List S27) : Bool := decide (cs.length ≤ 12) && listC cs cs.length 0
theorem impl_list_loop (cs : List S27) (hx : cs.length ≤ 1048576) (d : Nat) : ∀ (k i : Nat), i + d = cs.length → d + 20 < k → impl_IsValidContainers.l0 k cs cs (cs.length : Int) (i : Int) = some (listC cs d i && decide (cs.length ≤ 12)) := by
  induction d with
  | zero =>
    intro k i hi hk
    obtain ⟨k, rfl⟩ := kpos (d := 0) (k := k) (by omega)
    simp only [impl_IsValidContainers.l0]
    rw [if_neg (by omega)]
    simp only [listC, Bool.true_and]
    congr 1
    rw [Bool.eq_iff_iff, decide_eq_true_eq, decide_eq_true_eq]
    omega
  | succ d ih =>
    intro k i hi hk
    obtain ⟨k, rfl⟩ := kpos (d := 0) (k := k) (by omega)
    have hlt : i < cs.length := by omega
    simp only [impl_IsValidContainers.l0, listC, stepC]
    rw [if_pos (by omega), if_pos (by omega), if_pos (by omega), rdC61_nat, impl_good _ _ _ _ _ k (by omega), show goodB _ _ _ _ _ = goodC (cs.getD i z27) from rfl]
    simp only [Option.bind_some]
    by_cases hg : goodC (cs.getD i z27) = true
    · rw [if_pos hg, if_pos (by omega), indexOf_ends, Int.toNat_natCast, hg, Bool.true_and]
      simp only [Option.bind_some, ge_iff_le]
      by_cases ha : (cs.take i).any (sameId (cs.getD i z27).f0) = true
      · rw [if_pos ((idxI_any _ _ 0 (by omega)).2 ha), ha]
        rfl
      · rw [if_neg (fun h => ha ((idxI_any _ _ 0 (by omega)).1 h)), wnext hlt (by omega), ih k (i + 1) (by omega) (by omega)]
        rw [Bool.not_eq_true] at ha
        rw [ha]
        rfl
    · rw [if_neg hg]
      rw [Bool.not_eq_true] at hg
      rw [hg]
      rfl
theorem impl_valid (cs : List S27) (hx : cs.length ≤ 1048576) (k : Nat) (hk : 1048600 ≤ k) : impl_IsValidContainers.f k cs = some (validC cs) := by
  unfold impl_IsValidContainers.f validC
  have := impl_list_loop cs hx cs.length k 0 (by omega) (by omega)
  rw [show ((0 : Nat) : Int) = 0 from rfl] at this
  rw [this, Bool.and_comm]
theorem spec_list_loop (cs : List S27) (hx : cs.length ≤ 12) (d : Nat) : ∀ (k i : Nat), i + d = cs.length → 2 * d + 1048600 < k → spec_l2List.l0 k cs (i : Int) = some (listC cs d i) := by
  induction d with
  | zero =>
    intro k i hi hk
    obtain ⟨k, rfl⟩ : ∃ m, k = m + 2 := ⟨k - 2, by omega⟩
    simp only [spec_l2List.l0]
    rw [if_neg (by omega)]
    simp only [spec_l2List.j1, Bool.false_eq_true, if_false, listC]
    congr 1
    rw [decide_eq_true_eq]
    omega
  | succ d ih =>
    intro k i hi hk
    obtain ⟨k, rfl⟩ : ∃ m, k = m + 2 := ⟨k - 2, by omega⟩
    have hlt : i < cs.length := by omega
    have h12 : decide ((i : Int) ≤ 12) = true := decide_eq_true (by omega)
    simp only [spec_l2List.l0]
    rw [if_pos (by omega), h12]
    simp only [spec_l2List.j1, if_true, listC, stepC]
    rw [if_pos (by omega), if_pos (by omega), rdC61_nat, spec_good _ _ _ _ _ k (by omega), show goodB _ _ _ _ _ = goodC (cs.getD i z27) from rfl]
    simp only [Option.bind_some]
    by_cases hg : goodC (cs.getD i z27) = true
    · rw [if_pos hg, hg, Bool.true_and, Find_ends _ _ (by omega) k (by omega)]
      simp only [Option.bind_some]
      have hself : sameId (cs.getD i z27).f0 (cs.getD i z27) = true := by unfold sameId; simp
      have hf := idxI_first (sameId (cs.getD i z27).f0) z27 cs 0 i hlt hself
      rw [Int.zero_add] at hf
      by_cases ha : (cs.take i).any (sameId (cs.getD i z27).f0) = false
      · rw [if_pos (hf.2 ha), ha, wnext hlt (by omega), ih k (i + 1) (by omega) (by omega)]
        rfl
      · rw [if_neg (fun h => ha (hf.1 h))]
        simp only [Bool.not_eq_false] at ha
        rw [ha]
        rfl
    · rw [if_neg hg]
      rw [Bool.not_eq_true] at hg
      rw [hg]
      rfl
theorem spec_list_long (cs : List S27) (hx : cs.length ≤ 1048576) (h12 : 12 < cs.length) (d : Nat) : ∀ (k i : Nat), i + d = 13 → 2 * d + 1048600 < k → spec_l2List.l0 k cs (i : Int) = some false := by
  induction d with
  | zero =>
    intro k i hi hk
    obtain ⟨k, rfl⟩ : ∃ m, k = m + 2 := ⟨k - 2, by omega⟩
    have e1 : decide ((i : Int) ≤ 12) = false := decide_eq_false (by omega)
    simp only [spec_l2List.l0, e1, ite_self, spec_l2List.j1, Bool.false_eq_true, if_false]
    congr 1
    rw [decide_eq_false_iff_not]
    omega
  | succ d ih =>
    intro k i hi hk
    obtain ⟨k, rfl⟩ : ∃ m, k = m + 2 := ⟨k - 2, by omega⟩
    have hlt : i < cs.length := by omega
    have e1 : decide ((i : Int) ≤ 12) = true := decide_eq_true (by omega)
    simp only [spec_l2List.l0]
    rw [if_pos (by omega), e1]
    simp only [spec_l2List.j1, if_true]
    rw [if_pos (by omega), if_pos (by omega), rdC61_nat, spec_good _ _ _ _ _ k (by omega)]
    simp only [Option.bind_some]
    split
    · rw [Find_ends _ _ (by omega) k (by omega)]
      simp only [Option.bind_some]
      split
      · rw [wnext hlt (by omega), ih k (i + 1) (by omega) (by omega)]
      · rfl
    · rfl
theorem spec_valid (cs : List S27) (hx : cs.length ≤ 1048576) (k : Nat) (hk : 1048700 ≤ k) : spec_l2List.f k cs = some (validC cs) := by
  unfold spec_l2List.f validC
  by_cases h : cs.length ≤ 12
  · have := spec_list_loop cs h cs.length k 0 (by omega) (by omega)
    rw [show ((0 : Nat) : Int) = 0 from rfl] at this
    rw [this, decide_eq_true h, Bool.true_and]
  · have := spec_list_long cs hx (by omega) 13 k 0 (by omega) (by omega)
    rw [show ((0 : Nat) : Int) = 0 from rfl] at this
    rw [this, decide_eq_false h, Bool.false_and]
end Go.Proofs.YtfindomajbjacaaDoor.X
/- Reading a manifest's text: the reference and the program come to the same; what is read is valid, and its texts are the lines. -/
namespace Go.Proofs.YtfindomajbjacaaDoor.X
open Go.RowKit Go.Proofs.YtfindomajbjacaaDoorW.PrintWords Go.Proofs.YtfindomajbjacaaDoorW.PrintLast
set_option linter.unusedVariables false
set_option linter.unusedSimpArgs false
theorem man_loop (ls : List ByteArray) (z : ByteArray) (hl : ls.length ≤ 100000) (hs : ∀ x ∈ ls, x.size ≤ 1048576) (d : Nat) : ∀ (k i : Nat) (acc : List S27), i + d = ls.length → 1048800 + d ≤ k → acc.length ≤ i →
    ∃ r : List S27 × Bool, spec_ParseManifest.l0 k acc (ls ++ [z]) (i : Int) = some r ∧ impl_ParseManifest.l0 k acc ls (ls.length : Int) (i : Int) = some r ∧ r.1.length ≤ 100000 ∧ (r.2 = true → validC r.1 = true ∧ ∃ m, r.1 = acc ++ m ∧ m.map contC = ls.drop i) := by
  have n2 : wrap64 (((ls ++ [z]).length : Int) - 1) = (ls.length : Int) := by
    rw [List.length_append, List.length_singleton, w64 (by omega) (by omega)]; omega
  induction d with
  | zero =>
    intro k i acc hi hk ha
    obtain ⟨k, rfl⟩ := kpos (d := 0) (k := k) (by omega)
    have e1 := spec_valid acc (by omega) k (by omega)
    have e2 := impl_valid acc (by omega) k (by omega)
    have n1 : ¬ ((i : Int) < (ls.length : Int)) := by omega
    simp only [spec_ParseManifest.l0, impl_ParseManifest.l0]
    rw [n2, if_neg n1, if_neg n1, e1, e2, Option.bind_some]
    by_cases hv : validC acc = true
    · rw [if_pos hv]
      exact ⟨(acc, true), rfl, rfl, by show acc.length ≤ _; omega, fun _ => ⟨hv, [], by simp, by rw [List.drop_of_length_le (by omega)]; rfl⟩⟩
    · rw [if_neg hv]
      exact ⟨([], false), rfl, rfl, by simp, fun h => by cases h⟩
  | succ d ih =>
    intro k i acc hi hk ha
    obtain ⟨k, rfl⟩ := kpos (d := 0) (k := k) (by omega)
    have hlt : i < ls.length := by omega
    have p1 : (i : Int) < (ls.length : Int) := by omega
    have p2 : (0 : Int) ≤ (i : Int) := by omega
    have p3 : (i : Int) < ((ls ++ [z]).length : Int) := by rw [List.length_append, List.length_singleton]; omega
    have p4 : acc.length < 2932031007402 := by omega
    have g1 : rdOf ByteArray.empty (ls ++ [z]) (i : Int) = rdOf ByteArray.empty ls (i : Int) := by
      unfold rdOf
      rw [Int.toNat_natCast, List.getD_eq_getElem?_getD, List.getD_eq_getElem?_getD, List.getElem?_append_left hlt]
    have hm : rdOf ByteArray.empty ls (i : Int) ∈ ls := by
      unfold rdOf
      rw [Int.toNat_natCast]
      exact getD_mem hlt
    have hw : wrap64 ((i : Int) + 1) = ((i + 1 : Nat) : Int) := wnext hlt (by omega)
    simp only [spec_ParseManifest.l0, impl_ParseManifest.l0, n2, if_pos p1, if_pos p2, if_pos p3, if_pos p4, g1, hw]
    rcases parse_both _ (hs _ hm) k (by omega) with ⟨q1, q2⟩ | ⟨x, q1, q2, q3, q4⟩
    · rw [q1, q2]
      simp only [noC, Option.bind_some, Bool.false_eq_true, if_false]
      exact ⟨([], false), rfl, rfl, by simp, fun h => by cases h⟩
    · obtain ⟨r, r1, r2, r3, r4⟩ := ih k (i + 1) (acc ++ [x]) (by omega) (by omega) (by simp; omega)
      rw [q1, q2]
      simp only [yesC, Option.bind_some, if_true]
      refine ⟨r, r1, r2, r3, fun h => ?_⟩
      obtain ⟨v, m, m1, m2⟩ := r4 h
      refine ⟨v, x :: m, by rw [m1]; simp, ?_⟩
      rw [List.map_cons, m2, q4, getD_cons (z := ByteArray.empty) hlt]
      rfl
theorem lines_is (s : ByteArray) (ls : List ByteArray) (z : ByteArray) (e2 : strings_Split.f s ⟨#[10]⟩ = some (ls ++ [z])) (e3 : (ls ++ [z]).map bs = splitL 10 (bs s)) (hl : ls.length ≤ 1048577) :
    impl_linesOf.f s = some (ls, z.toList == ([] : List UInt8)) := by
  unfold impl_linesOf.f
  by_cases h0 : s.toList = ([] : List UInt8)
  · have hb : bs s = [] := by rw [← h0, ByteArray.toList_eq]; rfl
    rw [hb] at e3
    have e4 : (ls ++ [z]).map bs = [[]] := e3
    have hlen := congrArg List.length e4
    simp at hlen
    subst hlen
    simp only [List.nil_append, List.map_cons, List.map_nil, List.cons.injEq, and_true] at e4
    rw [if_pos h0]
    have hz : z.toList = [] := by rw [ByteArray.toList_eq]; exact e4
    rw [hz]
    rfl
  · have c1 : 0 < (ls ++ [z]).length ∧ (ls ++ [z]).length ≤ 2000000 := by rw [List.length_append, List.length_singleton]; omega
    rw [if_neg h0, e2, Option.bind_some, if_pos c1]
    have c2 : (ls ++ [z]).length - 1 = ls.length := by rw [List.length_append, List.length_singleton]; omega
    rw [c2, List.take_left]
    have c3 : rdOf ByteArray.empty (ls ++ [z]) ((ls.length : Nat) : Int) = z := by
      unfold rdOf
      rw [Int.toNat_natCast, List.getD_eq_getElem?_getD, List.getElem?_append_right (Nat.le_refl _), Nat.sub_self]
      rfl
    rw [c3]
theorem man_both (s : ByteArray) (hs : s.size ≤ 1048576) (k : Nat) (hk : 1200000 ≤ k) :
    ∃ r : List S27 × Bool, spec_ParseManifest.f k s = some r ∧ impl_ParseManifest.f k s = some r ∧ r.1.length ≤ 100000 ∧
      (r.2 = true → validC r.1 = true ∧ (r.1.map contC ++ [(⟨#[]⟩ : ByteArray)]).map bs = splitL 10 (bs s)) := by
  obtain ⟨ys, e1, e2, e3, e4⟩ := split_same s 10 hs k (by omega)
  obtain ⟨h, t, e⟩ := splitL_some 10 (bs s)
  have hne : ys ≠ [] := by
    rintro rfl
    rw [e] at e3
    cases e3
  obtain ⟨ls, z, rfl⟩ : ∃ ls z, ys = ls ++ [z] := ⟨ys.dropLast, ys.getLast hne, (List.dropLast_concat_getLast hne).symm⟩
  have hlen : (ls ++ [z]).length = ls.length + 1 := by rw [List.length_append, List.length_singleton]
  have hlin := lines_is s ls z e2 e3 (by omega)
  obtain ⟨k, rfl⟩ := kpos (d := 0) (k := k) (by omega)
  unfold spec_ParseManifest.f impl_ParseManifest.f
  rw [Option.bind_some, show (10 : Int) = ((10 : UInt8).toNat : Int) from rfl, e1, hlin, Option.bind_some, Option.bind_some]
  by_cases h4 : (s.size : Int) > 4000
  · rw [if_pos h4]
    refine ⟨([], false), ?_, ?_, by simp, fun h => by cases h⟩
    · simp only [spec_ParseManifest.j0, if_true]
    · dsimp only
      rw [decide_eq_true h4]
      split <;> simp only [impl_ParseManifest.j0, if_true]
  rw [if_neg h4]
  have n2 : wrap64 (((ls ++ [z]).length : Int) - 1) = (ls.length : Int) := by
    rw [hlen, w64 (by omega) (by omega)]; omega
  have c3 : rdOf ByteArray.empty (ls ++ [z]) (ls.length : Int) = z := by
    unfold rdOf
    rw [Int.toNat_natCast, List.getD_eq_getElem?_getD, List.getElem?_append_right (Nat.le_refl _), Nat.sub_self]
    rfl
  have p1 : (0 : Int) ≤ (ls.length : Int) := by omega
  have p2 : (ls.length : Int) < ((ls ++ [z]).length : Int) := by rw [hlen]; omega
  rw [n2, if_pos p1, if_pos p2, c3]
  dsimp only
  by_cases hz : z.toList = ([] : List UInt8)
  · have z1 : (z.toList != ([] : List UInt8)) = false := bne_eq_false_iff_eq.2 hz
    have z2 : (z.toList == ([] : List UInt8)) = true := beq_iff_eq.2 hz
    rw [z1, z2, if_pos rfl, decide_eq_false h4]
    simp only [spec_ParseManifest.j0, impl_ParseManifest.j0, Bool.false_eq_true, if_false]
    have hsz : ∀ x ∈ ls, x.size ≤ 1048576 := by
      intro x hx
      have hm2 : bs x ∈ splitL 10 (bs s) := by rw [← e3]; exact List.mem_map_of_mem (List.mem_append_left _ hx)
      have := piece_len 10 (bs s) _ hm2
      rw [bs_length, bs_length] at this
      omega
    obtain ⟨r, r1, r2, r3, r4⟩ := man_loop ls z (by omega) hsz ls.length k 0 [] (by omega) (by omega) (by simp)
    refine ⟨r, r1, r2, r3, fun h => ?_⟩
    obtain ⟨v, m, m1, m2⟩ := r4 h
    refine ⟨v, ?_⟩
    rw [m1, List.nil_append, m2, List.drop_zero]
    have hzz : z = (⟨#[]⟩ : ByteArray) := bs_inj ((toList_bs _ _).1 (hz.trans (by rw [ByteArray.toList_eq])))
    rw [← hzz]
    exact e3
  · have z1 : (z.toList != ([] : List UInt8)) = true := bne_iff_ne.2 hz
    have z2 : (z.toList == ([] : List UInt8)) = false := beq_eq_false_iff_ne.2 hz
    rw [z1, z2, if_neg (by decide)]
    refine ⟨([], false), ?_, ?_, by simp, fun h => by cases h⟩
    · simp only [spec_ParseManifest.j0, if_true]
    · simp only [impl_ParseManifest.j0, if_true]
end Go.Proofs.YtfindomajbjacaaDoor.X
/- What the laws' marks on lists of containers and of strings come to: what was marked reads back. The marks' texts are a function that is not looked into. -/
namespace Go.Proofs.YtfindomajbjacaaDoor.X
open Go.RowKit Go.Proofs.YtfindomajbjacaaDoorW.PrintWords Go.Proofs.YtfindomajbjacaaDoorW.PrintLast
set_option linter.unusedVariables false
set_option linter.unusedSimpArgs false

/-- The text of a mark is what t says, for small marks and enough rounds. -/
def Marks (t : Int → ByteArray) : Prop := ∀ x k, 0 ≤ x → x ≤ 1000000000000 → 20 ≤ k → laws_markText.f k x = some (t x)
theorem strOfNums_one (x : Int) : (strOfNums [x]).size = 1 := rfl
theorem markText_loop (d : Nat) : ∀ (k : Nat) (x : Int) (s : ByteArray), 0 ≤ x → x ≤ 1000000000000000 → x < 10 ^ d → d < k → s.size + d ≤ 100 → ∃ t, laws_markText.l0 k x s = some t := by
  induction d with
  | zero =>
    intro k x s h0 hm h1 hk hs
    obtain ⟨k, rfl⟩ := kpos hk
    simp only [laws_markText.l0]
    have : ¬ x > 0 := by simp at h1; omega
    rw [if_neg this, if_pos (by omega)]
    exact ⟨_, rfl⟩
  | succ d ih =>
    intro k x s h0 hm h1 hk hs
    obtain ⟨k, rfl⟩ := kpos hk
    simp only [laws_markText.l0, Option.bind_some]
    by_cases h : x > 0
    · rw [if_pos h, strOfNums_one, if_pos (by omega)]
      have e : Int.tdiv x 10 = x / 10 := Int.tdiv_eq_ediv_of_nonneg h0
      have hx2 : x < 10 ^ d * 10 := by rw [← Int.pow_succ]; exact h1
      rw [e]
      rw [w64 (x := x / 10) (by omega) (by omega)]
      exact ih k _ _ (by omega) (by omega) (by omega) (by omega) (by rw [ByteArray.size_append, strOfNums_one]; omega)
    · rw [if_neg h, if_pos (by omega)]
      exact ⟨_, rfl⟩
theorem markText_some (x : Int) (h0 : 0 ≤ x) (hx : x ≤ 1000000000000) : ∃ t, laws_markText.f 20 x = some t := by
  unfold laws_markText.f
  split
  · exact ⟨_, rfl⟩
  · exact markText_loop 13 20 x _ h0 (by omega) (by omega) (by omega) (by decide)
theorem markText_up (x : Int) (t : ByteArray) (h : laws_markText.f 20 x = some t) (j : Nat) : laws_markText.f (20 + j) x = some t := by
  induction j with
  | zero => exact h
  | succ j ih => exact laws_markText.mono _ _ _ ih
theorem marks : ∃ t, Marks t := by
  refine ⟨fun x => (laws_markText.f 20 x).getD ⟨#[]⟩, ?_⟩
  intro x k h0 hx hk
  obtain ⟨t, ht⟩ := markText_some x h0 hx
  obtain ⟨j, rfl⟩ : ∃ j, k = 20 + j := ⟨k - 20, by omega⟩
  rw [markText_up x t ht j]
  show _ = some ((laws_markText.f 20 x).getD ⟨#[]⟩)
  rw [ht]
  rfl

/-! ### containers -/
def mkC (t : Int → ByteArray) (a : Int) : S27 := ⟨t a, a + 1, a + 2, a + 3, a + 4⟩
def marksC (t : Int → ByteArray) (a : Int) : Nat → List S27
  | 0 => []
  | n + 1 => mkC t a :: marksC t (a + 5) n
theorem marksC_length (t : Int → ByteArray) (n : Nat) : ∀ a, (marksC t a n).length = n := by
  induction n with
  | zero => intro a; rfl
  | succ n ih => intro a; simp [marksC, ih]
theorem marksC_get (t : Int → ByteArray) (n : Nat) : ∀ (a : Int) (i : Nat), i < n → (marksC t a n).getD i z27 = mkC t (a + 5 * i) := by
  induction n with
  | zero => intro a i h; omega
  | succ n ih =>
    intro a i h
    cases i with
    | zero => simp [marksC]
    | succ i =>
      simp only [marksC, List.getD_cons_succ]
      rw [ih (a + 5) i (by omega)]
      congr 1
      omega
theorem marksC_snoc (t : Int → ByteArray) (n : Nat) : ∀ a, marksC t a (n + 1) = marksC t a n ++ [mkC t (a + 5 * n)] := by
  induction n with
  | zero => intro a; simp [marksC]
  | succ n ih =>
    intro a
    rw [marksC, ih (a + 5), marksC]
    simp only [List.cons_append, List.cons.injEq, true_and, List.append_cancel_left_eq, and_true]
    congr 1
    omega
theorem rd_set27 (l : List S27) (i : Nat) (v : S27) (h : i < l.length) : rd_T27 (l.set i v) (i : Int) = v := by
  rw [rdC61_nat, List.getD_eq_getElem?_getD, List.getElem?_set_self h]
  rfl
theorem five (a : Int) (n len : Nat) (ha : 0 ≤ a) (hn : n < len) (hx : a + 5 * (len : Int) ≤ 100000000) : 0 ≤ a + 5 * (n : Int) ∧ a + 5 * (n : Int) ≤ 1000000000000 ∧ wrap64 (a + 5 * (n : Int) + 1) = a + 5 * n + 1 ∧ wrap64 (a + 5 * (n : Int) + 1 + 1) = a + 5 * n + 2 ∧ wrap64 (a + 5 * (n : Int) + 2 + 1) = a + 5 * n + 3 ∧ wrap64 (a + 5 * (n : Int) + 3 + 1) = a + 5 * n + 4 ∧ wrap64 (a + 5 * (n : Int) + 4 + 1) = a + 5 * ((n + 1 : Nat) : Int) ∧ wrap64 ((n : Int) + 1) = ((n + 1 : Nat) : Int) := by
  refine ⟨by omega, by omega, w64 (by omega) (by omega), ?_, ?_, ?_, ?_, ?_⟩ <;> (rw [w64 (by omega) (by omega)]; omega)
theorem markContainerS_loop (t : Int → ByteArray) (ht : Marks t) (len : Nat) (a : Int) (ha : 0 ≤ a) (hx : a + 5 * len ≤ 100000000) (d : Nat) : ∀ (k n : Nat) (ys : List S27), n + d = len → d + 30 < k → ys.length = len → ys.take n = marksC t a n →
    laws_markContainerS.l0 k ys (a + 5 * n) (n : Int) = some (a + 5 * len, marksC t a len) := by
  induction d with
  | zero =>
    intro k n ys hn hk hl hy
    obtain ⟨k, rfl⟩ := kpos (d := 0) (k := k) (by omega)
    simp only [laws_markContainerS.l0]
    rw [if_neg (by omega), ← show n = len by omega, ← hy, List.take_of_length_le (by omega)]
  | succ d ih =>
    intro k n ys hn hk hl hy
    obtain ⟨k, rfl⟩ := kpos (d := 0) (k := k) (by omega)
    have hlt : n < ys.length := by omega
    have c1 : (n : Int) < (ys.length : Int) := by omega
    have c2 : 0 ≤ (n : Int) := by omega
    have b2 : 20 ≤ k := by omega
    have hnext : ∀ ys' : List S27, ys'.length = len → ys'.take (n + 1) = marksC t a (n + 1) → laws_markContainerS.l0 k ys' (a + 5 * ((n + 1 : Nat) : Int)) ((n + 1 : Nat) : Int) = some (a + 5 * len, marksC t a len) := fun ys' h1 h2 => ih k (n + 1) ys' (by omega) (by omega) h1 h2
    obtain ⟨b0, b1, e1, e2, e3, e4, e5, e6⟩ := five a n len ha (by omega) hx
    have hm := ht (a + 5 * (n : Int)) k b0 b1 b2
    clear ih ht hk b0 b1 b2 ha hx hn
    simp only [laws_markContainerS.l0, Int.toNat_natCast]
    rw [if_pos c1, hm]
    simp only [Option.bind_some]
    rw [if_pos c2]
    simp only [rd_set27 _ _ _ hlt, List.set_set]
    simp only [e1, e2, e3, e4, e5, e6]
    refine hnext _ (by rw [List.length_set]; exact hl) ?_
    rw [set_take _ hlt, hy, marksC_snoc]
    rfl
theorem markContainerS_ends (t : Int → ByteArray) (ht : Marks t) (cs : List S27) (a : Int) (ha : 0 ≤ a) (hx : a + 5 * cs.length ≤ 100000000) (k : Nat) (hk : cs.length + 30 < k) : laws_markContainerS.f k cs a = some (a + 5 * cs.length, marksC t a cs.length) := by
  unfold laws_markContainerS.f
  have := markContainerS_loop t ht cs.length a ha hx cs.length k 0 cs (by omega) (by omega) rfl rfl
  rw [show ((0 : Nat) : Int) = 0 from rfl, show a + 5 * (0 : Int) = a by omega] at this
  exact this
theorem heldContainerS_loop (t : Int → ByteArray) (ht : Marks t) (len : Nat) (a : Int) (ha : 0 ≤ a) (hx : a + 5 * len ≤ 100000000) (d : Nat) : ∀ (k n : Nat), n + d = len → d + 30 < k →
    laws_heldContainerS.l0 k (marksC t a len) (a + 5 * n) (n : Int) = some (a + 5 * len) := by
  induction d with
  | zero =>
    intro k n hn hk
    obtain ⟨k, rfl⟩ := kpos (d := 0) (k := k) (by omega)
    simp only [laws_heldContainerS.l0]
    rw [marksC_length, if_neg (by omega), show n = len by omega]
  | succ d ih =>
    intro k n hn hk
    obtain ⟨k, rfl⟩ := kpos (d := 0) (k := k) (by omega)
    have hlt : n < len := by omega
    have c1 : (n : Int) < (len : Int) := by omega
    have c2 : 0 ≤ (n : Int) := by omega
    have b2 : 20 ≤ k := by omega
    have hnext := ih k (n + 1) (by omega) (by omega)
    obtain ⟨b0, b1, e1, e2, e3, e4, e5, e6⟩ := five a n len ha (by omega) hx
    have hm := ht (a + 5 * (n : Int)) k b0 b1 b2
    clear ih ht hk b0 b1 b2 ha hx hn
    simp only [laws_heldContainerS.l0, e1, e2, e3, e4, e5, e6]
    rw [marksC_length, if_pos c1, if_pos c2, hm]
    simp only [Option.bind_some, rdC61_nat, marksC_get t len a n hlt, mkC, if_true]
    exact hnext
theorem heldContainerS_ends (t : Int → ByteArray) (ht : Marks t) (len : Nat) (a : Int) (ha : 0 ≤ a) (hx : a + 5 * len ≤ 100000000) (k : Nat) (hk : len + 30 < k) : laws_heldContainerS.f k (marksC t a len) a = some (a + 5 * len) := by
  unfold laws_heldContainerS.f
  have := heldContainerS_loop t ht len a ha hx len k 0 (by omega) (by omega)
  rw [show ((0 : Nat) : Int) = 0 from rfl, show a + 5 * (0 : Int) = a by omega] at this
  exact this
end Go.Proofs.YtfindomajbjacaaDoor.X
namespace Go.Proofs.YtfindomajbjacaaDoor.Pure
open Go.RowKit Go.Proofs.YtfindomajbjacaaDoor.X Go.Proofs.YtfindomajbjacaaDoorW.PrintWords Go.Proofs.YtfindomajbjacaaDoorW.PrintLast
set_option linter.unusedVariables false
set_option linter.unusedSimpArgs false
theorem FnExactParseManifest : laws_FnExactParseManifest.Pure := by
  intro s _
  by_cases h : (s.size : Int) > 1048576
  · refine ⟨0, ?_⟩
    unfold laws_FnExactParseManifest.f
    rw [if_pos h]
  · obtain ⟨t, ht⟩ := marks
    obtain ⟨r, e1, e2, e3, _⟩ := man_both s (by omega) 1200000 (by omega)
    have f1 := spec_ParseManifest.mono s 1200000 r e1
    have f2 := impl_ParseManifest.mono s 1200000 r e2
    have g1 := spec_ParseManifest.mono s 1200001 r f1
    have g2 := impl_ParseManifest.mono s 1200001 r f2
    refine ⟨1200002, ?_⟩
    unfold laws_FnExactParseManifest.f
    rw [if_neg h, g1, Option.bind_some, g2, Option.bind_some, eqContainerS_refl r.1 (by omega) _ (by omega), Option.bind_some, if_pos rfl, bne_self_eq_false]
    have s1 : ¬ ((1 : Int) + 5 * r.1.length < 0) := by omega
    have m1 := markContainerS_ends t ht r.1 1 (by omega) (by omega) 1200001 (by omega)
    have h1 := heldContainerS_ends t ht r.1.length 1 (by omega) (by omega) 1200001 (by omega)
    have h2 := heldContainerS_ends t ht r.1.length 1 (by omega) (by omega) 1200000 (by omega)
    have q1 := eqContainerS_refl r.1 (by omega) 1200001 (by omega)
    rw [show (1200002 : Nat) = 1200001 + 1 from rfl]
    simp only [laws_FnExactParseManifest.j0, Bool.false_eq_true, if_false]
    rw [m1, Option.bind_some]
    dsimp only
    rw [h1, Option.bind_some, if_neg s1, if_pos rfl, f2, Option.bind_some, q1, Option.bind_some, if_pos rfl, bne_self_eq_false]
    rw [show (1200001 : Nat) = 1200000 + 1 from rfl]
    simp only [laws_FnExactParseManifest.j1, Bool.false_eq_true, if_false]
    rw [h2, Option.bind_some, if_neg s1, if_pos rfl]
end Go.Proofs.YtfindomajbjacaaDoor.Pure
