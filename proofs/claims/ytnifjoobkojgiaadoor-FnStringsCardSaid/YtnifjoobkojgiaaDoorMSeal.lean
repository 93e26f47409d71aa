/- What the printed sums over a text's bytes come to, and the text with its sum behind it. -/
import Derived.Test.YtnifjoobkojgiaaDoorMNum
import Derived.Test.YtnifjoobkojgiaaDoorGContains
import Derived.Test.YtnifjoobkojgiaaDoorMStand
import Derived.Test.YtnifjoobkojgiaaDoorFspecl1Sum
import Derived.Test.YtnifjoobkojgiaaDoorFspecl1Seal
import Derived.Test.YtnifjoobkojgiaaDoorFimplChecksum
import Derived.Test.YtnifjoobkojgiaaDoorFspecAppendChecksum
import Derived.Test.YtnifjoobkojgiaaDoorFimplAppendChecksum
namespace Go.Proofs.YtnifjoobkojgiaaDoor.X
open Go.RowKit Go.Proofs.YtnifjoobkojgiaaDoorW.PrintWords Go.Proofs.YtnifjoobkojgiaaDoorW.PrintLast
set_option linter.unusedVariables false
set_option linter.unusedSimpArgs false
def sumL : List UInt8 → Int → Int
  | [], h => h
  | b :: r, h => sumL r ((41 * h + (b.toNat : Int) + 1) % 999979)
theorem sumL_range : ∀ (l : List UInt8) (h : Int), 0 ≤ h → h ≤ 999978 → 0 ≤ sumL l h ∧ sumL l h ≤ 999978
  | [], h, h0, h1 => ⟨h0, h1⟩
  | b :: r, h, h0, h1 => sumL_range r _ (Int.emod_nonneg _ (by omega)) (by have := Int.emod_lt_of_pos (41 * h + (b.toNat : Int) + 1) (show (0 : Int) < 999979 by omega); omega)
theorem sum_step (h b : Int) (h0 : 0 ≤ h) (h1 : h ≤ 999978) (b0 : 0 ≤ b) (b1 : b ≤ 255) : Int.tmod (wrap64 ((wrap64 ((wrap64 (41 * h)) + (wrap64 b))) + 1)) 999979 = (41 * h + b + 1) % 999979 := by
  have w1 : wrap64 (41 * h) = 41 * h := w64 (by omega) (by omega)
  have w2 : wrap64 b = b := w64 (by omega) (by omega)
  have w3 : wrap64 (41 * h + b) = 41 * h + b := w64 (by omega) (by omega)
  have w4 : wrap64 (41 * h + b + 1) = 41 * h + b + 1 := w64 (by omega) (by omega)
  have p : 0 ≤ 41 * h + b + 1 := by clear w1 w2 w3 w4; omega
  rw [w1, w2, w3, w4, Int.tmod_eq_emod_of_nonneg p]
theorem l1Sum_loop (s : ByteArray) (hx : s.size ≤ 1048576) (d : Nat) : ∀ (k i : Nat) (h : Int), i + d = s.size → d < k → 0 ≤ h → h ≤ 999978 → spec_l1Sum.l0 k s h (i : Int) = some (sumL ((bs s).drop i) h) := by
  induction d with
  | zero =>
    intro k i h hi hk h0 h1
    obtain ⟨k, rfl⟩ := kpos hk
    unfold spec_l1Sum.l0
    rw [if_neg (by omega), List.drop_of_length_le (by rw [bs_length]; omega)]
    rfl
  | succ d ih =>
    intro k i h hi hk h0 h1
    obtain ⟨k, rfl⟩ := kpos hk
    have hlt : i < s.size := by omega
    have hlb : i < (bs s).length := by rw [bs_length]; exact hlt
    have hb := UInt8.toNat_lt ((bs s).getD i 0)
    have hm0 := Int.emod_nonneg (41 * h + (((bs s).getD i 0).toNat : Int) + 1) (show (999979 : Int) ≠ 0 by omega)
    have hm1 := Int.emod_lt_of_pos (41 * h + (((bs s).getD i 0).toNat : Int) + 1) (show (0 : Int) < 999979 by omega)
    have hr := ih k (i + 1) ((41 * h + (((bs s).getD i 0).toNat : Int) + 1) % 999979) (by omega) (by omega) hm0 (by omega)
    unfold spec_l1Sum.l0
    rw [if_pos (by omega), if_pos (by omega), bt_list s i hlt, sum_step _ _ h0 h1 (by omega) (by omega), wnext hlt (by omega), hr, getD_cons (z := (0 : UInt8)) hlb]
    rfl
theorem l1Sum_ends (s : ByteArray) (hx : s.size ≤ 1048576) (k : Nat) (hk : 1048577 ≤ k) : spec_l1Sum.f k s = some (sumL (bs s) 7) := by
  unfold spec_l1Sum.f
  have := l1Sum_loop s hx s.size k 0 7 (by omega) (by omega) (by omega) (by omega)
  rw [show ((0 : Nat) : Int) = 0 from rfl, List.drop_zero] at this
  exact this
theorem Checksum_loop (s : ByteArray) (hx : s.size ≤ 1048576) (d : Nat) : ∀ (k i : Nat) (h : Int), i + d = s.size → d < k → 0 ≤ h → h ≤ 999978 → impl_Checksum.l0 k s h (s.size : Int) (i : Int) = some (sumL ((bs s).drop i) h, true) := by
  induction d with
  | zero =>
    intro k i h hi hk h0 h1
    obtain ⟨k, rfl⟩ := kpos hk
    unfold impl_Checksum.l0
    rw [if_neg (by omega), List.drop_of_length_le (by rw [bs_length]; omega)]
    rfl
  | succ d ih =>
    intro k i h hi hk h0 h1
    obtain ⟨k, rfl⟩ := kpos hk
    have hlt : i < s.size := by omega
    have hlb : i < (bs s).length := by rw [bs_length]; exact hlt
    have hb := UInt8.toNat_lt ((bs s).getD i 0)
    have hm0 := Int.emod_nonneg (41 * h + (((bs s).getD i 0).toNat : Int) + 1) (show (999979 : Int) ≠ 0 by omega)
    have hm1 := Int.emod_lt_of_pos (41 * h + (((bs s).getD i 0).toNat : Int) + 1) (show (0 : Int) < 999979 by omega)
    have hr := ih k (i + 1) ((41 * h + (((bs s).getD i 0).toNat : Int) + 1) % 999979) (by omega) (by omega) hm0 (by omega)
    unfold impl_Checksum.l0
    rw [if_pos (by omega), if_pos (by omega), if_pos (by omega), bt_list s i hlt, sum_step _ _ h0 h1 (by omega) (by omega), wnext hlt (by omega), hr, getD_cons (z := (0 : UInt8)) hlb]
    rfl
theorem Checksum_ends (s : ByteArray) (hx : s.size ≤ 1048576) (k : Nat) (hk : 1048577 ≤ k) : impl_Checksum.f k s = some (if (s.size : Int) > 4000 then (0, false) else (sumL (bs s) 7, true)) := by
  unfold impl_Checksum.f
  by_cases h : (s.size : Int) > 4000
  · rw [if_pos h, if_pos h]
  · rw [if_neg h, if_neg h]
    have := Checksum_loop s hx s.size k 0 7 (by omega) (by omega) (by omega) (by omega)
    rw [show ((0 : Nat) : Int) = 0 from rfl, List.drop_zero] at this
    exact this
/-- The text with its sum behind it. -/
def sealB (s : ByteArray) : ByteArray := (s ++ (⟨#[35]⟩ : ByteArray)) ++ tx (Lib.itoa (sumL (bs s) 7))
theorem cross_size (s : ByteArray) : (s ++ (⟨#[35]⟩ : ByteArray)).size = s.size + 1 := by rw [ByteArray.size_append]; rfl
theorem l1Seal_ends (s : ByteArray) (hx : s.size ≤ 1048576) (k : Nat) (hk : 1048577 ≤ k) : spec_l1Seal.f k s = some (sealB s) := by
  obtain ⟨r0, r1⟩ := sumL_range (bs s) 7 (by omega) (by omega)
  have hl := itoa_length (sumL (bs s) 7) (by omega) (by omega)
  unfold spec_l1Seal.f
  rw [if_pos (by omega), l1Sum_ends s hx k hk, Option.bind_some, l1Num_ends _ (by omega) (by omega) _ (by omega), Option.bind_some, if_pos (by rw [cross_size, tx_size]; omega)]
  rfl
/-- The answer: the text with its sum behind it, if it is short and has no such sign. -/
def sealR (s : ByteArray) : ByteArray × Bool := if (s.size : Int) > 4000 then (⟨#[]⟩, false) else if (bs s).any (fun b => b == 35) = true then (⟨#[]⟩, false) else if ((sealB s).size : Int) > 4000 then (⟨#[]⟩, false) else (sealB s, true)
theorem spec_Append (s : ByteArray) (hx : s.size ≤ 1048576) (k : Nat) (hk : 1048577 ≤ k) : spec_AppendChecksum.f k s = some (sealR s) := by
  unfold spec_AppendChecksum.f sealR
  by_cases h : (s.size : Int) > 4000
  · rw [if_pos h, if_pos h]
  rw [if_neg h, if_neg h]
  have hs := l1Stands_ends s 35 hx k hk
  rw [show ((35 : UInt8).toNat : Int) = 35 from rfl] at hs
  rw [hs, Option.bind_some]
  by_cases h2 : (bs s).any (fun b => b == 35) = true
  · rw [if_pos h2, if_pos h2]
  rw [if_neg h2, if_neg h2, l1Seal_ends s hx k hk, Option.bind_some]
  by_cases h3 : ((sealB s).size : Int) > 4000
  · rw [if_pos h3, if_pos h3]
  · rw [if_neg h3, if_neg h3, Option.bind_some]
theorem impl_Append (s : ByteArray) (hx : s.size ≤ 1048576) (k : Nat) (hk : 1048577 ≤ k) : impl_AppendChecksum.f k s = some (sealR s) := by
  unfold impl_AppendChecksum.f sealR
  rw [Checksum_ends s hx k hk, Option.bind_some]
  by_cases h : (s.size : Int) > 4000
  · rw [if_pos h, if_pos h]
    have hl := itoa_length 0 (by omega) (by omega)
    rw [if_pos (by omega), decimal_ends 0 (by omega) (by omega), Option.bind_some, if_pos (by rw [cross_size, tx_size]; omega)]
    rfl
  rw [if_neg h, if_neg h]
  obtain ⟨r0, r1⟩ := sumL_range (bs s) 7 (by omega) (by omega)
  have hl := itoa_length (sumL (bs s) 7) (by omega) (by omega)
  dsimp only
  rw [if_pos (by omega), decimal_ends _ (by omega) (by omega), Option.bind_some, if_pos (by rw [cross_size, tx_size]; omega), if_pos rfl]
  rw [show strings_Contains.f s (⟨#[35]⟩ : ByteArray) = some ((bs s).any (fun b => b == 35)) from rfl, Option.bind_some]
  by_cases h2 : (bs s).any (fun b => b == 35) = true
  · rw [if_pos h2, if_pos h2]
  rw [if_neg h2, if_neg h2]
  show (if ((sealB s).size : Int) > 4000 then _ else some (sealB s, true)) = _
  by_cases h3 : ((sealB s).size : Int) > 4000
  · rw [if_pos h3, if_pos h3]
  · rw [if_neg h3, if_neg h3]
end Go.Proofs.YtnifjoobkojgiaaDoor.X
