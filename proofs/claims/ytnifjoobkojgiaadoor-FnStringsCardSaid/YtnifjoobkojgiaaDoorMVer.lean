/- What VerifyChecksum answers: a text with its sum behind it gives the text; with one byte changed it gives none. Numbers' texts are read back. -/
import Derived.Test.YtnifjoobkojgiaaDoorMSplit
import Derived.Test.YtnifjoobkojgiaaDoorMParse
import Derived.Test.YtnifjoobkojgiaaDoorMByte
import Derived.Test.YtnifjoobkojgiaaDoorFspecFormatInt
import Derived.Test.YtnifjoobkojgiaaDoorFimplFormatInt
import Derived.Test.YtnifjoobkojgiaaDoorFspecParseInt
import Derived.Test.YtnifjoobkojgiaaDoorFimplVerifyChecksum
import Derived.Test.YtnifjoobkojgiaaDoorFspecVerifyChecksum
import Derived.Lib.LazyBuf
import Derived.Laws.BitsAllLaws
import Derived.Laws.Bits64
namespace Go.Proofs.YtnifjoobkojgiaaDoor.X
open Go.RowKit Go.Proofs.YtnifjoobkojgiaaDoorW.PrintWords Go.Proofs.YtnifjoobkojgiaaDoorW.PrintLast
set_option linter.unusedVariables false
set_option linter.unusedSimpArgs false
/-- What stands ahead of the first sign. -/
def ahead (s : ByteArray) : ByteArray := (cutR s 35).1
theorem ahead_size (s : ByteArray) : (ahead s).size ≤ s.size := by
  unfold ahead cutR
  split
  · show (s.extract 0 _).size ≤ _
    rw [ByteArray.size_extract]; omega
  · exact Nat.le_refl _
theorem ahead_first (s : ByteArray) : ∃ t, splitL 35 (bs s) = bs (ahead s) :: t := by
  have hge := Lib.indexByte_ge (bs s) 35
  unfold ahead cutR
  by_cases h : 0 ≤ Lib.indexByte s.data.toList 35
  · obtain ⟨j, hj⟩ : ∃ j : Nat, Lib.indexByte (bs s) 35 = j := ⟨(Lib.indexByte s.data.toList 35).toNat, by unfold bs; omega⟩
    rw [if_pos h, splitL_hit 35 (bs s) j hj]
    refine ⟨splitL 35 ((bs s).drop (j + 1)), ?_⟩
    rw [show Lib.indexByte s.data.toList 35 = (j : Int) from hj]
    show _ = bs (s.extract 0 (j : Int).toNat) :: _
    rw [bs_extract, List.drop_zero, Int.toNat_natCast]
  · rw [if_neg h, splitL_miss 35 (bs s) (by unfold bs at hge ⊢; omega)]
    exact ⟨_, rfl⟩
theorem ahead_no (s : ByteArray) : (bs (ahead s)).any (fun b => b == 35) = false := by
  have hge := Lib.indexByte_ge (bs s) 35
  unfold ahead cutR
  by_cases h : 0 ≤ Lib.indexByte s.data.toList 35
  · obtain ⟨j, hj⟩ : ∃ j : Nat, Lib.indexByte (bs s) 35 = j := ⟨(Lib.indexByte s.data.toList 35).toNat, by unfold bs; omega⟩
    rw [if_pos h]
    show (bs (s.extract 0 (Lib.indexByte (bs s) 35).toNat)).any _ = false
    rw [hj, bs_extract, List.drop_zero, Int.toNat_natCast, List.any_eq_false]
    intro b hb
    obtain ⟨q, hq, rfl⟩ := List.getElem_of_mem hb
    rw [List.length_take] at hq
    have := (Lib.indexByte_some hj).2 q (by omega)
    rw [List.getElem_take]
    rw [List.getElem?_eq_getElem (by omega)] at this
    intro e
    rw [beq_iff_eq] at e
    exact this (congrArg some e)
  · rw [if_neg h]
    have hn := indexByte_iff 35 (bs s)
    rw [Bool.eq_false_iff]
    exact fun e => h (hn.2 e)
def verR (s : ByteArray) : ByteArray × Bool := if (s.size : Int) > 4000 then (⟨#[]⟩, false) else if (sealB (ahead s)).toList = s.toList then (ahead s, true) else (⟨#[]⟩, false)
theorem size_toList (a b : ByteArray) (h : a.toList = b.toList) : a.size = b.size := by
  have := congrArg List.length h
  simpa [ByteArray.toList_eq] using this
theorem spec_ver (s : ByteArray) (hx : s.size ≤ 1048576) (k : Nat) (hk : 1048577 ≤ k) : spec_VerifyChecksum.f k s = some (verR s) := by
  unfold spec_VerifyChecksum.f verR
  by_cases h : (s.size : Int) > 4000
  · rw [if_pos h, if_pos h]
  · rw [if_neg h, if_neg h]
    obtain ⟨ys, h1, h2, h3⟩ := l1Split_ends s 35 hx k hk
    obtain ⟨t, ht⟩ := ahead_first s
    rw [show ((35 : UInt8).toNat : Int) = 35 from rfl] at h1
    rw [h1, Option.bind_some]
    rw [ht] at h2
    cases ys with
    | nil => simp at h2
    | cons y r =>
      simp only [List.map_cons, List.cons.injEq] at h2
      have hy := bs_inj h2.1
      rw [if_pos (by simp), show rdOf ByteArray.empty (y :: r) 0 = y from rfl, hy, l1Seal_ends (ahead s) (by have := ahead_size s; omega) k hk, Option.bind_some]
      split <;> rfl
theorem impl_ver (s : ByteArray) (hx : s.size ≤ 1048576) (k : Nat) (hk : 1048577 ≤ k) : impl_VerifyChecksum.f k s = some (verR s) := by
  have ha := ahead_size s
  unfold impl_VerifyChecksum.f verR
  rw [show strings_Cut.f s (⟨#[35]⟩ : ByteArray) = some (cutR s 35) from if_pos (by omega), Option.bind_some]
  rw [show (cutR s 35).1 = ahead s from rfl, impl_Append (ahead s) (by omega) k hk, Option.bind_some]
  unfold sealR
  rw [ahead_no s]
  by_cases h : (s.size : Int) > 4000
  · rw [if_pos h]
    by_cases h1 : ((ahead s).size : Int) > 4000
    · rw [if_pos h1]; rfl
    · rw [if_neg h1, if_neg (show ¬ (false = true) by decide)]
      by_cases h2 : ((sealB (ahead s)).size : Int) > 4000
      · rw [if_pos h2]; rfl
      · rw [if_neg h2]
        have hn : ¬ ((sealB (ahead s)).toList = s.toList) := fun e => by have := size_toList _ _ e; omega
        show (if true = true then (if (sealB (ahead s)).toList = s.toList then _ else _) else _) = _
        rw [if_pos rfl, if_neg hn]
  · rw [if_neg h, if_neg (show ¬ ((ahead s).size : Int) > 4000 by omega), if_neg (show ¬ (false = true) by decide)]
    by_cases h2 : ((sealB (ahead s)).size : Int) > 4000
    · have hn : ¬ ((sealB (ahead s)).toList = s.toList) := fun e => by have := size_toList _ _ e; omega
      rw [if_pos h2, if_neg hn]; rfl
    · rw [if_neg h2]
      show (if true = true then (if (sealB (ahead s)).toList = s.toList then some (ahead s, true) else some (⟨#[]⟩, false)) else _) = _
      rw [if_pos rfl]
      split <;> rfl
theorem splitL_appV (c : UInt8) : ∀ (p l : List UInt8), c ∉ p → splitL c (p ++ c :: l) = p :: splitL c l
  | [], l, _ => by rw [List.nil_append, splitL, if_pos rfl]
  | b :: p, l, h => by
    rw [List.cons_append, splitL, if_neg (fun e => h (by rw [e]; exact List.mem_cons_self)), splitL_appV c p l (fun e => h (List.mem_cons_of_mem _ e))]
    rfl
theorem bs_toList (s : ByteArray) : s.toList = bs s := by rw [ByteArray.toList_eq]; rfl
theorem seal_bs (x : ByteArray) : bs (sealB x) = bs x ++ 35 :: decS (bs x) := by
  unfold sealB
  rw [decS_itoa]
  simp [bs, tx]
theorem any_no {x : ByteArray} (h : (bs x).any (fun b => b == 35) = false) : (35 : UInt8) ∉ bs x := by
  intro hm
  have := List.any_eq_false.1 h 35 hm
  exact this (by decide)
theorem ahead_seal (x : ByteArray) (h : (bs x).any (fun b => b == 35) = false) : ahead (sealB x) = x := by
  obtain ⟨t, ht⟩ := ahead_first (sealB x)
  rw [seal_bs, splitL_appV 35 _ _ (any_no h)] at ht
  injection ht with h1 _
  exact (bs_inj h1).symm
theorem ver_seal (x : ByteArray) (h : (bs x).any (fun b => b == 35) = false) (hs : ¬ ((sealB x).size : Int) > 4000) : verR (sealB x) = (x, true) := by
  unfold verR
  rw [if_neg hs, ahead_seal x h, if_pos rfl]
theorem ver_spoilt (x y2 : ByteArray) (h : (bs x).any (fun b => b == 35) = false) (q : Nat) (b : UInt8) (hq : q < (sealB x).size) (hb : (bs (sealB x))[q]? ≠ some b) (hy : bs y2 = (bs (sealB x)).set q b) : verR y2 = (⟨#[]⟩, false) := by
  unfold verR
  by_cases hs : (y2.size : Int) > 4000
  · rw [if_pos hs]
  · rw [if_neg hs, if_neg]
    intro e
    rw [bs_toList, bs_toList, hy, seal_bs, seal_bs] at e
    rw [seal_bs] at hb
    have hlen : q < (bs x ++ 35 :: decS (bs x)).length := by rw [← seal_bs, bs_length]; exact hq
    exact one_byte (bs x) (bs (ahead y2)) (any_no h) (any_no (ahead_no y2)) q b hlen hb e
def fmtA (n : Int) : ByteArray × Bool := if inB n (-999999) 999999 = true then (tx (Lib.itoa n), true) else (⟨#[]⟩, false)
theorem fmt_both (n : Int) (k : Nat) (hk : 100 ≤ k) : spec_FormatInt.f k n = some (fmtA n) ∧ impl_FormatInt.f n = some (fmtA n) := by
  unfold spec_FormatInt.f impl_FormatInt.f fmtA
  rw [l1In_ends, within_ends]
  simp only [Option.bind_some]
  by_cases h : inB n (-999999) 999999 = true
  · have hb : -999999 ≤ n ∧ n ≤ 999999 := by unfold inB at h; simpa using h
    rw [if_pos h, if_pos h, if_pos h, l1Num_ends n (by omega) (by omega) _ (by omega), decimal_ends n (by omega) (by omega)]
    exact ⟨rfl, rfl⟩
  · rw [if_neg h, if_neg h, if_neg h]
    exact ⟨rfl, rfl⟩
theorem par_both (s : ByteArray) (hs : s.size ≤ 1000000) (k : Nat) (hk : 100 ≤ k) : spec_ParseInt.f k s = some (readR s) ∧ impl_ParseInt.f s = some (readR s) := by
  refine ⟨?_, if_pos (by omega)⟩
  unfold spec_ParseInt.f
  rw [l1Read_ends s _ hk, read_same s]
  rfl
theorem dec_headL {u : Nat} (h : u < 1000000) : tlL (Lib.decDigits u) = Lib.decDigits u := by
  have hf := (dec_facts 5 u h).1
  rcases hd : Lib.decDigits u with _ | ⟨b, r⟩
  · rfl
  · rw [hd] at hf
    refine tl_cons b r (fun e => ?_)
    subst e
    revert hf
    simp [dig]
theorem readR_itoa (n : Int) (h : inB n (-999999) 999999 = true) : readR (tx (Lib.itoa n)) = (n, true) := by
  have hb : -999999 ≤ n ∧ n ≤ 999999 := by unfold inB at h; simpa using h
  have hu : n.natAbs < 1000000 := by omega
  have hok := dec_ok n.natAbs hu
  have hv := (dec_facts 5 n.natAbs hu).2.1
  rw [← read_same]
  by_cases hn : n < 0
  · have e : Lib.itoa n = 45 :: Lib.decDigits n.natAbs := by unfold Lib.itoa; rw [if_pos hn]
    have ht : bs (tl (tx (Lib.itoa n))) = Lib.decDigits n.natAbs := by
      rw [tl_bs, show bs (tx (Lib.itoa n)) = Lib.itoa n from rfl, e]
      rcases hd : Lib.decDigits n.natAbs with _ | ⟨c, r⟩
      · rw [hd] at hok; exact absurd hok (by decide)
      · show (if (45 : UInt8) = 45 then c :: r else 45 :: c :: r) = _
        rw [if_pos rfl]
    have hz : (tl (tx (Lib.itoa n))).size < (tx (Lib.itoa n)).size := by
      rw [← bs_length, ht, tx_size, e, List.length_cons]
      omega
    unfold specR finR
    rw [ht, if_pos hok, if_pos (by omega), hv, show (-(n.natAbs : Int)) = n by omega, if_pos rfl]
  · have e : Lib.itoa n = Lib.decDigits n.natAbs := by unfold Lib.itoa; rw [if_neg hn]; congr 1; omega
    have ht : bs (tl (tx (Lib.itoa n))) = Lib.decDigits n.natAbs := by
      rw [tl_bs, show bs (tx (Lib.itoa n)) = Lib.itoa n from rfl, e, dec_headL hu]
    have hz : ¬ (tl (tx (Lib.itoa n))).size < (tx (Lib.itoa n)).size := by
      rw [← bs_length, ht, tx_size, e]
      omega
    unfold specR finR
    rw [ht, if_pos hok, if_neg (by omega), hv, show ((n.natAbs : Int)) = n by omega, if_pos rfl]
theorem seal_cases (x : ByteArray) : sealR x = (⟨#[]⟩, false) ∨ (sealR x = (sealB x, true) ∧ (bs x).any (fun b => b == 35) = false ∧ ¬ ((sealB x).size : Int) > 4000) := by
  unfold sealR
  by_cases h1 : (x.size : Int) > 4000
  · rw [if_pos h1]; exact .inl rfl
  · rw [if_neg h1]
    by_cases h2 : (bs x).any (fun b => b == 35) = true
    · rw [if_pos h2]; exact .inl rfl
    · rw [if_neg h2]
      by_cases h3 : ((sealB x).size : Int) > 4000
      · rw [if_pos h3]; exact .inl rfl
      · rw [if_neg h3]
        exact .inr ⟨rfl, by rw [Bool.not_eq_true] at h2; exact h2, h3⟩
/-- A byte with one to 255 taken out of it by xor is another byte. -/
theorem xor_byte (B : UInt8) (C : Nat) (h0 : 0 < C) (h1 : C < 256) : Go.bits .xor .u8 (B.toNat : Int) (C : Int) = ((UInt8.ofNat (B.toNat ^^^ C)).toNat : Int) ∧ UInt8.ofNat (B.toNat ^^^ C) ≠ B := by
  have hB := UInt8.toNat_lt B
  have hx : B.toNat ^^^ C < 256 := Nat.xor_lt_two_pow (n := 8) hB h1
  have e : (UInt8.ofNat (B.toNat ^^^ C)).toNat = B.toNat ^^^ C := by
    rw [UInt8.toNat_ofNat']
    exact Nat.mod_eq_of_lt hx
  refine ⟨by rw [e]; exact u8_xor_nat _ _ hB h1, fun h => ?_⟩
  have h2 := congrArg UInt8.toNat h
  rw [e] at h2
  have h3 := congrArg (fun z => B.toNat ^^^ z) h2
  simp only [← Nat.xor_assoc, Nat.xor_self, Nat.zero_xor] at h3
  omega
theorem nums_set (y : ByteArray) (q : Nat) (b : UInt8) : bs (strOfNums ((bytesOf y).set q (b.toNat : Int))) = (bs y).set q b := by
  have e : (bytesOf y).set q (b.toNat : Int) = ((bs y).set q b).map fun b => (b.toNat : Int) := by
    rw [List.map_set]
    rfl
  rw [e, Lib.Lz.strOfNums_map]
  simp [bs]
theorem byte_at (y : ByteArray) (q : Nat) (h : q < y.size) : (bs y)[q]? = some ((bs y).getD q 0) ∧ (bytesOf y).getD q 0 = (((bs y).getD q 0).toNat : Int) := by
  have hl : q < (bs y).length := by rw [bs_length]; exact h
  refine ⟨by rw [List.getD_eq_getElem?_getD, List.getElem?_eq_getElem hl]; rfl, ?_⟩
  show ((bs y).map fun b => (b.toNat : Int)).getD q 0 = _
  rw [List.getD_eq_getElem?_getD, List.getElem?_map, List.getD_eq_getElem?_getD, List.getElem?_eq_getElem hl]
  rfl
theorem wrap_byte (v : Int) (h0 : 0 ≤ v) (h1 : v ≤ 255) : ∃ C : Nat, IntKind.u8.wrap (wrap64 (1 + v.tmod 255)) = (C : Int) ∧ 0 < C ∧ C < 256 := by
  rw [Int.tmod_eq_emod_of_nonneg h0, w64 (by omega) (by omega)]
  refine ⟨(1 + v % 255).toNat, ?_, by omega, by omega⟩
  rw [show IntKind.u8.wrap (1 + v % 255) = (1 + v % 255) % 256 from IntKind.wrap_u8 _]
  omega
end Go.Proofs.YtnifjoobkojgiaaDoor.X
