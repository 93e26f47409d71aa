/- The law FnExactVerifyChecksum answers true for every text. No condition beyond the form's own. -/
import Derived.Test.YtnifjoobkojgiaaDoorSFnExactVerifyChecksum
import Derived.Test.YtnifjoobkojgiaaDoorMSplit
namespace Go.Proofs.YtnifjoobkojgiaaDoor.Pure
open Go.RowKit Go.Proofs.YtnifjoobkojgiaaDoor.X Go.Proofs.YtnifjoobkojgiaaDoorW.PrintWords Go.Proofs.YtnifjoobkojgiaaDoorW.PrintLast
set_option linter.unusedSimpArgs false
/-- What stands ahead of the first sign. -/
def ahead (s : ByteArray) : ByteArray := (cutR s 35).1
theorem ahead_size (s : ByteArray) : (ahead s).size ≤ s.size := by
  unfold ahead cutR
  split
  · show (s.extract 0 _).size ≤ _
    rw [ByteArray.size_extract]; omega
  · exact Nat.le_refl _
theorem ahead_first (s : ByteArray) : ∃ t, splitL 35 (bs s) = bs (ahead s) :: t := by
  have hge := Lib.indexByte_ge (bs s) 35
  unfold ahead cutR
  by_cases h : 0 ≤ Lib.indexByte s.data.toList 35
  · obtain ⟨j, hj⟩ : ∃ j : Nat, Lib.indexByte (bs s) 35 = j := ⟨(Lib.indexByte s.data.toList 35).toNat, by unfold bs; omega⟩
    rw [if_pos h, splitL_hit 35 (bs s) j hj]
    refine ⟨splitL 35 ((bs s).drop (j + 1)), ?_⟩
    rw [show Lib.indexByte s.data.toList 35 = (j : Int) from hj]
    show _ = bs (s.extract 0 (j : Int).toNat) :: _
    rw [bs_extract, List.drop_zero, Int.toNat_natCast]
  · rw [if_neg h, splitL_miss 35 (bs s) (by unfold bs at hge ⊢; omega)]
    exact ⟨_, rfl⟩
theorem ahead_no (s : ByteArray) : (bs (ahead s)).any (fun b => b == 35) = false := by
  have hge := Lib.indexByte_ge (bs s) 35
  unfold ahead cutR
  by_cases h : 0 ≤ Lib.indexByte s.data.toList 35
  · obtain ⟨j, hj⟩ : ∃ j : Nat, Lib.indexByte (bs s) 35 = j := ⟨(Lib.indexByte s.data.toList 35).toNat, by unfold bs; omega⟩
    rw [if_pos h]
    show (bs (s.extract 0 (Lib.indexByte (bs s) 35).toNat)).any _ = false
    rw [hj, bs_extract, List.drop_zero, Int.toNat_natCast, List.any_eq_false]
    intro b hb
    obtain ⟨q, hq, rfl⟩ := List.getElem_of_mem hb
    rw [List.length_take] at hq
    have := (Lib.indexByte_some hj).2 q (by omega)
    rw [List.getElem_take]
    rw [List.getElem?_eq_getElem (by omega)] at this
    intro e
    rw [beq_iff_eq] at e
    exact this (congrArg some e)
  · rw [if_neg h]
    have hn := indexByte_iff 35 (bs s)
    rw [Bool.eq_false_iff]
    exact fun e => h (hn.2 e)
def verR (s : ByteArray) : ByteArray × Bool := if (s.size : Int) > 4000 then (⟨#[]⟩, false) else if (sealB (ahead s)).toList = s.toList then (ahead s, true) else (⟨#[]⟩, false)
theorem size_toList (a b : ByteArray) (h : a.toList = b.toList) : a.size = b.size := by
  have := congrArg List.length h
  simpa [ByteArray.toList_eq] using this
theorem spec_ver (s : ByteArray) (hx : s.size ≤ 1048576) (k : Nat) (hk : 1048577 ≤ k) : spec_VerifyChecksum.f k s = some (verR s) := by
  unfold spec_VerifyChecksum.f verR
  by_cases h : (s.size : Int) > 4000
  · rw [if_pos h, if_pos h]
  · rw [if_neg h, if_neg h]
    obtain ⟨ys, h1, h2, h3⟩ := l1Split_ends s 35 hx k hk
    obtain ⟨t, ht⟩ := ahead_first s
    rw [show ((35 : UInt8).toNat : Int) = 35 from rfl] at h1
    rw [h1, Option.bind_some]
    rw [ht] at h2
    cases ys with
    | nil => simp at h2
    | cons y r =>
      simp only [List.map_cons, List.cons.injEq] at h2
      have hy := bs_inj h2.1
      rw [if_pos (by simp), show rdOf ByteArray.empty (y :: r) 0 = y from rfl, hy, l1Seal_ends (ahead s) (by have := ahead_size s; omega) k hk, Option.bind_some]
      split <;> rfl
theorem impl_ver (s : ByteArray) (hx : s.size ≤ 1048576) (k : Nat) (hk : 1048577 ≤ k) : impl_VerifyChecksum.f k s = some (verR s) := by
  have ha := ahead_size s
  unfold impl_VerifyChecksum.f verR
  rw [show strings_Cut.f s (⟨#[35]⟩ : ByteArray) = some (cutR s 35) from if_pos (by omega), Option.bind_some]
  rw [show (cutR s 35).1 = ahead s from rfl, impl_Append (ahead s) (by omega) k hk, Option.bind_some]
  unfold sealR
  rw [ahead_no s]
  by_cases h : (s.size : Int) > 4000
  · rw [if_pos h]
    by_cases h1 : ((ahead s).size : Int) > 4000
    · rw [if_pos h1]; rfl
    · rw [if_neg h1, if_neg (show ¬ (false = true) by decide)]
      by_cases h2 : ((sealB (ahead s)).size : Int) > 4000
      · rw [if_pos h2]; rfl
      · rw [if_neg h2]
        have hn : ¬ ((sealB (ahead s)).toList = s.toList) := fun e => by have := size_toList _ _ e; omega
        show (if true = true then (if (sealB (ahead s)).toList = s.toList then _ else _) else _) = _
        rw [if_pos rfl, if_neg hn]
  · rw [if_neg h, if_neg (show ¬ ((ahead s).size : Int) > 4000 by omega), if_neg (show ¬ (false = true) by decide)]
    by_cases h2 : ((sealB (ahead s)).size : Int) > 4000
    · have hn : ¬ ((sealB (ahead s)).toList = s.toList) := fun e => by have := size_toList _ _ e; omega
      rw [if_pos h2, if_neg hn]; rfl
    · rw [if_neg h2]
      show (if true = true then (if (sealB (ahead s)).toList = s.toList then some (ahead s, true) else some (⟨#[]⟩, false)) else _) = _
      rw [if_pos rfl]
      split <;> rfl
theorem FnExactVerifyChecksum : laws_FnExactVerifyChecksum.Pure := by
  intro s _
  refine ⟨1048600, ?_⟩
  unfold laws_FnExactVerifyChecksum.f
  by_cases h : (s.size : Int) > 1048576
  · rw [if_pos h]
  · rw [if_neg h, spec_ver s (by omega) _ (by omega), impl_ver s (by omega) _ (by omega), Option.bind_some, Option.bind_some]
    simp
end Go.Proofs.YtnifjoobkojgiaaDoor.Pure
