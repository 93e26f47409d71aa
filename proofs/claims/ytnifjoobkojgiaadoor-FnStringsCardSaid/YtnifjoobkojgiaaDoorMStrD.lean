/- The draws of the law FnStrings: they always end; the texts are short. -/
import Derived.Test.YtnifjoobkojgiaaDoorMDraw
import Derived.Test.YtnifjoobkojgiaaDoorMNum
import Derived.Test.YtnifjoobkojgiaaDoorFspecDrawFormatInt
import Derived.Test.YtnifjoobkojgiaaDoorFspecDrawParseInt
import Derived.Test.YtnifjoobkojgiaaDoorFspecDrawAppendChecksum
import Derived.Test.YtnifjoobkojgiaaDoorFbV
import Derived.Lib.Bytes
namespace Go.Proofs.YtnifjoobkojgiaaDoor.X
open Go.RowKit Go.Proofs.YtnifjoobkojgiaaDoorW.PrintWords Go.Proofs.YtnifjoobkojgiaaDoorW.PrintLast
set_option linter.unusedVariables false
set_option linter.unusedSimpArgs false
theorem at00 : At 0 0 := ⟨by decide, by decide⟩
theorem drawFmt {l : List Int} (hl : Byt l) : ∃ n, spec_DrawFormatInt.f l = some n := by
  unfold spec_DrawFormatInt.f
  obtain ⟨v, a1, s1, e1, hv, ha1⟩ := pick_ok hl at00 (by decide) 0 1000
  obtain ⟨z, a2, s2, e2, _, _⟩ := among_ok hl ha1 (by omega) s1 ([0, 1, (-1), 10, 999999, (-999999), 1000000, (-1000000), wrap64 (v - 500)] : List Int) (by simp) (fun _ => True) (fun _ _ => trivial)
  rw [e1, Option.bind_some]
  dsimp only
  rw [e2, Option.bind_some]
  exact ⟨_, rfl⟩
theorem drawPar {l : List Int} (hl : Byt l) (k : Nat) (hk : 100 ≤ k) : ∃ t, spec_DrawParseInt.f k l = some t ∧ t.size ≤ 1000 := by
  unfold spec_DrawParseInt.f
  obtain ⟨b, a1, s1, e1, ha1⟩ := one_ok hl at00 (by decide) 0 2
  rw [e1, Option.bind_some]
  dsimp only
  by_cases hb : b = true
  · obtain ⟨v, a2, s2, e2, hv, _⟩ := of_ok hl ha1 (by omega) s1 ([(⟨#[]⟩ : ByteArray), (⟨#[45]⟩ : ByteArray), (⟨#[45, 48]⟩ : ByteArray), (⟨#[48, 48]⟩ : ByteArray), (⟨#[48, 49]⟩ : ByteArray), (⟨#[45, 45, 49]⟩ : ByteArray), (⟨#[49, 120]⟩ : ByteArray), (⟨#[57, 57, 57, 57, 57, 57]⟩ : ByteArray), (⟨#[49, 48, 48, 48, 48, 48, 48]⟩ : ByteArray), (⟨#[45, 57, 57, 57, 57, 57, 57]⟩ : ByteArray), (⟨#[49, 56, 52, 52, 54, 55, 52, 52, 48, 55, 51, 55, 48, 57, 53, 53, 49, 54, 49, 55]⟩ : ByteArray)] : List ByteArray) (by decide) (fun x => x.size ≤ 1000) (by decide)
    rw [if_pos hb, e2, Option.bind_some]
    exact ⟨_, rfl, hv⟩
  · obtain ⟨v, a2, s2, e2, hv, _⟩ := pick_ok hl ha1 (by omega) s1 2000
    have hv2 := hv.2.2 (by omega)
    have hv0 := hv.1
    have hw : wrap64 (v - 1000) = v - 1000 := w64 (by omega) (by omega)
    have hz := itoa_length (v - 1000) (by omega) (by omega)
    rw [if_neg hb, e2, Option.bind_some]
    dsimp only
    rw [hw, l1Num_ends _ (by omega) (by omega) _ (by omega), Option.bind_some]
    exact ⟨_, rfl, by rw [tx_size]; omega⟩
theorem nums_size (xs : List Int) : (strOfNums xs).size = xs.length := by
  have h : (strOfNums xs).toList.length = xs.length := by rw [Lib.strOfNums_toList]; unfold Lib.bytesOf; simp
  rwa [ByteArray.toList_eq, Array.length_toList] at h
theorem drawApp {l : List Int} (hl : Byt l) : ∃ x, spec_DrawAppendChecksum.f l = some x ∧ x.size ≤ 5000 := by
  unfold spec_DrawAppendChecksum.f
  obtain ⟨b, a1, s1, e1, ha1⟩ := one_ok hl at00 (by decide) 0 20
  rw [e1, Option.bind_some]
  dsimp only
  by_cases hb : b = true
  · obtain ⟨v, a2, s2, e2, hv, _⟩ := pick_ok hl ha1 (by omega) s1 10
    have hv2 := hv.2.2 (by omega)
    have hv0 := hv.1
    have hw : wrap64 (3990 + v) = 3990 + v := w64 (by omega) (by omega)
    rw [if_pos hb, e2, Option.bind_some]
    dsimp only
    rw [hw, if_pos (by omega), if_pos (by omega)]
    exact ⟨_, rfl, by rw [nums_size, List.length_replicate]; omega⟩
  · obtain ⟨v, a2, s2, e2, hv, _⟩ := any1_ok hl ha1 (by omega) s1
    rw [if_neg hb, e2, Option.bind_some]
    exact ⟨_, rfl, by show v.size ≤ 5000; omega⟩
theorem vAt_ok {l : List Int} (hl : Byt l) (i : Int) (h0 : 0 ≤ i) (h1 : i ≤ 100) : ∃ v, laws_vAt.f l i = some v ∧ 0 ≤ v ∧ v ≤ 255 := by
  unfold laws_vAt.f
  have hl1 := hl.1
  by_cases h : i < (l.length : Int)
  · obtain ⟨r0, r1⟩ := byt_rd hl i h0 h
    rw [if_pos h, if_pos h0]
    exact ⟨_, rfl, by rw [w64 (by omega) (by omega)]; exact ⟨r0, r1⟩⟩
  · rw [if_neg h, w64 (x := i * 7) (by omega) (by omega), w64 (by omega) (by omega), Int.tmod_eq_emod_of_nonneg (by omega)]
    exact ⟨_, rfl, by omega⟩
end Go.Proofs.YtnifjoobkojgiaaDoor.X
