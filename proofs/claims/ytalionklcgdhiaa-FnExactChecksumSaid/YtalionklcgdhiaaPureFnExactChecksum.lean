/- The law FnExactChecksum answers true for all strings: the program's Checksum and the reference's go through the same numbers, byte by byte. No condition beyond the form's own reach. -/
import Derived.Test.YtalionklcgdhiaaPFnExactChecksumx1
namespace Go.Proofs.Ytalionklcgdhiaa.Pure
open Go.RowKit Go.Proofs.Ytalionklcgdhiaa.PFnExactChecksum Go.Proofs.YtalionklcgdhiaaW.PrintWords Go.Proofs.YtalionklcgdhiaaW.PrintLast

theorem wrap_next {i : Int} {n : Nat} (h0 : 0 ≤ i) (h : i < (n : Int)) (hn : n ≤ 140737488351232) : wrap64 (i + 1) = i + 1 := by
  unfold wrap64
  omega

theorem sums_alike (s : ByteArray) (hn : s.size ≤ 140737488351232) (d : Nat) : ∀ (k : Nat) (h i : Int), 0 ≤ i → i ≤ s.size → (s.size : Int) - i = d → d < k →
    ∃ r, spec_l1Sum.l0 k s h i = some r ∧ impl_Checksum.l0 k s h s.size i = some (r, true) := by
  induction d with
  | zero =>
    intro k h i h0 h1 hd hk
    obtain ⟨k, rfl⟩ : ∃ m, k = m + 1 := ⟨k - 1, by omega⟩
    refine ⟨h, ?_, ?_⟩
    · simp only [spec_l1Sum.l0]; rw [if_neg (by omega)]
    · simp only [impl_Checksum.l0]; rw [if_neg (by omega)]
  | succ d ih =>
    intro k h i h0 h1 hd hk
    obtain ⟨k, rfl⟩ : ∃ m, k = m + 1 := ⟨k - 1, by omega⟩
    have hlt : i < (s.size : Int) := by omega
    obtain ⟨r, e1, e2⟩ := ih k (Int.tmod (wrap64 ((wrap64 ((wrap64 (41 * h)) + (wrap64 (bt s i)))) + 1)) 999979) (i + 1) (by omega) (by omega) (by omega) (by omega)
    refine ⟨r, ?_, ?_⟩
    · simp only [spec_l1Sum.l0]; rw [if_pos hlt, if_pos h0, wrap_next h0 hlt hn]; exact e1
    · simp only [impl_Checksum.l0]; rw [if_pos hlt, if_pos h0, if_pos hlt, wrap_next h0 hlt hn]; exact e2

theorem FnExactChecksum : laws_FnExactChecksum.Pure := by
  intro s hn
  obtain ⟨r, e1, e2⟩ := sums_alike s hn s.size (s.size + 1) 7 0 (by omega) (by omega) (by omega) (by omega)
  refine ⟨s.size + 1, ?_⟩
  unfold laws_FnExactChecksum.f spec_Checksum.f impl_Checksum.f spec_l1Sum.f
  split
  · rfl
  · split
    · rfl
    · rw [e1, e2]; simp

end Go.Proofs.Ytalionklcgdhiaa.Pure
