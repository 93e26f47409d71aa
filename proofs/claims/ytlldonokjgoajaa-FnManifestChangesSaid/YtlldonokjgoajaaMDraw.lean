/- What the reference's drawing of inputs answers: it always ends, within its bounds. -/
import Derived.Test.YtlldonokjgoajaaMBase
import Derived.Test.YtlldonokjgoajaaFbCur
import Derived.Test.YtlldonokjgoajaaGspoilt
import Derived.Laws.BitsAllLaws
import Derived.Laws.Bits64
namespace Go.Proofs.Ytlldonokjgoajaa.X
open Go.RowKit Go.Proofs.YtlldonokjgoajaaW.PrintWords Go.Proofs.YtlldonokjgoajaaW.PrintLast
set_option linter.unusedVariables false
set_option linter.unusedSimpArgs false
/-- The bytes of a code. -/
def Byt (l : List Int) : Prop := l.length ≤ 1000000 ∧ ∀ x ∈ l, 0 ≤ x ∧ x ≤ 255
/-- A cursor's place: not behind m. -/
def At (m a : Int) : Prop := 0 ≤ a ∧ a ≤ m
theorem At.up {m n a : Int} (h : At m a) (hm : m ≤ n) : At n a := ⟨h.1, Int.le_trans h.2 hm⟩
theorem byt_rd {l : List Int} (hl : Byt l) (a : Int) (h0 : 0 ≤ a) (h1 : a < (l.length : Int)) : 0 ≤ rd l a ∧ rd l a ≤ 255 := by
  obtain ⟨n, rfl⟩ : ∃ n : Nat, a = n := ⟨a.toNat, by omega⟩
  rw [rd_nat]
  exact hl.2 _ (getD_mem (by omega))
theorem low_byte (z : Int) : 0 ≤ wrap64 (Go.bits .and .u64 (IntKind.u64.wrap z / 1099511627776) 255) ∧ wrap64 (Go.bits .and .u64 (IntKind.u64.wrap z / 1099511627776) 255) ≤ 255 := by
  rw [IntKind.wrap_u64]
  have h0 : 0 ≤ z % 18446744073709551616 / 1099511627776 := by omega
  have h1 : z % 18446744073709551616 / 1099511627776 < 18446744073709551616 := by omega
  rw [u64_and _ _ h0 h1 (by decide) (by decide)]
  have hle : ((z % 18446744073709551616 / 1099511627776).toNat &&& (255 : Int).toNat) ≤ 255 := Nat.and_le_right
  generalize ((z % 18446744073709551616 / 1099511627776).toNat &&& (255 : Int).toNat) = q at hle
  rw [w64 (by omega) (by omega)]
  omega
theorem next_ok {l : List Int} (hl : Byt l) {m a : Int} (ha : At m a) (hm : m ≤ 1000000000000) (s : Int) : ∃ v a' s', spec_l1Cur_next.f l a s = some (v, a', s') ∧ (0 ≤ v ∧ v ≤ 255) ∧ At (m + 1) a' := by
  obtain ⟨h0, h1⟩ := ha
  have hw : wrap64 (a + 1) = a + 1 := w64 (by omega) (by omega)
  have h2 : At (m + 1) (a + 1) := ⟨by omega, by omega⟩
  unfold spec_l1Cur_next.f
  rw [hw]
  by_cases h : a < (l.length : Int)
  · obtain ⟨r0, r1⟩ := byt_rd hl a h0 h
    rw [if_pos h, if_pos h0, if_pos (by omega)]
    exact ⟨_, _, _, rfl, by rw [w64 (by omega) (by omega)]; exact ⟨r0, r1⟩, h2⟩
  · rw [if_neg h, if_neg (by omega)]
    exact ⟨_, _, _, rfl, low_byte _, h2⟩
theorem pick_ok {l : List Int} (hl : Byt l) {m a : Int} (ha : At m a) (hm : m ≤ 100000000000) (s n : Int) : ∃ v a' s', spec_l1Cur_pick.f l a s n = some (v, a', s') ∧ (0 ≤ v ∧ v ≤ 65535 ∧ (1 ≤ n → v < n)) ∧ At (m + 2) a' := by
  unfold spec_l1Cur_pick.f
  by_cases h : n ≤ 1
  · rw [if_pos h]
    exact ⟨_, _, _, rfl, ⟨by omega, by omega, by omega⟩, ha.up (by omega)⟩
  · rw [if_neg h]
    obtain ⟨v, a1, s1, e1, hv, ha1⟩ := next_ok hl ha (by omega) s
    rw [e1, Option.bind_some]
    have hn0 : ¬ n = 0 := by omega
    by_cases h2 : n > 200
    · rw [if_pos h2]
      obtain ⟨v2, a2, s2, e2, hv2, ha2⟩ := next_ok hl ha1 (by omega) s1
      rw [e2, Option.bind_some, if_neg hn0]
      refine ⟨_, _, _, rfl, ?_, ha2.up (by omega)⟩
      rw [w64 (x := v * 256) (by omega) (by omega), w64 (by omega) (by omega)]
      rw [Int.tmod_eq_emod_of_nonneg (by omega)]
      show 0 ≤ (v * 256 + v2) % n ∧ (v * 256 + v2) % n ≤ 65535 ∧ (1 ≤ n → (v * 256 + v2) % n < n)
      have b1 := Int.emod_nonneg (v * 256 + v2) hn0
      have b2 := Int.emod_lt_of_pos (v * 256 + v2) (b := n) (by omega)
      have b3 : (v * 256 + v2) % n ≤ v * 256 + v2 := by
        by_cases hq : v * 256 + v2 < n
        · rw [Int.emod_eq_of_lt (by omega) hq]; exact Int.le_refl _
        · omega
      exact ⟨b1, by omega, fun _ => b2⟩
    · rw [if_neg h2, if_neg hn0]
      refine ⟨_, _, _, rfl, ?_, ha1.up (by omega)⟩
      show 0 ≤ Int.tmod v n ∧ Int.tmod v n ≤ 65535 ∧ (1 ≤ n → Int.tmod v n < n)
      rw [Int.tmod_eq_emod_of_nonneg hv.1]
      have b1 := Int.emod_nonneg v hn0
      have b2 := Int.emod_lt_of_pos v (b := n) (by omega)
      exact ⟨b1, by omega, fun _ => b2⟩
theorem one_ok {l : List Int} (hl : Byt l) {m a : Int} (ha : At m a) (hm : m ≤ 100000000000) (s n : Int) : ∃ v a' s', spec_l1Cur_one.f l a s n = some (v, a', s') ∧ At (m + 2) a' := by
  obtain ⟨v, a1, s1, e1, _, ha1⟩ := pick_ok hl ha hm s n
  exact ⟨_, _, _, by unfold spec_l1Cur_one.f; rw [e1, Option.bind_some], ha1⟩
theorem of_ok {l : List Int} (hl : Byt l) {m a : Int} (ha : At m a) (hm : m ≤ 100000000000) (s : Int) (xs : List ByteArray) (hx : 1 ≤ xs.length) (P : ByteArray → Prop) (hP : ∀ x ∈ xs, P x) : ∃ v a' s', spec_l1Cur_of.f l a s xs = some (v, a', s') ∧ P v ∧ At (m + 2) a' := by
  obtain ⟨v, a1, s1, e1, hv, ha1⟩ := pick_ok hl ha hm s (xs.length : Int)
  refine ⟨_, _, _, by unfold spec_l1Cur_of.f; rw [e1, Option.bind_some, if_pos hv.1, if_pos (hv.2.2 (by omega))], ?_, ha1⟩
  have := hv.2.2 (by omega)
  exact hP _ (getD_mem (by omega))
theorem among_ok {l : List Int} (hl : Byt l) {m a : Int} (ha : At m a) (hm : m ≤ 100000000000) (s : Int) (xs : List Int) (hx : 1 ≤ xs.length) (P : Int → Prop) (hP : ∀ x ∈ xs, P x) : ∃ v a' s', spec_l1Cur_among.f l a s xs = some (v, a', s') ∧ P v ∧ At (m + 2) a' := by
  obtain ⟨v, a1, s1, e1, hv, ha1⟩ := pick_ok hl ha hm s (xs.length : Int)
  refine ⟨_, _, _, by unfold spec_l1Cur_among.f; rw [e1, Option.bind_some, if_pos hv.1, if_pos (hv.2.2 (by omega))], ?_, ha1⟩
  have := hv.2.2 (by omega)
  exact hP _ (getD_mem (by omega))
theorem spoilt_ok {l : List Int} (hl : Byt l) {m a : Int} (ha : At m a) (hm : m ≤ 1000000000) (s : Int) (t w : ByteArray) (hw : 1 ≤ w.size) (ht : t.size ≤ 1000000000) (hws : w.size ≤ 1000000) : ∃ v a' s', spec_l1Cur_spoilt.f l a s t w = some (v, a', s') ∧ v.size ≤ t.size + 1 ∧ At (m + 6) a' := by
  unfold spec_l1Cur_spoilt.f
  by_cases h : t.toList = ([] : List UInt8)
  · rw [if_pos h, if_pos hw]
    exact ⟨_, _, _, rfl, by rw [ByteArray.size_extract]; omega, ha.up (by omega)⟩
  · rw [if_neg h]
    have hpos : 1 ≤ t.size := by
      rcases Nat.eq_zero_or_pos t.size with h0 | h0
      · refine absurd ?_ h
        obtain ⟨d⟩ := t
        have : d.size = 0 := h0
        obtain rfl : d = #[] := Array.eq_empty_of_size_eq_zero this
        unfold ByteArray.toList ByteArray.toList.loop
        rfl
      · exact h0
    obtain ⟨i, a1, s1, e1, hi, ha1⟩ := pick_ok hl ha (by omega) s (t.size : Int)
    obtain ⟨j, a2, s2, e2, hj, ha2⟩ := pick_ok hl ha1 (by omega) s1 (w.size : Int)
    obtain ⟨c, a3, s3, e3, hc, ha3⟩ := pick_ok hl ha2 (by omega) s2 3
    have hj1 := hj.2.2 (by omega)
    have hi1 := hi.2.2 (by omega)
    rw [e1, Option.bind_some]
    simp only
    rw [e2, Option.bind_some]
    simp only
    rw [e3, Option.bind_some]
    simp only
    rw [if_pos ⟨⟨hi.1, hi1⟩, ⟨hj.1, hj1⟩, by omega, by omega⟩]
    refine ⟨_, _, _, rfl, ?_, ha3.up (by omega)⟩
    unfold spoT spoB
    split
    · simp only [ByteArray.size_append, ByteArray.size_extract]; omega
    · split
      · simp only [ByteArray.size_append, ByteArray.size_extract]; omega
      · simp only [ByteArray.size_append, ByteArray.size_extract]; omega
end Go.Proofs.Ytlldonokjgoajaa.X
