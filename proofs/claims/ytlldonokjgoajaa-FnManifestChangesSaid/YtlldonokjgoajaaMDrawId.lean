/- Drawing identifiers: it always ends, with a text of at most nine bytes. -/
import Derived.Test.YtlldonokjgoajaaMDraw
import Derived.Test.YtlldonokjgoajaaMNumber
import Derived.Test.YtlldonokjgoajaaFspecl1Curid
import Derived.Test.YtlldonokjgoajaaFspecl1CuranyId
namespace Go.Proofs.Ytlldonokjgoajaa.X
open Go.RowKit Go.Proofs.YtlldonokjgoajaaW.PrintWords Go.Proofs.YtlldonokjgoajaaW.PrintLast
set_option linter.unusedVariables false
set_option linter.unusedSimpArgs false
/-- Three letters: whatever number follows, it is an identifier. -/
def Letters (L : ByteArray) : Prop := L.size = 3 ∧ ∀ u, u < 10000 → sevenB (nextT L u) = true
theorem letters_of (s : ByteArray) (h : idB s = true) : Letters (s.extract 0 3) := by
  refine ⟨?_, fun u hu => seven_next h u hu⟩
  obtain ⟨h8, _⟩ := id_bytes h
  rw [ByteArray.size_extract]; omega
theorem l_ABC : Letters (⟨#[65, 66, 67]⟩ : ByteArray) := letters_of ⟨#[65, 66, 67, 48, 48, 48, 48, 85]⟩ (by decide +kernel)
theorem l_XYZ : Letters (⟨#[88, 89, 90]⟩ : ByteArray) := letters_of ⟨#[88, 89, 90, 48, 48, 48, 48, 85]⟩ (by decide +kernel)
theorem l_SEA : Letters (⟨#[83, 69, 65]⟩ : ByteArray) := letters_of ⟨#[83, 69, 65, 48, 48, 48, 48, 76]⟩ (by decide +kernel)
theorem l_ZZZ : Letters (⟨#[90, 90, 90]⟩ : ByteArray) := letters_of ⟨#[90, 90, 90, 48, 48, 48, 48, 69]⟩ (by decide +kernel)
theorem l_QQQ : Letters (⟨#[81, 81, 81]⟩ : ByteArray) := letters_of ⟨#[81, 81, 81, 48, 48, 48, 48, 80]⟩ (by decide +kernel)
theorem l_MAX : Letters (⟨#[77, 65, 88]⟩ : ByteArray) := letters_of ⟨#[77, 65, 88, 48, 48, 48, 48, 75]⟩ (by decide +kernel)
theorem number_ok {L : ByteArray} (h : Letters L) (n : Int) (h0 : 0 ≤ n) (h1 : n < 10000) (k : Nat) (hk : 20 ≤ k) : ∃ v, spec_l2Number.f k L n = some v ∧ v.size = 8 := by
  obtain ⟨u, rfl⟩ : ∃ u : Nat, n = u := ⟨n.toNat, by omega⟩
  refine ⟨_, number_ends L u h.1 (by omega) (h.2 u (by omega)) k hk, ?_⟩
  unfold nextT
  rw [ByteArray.size_append, ByteArray.size_append, h.1]
  rfl
theorem id_ok {l : List Int} (hl : Byt l) {m a : Int} (ha : At m a) (hm : m ≤ 1000000000) (s : Int) (k : Nat) (hk : 20 ≤ k) : ∃ v a' s', spec_l1Cur_id.f k l a s = some (v, a', s') ∧ v.size = 8 ∧ At (m + 6) a' := by
  unfold spec_l1Cur_id.f
  obtain ⟨L, a1, s1, e1, hL, ha1⟩ := of_ok hl ha (by omega) s ([(⟨#[65, 66, 67]⟩ : ByteArray), (⟨#[88, 89, 90]⟩ : ByteArray), (⟨#[83, 69, 65]⟩ : ByteArray), (⟨#[90, 90, 90]⟩ : ByteArray)] : List ByteArray) (by decide) Letters
    (by intro x hx; simp only [List.mem_cons, List.not_mem_nil, or_false] at hx; rcases hx with rfl | rfl | rfl | rfl; exact l_ABC; exact l_XYZ; exact l_SEA; exact l_ZZZ)
  rw [e1, Option.bind_some]
  obtain ⟨x, a2, s2, e2, hx, ha2⟩ := pick_ok hl ha1 (by omega) s1 200
  simp only
  rw [e2, Option.bind_some]
  obtain ⟨y, a3, s3, e3, hy, ha3⟩ := among_ok hl ha2 (by omega) s2 ([1, 7, 50] : List Int) (by decide) (fun y => 1 ≤ y ∧ y ≤ 50) (by decide)
  simp only
  rw [e3, Option.bind_some]
  have hx2 := hx.2.2 (by omega)
  have hx0 := hx.1
  have hp : 0 ≤ x * y ∧ x * y < 10000 := by
    refine ⟨Int.mul_nonneg hx0 (by omega), ?_⟩
    have : x * y ≤ 199 * 50 := Int.mul_le_mul (by omega) hy.2 (by omega) (by omega)
    omega
  obtain ⟨v, ev, hv⟩ := number_ok hL (x * y) hp.1 hp.2 k hk
  simp only
  rw [w64 (by omega) (by omega), ev, Option.bind_some]
  exact ⟨_, _, _, rfl, hv, ha3.up (by omega)⟩
theorem anyId_ok {l : List Int} (hl : Byt l) {m a : Int} (ha : At m a) (hm : m ≤ 100000000) (s : Int) (k : Nat) (hk : 21 ≤ k) : ∃ v a' s', spec_l1Cur_anyId.f k l a s = some (v, a', s') ∧ v.size ≤ 9 ∧ At (m + 16) a' := by
  have key : ∀ (x : ByteArray) (a s : Int), x.size ≤ 9 → At (m + 14) a → ∃ v a' s', spec_l1Cur_anyId.j0 k x l a s = some (v, a', s') ∧ v.size ≤ 9 ∧ At (m + 16) a' := by
    intro x a s hx ha
    obtain ⟨k, rfl⟩ := kpos (d := 0) (k := k) (by omega)
    obtain ⟨b, a1, s1, e1, ha1⟩ := one_ok hl ha (by omega) s 24
    simp only [spec_l1Cur_anyId.j0]
    rw [e1, Option.bind_some]
    simp only
    by_cases hb : b = true
    · obtain ⟨v, ev, hv⟩ := number_ok l_QQQ 9999 (by decide) (by decide) k (by omega)
      rw [if_pos hb, ev, Option.bind_some]
      exact ⟨_, _, _, rfl, by omega, ha1.up (by omega)⟩
    · rw [if_neg hb]
      exact ⟨_, _, _, rfl, hx, ha1.up (by omega)⟩
  unfold spec_l1Cur_anyId.f
  obtain ⟨i, a1, s1, e1, hi, ha1⟩ := id_ok hl ha (by omega) s k (by omega)
  rw [e1, Option.bind_some]
  simp only
  obtain ⟨b, a2, s2, e2, ha2⟩ := one_ok hl ha1 (by omega) s1 8
  rw [e2, Option.bind_some]
  simp only
  by_cases hb : b = true
  · obtain ⟨v, a3, s3, e3, hv, ha3⟩ := spoilt_ok hl ha2 (by omega) s2 i (⟨#[65, 48, 66, 49]⟩ : ByteArray) (by decide) (by omega) (by decide)
    rw [if_pos hb, e3, Option.bind_some]
    exact key _ _ _ (by simp only; omega) (ha3.up (by omega))
  · rw [if_neg hb]
    exact key _ _ _ (by omega) (ha2.up (by omega))
end Go.Proofs.Ytlldonokjgoajaa.X
