/- The law FnContainers answers true for every code. No condition beyond the form's own. -/
import Derived.Test.YtlldonokjgoajaaFlawsFnContainers
import Derived.Test.YtlldonokjgoajaaOpen
import Derived.Test.YtlldonokjgoajaaGHeavy
import Derived.Test.YtlldonokjgoajaaFspecHeaviestFirst
import Derived.Test.YtlldonokjgoajaaMBase
import Derived.Test.YtlldonokjgoajaaFbCur
import Derived.Test.YtlldonokjgoajaaGspoilt
import Derived.Laws.BitsAllLaws
import Derived.Laws.Bits64
import Derived.Lib.Strings
import Derived.Test.YtlldonokjgoajaaMIds
import Derived.Test.YtlldonokjgoajaaFspecl2Number
import Derived.Test.YtlldonokjgoajaaFspecl1Curid
import Derived.Test.YtlldonokjgoajaaFspecl1CuranyId
import Derived.Test.YtlldonokjgoajaaMContL
import Derived.Test.YtlldonokjgoajaaFspecl1Curcontainer
import Derived.Test.YtlldonokjgoajaaFspecl1CuranyContainer
import Derived.Test.YtlldonokjgoajaaFspecl1Curcontainers
-- Written by a program of ours (wip/bin/rows.py). Not trusted: Lean checks it.
namespace Go.Proofs.Ytlldonokjgoajaa.X
open Go.RowKit Go.Proofs.YtlldonokjgoajaaW.PrintWords Go.Proofs.YtlldonokjgoajaaW.PrintLast
/-- The law's one pure statement. -/
def laws_FnContainers.Pure : Prop := ∀ (l0 : (List Int)), (WL WU8) l0 → ∃ k, laws_FnContainers.f k l0 = some true
end Go.Proofs.Ytlldonokjgoajaa.X
/- The reference's HeaviestFirst: the same order as the program's. -/
namespace Go.Proofs.Ytlldonokjgoajaa.X
open Go.RowKit Go.Sort Go.Proofs.YtlldonokjgoajaaW.PrintWords Go.Proofs.YtlldonokjgoajaaW.PrintLast
set_option linter.unusedVariables false
set_option linter.unusedSimpArgs false
def ltI (cs : List S89) (a b : Int) : Bool := ahead (cs.getD a.toNat z89) (cs.getD b.toNat z89)
theorem ordI (cs : List S89) : Ord (ltI cs) where
  asym a b h := by
    cases h2 : ltI cs b a with
    | false => rfl
    | true =>
      have := ahead_trans _ _ _ h h2
      rw [ahead_irrefl] at this
      cases this
  co a b c h := by
    by_cases h1 : ltI cs a b = true
    · exact .inl h1
    · by_cases h2 : ltI cs b c = true
      · exact .inr h2
      · rw [Bool.not_eq_true] at h1 h2
        have := ahead_ntrans _ _ _ h1 h2
        unfold ltI at h
        rw [this] at h
        cases h
theorem l2Before_ends (x y : S89) : spec_l2Before.f x.f0 x.f1 x.f2 x.f3 x.f4 y.f0 y.f1 y.f2 y.f3 y.f4 = some (ahead x y) := by
  unfold spec_l2Before.f ahead
  by_cases h1 : x.f2 > y.f2
  · rw [if_pos h1, decide_eq_true h1]; rfl
  · rw [if_neg h1, decide_eq_false h1]
    by_cases h2 : x.f2 = y.f2
    · rw [if_pos h2, decide_eq_true h2]; rfl
    · rw [if_neg h2, decide_eq_false h2]; rfl
theorem heavy_l1 (cs : List S89) (hx : cs.length ≤ 1000) (t : List Int) (ht : t.length ≤ 1000) (hb : ∀ x ∈ t, 0 ≤ x ∧ x < (cs.length : Int)) (i : Nat) (hi : i < cs.length) (d : Nat) : ∀ (k : Nat), d ≤ t.length → d < k →
    spec_HeaviestFirst.l1 k cs t (i : Int) (d : Int) = spec_HeaviestFirst.l0 (k - (d - posK (ltI cs) (i : Int) t d) - 1) cs (t.take (posK (ltI cs) (i : Int) t d) ++ (i : Int) :: t.drop (posK (ltI cs) (i : Int) t d)) ((i + 1 : Nat) : Int) := by
  induction d with
  | zero =>
    intro k hd hk
    obtain ⟨k, rfl⟩ := kpos hk
    simp only [spec_HeaviestFirst.l1, posK, Option.bind_some]
    have c0 : ¬ ((0 : Nat) : Int) > 0 := by omega
    have c1 : 0 ≤ ((0 : Nat) : Int) := by omega
    have c2 : ((0 : Nat) : Int) ≤ (t.length : Int) := by omega
    rw [if_neg c0, if_pos c1, if_pos c2, if_pos (by simp), if_pos (by simp), if_pos (by simp; omega), wnext hi (by omega)]
    simp
  | succ d ih =>
    intro k hd hk
    obtain ⟨k, rfl⟩ := kpos (d := 0) (k := k) (by omega)
    have hw : wrap64 (((d + 1 : Nat) : Int) - 1) = (d : Int) := by rw [w64 (by omega) (by omega)]; omega
    have hdt : d < t.length := by omega
    obtain ⟨b0, b1⟩ := hb (t.getD d 0) (getD_mem hdt)
    obtain ⟨p, hp⟩ : ∃ p : Nat, t.getD d 0 = p := ⟨(t.getD d 0).toNat, by omega⟩
    have hpl : p < cs.length := by omega
    have hlt : ltI cs (i : Int) (t.getD d 0) = ahead (cs.getD i z89) (cs.getD p z89) := by unfold ltI; rw [hp, Int.toNat_natCast, Int.toNat_natCast]
    have c0 : ((d + 1 : Nat) : Int) > 0 := by omega
    have c1 : 0 ≤ (i : Int) := by omega
    have c2 : (i : Int) < (cs.length : Int) := by omega
    have c3 : 0 ≤ (d : Int) := by omega
    have c4 : (d : Int) < (t.length : Int) := by omega
    have c5 : 0 ≤ (p : Int) := by omega
    have c6 : (p : Int) < (cs.length : Int) := by omega
    have c7 : 0 ≤ ((d + 1 : Nat) : Int) := by omega
    have c8 : ((d + 1 : Nat) : Int) ≤ (t.length : Int) := by omega
    simp only [spec_HeaviestFirst.l1, posK, Option.bind_some, hw, rd_nat, hp]
    rw [if_pos c0, if_pos c1, if_pos c2, if_pos c3, if_pos c4, if_pos c5, if_pos c6, rdC61_nat, rdC61_nat, l2Before_ends]
    simp only [Option.bind_some]
    rw [hp] at hlt
    rw [hlt]
    by_cases h : ahead (cs.getD i z89) (cs.getD p z89) = true
    · have hle := posK_le (ltI cs) (i : Int) t d
      rw [if_pos h, if_pos h, ih k (by omega) (by omega), show k + 1 - (d + 1 - posK (ltI cs) (i : Int) t d) - 1 = k - (d - posK (ltI cs) (i : Int) t d) - 1 by omega]
    · rw [if_neg h, if_neg h, if_pos c7, if_pos c8, Int.toNat_natCast, if_pos (by simp; omega), if_pos (by simp; omega), if_pos (by simp; omega), wnext hi (by omega), show k + 1 - (d + 1 - (d + 1)) - 1 = k by omega]
      simp
theorem heavy_l0 (cs : List S89) (hx : cs.length ≤ 1000) (d : Nat) : ∀ (k i : Nat) (t : List Int), i + d = cs.length → t.length = i → (∀ x ∈ t, 0 ≤ x ∧ x < (cs.length : Int)) → 1010 * (d + 1) ≤ k → spec_HeaviestFirst.l0 k cs t (i : Int) = some (specO (ltI cs) d i t, true) := by
  induction d with
  | zero =>
    intro k i t hi ht hb hk
    obtain ⟨k, rfl⟩ := kpos (d := 0) (k := k) (by omega)
    simp only [spec_HeaviestFirst.l0, specO]
    rw [if_neg (by omega)]
  | succ d ih =>
    intro k i t hi ht hb hk
    obtain ⟨k, rfl⟩ := kpos (d := 0) (k := k) (by omega)
    have hil : i < cs.length := by omega
    have hle := posK_le (ltI cs) (i : Int) t t.length
    simp only [spec_HeaviestFirst.l0, specO]
    rw [if_pos (by omega), heavy_l1 cs hx t (by omega) hb i hil t.length k (Nat.le_refl _) (by omega)]
    have hb2 : ∀ x ∈ insR (ltI cs) (i : Int) t, 0 ≤ x ∧ x < (cs.length : Int) := by
      intro x hxm
      rcases List.mem_cons.1 ((insR_perm (ltI cs) (i : Int) t).subset hxm) with rfl | hxm
      · omega
      · exact hb x hxm
    have hl2 : (insR (ltI cs) (i : Int) t).length = i + 1 := by rw [(insR_perm (ltI cs) (i : Int) t).length_eq, List.length_cons, ht]
    exact ih _ (i + 1) _ (by omega) hl2 hb2 (by omega)
theorem heavy_same {cs : List S89} (hd : Dist cs) : specO (ltI cs) cs.length 0 [] = heavyL cs := by
  have hp1 := specO_perm (ltI cs) cs.length 0 []
  rw [List.nil_append] at hp1
  have hp2 : (heavyL cs).Perm (nums 0 cs.length) := by
    rw [nums_fin]
    unfold heavyL heavyF
    exact (List.mergeSort_perm _ _).map _
  have hmem : ∀ a ∈ specO (ltI cs) cs.length 0 [], ∃ x : Fin cs.length, a = ((x.val : Nat) : Int) := by
    intro a ha
    have := (nums_mem cs.length 0 a).1 (hp1.subset ha)
    exact ⟨⟨a.toNat, by omega⟩, by show a = ((a.toNat : Nat) : Int); omega⟩
  have hlt : ∀ x y : Fin cs.length, ltI cs ((x.val : Nat) : Int) ((y.val : Nat) : Int) = ahead (cs.get x) (cs.get y) := by
    intro x y
    unfold ltI
    rw [Int.toNat_natCast, Int.toNat_natCast, getD_fin, getD_fin]
  refine sorted_unique (ltI cs) _ _ (hp1.trans hp2.symm) (hp1.symm.nodup_iff.1 (nums_nodup cs.length 0)) ?_ (specO_sorted (ordI cs) cs.length 0 [] List.Pairwise.nil) ?_
  · intro a ha b hb hne
    obtain ⟨x, rfl⟩ := hmem a ha
    obtain ⟨y, rfl⟩ := hmem b hb
    rw [hlt, hlt]
    by_cases h1 : ahead (cs.get x) (cs.get y) = true
    · exact .inl h1
    · by_cases h2 : ahead (cs.get y) (cs.get x) = true
      · exact .inr h2
      · rw [Bool.not_eq_true] at h1 h2
        have e := hd x y (ahead_total _ _ h1 h2).2
        exact absurd (by rw [e]) hne
  · unfold Srt heavyL
    rw [List.pairwise_map]
    unfold heavyF
    have hs := List.pairwise_mergeSort (le := fun x y => !(ltOf (cfH cs)) y x) ?_ ?_ (List.finRange cs.length)
    · refine hs.imp ?_
      intro x y h
      rw [hlt]
      rw [ltH] at h
      simpa using h
    · intro a b c h1 h2
      rw [ltH] at *
      simp only [Bool.not_eq_true'] at *
      exact ahead_ntrans _ _ _ h2 h1
    · intro a b
      rw [ltH, ltH]
      cases h : ahead (cs.get b) (cs.get a) with
      | false => rfl
      | true =>
        cases h2 : ahead (cs.get a) (cs.get b) with
        | false => rfl
        | true =>
          have := ahead_trans _ _ _ h h2
          rw [ahead_irrefl] at this
          cases this
def heavyA (cs : List S89) : List Int × Bool := if validC cs = true then (heavyL cs, true) else ([], false)
theorem heavy_both (cs : List S89) (hx : cs.length ≤ 1048576) (k : Nat) (hk : 1100000 ≤ k) : spec_HeaviestFirst.f k cs = some (heavyA cs) ∧ impl_HeaviestFirst.f k cs = some (heavyA cs) := by
  unfold spec_HeaviestFirst.f impl_HeaviestFirst.f heavyA
  rw [spec_valid cs hx k (by omega), impl_valid cs hx k (by omega)]
  simp only [Option.bind_some]
  by_cases h : validC cs = true
  · obtain ⟨h1, h2⟩ := valid_dist h
    have e := heavy_l0 cs (by omega) cs.length k 0 [] (by omega) rfl (by simp) (by omega)
    rw [show ((0 : Nat) : Int) = 0 from rfl, heavy_same h1] at e
    rw [if_pos h, if_pos h, if_pos h, if_pos h, e]
    exact ⟨rfl, rfl⟩
  · rw [if_neg h, if_neg h, if_neg h]
    exact ⟨rfl, rfl⟩
end Go.Proofs.Ytlldonokjgoajaa.X
/- What the reference's drawing of inputs answers: it always ends, within its bounds. -/
namespace Go.Proofs.Ytlldonokjgoajaa.X
open Go.RowKit Go.Proofs.YtlldonokjgoajaaW.PrintWords Go.Proofs.YtlldonokjgoajaaW.PrintLast
set_option linter.unusedVariables false
set_option linter.unusedSimpArgs false
/-- The bytes of a code. -/
def Byt (l : List Int) : Prop := l.length ≤ 1000000 ∧ ∀ x ∈ l, 0 ≤ x ∧ x ≤ 255
/-- A cursor's place: not behind m. -/
def At (m a : Int) : Prop := 0 ≤ a ∧ a ≤ m
theorem At.up {m n a : Int} (h : At m a) (hm : m ≤ n) : At n a := ⟨h.1, Int.le_trans h.2 hm⟩
theorem byt_rd {l : List Int} (hl : Byt l) (a : Int) (h0 : 0 ≤ a) (h1 : a < (l.length : Int)) : 0 ≤ rd l a ∧ rd l a ≤ 255 := by
  obtain ⟨n, rfl⟩ : ∃ n : Nat, a = n := ⟨a.toNat, by omega⟩
  rw [rd_nat]
  exact hl.2 _ (getD_mem (by omega))
theorem low_byte (z : Int) : 0 ≤ wrap64 (Go.bits .and .u64 (IntKind.u64.wrap z / 1099511627776) 255) ∧ wrap64 (Go.bits .and .u64 (IntKind.u64.wrap z / 1099511627776) 255) ≤ 255 := by
  rw [IntKind.wrap_u64]
  have h0 : 0 ≤ z % 18446744073709551616 / 1099511627776 := by omega
  have h1 : z % 18446744073709551616 / 1099511627776 < 18446744073709551616 := by omega
  rw [u64_and _ _ h0 h1 (by decide) (by decide)]
  have hle : ((z % 18446744073709551616 / 1099511627776).toNat &&& (255 : Int).toNat) ≤ 255 := Nat.and_le_right
  generalize ((z % 18446744073709551616 / 1099511627776).toNat &&& (255 : Int).toNat) = q at hle
  rw [w64 (by omega) (by omega)]
  omega
theorem next_ok {l : List Int} (hl : Byt l) {m a : Int} (ha : At m a) (hm : m ≤ 1000000000000) (s : Int) : ∃ v a' s', spec_l1Cur_next.f l a s = some (v, a', s') ∧ (0 ≤ v ∧ v ≤ 255) ∧ At (m + 1) a' := by
  obtain ⟨h0, h1⟩ := ha
  have hw : wrap64 (a + 1) = a + 1 := w64 (by omega) (by omega)
  have h2 : At (m + 1) (a + 1) := ⟨by omega, by omega⟩
  unfold spec_l1Cur_next.f
  rw [hw]
  by_cases h : a < (l.length : Int)
  · obtain ⟨r0, r1⟩ := byt_rd hl a h0 h
    rw [if_pos h, if_pos h0, if_pos (by omega)]
    exact ⟨_, _, _, rfl, by rw [w64 (by omega) (by omega)]; exact ⟨r0, r1⟩, h2⟩
  · rw [if_neg h, if_neg (by omega)]
    exact ⟨_, _, _, rfl, low_byte _, h2⟩
theorem pick_ok {l : List Int} (hl : Byt l) {m a : Int} (ha : At m a) (hm : m ≤ 100000000000) (s n : Int) : ∃ v a' s', spec_l1Cur_pick.f l a s n = some (v, a', s') ∧ (0 ≤ v ∧ v ≤ 65535 ∧ (1 ≤ n → v < n)) ∧ At (m + 2) a' := by
  unfold spec_l1Cur_pick.f
  by_cases h : n ≤ 1
  · rw [if_pos h]
    exact ⟨_, _, _, rfl, ⟨by omega, by omega, by omega⟩, ha.up (by omega)⟩
  · rw [if_neg h]
    obtain ⟨v, a1, s1, e1, hv, ha1⟩ := next_ok hl ha (by omega) s
    rw [e1, Option.bind_some]
    have hn0 : ¬ n = 0 := by omega
    by_cases h2 : n > 200
    · rw [if_pos h2]
      obtain ⟨v2, a2, s2, e2, hv2, ha2⟩ := next_ok hl ha1 (by omega) s1
      rw [e2, Option.bind_some, if_neg hn0]
      refine ⟨_, _, _, rfl, ?_, ha2.up (by omega)⟩
      rw [w64 (x := v * 256) (by omega) (by omega), w64 (by omega) (by omega)]
      rw [Int.tmod_eq_emod_of_nonneg (by omega)]
      show 0 ≤ (v * 256 + v2) % n ∧ (v * 256 + v2) % n ≤ 65535 ∧ (1 ≤ n → (v * 256 + v2) % n < n)
      have b1 := Int.emod_nonneg (v * 256 + v2) hn0
      have b2 := Int.emod_lt_of_pos (v * 256 + v2) (b := n) (by omega)
      have b3 : (v * 256 + v2) % n ≤ v * 256 + v2 := by
        by_cases hq : v * 256 + v2 < n
        · rw [Int.emod_eq_of_lt (by omega) hq]; exact Int.le_refl _
        · omega
      exact ⟨b1, by omega, fun _ => b2⟩
    · rw [if_neg h2, if_neg hn0]
      refine ⟨_, _, _, rfl, ?_, ha1.up (by omega)⟩
      show 0 ≤ Int.tmod v n ∧ Int.tmod v n ≤ 65535 ∧ (1 ≤ n → Int.tmod v n < n)
      rw [Int.tmod_eq_emod_of_nonneg hv.1]
      have b1 := Int.emod_nonneg v hn0
      have b2 := Int.emod_lt_of_pos v (b := n) (by omega)
      exact ⟨b1, by omega, fun _ => b2⟩
theorem one_ok {l : List Int} (hl : Byt l) {m a : Int} (ha : At m a) (hm : m ≤ 100000000000) (s n : Int) : ∃ v a' s', spec_l1Cur_one.f l a s n = some (v, a', s') ∧ At (m + 2) a' := by
  obtain ⟨v, a1, s1, e1, _, ha1⟩ := pick_ok hl ha hm s n
  exact ⟨_, _, _, by unfold spec_l1Cur_one.f; rw [e1, Option.bind_some], ha1⟩
theorem of_ok {l : List Int} (hl : Byt l) {m a : Int} (ha : At m a) (hm : m ≤ 100000000000) (s : Int) (xs : List ByteArray) (hx : 1 ≤ xs.length) (P : ByteArray → Prop) (hP : ∀ x ∈ xs, P x) : ∃ v a' s', spec_l1Cur_of.f l a s xs = some (v, a', s') ∧ P v ∧ At (m + 2) a' := by
  obtain ⟨v, a1, s1, e1, hv, ha1⟩ := pick_ok hl ha hm s (xs.length : Int)
  refine ⟨_, _, _, by unfold spec_l1Cur_of.f; rw [e1, Option.bind_some, if_pos hv.1, if_pos (hv.2.2 (by omega))], ?_, ha1⟩
  have := hv.2.2 (by omega)
  exact hP _ (getD_mem (by omega))
theorem among_ok {l : List Int} (hl : Byt l) {m a : Int} (ha : At m a) (hm : m ≤ 100000000000) (s : Int) (xs : List Int) (hx : 1 ≤ xs.length) (P : Int → Prop) (hP : ∀ x ∈ xs, P x) : ∃ v a' s', spec_l1Cur_among.f l a s xs = some (v, a', s') ∧ P v ∧ At (m + 2) a' := by
  obtain ⟨v, a1, s1, e1, hv, ha1⟩ := pick_ok hl ha hm s (xs.length : Int)
  refine ⟨_, _, _, by unfold spec_l1Cur_among.f; rw [e1, Option.bind_some, if_pos hv.1, if_pos (hv.2.2 (by omega))], ?_, ha1⟩
  have := hv.2.2 (by omega)
  exact hP _ (getD_mem (by omega))
theorem spoilt_ok {l : List Int} (hl : Byt l) {m a : Int} (ha : At m a) (hm : m ≤ 1000000000) (s : Int) (t w : ByteArray) (hw : 1 ≤ w.size) (ht : t.size ≤ 1000000000) (hws : w.size ≤ 1000000) : ∃ v a' s', spec_l1Cur_spoilt.f l a s t w = some (v, a', s') ∧ v.size ≤ t.size + 1 ∧ At (m + 6) a' := by
  unfold spec_l1Cur_spoilt.f
  by_cases h : t.toList = ([] : List UInt8)
  · rw [if_pos h, if_pos hw]
    exact ⟨_, _, _, rfl, by rw [ByteArray.size_extract]; omega, ha.up (by omega)⟩
  · rw [if_neg h]
    have hpos : 1 ≤ t.size := by
      rcases Nat.eq_zero_or_pos t.size with h0 | h0
      · refine absurd ?_ h
        obtain ⟨d⟩ := t
        have : d.size = 0 := h0
        obtain rfl : d = #[] := Array.eq_empty_of_size_eq_zero this
        unfold ByteArray.toList ByteArray.toList.loop
        rfl
      · exact h0
    obtain ⟨i, a1, s1, e1, hi, ha1⟩ := pick_ok hl ha (by omega) s (t.size : Int)
    obtain ⟨j, a2, s2, e2, hj, ha2⟩ := pick_ok hl ha1 (by omega) s1 (w.size : Int)
    obtain ⟨c, a3, s3, e3, hc, ha3⟩ := pick_ok hl ha2 (by omega) s2 3
    have hj1 := hj.2.2 (by omega)
    have hi1 := hi.2.2 (by omega)
    rw [e1, Option.bind_some]
    simp only
    rw [e2, Option.bind_some]
    simp only
    rw [e3, Option.bind_some]
    simp only
    rw [if_pos ⟨⟨hi.1, hi1⟩, ⟨hj.1, hj1⟩, by omega, by omega⟩]
    refine ⟨_, _, _, rfl, ?_, ha3.up (by omega)⟩
    unfold spoT spoB
    split
    · simp only [ByteArray.size_append, ByteArray.size_extract]; omega
    · split
      · simp only [ByteArray.size_append, ByteArray.size_extract]; omega
      · simp only [ByteArray.size_append, ByteArray.size_extract]; omega
end Go.Proofs.Ytlldonokjgoajaa.X
/- A text as its bytes. -/
namespace Go.Proofs.Ytlldonokjgoajaa.X
open Go.RowKit Go.Proofs.YtlldonokjgoajaaW.PrintWords Go.Proofs.YtlldonokjgoajaaW.PrintLast
set_option linter.unusedVariables false
set_option linter.unusedSimpArgs false
def bs (s : ByteArray) : List UInt8 := s.data.toList
theorem bs_length (s : ByteArray) : (bs s).length = s.size := Array.length_toList
theorem bt_list (s : ByteArray) (i : Nat) (h : i < s.size) : bt s (i : Int) = (((bs s).getD i 0).toNat : Int) := by
  have h2 : i < (bs s).length := by rw [bs_length]; exact h
  unfold bt
  rw [dif_pos (by simpa using h), List.getD_eq_getElem?_getD, List.getElem?_eq_getElem h2]
  rfl
def tenB : ByteArray := ⟨#[48, 49, 50, 51, 52, 53, 54, 55, 56, 57]⟩
theorem digit_cut (u : Nat) (h : u < 10) : tenB.extract u (u + 1) = ⟨#[UInt8.ofNat (48 + u)]⟩ := by
  match u, h with
  | 0, _ => rfl
  | 1, _ => rfl
  | 2, _ => rfl
  | 3, _ => rfl
  | 4, _ => rfl
  | 5, _ => rfl
  | 6, _ => rfl
  | 7, _ => rfl
  | 8, _ => rfl
  | 9, _ => rfl
  | u + 10, h => omega
def tx (l : List UInt8) : ByteArray := ⟨l.toArray⟩
theorem tx_size (l : List UInt8) : (tx l).size = l.length := rfl
theorem tx_append (a b : List UInt8) : tx a ++ tx b = tx (a ++ b) := by
  unfold tx
  apply ByteArray.ext
  simp
theorem bs_inj {a b : ByteArray} (h : bs a = bs b) : a = b := by
  obtain ⟨⟨x⟩⟩ := a
  obtain ⟨⟨y⟩⟩ := b
  have h2 : x = y := h
  rw [h2]
theorem map_bs_inj : ∀ (a b : List ByteArray), a.map bs = b.map bs → a = b
  | [], [], _ => rfl
  | [], y :: b, h => by simp at h
  | x :: a, [], h => by simp at h
  | x :: a, y :: b, h => by
    simp only [List.map_cons, List.cons.injEq] at h
    rw [bs_inj h.1, map_bs_inj a b h.2]
theorem bs_extract (s : ByteArray) (a b : Nat) : bs (s.extract a b) = ((bs s).take b).drop a := by
  unfold bs
  rw [Lib.extract_data]
  rw [List.drop_take]
end Go.Proofs.Ytlldonokjgoajaa.X
/- The reference's numbered identifiers: three letters, four digits, the check letter. -/
namespace Go.Proofs.Ytlldonokjgoajaa.X
open Go.RowKit Go.Proofs.YtlldonokjgoajaaW.PrintWords Go.Proofs.YtlldonokjgoajaaW.PrintLast
set_option linter.unusedVariables false
set_option linter.unusedSimpArgs false
def dg (u : Nat) : UInt8 := UInt8.ofNat (48 + u)
def dig4 (u : Nat) : List UInt8 := [dg (u / 1000 % 10), dg (u / 100 % 10), dg (u / 10 % 10), dg (u % 10)]
theorem dg_toNat (u : Nat) (h : u < 10) : (dg u).toNat = 48 + u := by
  match u, h with
  | 0, _ => rfl
  | 1, _ => rfl
  | 2, _ => rfl
  | 3, _ => rfl
  | 4, _ => rfl
  | 5, _ => rfl
  | 6, _ => rfl
  | 7, _ => rfl
  | 8, _ => rfl
  | 9, _ => rfl
  | u + 10, h => omega
theorem num_step (u d : Nat) (hu : u < 10000) (hd : 0 < d) (hd2 : d ≤ 1000) (x : ByteArray) (hx : x.size ≤ 1000) (k : Nat) :
    spec_l2Number.l0 (k + 1) (u : Int) x (d : Int) = spec_l2Number.l0 k (u : Int) (x ++ tx [dg (u / d % 10)]) ((d / 10 : Nat) : Int) := by
  have e1 : Int.tdiv (u : Int) (d : Int) = ((u / d : Nat) : Int) := by rw [Int.tdiv_eq_ediv_of_nonneg (Int.natCast_nonneg u)]; rfl
  have e2 : Int.tdiv (d : Int) 10 = ((d / 10 : Nat) : Int) := by rw [Int.tdiv_eq_ediv_of_nonneg (Int.natCast_nonneg d)]; rfl
  have b1 : u / d ≤ u := Nat.div_le_self u d
  have b2 : d / 10 ≤ d := Nat.div_le_self d 10
  obtain ⟨v, hv⟩ : ∃ v, u / d = v := ⟨_, rfl⟩
  obtain ⟨c, hc⟩ : ∃ c, d / 10 = c := ⟨_, rfl⟩
  rw [hv] at b1 e1
  rw [hc] at b2 e2
  have b3 : v % 10 < 10 := Nat.mod_lt _ (by decide)
  obtain ⟨r, hr⟩ : ∃ r, v % 10 = r := ⟨_, rfl⟩
  have e3 : Int.tmod ((v : Nat) : Int) 10 = ((r : Nat) : Int) := by rw [← hr, Int.tmod_eq_emod_of_nonneg (Int.natCast_nonneg v)]; rfl
  rw [hr] at b3
  have hcut : (⟨#[48, 49, 50, 51, 52, 53, 54, 55, 56, 57]⟩ : ByteArray).extract r (r + 1) = tx [dg r] := digit_cut r b3
  rw [hv, hc, hr]
  clear hv hc hr
  have n1 : (d : Int) > 0 := by omega
  have n2 : ¬ (d : Int) = 0 := by omega
  have n3 : (0 : Int) ≤ (r : Int) := by omega
  have n4 : (r : Int) ≤ ((r + 1 : Nat) : Int) := by omega
  have n5 : ((r + 1 : Nat) : Int) ≤ 10 := by omega
  have n6 : x.size + (tx [dg r]).size ≤ 9223372036854775807 := by rw [tx_size, List.length_singleton]; omega
  have q1 : -9223372036854775808 ≤ (v : Int) ∧ (v : Int) ≤ 9223372036854775807 := by omega
  have q2 : -9223372036854775808 ≤ (c : Int) ∧ (c : Int) ≤ 9223372036854775807 := by omega
  have q3 : -9223372036854775808 ≤ ((r + 1 : Nat) : Int) ∧ ((r + 1 : Nat) : Int) ≤ 9223372036854775807 := by omega
  have q4 : (r : Int) + 1 = ((r + 1 : Nat) : Int) := by omega
  rw [spec_l2Number.l0, if_pos n1, if_neg n2, e1, e2, w64 q1.1 q1.2, w64 q2.1 q2.2, e3, q4, w64 q3.1 q3.2, if_pos n3, if_pos n4, if_pos n5, Int.toNat_natCast, Int.toNat_natCast, hcut, if_pos n6]
def nextT (L : ByteArray) (u : Nat) : ByteArray := L ++ tx (dig4 u)
theorem number_ends (L : ByteArray) (u : Nat) (hL : L.size = 3) (hu : u < 10000) (h7 : sevenB (nextT L u) = true) (k : Nat) (hk : 20 ≤ k) :
    spec_l2Number.f k L (u : Int) = some (nextT L u ++ strOfNums [chk (nextT L u)]) := by
  obtain ⟨k, rfl⟩ : ∃ m, k = m + 1 + 1 + 1 + 1 + 1 := ⟨k - 5, by omega⟩
  have e : (((L ++ tx [dg (u / 1000 % 10)]) ++ tx [dg (u / 100 % 10)]) ++ tx [dg (u / 10 % 10)]) ++ tx [dg (u / 1 % 10)] = nextT L u := by
    unfold nextT dig4
    rw [Nat.div_one]
    have aa : ∀ a b c : ByteArray, (a ++ b) ++ c = a ++ (b ++ c) := fun a b c => by
      apply ByteArray.ext
      simp [Array.append_assoc]
    rw [aa, tx_append, aa, tx_append, aa, tx_append]
    rfl
  have hz : (nextT L u).size = 7 := by unfold nextT; rw [ByteArray.size_append, hL]; rfl
  unfold spec_l2Number.f
  rw [show (1000 : Int) = ((1000 : Nat) : Int) from rfl]
  rw [num_step u 1000 hu (by omega) (by omega) L (by omega), show 1000 / 10 = 100 from rfl]
  rw [num_step u 100 hu (by omega) (by omega) _ (by rw [ByteArray.size_append, hL]; show 3 + 1 ≤ 1000; decide), show 100 / 10 = 10 from rfl]
  rw [num_step u 10 hu (by omega) (by omega) _ (by rw [ByteArray.size_append, ByteArray.size_append, hL]; show 3 + 1 + 1 ≤ 1000; decide), show 10 / 10 = 1 from rfl]
  rw [num_step u 1 hu (by omega) (by omega) _ (by rw [ByteArray.size_append, ByteArray.size_append, ByteArray.size_append, hL]; show 3 + 1 + 1 + 1 ≤ 1000; decide), show 1 / 10 = 0 from rfl]
  rw [e, spec_l2Number.l0, if_neg (by omega), spec_check _ k (by omega) h7, Option.bind_some, Option.bind_some]
  rw [if_pos (by rw [hz]; show 7 + 1 ≤ 9223372036854775807; decide)]
theorem okFrom_at (s : ByteArray) : ∀ d : Nat, okFrom s d = true → ∀ i : Int, 7 - (d : Int) ≤ i → i < 7 → OkAt s i
  | 0, _, i, h1, h2 => by omega
  | d + 1, h, i, h1, h2 => by
    rw [okFrom, Bool.and_eq_true, decide_eq_true_eq] at h
    by_cases e : i = 6 - (d : Int)
    · rw [e]; exact h.1
    · exact okFrom_at s d h.2 i (by omega) h2
theorem okFrom_mk (s : ByteArray) (h : ∀ i : Int, 0 ≤ i → i < 7 → OkAt s i) : ∀ d : Nat, d ≤ 7 → okFrom s d = true
  | 0, _ => rfl
  | d + 1, hd => by
    rw [okFrom, Bool.and_eq_true, decide_eq_true_eq]
    exact ⟨h _ (by omega) (by omega), okFrom_mk s h d (by omega)⟩
theorem seven_bytes {s : ByteArray} (h : sevenB s = true) : s.size = 7 ∧ ∀ i : Int, 0 ≤ i → i < 7 → OkAt s i := by
  unfold sevenB at h
  rw [Bool.and_eq_true, decide_eq_true_eq] at h
  exact ⟨h.1, fun i h0 h1 => okFrom_at s 7 h.2 i (by omega) h1⟩
theorem cut_at (s : ByteArray) (a b j : Nat) (hb : b ≤ s.size) (hj : a + j < b) : (bs (s.extract a b)).getD j 0 = (bs s).getD (a + j) 0 := by
  rw [bs_extract, List.getD_eq_getElem?_getD, List.getD_eq_getElem?_getD, List.getElem?_drop, List.getElem?_take, if_pos hj]
theorem id_bytes {s : ByteArray} (h : idB s = true) : s.size = 8 ∧ (∀ i : Nat, i < 3 → 65 ≤ ((bs s).getD i 0).toNat ∧ ((bs s).getD i 0).toNat ≤ 90) ∧ (∀ j : Nat, j < 4 → 48 ≤ ((bs s).getD (3 + j) 0).toNat ∧ ((bs s).getD (3 + j) 0).toNat ≤ 57) := by
  unfold idB at h
  rw [Bool.and_eq_true, Bool.and_eq_true, decide_eq_true_eq] at h
  obtain ⟨⟨h8, h7⟩, _⟩ := h
  obtain ⟨hz, ho⟩ := seven_bytes h7
  have key : ∀ i : Nat, i < 7 → bt (s.extract 0 7) (i : Int) = (((bs s).getD i 0).toNat : Int) := by
    intro i hi
    have := cut_at s 0 7 i (by omega) (by omega)
    rw [Nat.zero_add] at this
    rw [bt_list _ i (by omega), this]
  refine ⟨h8, fun i hi => ?_, fun j hj => ?_⟩
  · have := ho (i : Int) (by omega) (by omega)
    unfold OkAt at this
    rw [if_pos (by omega), key i (by omega)] at this
    omega
  · have := ho ((3 + j : Nat) : Int) (by omega) (by omega)
    unfold OkAt at this
    rw [if_neg (by omega), key (3 + j) (by omega)] at this
    omega
theorem seven_next {s : ByteArray} (h : idB s = true) (u : Nat) (hu : u < 10000) : sevenB (nextT (s.extract 0 3) u) = true := by
  obtain ⟨h8, hl, _⟩ := id_bytes h
  have hz : (nextT (s.extract 0 3) u).size = 7 := by
    unfold nextT
    rw [ByteArray.size_append, ByteArray.size_extract, tx_size]
    show min 3 s.size - 0 + 4 = 7
    omega
  have hb : bs (nextT (s.extract 0 3) u) = (bs s).take 3 ++ dig4 u := by
    unfold nextT
    have e := bs_extract s 0 3
    rw [List.drop_zero] at e
    rw [← e]
    simp [bs, tx]
  have h3 : ((bs s).take 3).length = 3 := by rw [List.length_take, bs_length]; omega
  unfold sevenB
  rw [Bool.and_eq_true, decide_eq_true_eq]
  refine ⟨hz, okFrom_mk _ (fun i h0 h7 => ?_) 7 (Nat.le_refl _)⟩
  obtain ⟨n, rfl⟩ : ∃ n : Nat, i = (n : Int) := ⟨i.toNat, by omega⟩
  unfold OkAt
  rw [bt_list _ n (by omega), hb]
  by_cases hn : n < 3
  · rw [if_pos (by omega), List.getD_eq_getElem?_getD, List.getElem?_append_left (by omega), List.getElem?_take, if_pos hn, ← List.getD_eq_getElem?_getD]
    have := hl n hn
    omega
  · rw [if_neg (by omega), List.getD_eq_getElem?_getD, List.getElem?_append_right (by omega), h3, ← List.getD_eq_getElem?_getD]
    have m1 := dg_toNat (u / 1000 % 10) (by omega)
    have m2 := dg_toNat (u / 100 % 10) (by omega)
    have m3 := dg_toNat (u / 10 % 10) (by omega)
    have m4 := dg_toNat (u % 10) (by omega)
    obtain h | h | h | h : n = 3 ∨ n = 4 ∨ n = 5 ∨ n = 6 := by omega
    · subst h
      show (48 : Int) ≤ ((dg (u / 1000 % 10)).toNat : Int) ∧ ((dg (u / 1000 % 10)).toNat : Int) ≤ 57
      rw [m1]; omega
    · subst h
      show (48 : Int) ≤ ((dg (u / 100 % 10)).toNat : Int) ∧ ((dg (u / 100 % 10)).toNat : Int) ≤ 57
      rw [m2]; omega
    · subst h
      show (48 : Int) ≤ ((dg (u / 10 % 10)).toNat : Int) ∧ ((dg (u / 10 % 10)).toNat : Int) ≤ 57
      rw [m3]; omega
    · subst h
      show (48 : Int) ≤ ((dg (u % 10)).toNat : Int) ∧ ((dg (u % 10)).toNat : Int) ≤ 57
      rw [m4]; omega
end Go.Proofs.Ytlldonokjgoajaa.X
/- Drawing identifiers: it always ends, with a text of at most nine bytes. -/
namespace Go.Proofs.Ytlldonokjgoajaa.X
open Go.RowKit Go.Proofs.YtlldonokjgoajaaW.PrintWords Go.Proofs.YtlldonokjgoajaaW.PrintLast
set_option linter.unusedVariables false
set_option linter.unusedSimpArgs false
/-- Three letters: whatever number follows, it is an identifier. -/
def Letters (L : ByteArray) : Prop := L.size = 3 ∧ ∀ u, u < 10000 → sevenB (nextT L u) = true
theorem letters_of (s : ByteArray) (h : idB s = true) : Letters (s.extract 0 3) := by
  refine ⟨?_, fun u hu => seven_next h u hu⟩
  obtain ⟨h8, _⟩ := id_bytes h
  rw [ByteArray.size_extract]; omega
theorem l_ABC : Letters (⟨#[65, 66, 67]⟩ : ByteArray) := letters_of ⟨#[65, 66, 67, 48, 48, 48, 48, 85]⟩ (by decide +kernel)
theorem l_XYZ : Letters (⟨#[88, 89, 90]⟩ : ByteArray) := letters_of ⟨#[88, 89, 90, 48, 48, 48, 48, 85]⟩ (by decide +kernel)
theorem l_SEA : Letters (⟨#[83, 69, 65]⟩ : ByteArray) := letters_of ⟨#[83, 69, 65, 48, 48, 48, 48, 76]⟩ (by decide +kernel)
theorem l_ZZZ : Letters (⟨#[90, 90, 90]⟩ : ByteArray) := letters_of ⟨#[90, 90, 90, 48, 48, 48, 48, 69]⟩ (by decide +kernel)
theorem l_QQQ : Letters (⟨#[81, 81, 81]⟩ : ByteArray) := letters_of ⟨#[81, 81, 81, 48, 48, 48, 48, 80]⟩ (by decide +kernel)
theorem l_MAX : Letters (⟨#[77, 65, 88]⟩ : ByteArray) := letters_of ⟨#[77, 65, 88, 48, 48, 48, 48, 75]⟩ (by decide +kernel)
theorem number_ok {L : ByteArray} (h : Letters L) (n : Int) (h0 : 0 ≤ n) (h1 : n < 10000) (k : Nat) (hk : 20 ≤ k) : ∃ v, spec_l2Number.f k L n = some v ∧ v.size = 8 := by
  obtain ⟨u, rfl⟩ : ∃ u : Nat, n = u := ⟨n.toNat, by omega⟩
  refine ⟨_, number_ends L u h.1 (by omega) (h.2 u (by omega)) k hk, ?_⟩
  unfold nextT
  rw [ByteArray.size_append, ByteArray.size_append, h.1]
  rfl
theorem id_ok {l : List Int} (hl : Byt l) {m a : Int} (ha : At m a) (hm : m ≤ 1000000000) (s : Int) (k : Nat) (hk : 20 ≤ k) : ∃ v a' s', spec_l1Cur_id.f k l a s = some (v, a', s') ∧ v.size = 8 ∧ At (m + 6) a' := by
  unfold spec_l1Cur_id.f
  obtain ⟨L, a1, s1, e1, hL, ha1⟩ := of_ok hl ha (by omega) s ([(⟨#[65, 66, 67]⟩ : ByteArray), (⟨#[88, 89, 90]⟩ : ByteArray), (⟨#[83, 69, 65]⟩ : ByteArray), (⟨#[90, 90, 90]⟩ : ByteArray)] : List ByteArray) (by decide) Letters
    (by intro x hx; simp only [List.mem_cons, List.not_mem_nil, or_false] at hx; rcases hx with rfl | rfl | rfl | rfl; exact l_ABC; exact l_XYZ; exact l_SEA; exact l_ZZZ)
  rw [e1, Option.bind_some]
  obtain ⟨x, a2, s2, e2, hx, ha2⟩ := pick_ok hl ha1 (by omega) s1 200
  simp only
  rw [e2, Option.bind_some]
  obtain ⟨y, a3, s3, e3, hy, ha3⟩ := among_ok hl ha2 (by omega) s2 ([1, 7, 50] : List Int) (by decide) (fun y => 1 ≤ y ∧ y ≤ 50) (by decide)
  simp only
  rw [e3, Option.bind_some]
  have hx2 := hx.2.2 (by omega)
  have hx0 := hx.1
  have hp : 0 ≤ x * y ∧ x * y < 10000 := by
    refine ⟨Int.mul_nonneg hx0 (by omega), ?_⟩
    have : x * y ≤ 199 * 50 := Int.mul_le_mul (by omega) hy.2 (by omega) (by omega)
    omega
  obtain ⟨v, ev, hv⟩ := number_ok hL (x * y) hp.1 hp.2 k hk
  simp only
  rw [w64 (by omega) (by omega), ev, Option.bind_some]
  exact ⟨_, _, _, rfl, hv, ha3.up (by omega)⟩
theorem anyId_ok {l : List Int} (hl : Byt l) {m a : Int} (ha : At m a) (hm : m ≤ 100000000) (s : Int) (k : Nat) (hk : 21 ≤ k) : ∃ v a' s', spec_l1Cur_anyId.f k l a s = some (v, a', s') ∧ v.size ≤ 9 ∧ At (m + 16) a' := by
  have key : ∀ (x : ByteArray) (a s : Int), x.size ≤ 9 → At (m + 14) a → ∃ v a' s', spec_l1Cur_anyId.j0 k x l a s = some (v, a', s') ∧ v.size ≤ 9 ∧ At (m + 16) a' := by
    intro x a s hx ha
    obtain ⟨k, rfl⟩ := kpos (d := 0) (k := k) (by omega)
    obtain ⟨b, a1, s1, e1, ha1⟩ := one_ok hl ha (by omega) s 24
    simp only [spec_l1Cur_anyId.j0]
    rw [e1, Option.bind_some]
    simp only
    by_cases hb : b = true
    · obtain ⟨v, ev, hv⟩ := number_ok l_QQQ 9999 (by decide) (by decide) k (by omega)
      rw [if_pos hb, ev, Option.bind_some]
      exact ⟨_, _, _, rfl, by omega, ha1.up (by omega)⟩
    · rw [if_neg hb]
      exact ⟨_, _, _, rfl, hx, ha1.up (by omega)⟩
  unfold spec_l1Cur_anyId.f
  obtain ⟨i, a1, s1, e1, hi, ha1⟩ := id_ok hl ha (by omega) s k (by omega)
  rw [e1, Option.bind_some]
  simp only
  obtain ⟨b, a2, s2, e2, ha2⟩ := one_ok hl ha1 (by omega) s1 8
  rw [e2, Option.bind_some]
  simp only
  by_cases hb : b = true
  · obtain ⟨v, a3, s3, e3, hv, ha3⟩ := spoilt_ok hl ha2 (by omega) s2 i (⟨#[65, 48, 66, 49]⟩ : ByteArray) (by decide) (by omega) (by decide)
    rw [if_pos hb, e3, Option.bind_some]
    exact key _ _ _ (by simp only; omega) (ha3.up (by omega))
  · rw [if_neg hb]
    exact key _ _ _ (by omega) (ha2.up (by omega))
end Go.Proofs.Ytlldonokjgoajaa.X
/- Drawing containers and lists of containers: it always ends; a list is short. -/
namespace Go.Proofs.Ytlldonokjgoajaa.X
open Go.RowKit Go.Proofs.YtlldonokjgoajaaW.PrintWords Go.Proofs.YtlldonokjgoajaaW.PrintLast
set_option linter.unusedVariables false
set_option linter.unusedSimpArgs false
theorem container_ok {l : List Int} (hl : Byt l) {m a : Int} (ha : At m a) (hm : m ≤ 100000000) (s : Int) (k : Nat) (hk : 20 ≤ k) :
    ∃ id b c d e a' s', spec_l1Cur_container.f k l a s = some (id, b, c, d, e, a', s') ∧ id.size = 8 ∧ (1 ≤ b ∧ b ≤ 2) ∧ (1 ≤ c ∧ c ≤ 32000) ∧ (1 ≤ d ∧ d ≤ 3) ∧ (1 ≤ e ∧ e ≤ 4) ∧ At (m + 14) a' := by
  unfold spec_l1Cur_container.f
  obtain ⟨v, a1, s1, e1, hv, ha1⟩ := id_ok hl ha (by omega) s k hk
  rw [e1, Option.bind_some]
  dsimp only
  obtain ⟨x, a2, s2, e2, hx, ha2⟩ := pick_ok hl ha1 (by omega) s1 2
  have hx2 := hx.2.2 (by omega)
  have hx0 := hx.1
  rw [e2, Option.bind_some]
  dsimp only
  obtain ⟨y, a3, s3, e3, hy, ha3⟩ := among_ok hl ha2 (by omega) s2 ([1, 2000, 8000, 12000, 20000, 28000, 32000] : List Int) (by decide) (fun y => 1 ≤ y ∧ y ≤ 32000) (by decide)
  rw [e3, Option.bind_some]
  dsimp only
  obtain ⟨z, a4, s4, e4, hz, ha4⟩ := among_ok hl ha3 (by omega) s3 ([1, 1, 2, 3] : List Int) (by decide) (fun y => 1 ≤ y ∧ y ≤ 3) (by decide)
  rw [e4, Option.bind_some]
  dsimp only
  obtain ⟨p, a5, s5, e5, hp, ha5⟩ := pick_ok hl ha4 (by omega) s4 4
  have hp2 := hp.2.2 (by omega)
  have hp0 := hp.1
  rw [e5, Option.bind_some]
  dsimp only
  rw [w64 (show -9223372036854775808 ≤ 1 + x by omega) (by omega), w64 (show -9223372036854775808 ≤ 1 + p by omega) (by omega)]
  exact ⟨_, _, _, _, _, _, _, rfl, hv, by omega, hy, hz, by omega, ha5.up (by omega)⟩
theorem anyContainer_ok {l : List Int} (hl : Byt l) {m a : Int} (ha : At m a) (hm : m ≤ 10000000) (s : Int) (k : Nat) (hk : 21 ≤ k) :
    ∃ id b c d e a' s', spec_l1Cur_anyContainer.f k l a s = some (id, b, c, d, e, a', s') ∧ id.size ≤ 9 ∧ At (m + 32) a' := by
  unfold spec_l1Cur_anyContainer.f
  obtain ⟨id, b, c, d, e, a1, s1, e1, hid, _, _, _, _, ha1⟩ := container_ok hl ha (by omega) s k (by omega)
  rw [e1, Option.bind_some]
  dsimp only
  obtain ⟨x, a2, s2, e2, hx, ha2⟩ := pick_ok hl ha1 (by omega) s1 24
  rw [e2, Option.bind_some]
  dsimp only
  by_cases h0 : x = 0
  · rw [if_pos h0]
    obtain ⟨v, a3, s3, e3, hv, ha3⟩ := anyId_ok hl ha2 (by omega) s2 k (by omega)
    rw [e3, Option.bind_some]
    exact ⟨_, _, _, _, _, _, _, rfl, hv, ha3.up (by omega)⟩
  rw [if_neg h0]
  by_cases h1 : x = 1
  · rw [if_pos h1]
    obtain ⟨v, a3, s3, e3, hv, ha3⟩ := among_ok hl ha2 (by omega) s2 ([0, 3, 2] : List Int) (by decide) (fun _ => True) (fun _ _ => trivial)
    rw [e3, Option.bind_some]
    exact ⟨_, _, _, _, _, _, _, rfl, by omega, ha3.up (by omega)⟩
  rw [if_neg h1]
  by_cases h2 : x = 2
  · rw [if_pos h2]
    obtain ⟨v, a3, s3, e3, hv, ha3⟩ := among_ok hl ha2 (by omega) s2 ([0, 32001, 32000, 1] : List Int) (by decide) (fun _ => True) (fun _ _ => trivial)
    rw [e3, Option.bind_some]
    exact ⟨_, _, _, _, _, _, _, rfl, by omega, ha3.up (by omega)⟩
  rw [if_neg h2]
  by_cases h3 : x = 3
  · rw [if_pos h3]
    obtain ⟨v, a3, s3, e3, hv, ha3⟩ := among_ok hl ha2 (by omega) s2 ([0, 4, 3] : List Int) (by decide) (fun _ => True) (fun _ _ => trivial)
    rw [e3, Option.bind_some]
    exact ⟨_, _, _, _, _, _, _, rfl, by omega, ha3.up (by omega)⟩
  rw [if_neg h3]
  by_cases h4 : x = 4
  · rw [if_pos h4]
    obtain ⟨v, a3, s3, e3, hv, ha3⟩ := among_ok hl ha2 (by omega) s2 ([0, 10, 9] : List Int) (by decide) (fun _ => True) (fun _ _ => trivial)
    rw [e3, Option.bind_some]
    exact ⟨_, _, _, _, _, _, _, rfl, by omega, ha3.up (by omega)⟩
  rw [if_neg h4]
  exact ⟨_, _, _, _, _, _, _, rfl, by omega, ha2.up (by omega)⟩
/-- Containers whose numbers are short texts. -/
def Short (xs : List S89) : Prop := ∀ x ∈ xs, x.f0.size ≤ 9
theorem Short.snoc {xs : List S89} (h : Short xs) (x : S89) (hx : x.f0.size ≤ 9) : Short (xs ++ [x]) := by
  intro y hy
  rcases List.mem_append.1 hy with h1 | h1
  · exact h y h1
  · rw [List.mem_singleton.1 h1]; exact hx
theorem containers_l1 {l : List Int} (hl : Byt l) (d : Nat) : ∀ (k : Nat) (xs : List S89) (i m a s : Int), Short xs → 0 ≤ i → i + d = 14 → d + 25 < k → (xs.length : Int) ≤ 8 + i → At m a → m + 2 * d ≤ 10000000 →
    ∃ ys a' s', spec_l1Cur_containers.l1 k xs i l a s = some (ys, a', s') ∧ ys.length ≤ 30 ∧ Short ys ∧ At (m + 2 * d + 2) a' := by
  induction d with
  | zero =>
    intro k xs i m a s hxs h0 hi hk hx ha hm
    obtain ⟨k, rfl⟩ := kpos (d := 0) (k := k) (by omega)
    obtain ⟨v, a1, s1, e1, hv, ha1⟩ := pick_ok hl ha (by omega) s 2
    simp only [spec_l1Cur_containers.l1]
    rw [e1, Option.bind_some]
    dsimp only
    have hn : ¬ i < 14 := by omega
    by_cases hc : (xs.length : Int) < wrap64 (12 + v)
    · rw [if_pos hc, if_neg hn]
      exact ⟨_, _, _, rfl, by omega, hxs, ha1.up (by omega)⟩
    · rw [if_neg hc]
      exact ⟨_, _, _, rfl, by omega, hxs, ha1.up (by omega)⟩
  | succ d ih =>
    intro k xs i m a s hxs h0 hi hk hx ha hm
    obtain ⟨k, rfl⟩ := kpos (d := 0) (k := k) (by omega)
    obtain ⟨v, a1, s1, e1, hv, ha1⟩ := pick_ok hl ha (by omega) s 2
    simp only [spec_l1Cur_containers.l1]
    rw [e1, Option.bind_some]
    dsimp only
    have hn : i < 14 := by omega
    by_cases hc : (xs.length : Int) < wrap64 (12 + v)
    · obtain ⟨t, et, ht⟩ := number_ok l_MAX i h0 (by omega) k (by omega)
      rw [if_pos hc, if_pos hn, et, Option.bind_some, if_pos (by omega), w64 (show -9223372036854775808 ≤ i + 1 by omega) (by omega)]
      obtain ⟨ys, a2, s2, q1, q2, q3, q4⟩ := ih k (xs ++ [(⟨t, 1, wrap64 (100 + i), 1, wrap64 (1 + Int.tmod i 9)⟩ : S89)]) (i + 1) (m + 2) a1 s1 (hxs.snoc _ (by show t.size ≤ 9; omega)) (by omega) (by omega) (by omega) (by rw [List.length_append, List.length_singleton]; omega) ha1 (by omega)
      exact ⟨ys, a2, s2, q1, q2, q3, q4.up (by omega)⟩
    · rw [if_neg hc]
      exact ⟨_, _, _, rfl, by omega, hxs, ha1.up (by omega)⟩
theorem containers_l0 {l : List Int} (hl : Byt l) (d : Nat) : ∀ (k : Nat) (xs : List S89) (n m a s : Int), Short xs → n = d → d + 1048700 < k → (xs.length : Int) + d ≤ 8 → At m a → m + 14 * d ≤ 1000000 →
    ∃ ys a' s', spec_l1Cur_containers.l0 k xs n l a s = some (ys, a', s') ∧ ys.length ≤ 30 ∧ Short ys ∧ At (m + 14 * d + 34) a' := by
  induction d with
  | zero =>
    intro k xs n m a s hxs hn hk hx ha hm
    obtain ⟨k, rfl⟩ := kpos (d := 0) (k := k) (by omega)
    simp only [spec_l1Cur_containers.l0]
    rw [if_neg (by omega)]
    obtain ⟨v, a1, s1, e1, hv, ha1⟩ := pick_ok hl ha (by omega) s 20
    rw [e1, Option.bind_some]
    dsimp only
    by_cases h0 : v = 0
    · obtain ⟨id, b, c, dd, e, a2, s2, e2, hid, ha2⟩ := anyContainer_ok hl ha1 (by omega) s1 k (by omega)
      rw [if_pos h0, e2, Option.bind_some, if_pos (by omega)]
      exact ⟨_, _, _, rfl, by rw [List.length_append, List.length_singleton]; omega, hxs.snoc _ hid, ha2.up (by omega)⟩
    rw [if_neg h0]
    by_cases h1 : v = 1
    · rw [if_pos h1]
      by_cases hp : (xs.length : Int) > 0
      · obtain ⟨j, a2, s2, e2, hj, ha2⟩ := pick_ok hl ha1 (by omega) s1 (xs.length : Int)
        have hj2 := hj.2.2 (by omega)
        have hj0 := hj.1
        rw [if_pos hp, e2, Option.bind_some]
        dsimp only
        rw [if_pos hj0, if_pos hj2, if_pos (by omega)]
        refine ⟨_, _, _, rfl, by rw [List.length_append, List.length_singleton]; omega, hxs.snoc _ ?_, ha2.up (by omega)⟩
        show (rd_T89 xs j).f0.size ≤ 9
        obtain ⟨q, rfl⟩ : ∃ q : Nat, j = q := ⟨j.toNat, by omega⟩
        rw [rdC61_nat]
        exact hxs _ (getD_mem (by omega))
      · rw [if_neg hp]
        exact ⟨_, _, _, rfl, by omega, hxs, ha1.up (by omega)⟩
    rw [if_neg h1]
    by_cases h2 : v = 2
    · rw [if_pos h2]
      obtain ⟨ys, a2, s2, q1, q2, q3, q4⟩ := containers_l1 hl 14 k xs 0 _ a1 s1 hxs (by omega) (by omega) (by omega) (by omega) ha1 (by omega)
      exact ⟨ys, a2, s2, q1, q2, q3, q4.up (by omega)⟩
    · rw [if_neg h2]
      exact ⟨_, _, _, rfl, by omega, hxs, ha1.up (by omega)⟩
  | succ d ih =>
    intro k xs n m a s hxs hn hk hx ha hm
    obtain ⟨k, rfl⟩ := kpos (d := 0) (k := k) (by omega)
    obtain ⟨id, b, c, dd, e, a1, s1, e1, hid, _, _, _, _, ha1⟩ := container_ok hl ha (by omega) s k (by omega)
    have hf := Find_ends xs id (by omega) k (by omega)
    simp only [spec_l1Cur_containers.l0]
    rw [if_pos (by omega), e1, Option.bind_some]
    dsimp only
    rw [hf, Option.bind_some, w64 (show -9223372036854775808 ≤ n - 1 by omega) (by omega)]
    by_cases ht : idxI (sameId id) xs 0 < 0
    · rw [if_pos ht, if_pos (by omega)]
      obtain ⟨ys, a2, s2, q1, q2, q3, q4⟩ := ih k (xs ++ [(⟨id, b, c, dd, e⟩ : S89)]) (n - 1) (m + 14) a1 s1 (hxs.snoc _ (by show id.size ≤ 9; omega)) (by omega) (by omega) (by rw [List.length_append, List.length_singleton]; omega) ha1 (by omega)
      exact ⟨ys, a2, s2, q1, q2, q3, q4.up (by omega)⟩
    · rw [if_neg ht]
      obtain ⟨ys, a2, s2, q1, q2, q3, q4⟩ := ih k xs (n - 1) (m + 14) a1 s1 hxs (by omega) (by omega) (by omega) ha1 (by omega)
      exact ⟨ys, a2, s2, q1, q2, q3, q4.up (by omega)⟩
theorem containers_ok {l : List Int} (hl : Byt l) {m a : Int} (ha : At m a) (hm : m ≤ 100000) (s : Int) (k : Nat) (hk : 1048800 ≤ k) :
    ∃ ys a' s', spec_l1Cur_containers.f k l a s = some (ys, a', s') ∧ ys.length ≤ 30 ∧ Short ys ∧ At (m + 150) a' := by
  unfold spec_l1Cur_containers.f
  obtain ⟨v, a1, s1, e1, hv, ha1⟩ := pick_ok hl ha (by omega) s 8
  have hv2 := hv.2.2 (by omega)
  have hv0 := hv.1
  rw [e1, Option.bind_some]
  dsimp only
  obtain ⟨n, rfl⟩ : ∃ n : Nat, v = n := ⟨v.toNat, by omega⟩
  obtain ⟨ys, a2, s2, q1, q2, q3, q4⟩ := containers_l0 hl n k [] (n : Int) (m + 2) a1 s1 (fun x hx => by cases hx) rfl (by omega) (by simp; omega) ha1 (by omega)
  exact ⟨ys, a2, s2, q1, q2, q3, q4.up (by omega)⟩
end Go.Proofs.Ytlldonokjgoajaa.X
namespace Go.Proofs.Ytlldonokjgoajaa.Pure
open Go.RowKit Go.Sort Go.Proofs.Ytlldonokjgoajaa.X Go.Proofs.YtlldonokjgoajaaW.PrintWords Go.Proofs.YtlldonokjgoajaaW.PrintLast
set_option linter.unusedVariables false
set_option linter.unusedSimpArgs false
theorem vInts_loop (xs : List Int) (hx : xs.length ≤ 1000) (d : Nat) : ∀ (k i : Nat), i + d = xs.length → d < k → laws_vInts.l0 k xs xs (i : Int) = some true := by
  induction d with
  | zero =>
    intro k i hi hk
    obtain ⟨k, rfl⟩ := kpos hk
    simp only [laws_vInts.l0]
    rw [if_neg (by omega)]
  | succ d ih =>
    intro k i hi hk
    obtain ⟨k, rfl⟩ := kpos hk
    have hlt : i < xs.length := by omega
    simp only [laws_vInts.l0]
    rw [if_pos (by omega), if_pos (by omega), if_pos (by omega), if_pos trivial, wnext hlt (by omega)]
    exact ih k (i + 1) (by omega) (by omega)
theorem vInts_refl (xs : List Int) (hx : xs.length ≤ 1000) (k : Nat) (hk : 1001 ≤ k) : laws_vInts.f k xs xs = some true := by
  unfold laws_vInts.f
  rw [if_pos rfl]
  have := vInts_loop xs hx xs.length k 0 (by omega) (by omega)
  rw [show ((0 : Nat) : Int) = 0 from rfl] at this
  exact this
/-- The numbers of the containers for a port. -/
def pick (p : Int) : List S89 → List ByteArray
  | [] => []
  | x :: r => if x.f4 = p then x.f0 :: pick p r else pick p r
theorem pick_length (p : Int) : ∀ cs : List S89, (pick p cs).length ≤ cs.length
  | [] => Nat.le_refl _
  | x :: r => by
    have := pick_length p r
    simp only [pick]
    split
    · simp only [List.length_cons]; omega
    · simp only [List.length_cons]; omega
theorem for_loop (cs : List S89) (p : Int) (hx : cs.length ≤ 1048576) (d : Nat) : ∀ (k i : Nat) (out : List ByteArray), i + d = cs.length → d < k → out.length + d ≤ 1048576 → impl_ContainersFor.l0 k p out cs (cs.length : Int) (i : Int) = some (out ++ pick p (cs.drop i), true) := by
  induction d with
  | zero =>
    intro k i out hi hk ho
    obtain ⟨k, rfl⟩ := kpos hk
    simp only [impl_ContainersFor.l0]
    rw [if_neg (by omega), List.drop_of_length_le (by omega)]
    simp [pick]
  | succ d ih =>
    intro k i out hi hk ho
    obtain ⟨k, rfl⟩ := kpos hk
    have hlt : i < cs.length := by omega
    simp only [impl_ContainersFor.l0]
    rw [if_pos (by omega), if_pos (by omega), if_pos (by omega), rdC61_nat, getD_cons (z := z89) hlt, wnext hlt (by omega)]
    simp only [pick]
    by_cases h : (cs.getD i z89).f4 = p
    · rw [if_pos h, if_pos h, if_pos (by omega), ih k (i + 1) _ (by omega) (by omega) (by simp only [List.length_append, List.length_singleton]; omega)]
      simp
    · rw [if_neg h, if_neg h, ih k (i + 1) _ (by omega) (by omega) (by omega)]
theorem for_impl (cs : List S89) (p : Int) (hl : cs.length ≤ 1048576) (h : validC cs = true) (h2 : inB p 1 9 = true) (k : Nat) (hk : 1048700 ≤ k) : impl_ContainersFor.f k cs p = some (pick p cs, true) := by
  obtain ⟨k, rfl⟩ := kpos (d := 0) (k := k) (by omega)
  unfold impl_ContainersFor.f
  rw [impl_valid _ hl _ (by omega), within_ends]
  simp only [Option.bind_some]
  rw [if_pos h, h2]
  simp only [impl_ContainersFor.j0, Bool.not_true, Bool.false_eq_true, if_false]
  have e2 := for_loop cs p hl cs.length k 0 [] (by omega) (by omega) (by simp; omega)
  rw [show ((0 : Nat) : Int) = 0 from rfl, List.drop_zero, List.nil_append] at e2
  exact e2
def sumW : List S89 → Int
  | [] => 0
  | x :: r => x.f2 + sumW r
def sumU : List S89 → Int
  | [] => 0
  | x :: r => x.f1 + sumU r
/-- Containers as they may be. -/
def GoodL (cs : List S89) : Prop := ∀ x ∈ cs, goodC x = true
theorem wprev {i : Nat} (h : i ≤ 1000) : wrap64 (((i + 1 : Nat) : Int) - 1) = (i : Int) := by
  rw [w64 (by omega) (by omega)]
  omega
theorem inB_iff {x a b : Int} : inB x a b = true ↔ a ≤ x ∧ x ≤ b := by unfold inB; simp
theorem good_bounds {x : S89} (h : goodC x = true) : (1 ≤ x.f1 ∧ x.f1 ≤ 2) ∧ (1 ≤ x.f2 ∧ x.f2 ≤ 32000) ∧ (1 ≤ x.f4 ∧ x.f4 ≤ 9) := by
  unfold goodC goodB at h
  simp only [Bool.and_eq_true, inB_iff] at h
  omega
theorem valid_goodL {cs : List S89} (h : validC cs = true) : GoodL cs := by
  unfold validC at h
  simp only [Bool.and_eq_true, decide_eq_true_eq] at h
  intro x hx
  obtain ⟨i, hi, rfl⟩ := List.mem_iff_getElem.1 hx
  have := listC_get cs cs.length 0 h.2 i (Nat.zero_le _) (by omega)
  unfold stepC at this
  simp only [Bool.and_eq_true] at this
  rw [List.getD_eq_getElem?_getD, List.getElem?_eq_getElem hi] at this
  exact this.1
theorem sums_bounds : ∀ cs : List S89, GoodL cs → 0 ≤ sumW cs ∧ sumW cs ≤ 32000 * cs.length ∧ (cs.length : Int) ≤ sumU cs ∧ sumU cs ≤ 2 * cs.length
  | [], _ => by simp [sumW, sumU]
  | x :: r, h => by
    have h1 := good_bounds (h x List.mem_cons_self)
    have h2 := sums_bounds r (fun y hy => h y (List.mem_cons_of_mem _ hy))
    simp only [sumW, sumU, List.length_cons]
    omega
theorem GoodL.drop {cs : List S89} (h : GoodL cs) (n : Nat) : GoodL (cs.drop n) := fun x hx => h x (List.mem_of_mem_drop hx)
theorem weight_loop (cs : List S89) (hg : GoodL cs) (hx : cs.length ≤ 12) (d : Nat) : ∀ (k i : Nat) (a : Int), i + d = cs.length → d < k → 0 ≤ a → a ≤ 32000 * i → impl_TotalWeight.l0 k a cs (cs.length : Int) (i : Int) = some (a + sumW (cs.drop i), true) := by
  induction d with
  | zero =>
    intro k i a hi hk h0 h1
    obtain ⟨k, rfl⟩ := kpos hk
    simp only [impl_TotalWeight.l0]
    rw [if_neg (by omega), List.drop_of_length_le (by omega)]
    simp [sumW]
  | succ d ih =>
    intro k i a hi hk h0 h1
    obtain ⟨k, rfl⟩ := kpos hk
    have hlt : i < cs.length := by omega
    have hb := good_bounds (hg _ (getD_mem (z := z89) hlt))
    simp only [impl_TotalWeight.l0]
    rw [if_pos (by omega), if_pos (by omega), if_pos (by omega), rdC61_nat, w64 (x := a + (cs.getD i z89).f2) (by omega) (by omega), wnext hlt (by omega), ih k (i + 1) _ (by omega) (by omega) (by omega) (by omega), getD_cons (z := z89) hlt]
    simp only [sumW, Int.add_assoc]
theorem units_loop (cs : List S89) (hg : GoodL cs) (hx : cs.length ≤ 12) (d : Nat) : ∀ (k i : Nat) (a : Int), i + d = cs.length → d < k → 0 ≤ a → a ≤ 2 * i → impl_CountUnits.l0 k a cs (cs.length : Int) (i : Int) = some (a + sumU (cs.drop i), true) := by
  induction d with
  | zero =>
    intro k i a hi hk h0 h1
    obtain ⟨k, rfl⟩ := kpos hk
    simp only [impl_CountUnits.l0]
    rw [if_neg (by omega), List.drop_of_length_le (by omega)]
    simp [sumU]
  | succ d ih =>
    intro k i a hi hk h0 h1
    obtain ⟨k, rfl⟩ := kpos hk
    have hlt : i < cs.length := by omega
    have hb := good_bounds (hg _ (getD_mem (z := z89) hlt))
    simp only [impl_CountUnits.l0]
    rw [if_pos (by omega), if_pos (by omega), if_pos (by omega), rdC61_nat, w64 (x := a + (cs.getD i z89).f1) (by omega) (by omega), wnext hlt (by omega), ih k (i + 1) _ (by omega) (by omega) (by omega) (by omega), getD_cons (z := z89) hlt]
    simp only [sumU, Int.add_assoc]
theorem weight_impl (cs : List S89) (h : validC cs = true) (k : Nat) (hk : 1048700 ≤ k) : impl_TotalWeight.f k cs = some (sumW cs, true) := by
  have h12 := (valid_dist h).2
  unfold impl_TotalWeight.f
  rw [impl_valid _ (by omega) _ (by omega), Option.bind_some, if_pos h]
  have := weight_loop cs (valid_goodL h) h12 cs.length k 0 0 (by omega) (by omega) (by omega) (by omega)
  rw [show ((0 : Nat) : Int) = 0 from rfl, List.drop_zero, Int.zero_add] at this
  exact this
theorem units_impl (cs : List S89) (h : validC cs = true) (k : Nat) (hk : 1048700 ≤ k) : impl_CountUnits.f k cs = some (sumU cs, true) := by
  have h12 := (valid_dist h).2
  unfold impl_CountUnits.f
  rw [impl_valid _ (by omega) _ (by omega), Option.bind_some, if_pos h]
  have := units_loop cs (valid_goodL h) h12 cs.length k 0 0 (by omega) (by omega) (by omega) (by omega)
  rw [show ((0 : Nat) : Int) = 0 from rfl, List.drop_zero, Int.zero_add] at this
  exact this
theorem find_impl (cs : List S89) (h : validC cs = true) (i : Nat) (hi : i < cs.length) (k : Nat) (hk : 1048700 ≤ k) : impl_FindContainer.f k cs (cs.getD i z89).f0 = some ((i : Int), true) := by
  have h12 := (valid_dist h).2
  have hv := h
  unfold validC at hv
  simp only [Bool.and_eq_true, decide_eq_true_eq] at hv
  have hs := listC_get cs cs.length 0 hv.2 i (Nat.zero_le _) (by omega)
  unfold stepC at hs
  simp only [Bool.and_eq_true, Bool.not_eq_true'] at hs
  have e := (idxI_first (sameId (cs.getD i z89).f0) z89 cs 0 i hi (by unfold sameId; simp)).2 hs.2
  unfold impl_FindContainer.f
  rw [indexOf_ends, Option.bind_some, impl_valid _ (by omega) _ (by omega), Option.bind_some, if_pos h, e, if_neg (by omega)]
  simp
theorem sumW_perm {a b : List S89} (h : a.Perm b) : sumW a = sumW b := by
  induction h with
  | nil => rfl
  | cons x _ ih => simp only [sumW, ih]
  | swap x y l => simp only [sumW]; omega
  | trans _ _ ih1 ih2 => exact ih1.trans ih2
/-- The containers in the order found. -/
def inOrder (cs : List S89) : List S89 := (heavyF cs).map cs.get
theorem inOrder_length (cs : List S89) : (inOrder cs).length = cs.length := by simp [inOrder, heavyF]
theorem inOrder_perm (cs : List S89) : (inOrder cs).Perm cs := by
  have h : ((List.finRange cs.length).map cs.get) = cs := by
    apply List.ext_getElem (by simp)
    intro i h1 h2
    simp
  have h2 := (List.mergeSort_perm (List.finRange cs.length) fun x y => !(ltOf (cfH cs)) y x).map cs.get
  rw [h] at h2
  exact h2
theorem order_get (cs : List S89) (j : Nat) (hj : j < cs.length) : ∃ x : Fin cs.length, (heavyL cs).getD j 0 = ((x.val : Nat) : Int) ∧ (inOrder cs).getD j z89 = cs.get x := by
  have hl : j < (heavyF cs).length := by simp [heavyF]; exact hj
  refine ⟨(heavyF cs)[j], ?_, ?_⟩
  · unfold heavyL
    rw [List.getD_eq_getElem?_getD, List.getElem?_map, List.getElem?_eq_getElem hl]
    rfl
  · unfold inOrder
    rw [List.getD_eq_getElem?_getD, List.getElem?_map, List.getElem?_eq_getElem hl]
    rfl
theorem order_sorted (cs : List S89) (j : Nat) (hj : j + 1 < cs.length) : ¬ ((inOrder cs).getD j z89).f2 < ((inOrder cs).getD (j + 1) z89).f2 := by
  have hs := List.pairwise_mergeSort (le := fun x y => !(ltOf (cfH cs)) y x) (l := List.finRange cs.length) ?_ ?_
  · have hl : (heavyF cs).length = cs.length := by simp [heavyF]
    have := List.pairwise_iff_getElem.1 hs j (j + 1) (show j < (heavyF cs).length by omega) (show j + 1 < (heavyF cs).length by omega) (by omega)
    have h2 : ltOf (cfH cs) ((heavyF cs)[j + 1]'(by omega)) ((heavyF cs)[j]'(by omega)) = false := by rw [Bool.not_eq_true'] at this; exact this
    rw [ltH] at h2
    intro hlt
    rw [Bool.eq_false_iff] at h2
    refine h2 ((ahead_iff _ _).2 (.inl ?_))
    unfold inOrder at hlt
    rw [List.getD_eq_getElem?_getD, List.getD_eq_getElem?_getD, List.getElem?_map, List.getElem?_map, List.getElem?_eq_getElem (by omega), List.getElem?_eq_getElem (by omega)] at hlt
    exact hlt
  · intro a b c h1 h2
    rw [ltH] at *
    simp only [Bool.not_eq_true'] at *
    exact ahead_ntrans _ _ _ h2 h1
  · intro a b
    rw [ltH, ltH]
    cases h : X.ahead (cs.get b) (cs.get a) with
    | false => rfl
    | true =>
      cases h2 : X.ahead (cs.get a) (cs.get b) with
      | false => rfl
      | true =>
        have := ahead_trans _ _ _ h h2
        rw [ahead_irrefl] at this
        cases this
/-- How many containers are for the ports from p on, so many ports. -/
def cntP (cs : List S89) (p : Int) : Nat → Nat
  | 0 => 0
  | d + 1 => (pick p cs).length + cntP cs (p + 1) d
theorem cntP_cons (x : S89) (r : List S89) (d : Nat) : ∀ p : Int, cntP (x :: r) p d = (if p ≤ x.f4 ∧ x.f4 < p + d then 1 else 0) + cntP r p d := by
  induction d with
  | zero =>
    intro p
    simp only [cntP]
    rw [if_neg (by omega)]
  | succ d ih =>
    intro p
    simp only [cntP]
    rw [ih (p + 1)]
    simp only [pick]
    by_cases h : x.f4 = p
    · rw [if_pos h, if_neg (by omega), if_pos (by omega), List.length_cons]
      omega
    · rw [if_neg h]
      by_cases h2 : p + 1 ≤ x.f4 ∧ x.f4 < p + 1 + d
      · rw [if_pos h2, if_pos (by omega)]; omega
      · rw [if_neg h2, if_neg (by omega)]; omega
theorem cntP_nil (d : Nat) : ∀ p : Int, cntP [] p d = 0 := by
  induction d with
  | zero => intro p; rfl
  | succ d ih => intro p; simp only [cntP, ih (p + 1), pick, List.length_nil]
theorem cntP_all : ∀ cs : List S89, GoodL cs → cntP cs 1 9 = cs.length
  | [], _ => cntP_nil 9 1
  | x :: r, h => by
    have hb := good_bounds (h x List.mem_cons_self)
    rw [cntP_cons, cntP_all r (fun y hy => h y (List.mem_cons_of_mem _ hy)), if_pos (by omega), List.length_cons]
    omega
theorem cntP_le (cs : List S89) (d : Nat) : ∀ p : Int, cntP cs p d ≤ cs.length * d := by
  induction d with
  | zero => intro p; exact Nat.zero_le _
  | succ d ih =>
    intro p
    have h1 := pick_length p cs
    have h2 := ih (p + 1)
    simp only [cntP, Nat.mul_succ]
    omega
theorem ports_loop (cs : List S89) (h : validC cs = true) (d : Nat) : ∀ (k : Nat) (p a : Int), p + d = 10 → 1 ≤ p → 1100000 + d ≤ k → 0 ≤ a → a + cntP cs p d = cs.length → laws_FnContainers.l1 k cs (sumW cs) true (sumU cs) true (sumW cs) a p = some true := by
  have h12 := (valid_dist h).2
  have hb := sums_bounds cs (valid_goodL h)
  induction d with
  | zero =>
    intro k p a hp h1 hk h0 ha
    obtain ⟨k, rfl⟩ := kpos (d := 0) (k := k) (by omega)
    simp only [cntP] at ha
    simp only [laws_FnContainers.l1]
    have c1 : ¬ p ≤ 9 := by omega
    have c2 : a = (cs.length : Int) := by omega
    have c3 : sumU cs ≥ (cs.length : Int) := hb.2.2.1
    rw [if_neg c1, if_pos trivial, if_pos c2, if_pos c3, w64 (by omega) (by omega), decide_eq_true hb.2.2.2]
    simp
  | succ d ih =>
    intro k p a hp h1 hk h0 ha
    obtain ⟨k, rfl⟩ := kpos (d := 0) (k := k) (by omega)
    simp only [cntP] at ha
    have hpl := pick_length p cs
    have c1 : p ≤ 9 := by omega
    have hn := ih k (p + 1) (a + (pick p cs).length) (by omega) (by omega) (by omega) (by omega) (by omega)
    simp only [laws_FnContainers.l1]
    rw [if_pos c1, for_impl cs p (by omega) h (inB_iff.2 ⟨h1, c1⟩) k (by omega), Option.bind_some]
    dsimp only
    rw [if_pos rfl, w64 (x := a + ((pick p cs).length : Int)) (by omega) (by omega), w64 (x := p + 1) (by omega) (by omega)]
    exact hn
theorem order_loop (cs : List S89) (h : validC cs = true) (d : Nat) : ∀ (k j : Nat) (a : Int), j + d = cs.length → 1100020 + d ≤ k → 0 ≤ a → a ≤ 32000 * j → a + sumW ((inOrder cs).drop j) = sumW cs → laws_FnContainers.l0 k cs (heavyL cs) (sumW cs) true (sumU cs) true a 0 (j : Int) = some true := by
  have h12 := (valid_dist h).2
  have hg := valid_goodL h
  have hlo := inOrder_length cs
  have hlh := heavyL_length cs
  induction d with
  | zero =>
    intro k j a hj hk h0 h1 ha
    obtain ⟨k, rfl⟩ := kpos (d := 0) (k := k) (by omega)
    rw [List.drop_of_length_le (by omega)] at ha
    simp only [sumW, Int.add_zero] at ha
    simp only [laws_FnContainers.l0]
    rw [if_neg (by omega), ha]
    exact ports_loop cs h 9 k 1 0 (by omega) (by omega) (by omega) (by omega) (by rw [cntP_all cs hg]; omega)
  | succ d ih =>
    intro k j a hj hk h0 h1 ha
    obtain ⟨k, rfl⟩ := kpos (d := 0) (k := k) (by omega)
    have hlt : j < cs.length := by omega
    obtain ⟨x, ex, ey⟩ := order_get cs j hlt
    have hx := x.isLt
    have hgx := hg (cs.get x) (List.get_mem cs x)
    have hb := good_bounds hgx
    have hgd := getD_fin cs x
    rw [getD_cons (z := z89) (by omega), ey] at ha
    simp only [sumW] at ha
    have hn := ih k (j + 1) (a + (cs.get x).f2) (by omega) (by omega) (by omega) (by omega) (by omega)
    have hfi := find_impl cs h x.val hx k (by omega)
    rw [hgd] at hfi
    have c1 : (j : Int) < ((heavyL cs).length : Int) := by omega
    have c2 : 0 ≤ (j : Int) := by omega
    have c3 : 0 ≤ ((x.val : Nat) : Int) := by omega
    have c4 : ((x.val : Nat) : Int) < (cs.length : Int) := by omega
    have hgi : impl_IsValidContainer.f k (cs.get x).f0 (cs.get x).f1 (cs.get x).f2 (cs.get x).f3 (cs.get x).f4 = some true := by
      rw [impl_good _ _ _ _ _ k (by omega)]
      exact congrArg some hgx
    simp only [laws_FnContainers.l0]
    rw [if_pos c1, if_pos c2, rd_nat, ex, if_pos c3, if_pos c4, rdC61_nat, hgd, hfi, Option.bind_some]
    dsimp only
    rw [if_pos rfl, if_pos rfl, hgi, Option.bind_some, if_pos rfl]
    by_cases hj0 : (j : Int) > 0
    · obtain ⟨i, rfl⟩ : ∃ i, j = i + 1 := ⟨j - 1, by omega⟩
      obtain ⟨y, ez, ew⟩ := order_get cs i (by omega)
      have hy := y.isLt
      have hs := order_sorted cs i hlt
      rw [ey, ew] at hs
      have c5 : 0 ≤ (i : Int) := by omega
      have c6 : (i : Int) < ((heavyL cs).length : Int) := by omega
      have c7 : 0 ≤ ((y.val : Nat) : Int) := by omega
      have c8 : ((y.val : Nat) : Int) < (cs.length : Int) := by omega
      rw [if_pos hj0, wprev (by omega : i ≤ 1000), if_pos c5, if_pos c6, rd_nat, ez, if_pos c7, if_pos c8, rdC61_nat, getD_fin cs y, if_neg hs, w64 (x := a + (cs.get x).f2) (by omega) (by omega), wnext hlt (by omega)]
      exact hn
    · rw [if_neg hj0, w64 (x := a + (cs.get x).f2) (by omega) (by omega), wnext hlt (by omega)]
      exact hn
theorem FnContainers : laws_FnContainers.Pure := by
  intro l hl
  refine ⟨1200000 + 1, ?_⟩
  unfold laws_FnContainers.f laws_vBig.f
  rw [Option.bind_some]
  by_cases h : (l.length : Int) > 65536
  · rw [if_pos (decide_eq_true h)]
  · rw [if_neg (by simpa using h)]
    have hb : Byt l := ⟨by omega, hl.2⟩
    obtain ⟨cs, a1, s1, e1, hc, _, _⟩ := containers_ok hb (show At 0 0 from ⟨by decide, by decide⟩) (by decide) 0 (1200000 + 1) (by omega)
    have ed : spec_DrawHeaviestFirst.f (1200000 + 1) l = some cs := by
      unfold spec_DrawHeaviestFirst.f spec_DrawIsValidContainers.f
      rw [e1, Option.bind_some, Option.bind_some]
    obtain ⟨e2, e3⟩ := heavy_both cs (by omega) (1200000 + 1) (by omega)
    have hr : (heavyA cs).1.length ≤ 1000 := by
      unfold heavyA
      split
      · show (heavyL cs).length ≤ 1000
        rw [heavyL_length]; omega
      · simp
    rw [ed, Option.bind_some, e2, e3, Option.bind_some, Option.bind_some, bne_self_eq_false, if_neg (by decide), vInts_refl _ hr _ (by omega), Option.bind_some, if_pos rfl, impl_valid cs (by omega) _ (by omega), Option.bind_some]
    unfold heavyA
    by_cases hv : validC cs = true
    · rw [if_pos hv, hv]
      dsimp only
      rw [bne_self_eq_false]
      simp only [laws_FnContainers.j0, Bool.false_eq_true, if_false, if_true]
      rw [weight_impl cs hv _ (by omega), Option.bind_some, units_impl cs hv _ (by omega), Option.bind_some]
      have := order_loop cs hv cs.length 1200000 0 0 (by omega) (by have := (valid_dist hv).2; omega) (by omega) (by omega) (by rw [List.drop_zero, sumW_perm (inOrder_perm cs)]; omega)
      exact this
    · rw [if_neg hv]
      rw [Bool.not_eq_true] at hv
      rw [hv]
      dsimp only
      rw [bne_self_eq_false]
      simp only [laws_FnContainers.j0, Bool.false_eq_true, if_false]
      rfl
end Go.Proofs.Ytlldonokjgoajaa.Pure
