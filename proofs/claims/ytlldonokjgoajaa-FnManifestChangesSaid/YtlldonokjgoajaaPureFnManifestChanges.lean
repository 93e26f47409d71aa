/- The law FnManifestChanges answers true for every code. No condition beyond the form's own. -/
import Derived.Test.YtlldonokjgoajaaSFnManifestChanges
import Derived.Test.YtlldonokjgoajaaMChA
import Derived.Test.YtlldonokjgoajaaMDrawC
import Derived.Test.YtlldonokjgoajaaFspecDrawManifestChanges
namespace Go.Proofs.Ytlldonokjgoajaa.Pure
open Go.RowKit Go.Proofs.Ytlldonokjgoajaa.X Go.Proofs.YtlldonokjgoajaaW.PrintWords Go.Proofs.YtlldonokjgoajaaW.PrintLast
set_option linter.unusedVariables false
set_option linter.unusedSimpArgs false
theorem draw_loop {l : List Int} (hl : Byt l) (x5 : List S89) (h5 : x5.length ≤ 30) (d : Nat) : ∀ (k i : Nat) (x6 : List S89) (m a s : Int), i + d = x5.length → 1048700 + 2 * d < k → x6.length ≤ 30 + i → At m a → m + 10 * d ≤ 1000000 →
    ∃ ys, spec_DrawManifestChanges.l0 k x5 x6 (i : Int) l a s = some (x5, ys) ∧ ys.length ≤ 100 := by
  induction d with
  | zero =>
    intro k i x6 m a s hi hk h6 ha hm
    obtain ⟨k, rfl⟩ := kpos (d := 0) (k := k) (by omega)
    rw [spec_DrawManifestChanges.l0, if_neg (by omega)]
    exact ⟨_, rfl, by omega⟩
  | succ d ih =>
    intro k i x6 m a s hi hk h6 ha hm
    obtain ⟨k, rfl⟩ : ∃ q, k = q + 2 := ⟨k - 2, by omega⟩
    have hw : wrap64 ((i : Int) + 1) = ((i + 1 : Nat) : Int) := wnext (n := i) (m := 100) (by omega) (by omega)
    obtain ⟨b, a1, s1, e1, ha1⟩ := one_ok hl ha (by omega) s 4
    rw [spec_DrawManifestChanges.l0, if_pos (by omega), if_pos (by omega), e1, Option.bind_some]
    dsimp only
    have skip : ∃ ys, spec_DrawManifestChanges.l0 k x5 x6 (wrap64 ((i : Int) + 1)) l a1 s1 = some (x5, ys) ∧ ys.length ≤ 100 := by
      rw [hw]
      exact ih k (i + 1) x6 (m + 2) a1 s1 (by omega) (by omega) (by omega) ha1 (by omega)
    by_cases hb : b = true
    · rw [if_pos hb, spec_DrawManifestChanges.j1, if_pos rfl]
      exact skip
    · rw [if_neg hb, Find_ends _ _ (by omega) _ (by omega), Option.bind_some, spec_DrawManifestChanges.j1]
      split
      · exact skip
      · obtain ⟨c, a2, s2, e2, ha2⟩ := one_ok hl ha1 (by omega) s1 3
        rw [e2, Option.bind_some]
        dsimp only
        split
        · obtain ⟨v, a3, s3, e3, _, ha3⟩ := among_ok hl ha2 (by omega) s2 ([1, 500, 9000] : List Int) (by decide) (fun _ => True) (fun _ _ => trivial)
          rw [e3, Option.bind_some, if_pos (by omega), hw]
          exact ih k (i + 1) _ (m + 6) a3 s3 (by omega) (by omega) (by simp only [List.length_append, List.length_singleton]; omega) (ha3.up (by omega)) (by omega)
        · rw [if_pos (by omega), hw]
          exact ih k (i + 1) _ (m + 6) a2 s2 (by omega) (by omega) (by simp only [List.length_append, List.length_singleton]; omega) (ha2.up (by omega)) (by omega)
theorem draw_ok {l : List Int} (hl : Byt l) (k : Nat) (hk : 1048900 ≤ k) : ∃ a b, spec_DrawManifestChanges.f k l = some (a, b) ∧ a.length ≤ 100 ∧ b.length ≤ 100 := by
  unfold spec_DrawManifestChanges.f
  obtain ⟨a, a1, s1, e1, h1, _, ha1⟩ := containers_ok hl (show At 0 0 from ⟨by decide, by decide⟩) (by decide) 0 k (by omega)
  obtain ⟨b, a2, s2, e2, h2, _, ha2⟩ := containers_ok hl ha1 (by omega) s1 k (by omega)
  obtain ⟨ys, e3, h3⟩ := draw_loop hl a h1 a.length k 0 b _ a2 s2 (by omega) (by omega) (by omega) ha2 (by omega)
  rw [e1, Option.bind_some]
  dsimp only
  rw [e2, Option.bind_some]
  dsimp only
  rw [show (0 : Int) = ((0 : Nat) : Int) from rfl, e3]
  exact ⟨a, ys, rfl, by omega, h3⟩
theorem vTexts_loop (xs : List ByteArray) (hx : xs.length ≤ 1000) (d : Nat) : ∀ (k i : Nat), i + d = xs.length → d < k → laws_vTexts.l0 k xs xs (i : Int) = some true := by
  induction d with
  | zero =>
    intro k i hi hk
    obtain ⟨k, rfl⟩ := kpos hk
    simp only [laws_vTexts.l0]
    rw [if_neg (by omega)]
  | succ d ih =>
    intro k i hi hk
    obtain ⟨k, rfl⟩ := kpos hk
    simp only [laws_vTexts.l0]
    rw [if_pos (by omega), if_pos (by omega), if_pos (by omega), if_pos trivial, wnext (n := i) (m := xs.length) (by omega) (by omega)]
    exact ih k (i + 1) (by omega) (by omega)
theorem vTexts_refl (xs : List ByteArray) (hx : xs.length ≤ 1000) (k : Nat) (hk : 1001 ≤ k) : laws_vTexts.f k xs xs = some true := by
  unfold laws_vTexts.f
  rw [if_pos rfl]
  have := vTexts_loop xs hx xs.length k 0 (by omega) (by omega)
  rw [show ((0 : Nat) : Int) = 0 from rfl] at this
  exact this
theorem vList_loop (xs : List S89) (hx : xs.length ≤ 1000) (d : Nat) : ∀ (k i : Nat), i + d = xs.length → d < k → laws_vList.l0 k xs xs (i : Int) = some true := by
  induction d with
  | zero =>
    intro k i hi hk
    obtain ⟨k, rfl⟩ := kpos hk
    simp only [laws_vList.l0]
    rw [if_neg (by omega)]
  | succ d ih =>
    intro k i hi hk
    obtain ⟨k, rfl⟩ := kpos hk
    have i2 := ih k (i + 1) (by omega) (by omega)
    simp only [laws_vList.l0]
    rw [if_pos (by omega), if_pos (by omega), if_pos (by omega), wnext (n := i) (m := xs.length) (by omega) (by omega)]
    simp only [beq_self_eq_true, Bool.not_true, Bool.or_self, Bool.false_eq_true, if_false, Bool.and_self, if_true]
    exact i2
theorem vList_refl (xs : List S89) (hx : xs.length ≤ 1000) (k : Nat) (hk : 1001 ≤ k) : laws_vList.f k xs xs = some true := by
  unfold laws_vList.f
  rw [if_pos rfl]
  have := vList_loop xs hx xs.length k 0 (by omega) (by omega)
  rw [show ((0 : Nat) : Int) = 0 from rfl] at this
  exact this
theorem sumF_app : ∀ (a b : List S104), sumF (a ++ b) = sumF a + sumF b
  | [], b => by rw [List.nil_append, sumF, Int.zero_add]
  | x :: a, b => by rw [List.cons_append, sumF, sumF, sumF_app a b, Int.add_assoc]
theorem sumF_pos : ∀ (l : List S104), (∀ c ∈ l, 0 ≤ c.f1) → 0 ≤ sumF l
  | [], _ => Int.le_refl _
  | x :: l, h => by
    have h1 := h x List.mem_cons_self
    have h2 := sumF_pos l (fun c hc => h c (List.mem_cons_of_mem _ hc))
    rw [sumF]; omega
theorem count_loop (b : List S89) (hv : validC b = true) (C : List S104) (hC : C.length ≤ 9) (hc : ∀ c ∈ C, 1 ≤ c.f0 ∧ c.f0 ≤ 9 ∧ c.f1 = (cntP c.f0 b : Int)) (hs : sumF C = (b.length : Int)) (d : Nat) : ∀ (k i : Nat), i + d = C.length → 1048700 + d < k →
    laws_FnManifestChanges.l0 k b C true (sumF (C.take i)) (i : Int) = some true := by
  have h12 := valid_le hv
  induction d with
  | zero =>
    intro k i hi hk
    obtain ⟨k, rfl⟩ := kpos (d := 0) (k := k) (by omega)
    rw [laws_FnManifestChanges.l0, if_neg (by omega), if_pos rfl, List.take_of_length_le (by omega), hs, beq_self_eq_true]
  | succ d ih =>
    intro k i hi hk
    obtain ⟨k, rfl⟩ := kpos (d := 0) (k := k) (by omega)
    have hlt : i < C.length := by omega
    have hm : C.getD i z104 ∈ C := getD_mem hlt
    obtain ⟨q1, q2, q3⟩ := hc _ hm
    obtain ⟨o1, o2⟩ := own_oth (C.getD i z104).f0 b
    have hcl := cntP_le (C.getD i z104).f0 b
    have e : rd_T104 C (i : Int) = C.getD i z104 := rfl
    have hpos := sumF_pos (C.drop (i + 1)) (fun c hx => by have := hc c (List.mem_of_mem_drop hx); omega)
    have hpos2 := sumF_pos (C.take i) (fun c hx => by have := hc c (List.mem_of_mem_take hx); omega)
    have hsum : sumF (C.take (i + 1)) = sumF (C.take i) + (C.getD i z104).f1 := by
      rw [take_succ_getD (z := z104) hlt, sumF_app]
      show _ + (_ + 0) = _
      rw [Int.add_zero]
    have htot : sumF (C.take (i + 1)) + sumF (C.drop (i + 1)) = (b.length : Int) := by rw [← sumF_app, List.take_append_drop, hs]
    have i2 := ih k (i + 1) (by omega) (by omega)
    rw [hsum] at i2
    rw [laws_FnManifestChanges.l0, if_pos (by omega), if_pos (by omega), e, split_ends b _ hv ⟨q1, q2⟩ k (by omega), Option.bind_some]
    dsimp only
    rw [if_pos rfl, if_pos (by omega), w64 (x := ((ownP (C.getD i z104).f0 b).length : Int) + _) (by omega) (by omega), if_pos (by omega), w64 (x := sumF (C.take i) + _) (by omega) (by omega), wnext (n := i) (m := 100) (by omega) (by omega)]
    exact i2
theorem j3_true (b : List S89) (hv : validC b = true) (k : Nat) (hk : 1048800 ≤ k) : laws_FnManifestChanges.j3 (k + 1) b = some true := by
  have h12 := valid_le hv
  have hl := portsA_len b 9 1
  rw [laws_FnManifestChanges.j3, (counts_both b (by omega) k (by omega)).2]
  unfold countsA
  rw [if_pos hv, Option.bind_some]
  have := count_loop b hv (portsA b 9 1) hl (fun c hc => by have := ports_at b 9 1 c hc; exact ⟨this.1, by omega, this.2.2⟩) (by rw [sum_ports, inP_all b (valid_ports hv)]) (portsA b 9 1).length k 0 (by omega) (by omega)
  rw [show ((0 : Nat) : Int) = 0 from rfl, List.take_zero] at this
  exact this
theorem FnManifestChanges : laws_FnManifestChanges.Pure := by
  intro l hl
  refine ⟨1049100 + 4, ?_⟩
  unfold laws_FnManifestChanges.f laws_vBig.f
  rw [Option.bind_some]
  by_cases h : (l.length : Int) > 65536
  · rw [if_pos (decide_eq_true h)]
  · rw [if_neg (by simpa using h)]
    have hb : Byt l := ⟨by omega, hl.2⟩
    obtain ⟨a, b, ed, la, lb⟩ := draw_ok hb (1049100 + 4) (by omega)
    obtain ⟨c1, c2, c3⟩ := chA_len a b
    have ic := impl_ch a b (by omega) (by omega) (1049100 + 4) (by omega)
    have sc := spec_ch a b (by omega) (by omega) (1049100 + 4) (by omega)
    have im := impl_mergeA a b (by omega) (by omega) (1049100 + 3) (by omega)
    have sm := spec_mergeA a b (by omega) (by omega) (1049100 + 3) (by omega)
    have mlen : (mergeA a b).1.length ≤ 24 := by
      unfold mergeA
      split
      · rename_i hv
        have := merged_length a b (valid_le hv.1) (valid_le hv.2)
        unfold mergeR
        split
        · exact this
        · simp
      · simp
    rw [ed, Option.bind_some]
    dsimp only
    rw [ic, sc, Option.bind_some, Option.bind_some, bne_self_eq_false, if_neg (by decide), vTexts_refl _ (by omega) _ (by omega), Option.bind_some, if_pos rfl, vTexts_refl _ (by omega) _ (by omega), Option.bind_some, if_pos rfl, vTexts_refl _ (by omega) _ (by omega), Option.bind_some, Bool.not_true,
      laws_FnManifestChanges.j0, if_neg (by decide), im, sm, Option.bind_some, Option.bind_some, bne_self_eq_false, if_neg (by decide), vList_refl _ (by omega) _ (by omega), Option.bind_some, Bool.not_true, laws_FnManifestChanges.j1, if_neg (by decide)]
    by_cases hv : validC a = true ∧ validC b = true
    · obtain ⟨l1, d1⟩ := valid_dist hv.1
      obtain ⟨l2, d2⟩ := valid_dist hv.2
      have e1 : chA a b = (sortB (addL a b), sortB (addL b a), sortB (chgL a b), true) := if_pos hv
      have e2 : chA b a = (sortB (addL b a), sortB (addL a b), sortB (chgL a b), true) := by
        unfold chA
        rw [if_pos ⟨hv.2, hv.1⟩, chg_comm d1 d2]
      have em : mergeA a b = mergeR a b := if_pos hv
      have hj3 := j3_true b hv.2 1049100 (by omega)
      rw [e1] at c1 c2 c3 ⊢
      dsimp only at c1 c2 c3 ⊢
      rw [if_pos rfl, impl_ch b a (by omega) (by omega) _ (by omega), e2, Option.bind_some]
      dsimp only
      rw [if_pos rfl, vTexts_refl _ (by omega) _ (by omega), Option.bind_some, if_pos rfl, vTexts_refl _ (by omega) _ (by omega), Option.bind_some, if_pos rfl, vTexts_refl _ (by omega) _ (by omega), Option.bind_some, Bool.not_true, laws_FnManifestChanges.j2, if_neg (by decide), em]
      unfold mergeR
      by_cases hm : validC (merged a b) = true
      · have hml := valid_le hm
        have e3 : chA b (merged a b) = (sortB (addL b a), [], [], true) := by
          unfold chA
          rw [if_pos ⟨hv.2, hm⟩, add_merged, less_merged, other_merged d2, List.eq_nil_of_length_eq_zero (sortB_length [])]
        have hlen := merged_len a b
        have hsl := sortB_length (addL a b)
        rw [if_pos hm]
        dsimp only
        rw [if_pos rfl, impl_ch b (merged a b) (by omega) (by omega) _ (by omega), e3, Option.bind_some]
        dsimp only
        rw [if_pos rfl, vTexts_refl _ (by omega) _ (by omega), Option.bind_some, if_pos rfl, if_neg (by decide), if_neg (by decide), w64 (by omega) (by omega), if_pos (by omega)]
        exact hj3
      · rw [if_neg hm]
        dsimp only
        rw [if_neg (by decide)]
        exact hj3
    · have e1 : chA a b = ([], [], [], false) := if_neg hv
      have em : mergeA a b = ([], false) := if_neg hv
      rw [e1, em]
      rfl
end Go.Proofs.Ytlldonokjgoajaa.Pure
