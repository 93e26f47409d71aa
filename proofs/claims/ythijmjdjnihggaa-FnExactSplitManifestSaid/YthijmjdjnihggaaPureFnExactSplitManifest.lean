/- The law FnExactSplitManifest answers true for every list of containers and port. No condition beyond the form's own reach. -/
import Derived.Test.YthijmjdjnihggaaSFnExactSplitManifest
import Derived.Test.YthijmjdjnihggaaMContM
namespace Go.Proofs.Ythijmjdjnihggaa.Pure
open Go.RowKit Go.Proofs.Ythijmjdjnihggaa.X Go.Proofs.YthijmjdjnihggaaW.PrintWords Go.Proofs.YthijmjdjnihggaaW.PrintLast
set_option linter.unusedSimpArgs false
/-- The containers for a port, and the others. -/
def own (p : Int) : List S61 → List S61
  | [] => []
  | x :: r => if x.f4 = p then x :: own p r else own p r
def oth (p : Int) : List S61 → List S61
  | [] => []
  | x :: r => if x.f4 = p then oth p r else x :: oth p r
theorem own_length (p : Int) : ∀ cs : List S61, (own p cs).length ≤ cs.length
  | [] => Nat.le_refl _
  | x :: r => by
    have := own_length p r
    unfold own
    split
    · simp only [List.length_cons]; omega
    · simp only [List.length_cons]; omega
theorem oth_length (p : Int) : ∀ cs : List S61, (oth p cs).length ≤ cs.length
  | [] => Nat.le_refl _
  | x :: r => by
    have := oth_length p r
    unfold oth
    split
    · simp only [List.length_cons]; omega
    · simp only [List.length_cons]; omega
theorem eta (x : S61) : (⟨x.f0, x.f1, x.f2, x.f3, x.f4⟩ : S61) = x := rfl
theorem spec_loop (cs : List S61) (p : Int) (hx : cs.length ≤ 1048576) (d : Nat) : ∀ (k i : Nat) (o1 o2 : List S61), i + d = cs.length → d < k → o1.length + d ≤ 1048576 → o2.length + d ≤ 1048576 → spec_SplitManifest.l0 k cs p o1 o2 (i : Int) = some (o1 ++ own p (cs.drop i), o2 ++ oth p (cs.drop i), true) := by
  induction d with
  | zero =>
    intro k i o1 o2 hi hk h1 h2
    obtain ⟨k, rfl⟩ := kpos hk
    simp only [spec_SplitManifest.l0]
    rw [if_neg (by omega), List.drop_of_length_le (by omega)]
    simp [own, oth]
  | succ d ih =>
    intro k i o1 o2 hi hk h1 h2
    obtain ⟨k, rfl⟩ := kpos hk
    have hlt : i < cs.length := by omega
    simp only [spec_SplitManifest.l0]
    rw [if_pos (by omega), if_pos (by omega), rdC61_nat, eta, getD_cons (z := z61) hlt, wnext hlt (by omega)]
    unfold own oth
    by_cases h : (cs.getD i z61).f4 = p
    · rw [if_pos h, if_pos h, if_pos h, if_pos (by omega), ih k (i + 1) _ _ (by omega) (by omega) (by simp only [List.length_append, List.length_singleton]; omega) (by omega)]
      simp
    · rw [if_neg h, if_neg h, if_neg h, if_pos (by omega), ih k (i + 1) _ _ (by omega) (by omega) (by omega) (by simp only [List.length_append, List.length_singleton]; omega)]
      simp
theorem impl_loop (cs : List S61) (p : Int) (hx : cs.length ≤ 1048576) (d : Nat) : ∀ (k i : Nat) (o1 o2 : List S61), i + d = cs.length → d < k → o1.length + d ≤ 1048576 → o2.length + d ≤ 1048576 → impl_SplitManifest.l0 k p o1 o2 cs (cs.length : Int) (i : Int) = some (o1 ++ own p (cs.drop i), o2 ++ oth p (cs.drop i), true) := by
  induction d with
  | zero =>
    intro k i o1 o2 hi hk h1 h2
    obtain ⟨k, rfl⟩ := kpos hk
    simp only [impl_SplitManifest.l0]
    rw [if_neg (by omega), List.drop_of_length_le (by omega)]
    simp [own, oth]
  | succ d ih =>
    intro k i o1 o2 hi hk h1 h2
    obtain ⟨k, rfl⟩ := kpos hk
    have hlt : i < cs.length := by omega
    simp only [impl_SplitManifest.l0]
    rw [if_pos (by omega), if_pos (by omega), if_pos (by omega), rdC61_nat, eta, getD_cons (z := z61) hlt, wnext hlt (by omega)]
    unfold own oth
    by_cases h : (cs.getD i z61).f4 = p
    · rw [if_pos h, if_pos h, if_pos h, if_pos (by omega), ih k (i + 1) _ _ (by omega) (by omega) (by simp only [List.length_append, List.length_singleton]; omega) (by omega)]
      simp
    · rw [if_neg h, if_neg h, if_neg h, if_pos (by omega), ih k (i + 1) _ _ (by omega) (by omega) (by omega) (by simp only [List.length_append, List.length_singleton]; omega)]
      simp
theorem both (cs : List S61) (p : Int) (hl : cs.length ≤ 1048576) : ∃ r s b, r.length ≤ 1048576 ∧ s.length ≤ 1048576 ∧ ∀ k, 1048700 ≤ k → spec_SplitManifest.f k cs p = some (r, s, b) ∧ impl_SplitManifest.f k cs p = some (r, s, b) := by
  by_cases h : validC cs = true
  · by_cases h2 : inB p 1 9 = true
    · refine ⟨own p cs, oth p cs, true, Nat.le_trans (own_length p cs) hl, Nat.le_trans (oth_length p cs) hl, fun k hk => ?_⟩
      obtain ⟨k, rfl⟩ := kpos (d := 0) (k := k) (by omega)
      unfold spec_SplitManifest.f impl_SplitManifest.f
      rw [spec_valid _ hl _ hk, impl_valid _ hl _ (by omega), l1In_ends, within_ends]
      simp only [Option.bind_some]
      rw [if_pos h, if_pos h, h2]
      simp only [spec_SplitManifest.j0, impl_SplitManifest.j0, Bool.not_true, Bool.false_eq_true, if_false]
      have e1 := spec_loop cs p hl cs.length k 0 [] [] (by omega) (by omega) (by simp; omega) (by simp; omega)
      have e2 := impl_loop cs p hl cs.length k 0 [] [] (by omega) (by omega) (by simp; omega) (by simp; omega)
      rw [show ((0 : Nat) : Int) = 0 from rfl, List.drop_zero, List.nil_append, List.nil_append] at e1 e2
      exact ⟨e1, e2⟩
    · refine ⟨[], [], false, by simp, by simp, fun k hk => ?_⟩
      obtain ⟨k, rfl⟩ := kpos (d := 0) (k := k) (by omega)
      unfold spec_SplitManifest.f impl_SplitManifest.f
      rw [spec_valid _ hl _ hk, impl_valid _ hl _ (by omega), l1In_ends, within_ends]
      simp only [Option.bind_some]
      rw [Bool.not_eq_true] at h2
      rw [if_pos h, if_pos h, h2]
      simp only [spec_SplitManifest.j0, impl_SplitManifest.j0, Bool.not_false, if_true]
      exact ⟨trivial, trivial⟩
  · refine ⟨[], [], false, by simp, by simp, fun k hk => ?_⟩
    obtain ⟨k, rfl⟩ := kpos (d := 0) (k := k) (by omega)
    unfold spec_SplitManifest.f impl_SplitManifest.f
    rw [spec_valid _ hl _ hk, impl_valid _ hl _ (by omega)]
    simp only [Option.bind_some]
    rw [if_neg h, if_neg h]
    simp only [spec_SplitManifest.j0, impl_SplitManifest.j0, if_true]
    exact ⟨trivial, trivial⟩
/-- The law behind the two answers. -/
theorem law_ends (a : List S67) (p : Int) (hl : (a.map c67).length ≤ 1048576) (hal : a.length ≤ 1048576) (r s : List S61) (b : Bool) (hr : r.length ≤ 1048576) (hs : s.length ≤ 1048576) (he : ∀ k, 1048700 ≤ k → impl_SplitManifest.f k (a.map c67) p = some (r, s, b)) (k : Nat) (hk : 1048700 ≤ k) :
    laws_FnExactSplitManifest.j0 (k + 3) a p r s b (a.map c67) r s b false = some true := by
  obtain ⟨t, ht⟩ := marks
  have s1 : ¬ (1 + 5 * ((a.map c67).length : Int) < 0) := by omega
  have s2 : ¬ (1 + 5 * (r.length : Int) < 0) := by omega
  have s3 : ¬ (1 + 5 * (r.length : Int) + 5 * (s.length : Int) < 0) := by omega
  simp only [laws_FnExactSplitManifest.j0, Bool.false_eq_true, if_false]
  rw [toContainerS_ends a hal _ (by omega)]
  simp only [Option.bind_some]
  rw [eqContainerS_refl _ hl _ (by omega)]
  simp only [Option.bind_some, if_true]
  rw [markContainerS_ends t ht (a.map c67) 1 (by omega) (by omega) _ (by omega)]
  simp only [Option.bind_some]
  rw [if_neg s1, eqContainerS_refl r hr _ (by omega)]
  simp only [Option.bind_some, if_true]
  rw [eqContainerS_refl s hs _ (by omega)]
  simp only [Option.bind_some, if_true, bne_self_eq_false, laws_FnExactSplitManifest.j1, Bool.false_eq_true, if_false]
  rw [markContainerS_ends t ht r 1 (by omega) (by omega) _ (by omega)]
  simp only [Option.bind_some]
  rw [markContainerS_ends t ht s (1 + 5 * (r.length : Int)) (by omega) (by omega) _ (by omega)]
  simp only [Option.bind_some]
  rw [heldContainerS_ends t ht r.length 1 (by omega) (by omega) _ (by omega)]
  simp only [Option.bind_some]
  rw [if_neg s2, heldContainerS_ends t ht s.length (1 + 5 * (r.length : Int)) (by omega) (by omega) _ (by omega)]
  simp only [Option.bind_some]
  rw [if_neg s3, if_true, toContainerS_ends a hal _ (by omega)]
  simp only [Option.bind_some]
  rw [he _ (by omega)]
  simp only [Option.bind_some]
  rw [eqContainerS_refl r hr _ (by omega)]
  simp only [Option.bind_some, if_true]
  rw [eqContainerS_refl s hs _ (by omega)]
  simp only [Option.bind_some, if_true, bne_self_eq_false, laws_FnExactSplitManifest.j2, Bool.false_eq_true, if_false]
  rw [heldContainerS_ends t ht r.length 1 (by omega) (by omega) _ (by omega)]
  simp only [Option.bind_some]
  rw [if_neg s2, heldContainerS_ends t ht s.length (1 + 5 * (r.length : Int)) (by omega) (by omega) _ (by omega)]
  simp only [Option.bind_some]
  rw [if_neg s3, if_true]
theorem FnExactSplitManifest : laws_FnExactSplitManifest.Pure := by
  intro a p ha hp
  have ha1 := ha.1
  by_cases h : (1048576 : Int) - a.length - totC a < 0
  · refine ⟨1048800, ?_⟩
    unfold laws_FnExactSplitManifest.f
    rw [szContainerS_ends a ha1 (fun s hs => (ha.2 s hs).1) _ (by omega)]
    simp only [Option.bind_some]
    rw [if_pos h, if_pos (by omega)]
  · have hl : (a.map c67).length ≤ 1048576 := by rw [List.length_map]; omega
    have hal : a.length ≤ 1048576 := by omega
    obtain ⟨r, s, b, hr, hs, he⟩ := both (a.map c67) p hl
    refine ⟨1048800 + 3, ?_⟩
    have hlaw := law_ends a p hl hal r s b hr hs (fun k hk => (he k hk).2) 1048800 (by omega)
    obtain ⟨e1, e2⟩ := he (1048800 + 3) (by omega)
    unfold laws_FnExactSplitManifest.f
    rw [szContainerS_ends a ha1 (fun s hs => (ha.2 s hs).1) _ (by omega)]
    simp only [Option.bind_some]
    rw [if_neg h, if_neg h, toContainerS_ends a hal _ (by omega)]
    simp only [Option.bind_some]
    rw [e1, e2]
    simp only [Option.bind_some]
    rw [eqContainerS_refl r hr _ (by omega)]
    simp only [Option.bind_some, if_true]
    rw [eqContainerS_refl s hs _ (by omega)]
    simp only [Option.bind_some, if_true, bne_self_eq_false]
    exact hlaw
end Go.Proofs.Ythijmjdjnihggaa.Pure
