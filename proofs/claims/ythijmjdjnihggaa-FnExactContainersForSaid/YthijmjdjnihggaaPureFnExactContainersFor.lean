/- The law FnExactContainersFor answers true for every list of containers and port. No condition beyond the form's own reach. -/
import Derived.Test.YthijmjdjnihggaaSFnExactContainersFor
import Derived.Test.YthijmjdjnihggaaMStrM
namespace Go.Proofs.Ythijmjdjnihggaa.Pure
open Go.RowKit Go.Proofs.Ythijmjdjnihggaa.X Go.Proofs.YthijmjdjnihggaaW.PrintWords Go.Proofs.YthijmjdjnihggaaW.PrintLast
set_option linter.unusedSimpArgs false
/-- The numbers of the containers for a port. -/
def pick (p : Int) : List S61 → List ByteArray
  | [] => []
  | x :: r => if x.f4 = p then x.f0 :: pick p r else pick p r
theorem pick_length (p : Int) : ∀ cs : List S61, (pick p cs).length ≤ cs.length
  | [] => Nat.le_refl _
  | x :: r => by
    have := pick_length p r
    unfold pick
    split
    · simp only [List.length_cons]; omega
    · simp only [List.length_cons]; omega
theorem spec_loop (cs : List S61) (p : Int) (hx : cs.length ≤ 1048576) (d : Nat) : ∀ (k i : Nat) (out : List ByteArray), i + d = cs.length → d < k → out.length + d ≤ 1048576 → spec_ContainersFor.l0 k cs p out (i : Int) = some (out ++ pick p (cs.drop i), true) := by
  induction d with
  | zero =>
    intro k i out hi hk ho
    obtain ⟨k, rfl⟩ := kpos hk
    simp only [spec_ContainersFor.l0]
    rw [if_neg (by omega), List.drop_of_length_le (by omega)]
    simp [pick]
  | succ d ih =>
    intro k i out hi hk ho
    obtain ⟨k, rfl⟩ := kpos hk
    have hlt : i < cs.length := by omega
    simp only [spec_ContainersFor.l0]
    rw [if_pos (by omega), if_pos (by omega), rdC61_nat, getD_cons (z := z61) hlt, wnext hlt (by omega)]
    unfold pick
    by_cases h : (cs.getD i z61).f4 = p
    · rw [if_pos h, if_pos h, if_pos (by omega), ih k (i + 1) _ (by omega) (by omega) (by simp only [List.length_append, List.length_singleton]; omega)]
      simp
    · rw [if_neg h, if_neg h, ih k (i + 1) _ (by omega) (by omega) (by omega)]
theorem impl_loop (cs : List S61) (p : Int) (hx : cs.length ≤ 1048576) (d : Nat) : ∀ (k i : Nat) (out : List ByteArray), i + d = cs.length → d < k → out.length + d ≤ 1048576 → impl_ContainersFor.l0 k p out cs (cs.length : Int) (i : Int) = some (out ++ pick p (cs.drop i), true) := by
  induction d with
  | zero =>
    intro k i out hi hk ho
    obtain ⟨k, rfl⟩ := kpos hk
    simp only [impl_ContainersFor.l0]
    rw [if_neg (by omega), List.drop_of_length_le (by omega)]
    simp [pick]
  | succ d ih =>
    intro k i out hi hk ho
    obtain ⟨k, rfl⟩ := kpos hk
    have hlt : i < cs.length := by omega
    simp only [impl_ContainersFor.l0]
    rw [if_pos (by omega), if_pos (by omega), if_pos (by omega), rdC61_nat, getD_cons (z := z61) hlt, wnext hlt (by omega)]
    unfold pick
    by_cases h : (cs.getD i z61).f4 = p
    · rw [if_pos h, if_pos h, if_pos (by omega), ih k (i + 1) _ (by omega) (by omega) (by simp only [List.length_append, List.length_singleton]; omega)]
      simp
    · rw [if_neg h, if_neg h, ih k (i + 1) _ (by omega) (by omega) (by omega)]
theorem both (cs : List S61) (p : Int) (hl : cs.length ≤ 1048576) : ∃ r b, r.length ≤ 1048576 ∧ ∀ k, 1048700 ≤ k → spec_ContainersFor.f k cs p = some (r, b) ∧ impl_ContainersFor.f k cs p = some (r, b) := by
  by_cases h : validC cs = true
  · by_cases h2 : inB p 1 9 = true
    · refine ⟨pick p cs, true, Nat.le_trans (pick_length p cs) hl, fun k hk => ?_⟩
      obtain ⟨k, rfl⟩ := kpos (d := 0) (k := k) (by omega)
      unfold spec_ContainersFor.f impl_ContainersFor.f
      rw [spec_valid _ hl _ hk, impl_valid _ hl _ (by omega), l1In_ends, within_ends]
      simp only [Option.bind_some]
      rw [if_pos h, if_pos h, h2]
      simp only [spec_ContainersFor.j0, impl_ContainersFor.j0, Bool.not_true, Bool.false_eq_true, if_false]
      have e1 := spec_loop cs p hl cs.length k 0 [] (by omega) (by omega) (by simp; omega)
      have e2 := impl_loop cs p hl cs.length k 0 [] (by omega) (by omega) (by simp; omega)
      rw [show ((0 : Nat) : Int) = 0 from rfl, List.drop_zero, List.nil_append] at e1 e2
      exact ⟨e1, e2⟩
    · refine ⟨[], false, by simp, fun k hk => ?_⟩
      obtain ⟨k, rfl⟩ := kpos (d := 0) (k := k) (by omega)
      unfold spec_ContainersFor.f impl_ContainersFor.f
      rw [spec_valid _ hl _ hk, impl_valid _ hl _ (by omega), l1In_ends, within_ends]
      simp only [Option.bind_some]
      rw [Bool.not_eq_true] at h2
      rw [if_pos h, if_pos h, h2]
      simp only [spec_ContainersFor.j0, impl_ContainersFor.j0, Bool.not_false, if_true]
      exact ⟨trivial, trivial⟩
  · refine ⟨[], false, by simp, fun k hk => ?_⟩
    obtain ⟨k, rfl⟩ := kpos (d := 0) (k := k) (by omega)
    unfold spec_ContainersFor.f impl_ContainersFor.f
    rw [spec_valid _ hl _ hk, impl_valid _ hl _ (by omega)]
    simp only [Option.bind_some]
    rw [if_neg h, if_neg h]
    simp only [spec_ContainersFor.j0, impl_ContainersFor.j0, if_true]
    exact ⟨trivial, trivial⟩
/-- The law behind the two answers. -/
theorem law_ends (a : List S67) (p : Int) (hl : (a.map c67).length ≤ 1048576) (hal : a.length ≤ 1048576) (r : List ByteArray) (b : Bool) (hr : r.length ≤ 1048576) (he : ∀ k, 1048700 ≤ k → impl_ContainersFor.f k (a.map c67) p = some (r, b)) (k : Nat) (hk : 1048700 ≤ k) :
    laws_FnExactContainersFor.j0 (k + 3) a p r b (a.map c67) r b false = some true := by
  obtain ⟨t, ht⟩ := marks
  have s1 : ¬ (1 + 5 * ((a.map c67).length : Int) < 0) := by omega
  have s2 : ¬ (1 + (r.length : Int) < 0) := by omega
  simp only [laws_FnExactContainersFor.j0, Bool.false_eq_true, if_false]
  rw [toContainerS_ends a hal _ (by omega)]
  simp only [Option.bind_some]
  rw [eqContainerS_refl _ hl _ (by omega)]
  simp only [Option.bind_some, if_true]
  rw [markContainerS_ends t ht (a.map c67) 1 (by omega) (by omega) _ (by omega)]
  simp only [Option.bind_some]
  rw [if_neg s1, eqStringS_refl r hr _ (by omega)]
  simp only [Option.bind_some, if_true, bne_self_eq_false, laws_FnExactContainersFor.j1, Bool.false_eq_true, if_false]
  rw [markStringS_ends t ht r 1 (by omega) (by omega) _ (by omega)]
  simp only [Option.bind_some]
  rw [heldStringS_ends t ht r.length 1 (by omega) (by omega) _ (by omega)]
  simp only [Option.bind_some]
  rw [if_neg s2, if_true, toContainerS_ends a hal _ (by omega)]
  simp only [Option.bind_some]
  rw [he _ (by omega)]
  simp only [Option.bind_some]
  rw [eqStringS_refl r hr _ (by omega)]
  simp only [Option.bind_some, if_true, bne_self_eq_false, laws_FnExactContainersFor.j2, Bool.false_eq_true, if_false]
  rw [heldStringS_ends t ht r.length 1 (by omega) (by omega) _ (by omega)]
  simp only [Option.bind_some]
  rw [if_neg s2, if_true]
theorem FnExactContainersFor : laws_FnExactContainersFor.Pure := by
  intro a p ha hp
  have ha1 := ha.1
  by_cases h : (1048576 : Int) - a.length - totC a < 0
  · refine ⟨1048800, ?_⟩
    unfold laws_FnExactContainersFor.f
    rw [szContainerS_ends a ha1 (fun s hs => (ha.2 s hs).1) _ (by omega)]
    simp only [Option.bind_some]
    rw [if_pos h, if_pos (by omega)]
  · have hl : (a.map c67).length ≤ 1048576 := by rw [List.length_map]; omega
    have hal : a.length ≤ 1048576 := by omega
    obtain ⟨r, b, hr, he⟩ := both (a.map c67) p hl
    refine ⟨1048800 + 3, ?_⟩
    have hlaw := law_ends a p hl hal r b hr (fun k hk => (he k hk).2) 1048800 (by omega)
    obtain ⟨e1, e2⟩ := he (1048800 + 3) (by omega)
    unfold laws_FnExactContainersFor.f
    rw [szContainerS_ends a ha1 (fun s hs => (ha.2 s hs).1) _ (by omega)]
    simp only [Option.bind_some]
    rw [if_neg h, if_neg h, toContainerS_ends a hal _ (by omega)]
    simp only [Option.bind_some]
    rw [e1, e2]
    simp only [Option.bind_some]
    rw [eqStringS_refl r hr _ (by omega)]
    simp only [Option.bind_some, if_true, bne_self_eq_false]
    exact hlaw
end Go.Proofs.Ythijmjdjnihggaa.Pure
