/- The law FnExactTotalWeight answers true for every list of containers. No condition beyond the form's own reach. -/
import Derived.Test.YthijmjdjnihggaaSFnExactTotalWeight
import Derived.Test.YthijmjdjnihggaaMCont
namespace Go.Proofs.Ythijmjdjnihggaa.Pure
open Go.RowKit Go.Proofs.Ythijmjdjnihggaa.X Go.Proofs.YthijmjdjnihggaaW.PrintWords Go.Proofs.YthijmjdjnihggaaW.PrintLast
set_option linter.unusedSimpArgs false
theorem loops (cs : List S61) (hx : cs.length ≤ 12) (d : Nat) : ∀ (k i : Nat) (a : Int), i + d = cs.length → d < k → spec_TotalWeight.l0 k cs a (i : Int) = impl_TotalWeight.l0 k a cs (cs.length : Int) (i : Int) ∧ ∃ r, spec_TotalWeight.l0 k cs a (i : Int) = some r := by
  induction d with
  | zero =>
    intro k i a hi hk
    obtain ⟨k, rfl⟩ := kpos hk
    simp only [spec_TotalWeight.l0, impl_TotalWeight.l0]
    rw [if_neg (by omega), if_neg (by omega)]
    exact ⟨rfl, _, rfl⟩
  | succ d ih =>
    intro k i a hi hk
    obtain ⟨k, rfl⟩ := kpos hk
    have hlt : i < cs.length := by omega
    simp only [spec_TotalWeight.l0, impl_TotalWeight.l0]
    rw [if_pos (by omega), if_pos (by omega), if_pos (by omega), if_pos (by omega), if_pos (by omega), wnext hlt (by omega)]
    exact ih k (i + 1) _ (by omega) (by omega)
theorem both (cs : List S61) (hl : cs.length ≤ 1048576) (k : Nat) (hk : 1048700 ≤ k) : ∃ r, spec_TotalWeight.f k cs = some r ∧ impl_TotalWeight.f k cs = some r := by
  unfold spec_TotalWeight.f impl_TotalWeight.f
  rw [spec_valid _ hl _ hk, impl_valid _ hl _ (by omega)]
  simp only [Option.bind_some]
  by_cases h : validC cs = true
  · have h12 : cs.length ≤ 12 := by unfold validC at h; simp at h; exact h.1
    obtain ⟨e, r, e1⟩ := loops cs h12 cs.length k 0 0 (by omega) (by omega)
    rw [show ((0 : Nat) : Int) = 0 from rfl] at e e1
    rw [if_pos h, if_pos h]
    exact ⟨r, e1, by rw [← e]; exact e1⟩
  · rw [if_neg h, if_neg h]
    exact ⟨_, rfl, rfl⟩
theorem FnExactTotalWeight : laws_FnExactTotalWeight.Pure := by
  intro a ha
  refine ⟨1048800, ?_⟩
  have ha1 := ha.1
  unfold laws_FnExactTotalWeight.f
  rw [szContainerS_ends a ha1 (fun s hs => (ha.2 s hs).1) _ (by omega)]
  simp only [Option.bind_some]
  by_cases h : (1048576 : Int) - a.length - totC a < 0
  · rw [if_pos h, if_pos (by omega)]
  · have hl : (a.map c67).length ≤ 1048576 := by rw [List.length_map]; omega
    obtain ⟨r, e1, e2⟩ := both (a.map c67) hl 1048800 (by omega)
    rw [if_neg h, if_neg h, toContainerS_ends a (by omega) _ (by omega)]
    simp only [Option.bind_some, e1, e2, if_true, bne_self_eq_false, laws_FnExactTotalWeight.j0, Bool.false_eq_true, if_false]
    rw [toContainerS_ends a (by omega) _ (by omega)]
    simp only [Option.bind_some]
    rw [eqContainerS_refl _ hl _ (by omega)]
    rfl
end Go.Proofs.Ythijmjdjnihggaa.Pure
