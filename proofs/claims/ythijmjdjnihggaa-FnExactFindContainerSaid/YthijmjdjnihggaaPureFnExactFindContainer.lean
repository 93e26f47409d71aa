/- The law FnExactFindContainer answers true for every list of containers and identifier. No condition beyond the form's own reach. -/
import Derived.Test.YthijmjdjnihggaaSFnExactFindContainer
import Derived.Test.YthijmjdjnihggaaMCont
namespace Go.Proofs.Ythijmjdjnihggaa.Pure
open Go.RowKit Go.Proofs.Ythijmjdjnihggaa.X Go.Proofs.YthijmjdjnihggaaW.PrintWords Go.Proofs.YthijmjdjnihggaaW.PrintLast
set_option linter.unusedSimpArgs false
theorem both (cs : List S61) (id : ByteArray) (hl : cs.length ≤ 1048576) (k : Nat) (hk : 1048700 ≤ k) : ∃ r, spec_FindContainer.f k cs id = some r ∧ impl_FindContainer.f k cs id = some r := by
  unfold spec_FindContainer.f impl_FindContainer.f
  rw [spec_valid _ hl _ hk, impl_valid _ hl _ (by omega), indexOf_ends]
  simp only [Option.bind_some]
  rw [Find_ends _ _ hl _ (by omega)]
  simp only [Option.bind_some]
  split
  · split <;> exact ⟨_, rfl, rfl⟩
  · exact ⟨_, rfl, rfl⟩
theorem FnExactFindContainer : laws_FnExactFindContainer.Pure := by
  intro a id ha _
  refine ⟨1048800, ?_⟩
  have ha1 := ha.1
  unfold laws_FnExactFindContainer.f
  by_cases hz : (id.size : Int) > 1048576
  · rw [if_pos hz]
  rw [if_neg hz]
  rw [szContainerS_ends a ha1 (fun s hs => (ha.2 s hs).1) _ (by omega)]
  simp only [Option.bind_some]
  by_cases h : (1048576 : Int) - a.length - totC a < 0
  · rw [if_pos h, if_pos (by omega)]
  · have hl : (a.map c67).length ≤ 1048576 := by rw [List.length_map]; omega
    obtain ⟨r, e1, e2⟩ := both (a.map c67) id hl 1048800 (by omega)
    rw [if_neg h, if_neg h, toContainerS_ends a (by omega) _ (by omega)]
    simp only [Option.bind_some, e1, e2, if_true, bne_self_eq_false, laws_FnExactFindContainer.j0, Bool.false_eq_true, if_false]
    rw [toContainerS_ends a (by omega) _ (by omega)]
    simp only [Option.bind_some]
    rw [eqContainerS_refl _ hl _ (by omega)]
    rfl
end Go.Proofs.Ythijmjdjnihggaa.Pure
