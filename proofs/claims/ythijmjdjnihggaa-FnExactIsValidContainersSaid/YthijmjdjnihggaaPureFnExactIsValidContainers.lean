/- The law FnExactIsValidContainers answers true for every list of containers. No condition beyond the form's own reach. -/
import Derived.Test.YthijmjdjnihggaaSFnExactIsValidContainers
import Derived.Test.YthijmjdjnihggaaMCont
namespace Go.Proofs.Ythijmjdjnihggaa.Pure
open Go.RowKit Go.Proofs.Ythijmjdjnihggaa.X Go.Proofs.YthijmjdjnihggaaW.PrintWords Go.Proofs.YthijmjdjnihggaaW.PrintLast
set_option linter.unusedSimpArgs false
theorem FnExactIsValidContainers : laws_FnExactIsValidContainers.Pure := by
  intro a ha
  refine ⟨1048800, ?_⟩
  have ha1 := ha.1
  unfold laws_FnExactIsValidContainers.f
  rw [szContainerS_ends a ha1 (fun s hs => (ha.2 s hs).1) _ (by omega)]
  simp only [Option.bind_some]
  by_cases h : (1048576 : Int) - a.length - totC a < 0
  · rw [if_pos h, if_pos (by omega)]
  · have hl : (a.map c67).length ≤ 1048576 := by rw [List.length_map]; omega
    rw [if_neg h, if_neg h, toContainerS_ends a (by omega) _ (by omega)]
    simp only [Option.bind_some, spec_IsValidContainers.f]
    rw [spec_valid _ hl _ (by omega), impl_valid _ hl _ (by omega)]
    simp only [Option.bind_some, bne_self_eq_false, Bool.false_eq_true, if_false]
    rw [eqContainerS_refl _ hl _ (by omega)]
    rfl
end Go.Proofs.Ythijmjdjnihggaa.Pure
