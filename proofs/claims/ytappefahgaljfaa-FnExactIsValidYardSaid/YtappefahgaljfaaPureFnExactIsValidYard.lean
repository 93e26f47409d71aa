/- The law FnExactIsValidYard answers true for every yard. No condition beyond the form's own reach. -/
import Derived.Test.YtappefahgaljfaaSFnExactIsValidYard
import Derived.Test.YtappefahgaljfaaMYard
namespace Go.Proofs.Ytappefahgaljfaa.Pure
open Go.RowKit Go.Proofs.Ytappefahgaljfaa.X Go.Proofs.YtappefahgaljfaaW.PrintWords Go.Proofs.YtappefahgaljfaaW.PrintLast
set_option linter.unusedVariables false
set_option linter.unusedSimpArgs false
theorem FnExactIsValidYard : laws_FnExactIsValidYard.Pure := by
  intro a ha
  refine ⟨2097200, ?_⟩
  have ha1 := ha.1
  unfold laws_FnExactIsValidYard.f
  rw [szYard_ends a ha1 (fun s hs => (ha.2 s hs).1) _ (by omega)]
  simp only [Option.bind_some]
  by_cases h : (1048576 : Int) - a.length - tot a < 0
  · rw [if_pos h, if_pos (by omega)]
  · rw [if_neg h, if_neg h, toYard_ends a (by omega) (by omega) _ (by omega)]
    simp only [Option.bind_some, spec_IsValidYard.f, impl_IsValidYard.f]
    rw [spec_goodY _ _ (by omega)]
    simp only [Option.bind_some, bne_self_eq_false, Bool.false_eq_true, if_false]
    rw [eqYard_refl a (by omega) (by omega) _ (by omega)]
    rfl
end Go.Proofs.Ytappefahgaljfaa.Pure
