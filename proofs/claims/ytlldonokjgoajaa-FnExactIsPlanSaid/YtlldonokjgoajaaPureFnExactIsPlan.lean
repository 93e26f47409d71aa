/- The law FnExactIsPlan answers true for every yard, order and list of steps. No condition beyond the form's own reach. -/
import Derived.Test.YtlldonokjgoajaaSFnExactIsPlan
import Derived.Test.YtlldonokjgoajaaMPlan
import Derived.Test.YtlldonokjgoajaaMYard
import Derived.Test.YtlldonokjgoajaaMSteps
namespace Go.Proofs.Ytlldonokjgoajaa.Pure
open Go.RowKit Go.Proofs.Ytlldonokjgoajaa.X Go.Proofs.YtlldonokjgoajaaW.PrintWords Go.Proofs.YtlldonokjgoajaaW.PrintLast
set_option linter.unusedVariables false
set_option linter.unusedSimpArgs false
theorem FnExactIsPlan : laws_FnExactIsPlan.Pure := by
  intro a o l ha _ hl
  refine ⟨6000001, ?_⟩
  have ha1 := ha.1
  have hl1 := hl.1
  unfold laws_FnExactIsPlan.f
  by_cases ho : (o.length : Int) > 1048576
  · rw [if_pos ho]
  rw [if_neg ho, szYard_ends a ha1 (fun s hs => (ha.2 s hs).1) _ (by omega)]
  simp only [Option.bind_some]
  by_cases h : (1048576 : Int) - a.length - tot a < 0
  · rw [if_pos h, if_pos (by omega)]
  rw [if_neg h, if_neg h, szStepS_ends l _ hl1 (by omega) (by omega)]
  simp only [Option.bind_some]
  by_cases h2 : (1048576 : Int) - a.length - tot a - (l.length : Int) < 0
  · rw [if_pos h2, if_pos (by omega)]
  rw [if_neg h2, if_neg h2, toYard_ends a (by omega) (by omega) _ (by omega), Option.bind_some, toIntS_ends o (by omega) _ (by omega), Option.bind_some, toStepS_ends l (by omega) _ (by omega), Option.bind_some]
  obtain ⟨r, e1, e2⟩ := plan_both a o (l.map cStep) (by omega) (by omega) (by omega) (by rw [List.length_map]; omega) 6000001 (by omega)
  rw [e1, Option.bind_some, Option.bind_some, Option.bind_some, Option.bind_some, e2, Option.bind_some, bne_self_eq_false, if_neg (by decide), bne_self_eq_false]
  simp only [laws_FnExactIsPlan.j0, Bool.false_eq_true, if_false]
  rw [toYard_ends a (by omega) (by omega) _ (by omega), Option.bind_some, eqYard_refl a (by omega) (by omega) _ (by omega), Option.bind_some, if_pos rfl, toIntS_ends o (by omega) _ (by omega), Option.bind_some, eqIntS_refl o (by omega) 6000000 (by omega), Option.bind_some, if_pos rfl, toStepS_ends l (by omega) _ (by omega), Option.bind_some, eqStepS_ends (l.map cStep) (by rw [List.length_map]; omega) 6000000 (by rw [List.length_map]; omega)]
  rfl
end Go.Proofs.Ytlldonokjgoajaa.Pure
