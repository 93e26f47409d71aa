/- The law FnExactRelocationBound answers true for every yard and every order. No condition beyond the form's own reach. -/
import Derived.Test.YtagbfaacklilbaaSFnExactRelocationBound
import Derived.Test.YtagbfaacklilbaaMRel
namespace Go.Proofs.Ytagbfaacklilbaa.Pure
open Go.RowKit Go.Proofs.Ytagbfaacklilbaa.X Go.Proofs.YtagbfaacklilbaaW.PrintWords Go.Proofs.YtagbfaacklilbaaW.PrintLast
set_option linter.unusedVariables false
set_option linter.unusedSimpArgs false
theorem FnExactRelocationBound : laws_FnExactRelocationBound.Pure := by
  intro a o ha _
  refine ⟨4500001, ?_⟩
  have ha1 := ha.1
  unfold laws_FnExactRelocationBound.f
  by_cases ho : (o.length : Int) > 1048576
  · rw [if_pos ho]
  rw [if_neg ho, szYard_ends a ha1 (fun s hs => (ha.2 s hs).1) _ (by omega)]
  simp only [Option.bind_some]
  by_cases h : (1048576 : Int) - a.length - tot a < 0
  · rw [if_pos h, if_pos (by omega)]
  · have e1 := spec_bound a o (by omega) (by omega) (by omega) 4500001 (by omega)
    have e2 := impl_bound a o (by omega) (by omega) (by omega) 4500001 (by omega)
    rw [if_neg h, if_neg h, toYard_ends a (by omega) (by omega) _ (by omega)]
    simp only [Option.bind_some]
    rw [toIntS_ends o (by omega) _ (by omega)]
    simp only [Option.bind_some, e1, e2, if_true, bne_self_eq_false]
    simp only [laws_FnExactRelocationBound.j0, Bool.false_eq_true, if_false]
    rw [toYard_ends a (by omega) (by omega) _ (by omega)]
    simp only [Option.bind_some]
    rw [eqYard_refl a (by omega) (by omega) _ (by omega)]
    simp only [Option.bind_some, if_true]
    rw [toIntS_ends o (by omega) _ (by omega)]
    simp only [Option.bind_some]
    rw [eqIntS_refl o (by omega) 4500000 (by omega)]
    rfl
end Go.Proofs.Ytagbfaacklilbaa.Pure
