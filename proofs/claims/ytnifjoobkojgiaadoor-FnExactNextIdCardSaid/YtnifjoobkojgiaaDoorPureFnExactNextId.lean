/- The law FnExactNextId answers true for every text. No condition beyond the form's own. -/
import Derived.Test.YtnifjoobkojgiaaDoorSFnExactNextId
import Derived.Test.YtnifjoobkojgiaaDoorMNext
namespace Go.Proofs.YtnifjoobkojgiaaDoor.Pure
open Go.RowKit Go.Proofs.YtnifjoobkojgiaaDoor.X Go.Proofs.YtnifjoobkojgiaaDoorW.PrintWords Go.Proofs.YtnifjoobkojgiaaDoorW.PrintLast
set_option linter.unusedVariables false
set_option linter.unusedSimpArgs false
theorem FnExactNextId : laws_FnExactNextId.Pure := by
  intro s _
  refine ⟨40, ?_⟩
  unfold laws_FnExactNextId.f
  by_cases h : (s.size : Int) > 1048576
  · rw [if_pos h]
  · rw [if_neg h, spec_next s 40 (by omega), impl_next s 40 (by omega)]
    simp only [Option.bind_some, if_true, bne_self_eq_false, Bool.false_eq_true, if_false]
end Go.Proofs.YtnifjoobkojgiaaDoor.Pure
