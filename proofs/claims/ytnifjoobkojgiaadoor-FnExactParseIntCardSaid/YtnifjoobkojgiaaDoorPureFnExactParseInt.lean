/- The law FnExactParseInt answers true for every text. No condition beyond the form's own. -/
import Derived.Test.YtnifjoobkojgiaaDoorSFnExactParseInt
import Derived.Test.YtnifjoobkojgiaaDoorMParse
namespace Go.Proofs.YtnifjoobkojgiaaDoor.Pure
open Go.RowKit Go.Proofs.YtnifjoobkojgiaaDoor.X Go.Proofs.YtnifjoobkojgiaaDoorW.PrintWords Go.Proofs.YtnifjoobkojgiaaDoorW.PrintLast
set_option linter.unusedVariables false
set_option linter.unusedSimpArgs false
theorem FnExactParseInt : laws_FnExactParseInt.Pure := by
  intro s _
  refine ⟨200, ?_⟩
  unfold laws_FnExactParseInt.f
  by_cases h : (s.size : Int) > 1048576
  · rw [if_pos h]
  · have e2 : impl_ParseInt.f s = some (readR s) := if_pos (by omega)
    unfold spec_ParseInt.f
    rw [if_neg h, l1Read_ends s _ (by omega), e2, read_same s]
    simp
end Go.Proofs.YtnifjoobkojgiaaDoor.Pure
