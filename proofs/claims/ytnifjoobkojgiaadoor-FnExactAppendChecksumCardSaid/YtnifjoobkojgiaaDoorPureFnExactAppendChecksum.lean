/- The law FnExactAppendChecksum answers true for every text. No condition beyond the form's own. -/
import Derived.Test.YtnifjoobkojgiaaDoorSFnExactAppendChecksum
import Derived.Test.YtnifjoobkojgiaaDoorMSeal
namespace Go.Proofs.YtnifjoobkojgiaaDoor.Pure
open Go.RowKit Go.Proofs.YtnifjoobkojgiaaDoor.X Go.Proofs.YtnifjoobkojgiaaDoorW.PrintWords Go.Proofs.YtnifjoobkojgiaaDoorW.PrintLast
set_option linter.unusedVariables false
set_option linter.unusedSimpArgs false
theorem FnExactAppendChecksum : laws_FnExactAppendChecksum.Pure := by
  intro s _
  refine ⟨1048600, ?_⟩
  unfold laws_FnExactAppendChecksum.f
  by_cases h : (s.size : Int) > 1048576
  · rw [if_pos h]
  · rw [if_neg h, spec_Append s (by omega) _ (by omega), impl_Append s (by omega) _ (by omega), Option.bind_some, Option.bind_some]
    simp
end Go.Proofs.YtnifjoobkojgiaaDoor.Pure
