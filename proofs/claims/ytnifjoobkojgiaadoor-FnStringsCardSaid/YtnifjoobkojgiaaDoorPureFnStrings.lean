/- The law FnStrings answers true for every code (its walk says so: GlawStrings). -/
import Derived.Test.YtnifjoobkojgiaaDoorSFnStrings
namespace Go.Proofs.YtnifjoobkojgiaaDoor.Pure
open Go.RowKit Go.Proofs.YtnifjoobkojgiaaDoor.X Go.Proofs.YtnifjoobkojgiaaDoorW.PrintWords Go.Proofs.YtnifjoobkojgiaaDoorW.PrintLast
set_option linter.unusedVariables false
set_option linter.unusedSimpArgs false
theorem FnStrings : laws_FnStrings.Pure := by
  intro l hl
  exact ⟨0, if_pos hl.2⟩
end Go.Proofs.YtnifjoobkojgiaaDoor.Pure
