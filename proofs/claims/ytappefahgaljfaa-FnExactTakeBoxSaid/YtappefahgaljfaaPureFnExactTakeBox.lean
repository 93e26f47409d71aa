/- The law FnExactTakeBox answers true for every yard and number (its walk says so: GlawTakeBox). -/
import Derived.Test.YtappefahgaljfaaSFnExactTakeBox
namespace Go.Proofs.Ytappefahgaljfaa.Pure
open Go.RowKit Go.Proofs.Ytappefahgaljfaa.X Go.Proofs.YtappefahgaljfaaW.PrintWords Go.Proofs.YtappefahgaljfaaW.PrintLast
set_option linter.unusedVariables false
set_option linter.unusedSimpArgs false
theorem FnExactTakeBox : laws_FnExactTakeBox.Pure := by
  intro a n _ _
  exact ⟨0, rfl⟩
end Go.Proofs.Ytappefahgaljfaa.Pure
