/- The law FnExactPutBox answers true for every yard, stack and number (its walk says so: GlawPutBox). -/
import Derived.Test.YtappefahgaljfaaSFnExactPutBox
namespace Go.Proofs.Ytappefahgaljfaa.Pure
open Go.RowKit Go.Proofs.Ytappefahgaljfaa.X Go.Proofs.YtappefahgaljfaaW.PrintWords Go.Proofs.YtappefahgaljfaaW.PrintLast
set_option linter.unusedVariables false
set_option linter.unusedSimpArgs false
theorem FnExactPutBox : laws_FnExactPutBox.Pure := by
  intro a s n _ _ _
  exact ⟨0, rfl⟩
end Go.Proofs.Ytappefahgaljfaa.Pure
