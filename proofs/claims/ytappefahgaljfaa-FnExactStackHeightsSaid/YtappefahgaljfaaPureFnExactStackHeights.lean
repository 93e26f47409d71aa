/- The law FnExactStackHeights answers true for every yard (its walk says so: GlawStackHeights). -/
import Derived.Test.YtappefahgaljfaaSFnExactStackHeights
namespace Go.Proofs.Ytappefahgaljfaa.Pure
open Go.RowKit Go.Proofs.Ytappefahgaljfaa.X Go.Proofs.YtappefahgaljfaaW.PrintWords Go.Proofs.YtappefahgaljfaaW.PrintLast
set_option linter.unusedVariables false
set_option linter.unusedSimpArgs false
theorem FnExactStackHeights : laws_FnExactStackHeights.Pure := by
  intro a _
  exact ⟨0, rfl⟩
end Go.Proofs.Ytappefahgaljfaa.Pure
