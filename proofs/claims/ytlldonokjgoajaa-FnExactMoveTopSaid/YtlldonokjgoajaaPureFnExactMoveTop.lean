/- The law FnExactMoveTop answers true for every yard and two stacks (its walk says so: GlawMoveTop). -/
import Derived.Test.YtlldonokjgoajaaSFnExactMoveTop
namespace Go.Proofs.Ytlldonokjgoajaa.Pure
open Go.RowKit Go.Proofs.Ytlldonokjgoajaa.X Go.Proofs.YtlldonokjgoajaaW.PrintWords Go.Proofs.YtlldonokjgoajaaW.PrintLast
set_option linter.unusedVariables false
set_option linter.unusedSimpArgs false
theorem FnExactMoveTop : laws_FnExactMoveTop.Pure := by
  intro a f t _ _ _
  exact ⟨0, rfl⟩
end Go.Proofs.Ytlldonokjgoajaa.Pure
