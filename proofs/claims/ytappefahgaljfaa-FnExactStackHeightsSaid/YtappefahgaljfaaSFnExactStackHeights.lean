-- Written by a program of ours (wip/bin/rows.py). Not trusted: Lean checks it.
import Derived.Test.YtappefahgaljfaaGlawStackHeights
import Derived.Test.YtappefahgaljfaaOpen
namespace Go.Proofs.Ytappefahgaljfaa.X
open Go.RowKit Go.Proofs.YtappefahgaljfaaW.PrintWords Go.Proofs.YtappefahgaljfaaW.PrintLast
/-- The law's one pure statement. -/
def laws_FnExactStackHeights.Pure : Prop := ∀ (l0_0 : (List (List Int))), (WL (WL WI)) l0_0 → ∃ k, laws_FnExactStackHeights.f k l0_0 = some true
end Go.Proofs.Ytappefahgaljfaa.X
