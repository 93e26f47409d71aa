-- Written by a program of ours (wip/bin/rows.py). Not trusted: Lean checks it.
import Derived.Test.YtappefahgaljfaaGlawTakeBox
import Derived.Test.YtappefahgaljfaaOpen
namespace Go.Proofs.Ytappefahgaljfaa.X
open Go.RowKit Go.Proofs.YtappefahgaljfaaW.PrintWords Go.Proofs.YtappefahgaljfaaW.PrintLast
/-- The law's one pure statement. -/
def laws_FnExactTakeBox.Pure : Prop := ∀ (l0_0 : (List (List Int))) (a1 : Int), (WL (WL WI)) l0_0 → WI a1 → ∃ k, laws_FnExactTakeBox.f k l0_0 a1 = some true
end Go.Proofs.Ytappefahgaljfaa.X
