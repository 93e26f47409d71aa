-- Written by a program of ours (wip/bin/rows.py). Not trusted: Lean checks it.
import Derived.Test.YtappefahgaljfaaGlawPutBox
import Derived.Test.YtappefahgaljfaaOpen
namespace Go.Proofs.Ytappefahgaljfaa.X
open Go.RowKit Go.Proofs.YtappefahgaljfaaW.PrintWords Go.Proofs.YtappefahgaljfaaW.PrintLast
/-- The law's one pure statement. -/
def laws_FnExactPutBox.Pure : Prop := ∀ (l0_0 : (List (List Int))) (a1 : Int) (a2 : Int), (WL (WL WI)) l0_0 → WI a1 → WI a2 → ∃ k, laws_FnExactPutBox.f k l0_0 a1 a2 = some true
end Go.Proofs.Ytappefahgaljfaa.X
