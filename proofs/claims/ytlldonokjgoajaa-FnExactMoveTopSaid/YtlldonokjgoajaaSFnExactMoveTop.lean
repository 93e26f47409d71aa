-- Written by a program of ours (wip/bin/rows.py). Not trusted: Lean checks it.
import Derived.Test.YtlldonokjgoajaaGlawMoveTop
import Derived.Test.YtlldonokjgoajaaOpen
namespace Go.Proofs.Ytlldonokjgoajaa.X
open Go.RowKit Go.Proofs.YtlldonokjgoajaaW.PrintWords Go.Proofs.YtlldonokjgoajaaW.PrintLast
/-- The law's one pure statement. -/
def laws_FnExactMoveTop.Pure : Prop := ∀ (l0_0 : (List (List Int))) (a1 : Int) (a2 : Int), (WL (WL WI)) l0_0 → WI a1 → WI a2 → ∃ k, laws_FnExactMoveTop.f k l0_0 a1 a2 = some true
end Go.Proofs.Ytlldonokjgoajaa.X
