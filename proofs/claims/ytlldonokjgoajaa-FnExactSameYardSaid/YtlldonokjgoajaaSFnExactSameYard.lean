-- Written by a program of ours (wip/bin/rows.py). Not trusted: Lean checks it.
import Derived.Test.YtlldonokjgoajaaFlawsFnExactSameYard
import Derived.Test.YtlldonokjgoajaaOpen
namespace Go.Proofs.Ytlldonokjgoajaa.X
open Go.RowKit Go.Proofs.YtlldonokjgoajaaW.PrintWords Go.Proofs.YtlldonokjgoajaaW.PrintLast
/-- The law's one pure statement. -/
def laws_FnExactSameYard.Pure : Prop := ∀ (l0_0 : (List (List Int))) (l1_0 : (List (List Int))), (WL (WL WI)) l0_0 → (WL (WL WI)) l1_0 → ∃ k, laws_FnExactSameYard.f k l0_0 l1_0 = some true
end Go.Proofs.Ytlldonokjgoajaa.X
