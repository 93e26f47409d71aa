-- Written by a program of ours (wip/bin/rows.py). Not trusted: Lean checks it.
import Derived.Test.YtlldonokjgoajaaFlawsFnExactIsPlan
import Derived.Test.YtlldonokjgoajaaOpen
namespace Go.Proofs.Ytlldonokjgoajaa.X
open Go.RowKit Go.Proofs.YtlldonokjgoajaaW.PrintWords Go.Proofs.YtlldonokjgoajaaW.PrintLast
/-- The law's one pure statement. -/
def laws_FnExactIsPlan.Pure : Prop := ∀ (l0_0 : (List (List Int))) (l1 : (List Int)) (l2 : (List S140)), (WL (WL WI)) l0_0 → (WL WI) l1 → (WL W140) l2 → ∃ k, laws_FnExactIsPlan.f k l0_0 l1 l2 = some true
end Go.Proofs.Ytlldonokjgoajaa.X
