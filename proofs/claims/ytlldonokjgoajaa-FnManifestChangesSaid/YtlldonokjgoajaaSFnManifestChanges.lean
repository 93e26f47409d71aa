-- Written by a program of ours (wip/bin/rows.py). Not trusted: Lean checks it.
import Derived.Test.YtlldonokjgoajaaFlawsFnManifestChanges
import Derived.Test.YtlldonokjgoajaaOpen
namespace Go.Proofs.Ytlldonokjgoajaa.X
open Go.RowKit Go.Proofs.YtlldonokjgoajaaW.PrintWords Go.Proofs.YtlldonokjgoajaaW.PrintLast
/-- The law's one pure statement. -/
def laws_FnManifestChanges.Pure : Prop := ∀ (l0 : (List Int)), (WL WU8) l0 → ∃ k, laws_FnManifestChanges.f k l0 = some true
end Go.Proofs.Ytlldonokjgoajaa.X
