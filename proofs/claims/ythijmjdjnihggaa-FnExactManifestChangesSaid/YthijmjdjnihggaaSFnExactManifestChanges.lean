-- Written by a program of ours (wip/bin/rows.py). Not trusted: Lean checks it.
import Derived.Test.YthijmjdjnihggaaFlawsFnExactManifestChanges
import Derived.Test.YthijmjdjnihggaaOpen
namespace Go.Proofs.Ythijmjdjnihggaa.X
open Go.RowKit Go.Proofs.YthijmjdjnihggaaW.PrintWords Go.Proofs.YthijmjdjnihggaaW.PrintLast
/-- The law's one pure statement. -/
def laws_FnExactManifestChanges.Pure : Prop := ∀ (l0 : (List S67)) (l1 : (List S67)), (WL W67) l0 → (WL W67) l1 → ∃ k, laws_FnExactManifestChanges.f k l0 l1 = some true
end Go.Proofs.Ythijmjdjnihggaa.X
