-- Written by a program of ours (wip/bin/rows.py). Not trusted: Lean checks it.
import Derived.Test.YthijmjdjnihggaaFlawsFnExactIsValidContainers
import Derived.Test.YthijmjdjnihggaaOpen
namespace Go.Proofs.Ythijmjdjnihggaa.X
open Go.RowKit Go.Proofs.YthijmjdjnihggaaW.PrintWords Go.Proofs.YthijmjdjnihggaaW.PrintLast
/-- The law's one pure statement. -/
def laws_FnExactIsValidContainers.Pure : Prop := ∀ (l0 : (List S67)), (WL W67) l0 → ∃ k, laws_FnExactIsValidContainers.f k l0 = some true
end Go.Proofs.Ythijmjdjnihggaa.X
