-- Written by a program of ours (wip/bin/rows.py). Not trusted: Lean checks it.
import Derived.Test.YthijmjdjnihggaaFlawsFnExactSplitManifest
import Derived.Test.YthijmjdjnihggaaOpen
namespace Go.Proofs.Ythijmjdjnihggaa.X
open Go.RowKit Go.Proofs.YthijmjdjnihggaaW.PrintWords Go.Proofs.YthijmjdjnihggaaW.PrintLast
/-- The law's one pure statement. -/
def laws_FnExactSplitManifest.Pure : Prop := ∀ (l0 : (List S67)) (a1 : Int), (WL W67) l0 → WI a1 → ∃ k, laws_FnExactSplitManifest.f k l0 a1 = some true
end Go.Proofs.Ythijmjdjnihggaa.X
