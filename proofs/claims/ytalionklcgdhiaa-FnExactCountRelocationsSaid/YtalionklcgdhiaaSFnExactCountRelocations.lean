-- Written by a program of ours (wip/bin/rows.py). Not trusted: Lean checks it.
import Derived.Test.YtalionklcgdhiaaFlawsFnExactCountRelocations
import Derived.Test.YtalionklcgdhiaaOpen
namespace Go.Proofs.Ytalionklcgdhiaa.X
open Go.RowKit Go.Proofs.YtalionklcgdhiaaW.PrintWords Go.Proofs.YtalionklcgdhiaaW.PrintLast
/-- The law's one pure statement. -/
def laws_FnExactCountRelocations.Pure : Prop := ∀ (l0 : (List S72)), (WL W72) l0 → ∃ k, laws_FnExactCountRelocations.f k l0 = some true
end Go.Proofs.Ytalionklcgdhiaa.X
