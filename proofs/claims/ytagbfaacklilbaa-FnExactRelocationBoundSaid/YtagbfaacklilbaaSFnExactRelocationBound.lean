-- Written by a program of ours (wip/bin/rows.py). Not trusted: Lean checks it.
import Derived.Test.YtagbfaacklilbaaFlawsFnExactRelocationBound
import Derived.Test.YtagbfaacklilbaaOpen
namespace Go.Proofs.Ytagbfaacklilbaa.X
open Go.RowKit Go.Proofs.YtagbfaacklilbaaW.PrintWords Go.Proofs.YtagbfaacklilbaaW.PrintLast
/-- The law's one pure statement. -/
def laws_FnExactRelocationBound.Pure : Prop := ∀ (l0_0 : (List (List Int))) (l1 : (List Int)), (WL (WL WI)) l0_0 → (WL WI) l1 → ∃ k, laws_FnExactRelocationBound.f k l0_0 l1 = some true
end Go.Proofs.Ytagbfaacklilbaa.X
