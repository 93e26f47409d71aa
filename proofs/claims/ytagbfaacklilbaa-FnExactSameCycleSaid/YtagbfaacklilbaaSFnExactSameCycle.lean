-- Written by a program of ours (wip/bin/rows.py). Not trusted: Lean checks it.
import Derived.Test.YtagbfaacklilbaaFlawsFnExactSameCycle
import Derived.Test.YtagbfaacklilbaaOpen
namespace Go.Proofs.Ytagbfaacklilbaa.X
open Go.RowKit Go.Proofs.YtagbfaacklilbaaW.PrintWords Go.Proofs.YtagbfaacklilbaaW.PrintLast
/-- The law's one pure statement. -/
def laws_FnExactSameCycle.Pure : Prop := ∀ (l0_0 : (List Int)) (l0_1 : (List Int)) (l1_0 : (List Int)) (l1_1 : (List Int)), (WL WI) l0_0 → (WL WI) l0_1 → (WL WI) l1_0 → (WL WI) l1_1 → ∃ k, laws_FnExactSameCycle.f k l0_0 l0_1 l1_0 l1_1 = some true
end Go.Proofs.Ytagbfaacklilbaa.X
