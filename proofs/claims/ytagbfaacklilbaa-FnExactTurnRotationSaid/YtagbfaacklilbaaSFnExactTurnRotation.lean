-- Written by a program of ours (wip/bin/rows.py). Not trusted: Lean checks it.
import Derived.Test.YtagbfaacklilbaaFlawsFnExactTurnRotation
import Derived.Test.YtagbfaacklilbaaOpen
namespace Go.Proofs.Ytagbfaacklilbaa.X
open Go.RowKit Go.Proofs.YtagbfaacklilbaaW.PrintWords Go.Proofs.YtagbfaacklilbaaW.PrintLast
/-- The law's one pure statement. -/
def lw.Pure : Prop := ∀ (l0_0 : (List Int)) (l0_1 : (List Int)) (a1 : Int), (WL WI) l0_0 → (WL WI) l0_1 → WI a1 → ∃ k, lw.f k l0_0 l0_1 a1 = some true
end Go.Proofs.Ytagbfaacklilbaa.X
