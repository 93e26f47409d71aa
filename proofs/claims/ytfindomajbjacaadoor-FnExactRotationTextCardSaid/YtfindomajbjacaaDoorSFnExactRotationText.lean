-- Written by a program of ours (wip/bin/rows.py). Not trusted: Lean checks it.
import Derived.Test.YtfindomajbjacaaDoorFlawsFnExactRotationText
import Derived.Test.YtfindomajbjacaaDoorOpen
namespace Go.Proofs.YtfindomajbjacaaDoor.X
open Go.RowKit Go.Proofs.YtfindomajbjacaaDoorW.PrintWords Go.Proofs.YtfindomajbjacaaDoorW.PrintLast
/-- The law's one pure statement. -/
def laws_FnExactRotationText.Pure : Prop := ∀ (l0_0 : (List Int)) (l0_1 : (List Int)), (WL WI) l0_0 → (WL WI) l0_1 → ∃ k, laws_FnExactRotationText.f k l0_0 l0_1 = some true
end Go.Proofs.YtfindomajbjacaaDoor.X
