-- Written by a program of ours (wip/bin/rows.py). Not trusted: Lean checks it.
import Derived.Test.YtfindomajbjacaaDoorFlawsFnExactContainerText
import Derived.Test.YtfindomajbjacaaDoorOpen
namespace Go.Proofs.YtfindomajbjacaaDoor.X
open Go.RowKit Go.Proofs.YtfindomajbjacaaDoorW.PrintWords Go.Proofs.YtfindomajbjacaaDoorW.PrintLast
/-- The law's one pure statement. -/
def laws_FnExactContainerText.Pure : Prop := ∀ (a0_0 : ByteArray) (a0_1 : Int) (a0_2 : Int) (a0_3 : Int) (a0_4 : Int), WS a0_0 → WI a0_1 → WI a0_2 → WI a0_3 → WI a0_4 → ∃ k, laws_FnExactContainerText.f k a0_0 a0_1 a0_2 a0_3 a0_4 = some true
end Go.Proofs.YtfindomajbjacaaDoor.X
