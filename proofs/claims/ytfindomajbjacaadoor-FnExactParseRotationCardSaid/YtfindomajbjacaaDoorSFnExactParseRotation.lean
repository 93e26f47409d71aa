-- Written by a program of ours (wip/bin/rows.py). Not trusted: Lean checks it.
import Derived.Test.YtfindomajbjacaaDoorFlawsFnExactParseRotation
import Derived.Test.YtfindomajbjacaaDoorOpen
namespace Go.Proofs.YtfindomajbjacaaDoor.X
open Go.RowKit Go.Proofs.YtfindomajbjacaaDoorW.PrintWords Go.Proofs.YtfindomajbjacaaDoorW.PrintLast
/-- The law's one pure statement. -/
def laws_FnExactParseRotation.Pure : Prop := ∀ (a0 : ByteArray), WS a0 → ∃ k, laws_FnExactParseRotation.f k a0 = some true
end Go.Proofs.YtfindomajbjacaaDoor.X
