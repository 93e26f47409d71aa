-- Written by a program of ours (wip/bin/rows.py). Not trusted: Lean checks it.
import Derived.Test.YtnifjoobkojgiaaDoorFlawsFnExactSplitString
import Derived.Test.YtnifjoobkojgiaaDoorOpen
namespace Go.Proofs.YtnifjoobkojgiaaDoor.X
open Go.RowKit Go.Proofs.YtnifjoobkojgiaaDoorW.PrintWords Go.Proofs.YtnifjoobkojgiaaDoorW.PrintLast
/-- The law's one pure statement. -/
def laws_FnExactSplitString.Pure : Prop := ∀ (a0 : ByteArray) (a1 : ByteArray), WS a0 → WS a1 → ∃ k, laws_FnExactSplitString.f k a0 a1 = some true
end Go.Proofs.YtnifjoobkojgiaaDoor.X
