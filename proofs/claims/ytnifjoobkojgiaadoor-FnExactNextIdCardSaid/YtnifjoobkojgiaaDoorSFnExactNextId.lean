-- Written by a program of ours (wip/bin/rows.py). Not trusted: Lean checks it.
import Derived.Test.YtnifjoobkojgiaaDoorFlawsFnExactNextId
import Derived.Test.YtnifjoobkojgiaaDoorOpen
namespace Go.Proofs.YtnifjoobkojgiaaDoor.X
open Go.RowKit Go.Proofs.YtnifjoobkojgiaaDoorW.PrintWords Go.Proofs.YtnifjoobkojgiaaDoorW.PrintLast
/-- The law's one pure statement. -/
def laws_FnExactNextId.Pure : Prop := ∀ (a0 : ByteArray), WS a0 → ∃ k, laws_FnExactNextId.f k a0 = some true
end Go.Proofs.YtnifjoobkojgiaaDoor.X
