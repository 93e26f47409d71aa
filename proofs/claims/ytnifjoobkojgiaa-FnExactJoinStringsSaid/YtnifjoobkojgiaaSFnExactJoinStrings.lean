-- Written by a program of ours (wip/bin/rows.py). Not trusted: Lean checks it.
import Derived.Test.YtnifjoobkojgiaaFlawsFnExactJoinStrings
import Derived.Test.YtnifjoobkojgiaaOpen
namespace Go.Proofs.Ytnifjoobkojgiaa.X
open Go.RowKit Go.Proofs.YtnifjoobkojgiaaW.PrintWords Go.Proofs.YtnifjoobkojgiaaW.PrintLast
/-- The law's one pure statement. -/
def laws_FnExactJoinStrings.Pure : Prop := ∀ (l0 : (List ByteArray)) (a1 : ByteArray), (WL WS) l0 → WS a1 → ∃ k, laws_FnExactJoinStrings.f k l0 a1 = some true
end Go.Proofs.Ytnifjoobkojgiaa.X
