-- Written by a program of ours (wip/bin/rows.py). Not trusted: Lean checks it.
import Derived.Test.YtnifjoobkojgiaaDoorFlawsFnExactFormatInt
import Derived.Test.YtnifjoobkojgiaaDoorOpen
namespace Go.Proofs.YtnifjoobkojgiaaDoor.X
open Go.RowKit Go.Proofs.YtnifjoobkojgiaaDoorW.PrintWords Go.Proofs.YtnifjoobkojgiaaDoorW.PrintLast
/-- The law's one pure statement. -/
def laws_FnExactFormatInt.Pure : Prop := ∀ (a0 : Int), WI a0 → ∃ k, laws_FnExactFormatInt.f k a0 = some true
end Go.Proofs.YtnifjoobkojgiaaDoor.X
