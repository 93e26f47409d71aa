-- Written by a program of ours (wip/bin/rows.py). Not trusted: Lean checks it.
import Derived.Test.YtnifjoobkojgiaaDoorGlawStrings
import Derived.Test.YtnifjoobkojgiaaDoorOpen
namespace Go.Proofs.YtnifjoobkojgiaaDoor.X
open Go.RowKit Go.Proofs.YtnifjoobkojgiaaDoorW.PrintWords Go.Proofs.YtnifjoobkojgiaaDoorW.PrintLast
/-- The law's one pure statement. -/
def laws_FnStrings.Pure : Prop := ∀ (l0 : (List Int)), (WL WU8) l0 → ∃ k, laws_FnStrings.f k l0 = some true
end Go.Proofs.YtnifjoobkojgiaaDoor.X
