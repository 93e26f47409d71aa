-- Written by a program of ours (wip/bin/rows.py). Not trusted: Lean checks it.
import Derived.Test.YtfindomajbjacaaDoorFlawsFnExactManifestText
import Derived.Test.YtfindomajbjacaaDoorOpen
namespace Go.Proofs.YtfindomajbjacaaDoor.X
open Go.RowKit Go.Proofs.YtfindomajbjacaaDoorW.PrintWords Go.Proofs.YtfindomajbjacaaDoorW.PrintLast
/-- The law's one pure statement. -/
def laws_FnExactManifestText.Pure : Prop := ∀ (l0 : (List S23)), (WL W23) l0 → ∃ k, laws_FnExactManifestText.f k l0 = some true
end Go.Proofs.YtfindomajbjacaaDoor.X
