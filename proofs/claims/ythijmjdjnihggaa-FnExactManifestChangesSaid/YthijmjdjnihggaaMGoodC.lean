/- A container that is told to be a good one. -/
import Derived.Test.YthijmjdjnihggaaMGood
namespace Go.Proofs.Ythijmjdjnihggaa.X
open Go.RowKit Go.Proofs.YthijmjdjnihggaaW.PrintWords Go.Proofs.YthijmjdjnihggaaW.PrintLast
set_option linter.unusedVariables false
set_option linter.unusedSimpArgs false
set_option linter.unusedVariables false
def goodC (x : S61) : Bool := goodB x.f0 x.f1 x.f2 x.f3 x.f4
end Go.Proofs.Ythijmjdjnihggaa.X
