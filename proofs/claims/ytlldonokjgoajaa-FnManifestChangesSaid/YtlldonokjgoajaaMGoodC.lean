/- A container that is told to be a good one. -/
import Derived.Test.YtlldonokjgoajaaMGood
namespace Go.Proofs.Ytlldonokjgoajaa.X
open Go.RowKit Go.Proofs.YtlldonokjgoajaaW.PrintWords Go.Proofs.YtlldonokjgoajaaW.PrintLast
set_option linter.unusedVariables false
set_option linter.unusedSimpArgs false
set_option linter.unusedVariables false
def goodC (x : S89) : Bool := goodB x.f0 x.f1 x.f2 x.f3 x.f4
end Go.Proofs.Ytlldonokjgoajaa.X
