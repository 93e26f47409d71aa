/- Is a number within bounds: the program's within, the reference's l1In. -/
import Derived.Test.YtlldonokjgoajaaMBase
import Derived.Test.YtlldonokjgoajaaFbList
namespace Go.Proofs.Ytlldonokjgoajaa.X
open Go.RowKit Go.Proofs.YtlldonokjgoajaaW.PrintWords Go.Proofs.YtlldonokjgoajaaW.PrintLast
set_option linter.unusedVariables false
set_option linter.unusedSimpArgs false
def inB (x a b : Int) : Bool := decide (a ≤ x ∧ x ≤ b)
theorem l1In_ends (x a b : Int) : spec_l1In.f x a b = some (inB x a b) := by
  unfold spec_l1In.f inB
  split
  · rename_i h
    congr 1
    rw [Bool.eq_iff_iff]; simp; omega
  · rename_i h
    congr 1
    symm
    rw [decide_eq_false_iff_not]; omega
theorem within_ends (x a b : Int) : impl_within.f x a b = some (inB x a b) := by
  unfold impl_within.f inB
  split
  · rename_i h
    congr 1
    rw [Bool.eq_iff_iff]; simp; omega
  · rename_i h
    congr 1
    symm
    rw [decide_eq_false_iff_not]; omega
end Go.Proofs.Ytlldonokjgoajaa.X
