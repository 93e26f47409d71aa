/- When a rotation is valid: a plain definition. -/
import Derived.Test.YtlldonokjgoajaaMRange
namespace Go.Proofs.Ytlldonokjgoajaa.X
open Go.RowKit Go.Proofs.YtlldonokjgoajaaW.PrintWords Go.Proofs.YtlldonokjgoajaaW.PrintLast
set_option linter.unusedVariables false
set_option linter.unusedSimpArgs false

theorem tmod_nat (a b : Nat) : Int.tmod (a : Int) (b : Int) = ((a % b : Nat) : Int) := by
  rw [Int.tmod_eq_emod_of_nonneg (by omega)]
  rfl

theorem inB_iff {x a b : Int} : inB x a b = true ↔ a ≤ x ∧ x ≤ b := by unfold inB; simp
/-! ### valid rotations -/
def okCall (ps ds : List Int) (i : Nat) : Bool :=
  inB (ps.getD i 0) 1 9 && inB (ds.getD i 0) 1 40 && !(decide (1 < ps.length) && decide (ps.getD i 0 = ps.getD ((i + 1) % ps.length) 0))
def okFromR (ps ds : List Int) : Nat → Nat → Bool
  | 0, _ => true
  | d + 1, i => okCall ps ds i && okFromR ps ds d (i + 1)
def goodR (ps ds : List Int) : Bool := inB (ps.length : Int) 1 12 && decide (ds.length = ps.length) && okFromR ps ds ps.length 0

end Go.Proofs.Ytlldonokjgoajaa.X
