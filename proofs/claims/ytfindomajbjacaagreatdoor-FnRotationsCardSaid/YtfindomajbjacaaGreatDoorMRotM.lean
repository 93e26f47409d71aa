import Derived.Test.YtfindomajbjacaaGreatDoorMBase
import Derived.Test.YtfindomajbjacaaGreatDoorFbList
/- Is a number within bounds: the program's within, the reference's l1In. -/
namespace Go.Proofs.YtfindomajbjacaaGreatDoor.X
open Go.RowKit Go.Proofs.YtfindomajbjacaaGreatDoorW.PrintWords Go.Proofs.YtfindomajbjacaaGreatDoorW.PrintLast
set_option linter.unusedVariables false
set_option linter.unusedSimpArgs false
def inB (x a b : Int) : Bool := decide (a ≤ x ∧ x ≤ b)
theorem l1In_ends (x a b : Int) : spec_l1In.f x a b = some (inB x a b) := by
  unfold spec_l1In.f inB
  split
  · rename_i h
    congr 1
    rw [Bool.eq_iff_iff]; simp; omega
  · rename_i h
    congr 1
    symm
    rw [decide_eq_false_iff_not]; omega
theorem within_ends (x a b : Int) : impl_within.f x a b = some (inB x a b) := by
  unfold impl_within.f inB
  split
  · rename_i h
    congr 1
    rw [Bool.eq_iff_iff]; simp; omega
  · rename_i h
    congr 1
    symm
    rw [decide_eq_false_iff_not]; omega
end Go.Proofs.YtfindomajbjacaaGreatDoor.X
/- When a rotation is valid: a plain definition. -/
namespace Go.Proofs.YtfindomajbjacaaGreatDoor.X
open Go.RowKit Go.Proofs.YtfindomajbjacaaGreatDoorW.PrintWords Go.Proofs.YtfindomajbjacaaGreatDoorW.PrintLast
set_option linter.unusedVariables false
set_option linter.unusedSimpArgs false

theorem tmod_nat (a b : Nat) : Int.tmod (a : Int) (b : Int) = ((a % b : Nat) : Int) := by
  rw [Int.tmod_eq_emod_of_nonneg (by omega)]
  rfl

theorem inB_iff {x a b : Int} : inB x a b = true ↔ a ≤ x ∧ x ≤ b := by unfold inB; simp
/-! ### valid rotations -/
def okCall (ps ds : List Int) (i : Nat) : Bool :=
  inB (ps.getD i 0) 1 9 && inB (ds.getD i 0) 1 40 && !(decide (1 < ps.length) && decide (ps.getD i 0 = ps.getD ((i + 1) % ps.length) 0))
def okFromR (ps ds : List Int) : Nat → Nat → Bool
  | 0, _ => true
  | d + 1, i => okCall ps ds i && okFromR ps ds d (i + 1)
def goodR (ps ds : List Int) : Bool := inB (ps.length : Int) 1 12 && decide (ds.length = ps.length) && okFromR ps ds ps.length 0

end Go.Proofs.YtfindomajbjacaaGreatDoor.X
