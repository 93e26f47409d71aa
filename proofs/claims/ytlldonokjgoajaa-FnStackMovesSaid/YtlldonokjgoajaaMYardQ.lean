/- What the printed questions on yards come to: is a stack there, the top of a stack, the place of a number, the free places. -/
import Derived.Test.YtlldonokjgoajaaMYardG
import Derived.Test.YtlldonokjgoajaaMFindY
import Derived.Test.YtlldonokjgoajaaGhasStack
import Derived.Test.YtlldonokjgoajaaFbYard
namespace Go.Proofs.Ytlldonokjgoajaa.X
open Go.RowKit Go.Proofs.YtlldonokjgoajaaW.PrintWords Go.Proofs.YtlldonokjgoajaaW.PrintLast
set_option linter.unusedVariables false
set_option linter.unusedSimpArgs false

def stackB (ss : List (List Int)) (s : Int) : Bool := goodY ss && inB s 0 ((ss.length : Int) - 1)
theorem hasStack_one (ss : List (List Int)) (s : Int) (k : Nat) : impl_hasStack.f k ss [s] = some (stackB ss s) := by
  unfold impl_hasStack.f stackB
  simp
theorem hasStack_two (ss : List (List Int)) (s t : Int) (k : Nat) : impl_hasStack.f k ss [s, t] = some (stackB ss s && stackB ss t) := by
  unfold impl_hasStack.f stackB
  cases goodY ss <;> simp
theorem l5Stack_ends (ss : List (List Int)) (s : Int) (k : Nat) (hk : 200 ≤ k) : spec_l5Stack.f k ss s = some (stackB ss s) := by
  unfold spec_l5Stack.f stackB
  rw [spec_goodY _ _ hk]
  simp only [Option.bind_some]
  by_cases h : goodY ss = true
  · have := goodY_len h
    rw [if_pos h, h, w64 (by omega) (by omega), l1In_ends]
    rfl
  · rw [if_neg h]
    simp [h]
theorem stackB_nat {ss : List (List Int)} {s : Int} (h : stackB ss s = true) : goodY ss = true ∧ ∃ n : Nat, s = (n : Int) ∧ n < ss.length := by
  unfold stackB at h
  simp only [Bool.and_eq_true, inB_iff] at h
  exact ⟨h.1, s.toNat, by omega, by omega⟩
def topY (s : List Int) : Int := if s.length = 0 then 0 else s.getD (s.length - 1) 0
theorem topOf_ends (s : List Int) (h : s.length ≤ 1048576) : impl_topOf.f s = some (topY s) := by
  unfold impl_topOf.f topY
  by_cases h0 : s.length = 0
  · rw [if_pos (by omega), if_pos h0]
  · rw [if_neg (by omega), if_neg h0, w64 (by omega) (by omega), if_pos (by omega), if_pos (by omega), show (s.length : Int) - 1 = ((s.length - 1 : Nat) : Int) by omega, rd_nat]

/-! ### the place of a number -/
end Go.Proofs.Ytlldonokjgoajaa.X
