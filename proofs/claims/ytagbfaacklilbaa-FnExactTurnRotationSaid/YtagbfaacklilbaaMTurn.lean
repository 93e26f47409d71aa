/- What TurnRotation comes to: the calls from a call on, then those ahead of it. -/
import Derived.Test.YtagbfaacklilbaaMWays
import Derived.Test.YtagbfaacklilbaaGClone
import Derived.Test.YtagbfaacklilbaaFbTurn
namespace Go.Proofs.Ytagbfaacklilbaa.X
open Go.RowKit Go.Proofs.YtagbfaacklilbaaW.PrintWords Go.Proofs.YtagbfaacklilbaaW.PrintLast
set_option linter.unusedVariables false
set_option linter.unusedSimpArgs false
/-- A list that begins with its i-th element, those ahead of it behind. -/
def turnL (l : List Int) (i : Nat) : List Int := l.drop i ++ l.take i
theorem turnL_length (l : List Int) (i : Nat) (h : i ≤ l.length) : (turnL l i).length = l.length := by
  unfold turnL
  simp
  omega
theorem turn_ends (ps ds : List Int) (hg : goodR ps ds = true) (i : Nat) (hi : i < ps.length) : spec_l3Turn.f ps ds (i : Int) = some (turnL ps i, turnL ds i) ∧ impl_turned.f ps ds (i : Int) = some (turnL ps i, turnL ds i) := by
  obtain ⟨h1, h2, h3⟩ := goodR_len hg
  have c0 : 0 ≤ (i : Int) := by omega
  have c1 : (i : Int) ≤ (ps.length : Int) := by omega
  have c2 : (i : Int) ≤ (ds.length : Int) := by omega
  unfold spec_l3Turn.f impl_turned.f turnL
  simp only [Int.toNat_natCast, if_pos c0, if_pos c1, if_pos c2, Option.bind_some, List.nil_append, List.length_nil, Nat.zero_add]
  rw [Clone_ends _ (by simp; omega), Clone_ends _ (by simp; omega)]
  simp only [Option.bind_some, List.length_drop, List.length_take]
  have e1 : ps.length - i < 17592186044416 := by omega
  have e2 : ps.length - i + min i ps.length < 17592186044416 := by omega
  have e3 : ds.length - i < 17592186044416 := by omega
  have e4 : ds.length - i + min i ds.length < 17592186044416 := by omega
  simp only [if_pos e1, if_pos e2, if_pos e3, if_pos e4, Option.bind_some, and_self]
end Go.Proofs.Ytagbfaacklilbaa.X
