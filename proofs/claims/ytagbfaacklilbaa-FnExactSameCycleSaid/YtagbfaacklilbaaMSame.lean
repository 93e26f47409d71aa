/- What SameCycle comes to: is the one rotation, turned to one of its calls, the other? -/
import Derived.Test.YtagbfaacklilbaaMTurn
import Derived.Test.YtagbfaacklilbaaFspecSameCycle
import Derived.Test.YtagbfaacklilbaaFimplSameCycle
namespace Go.Proofs.Ytagbfaacklilbaa.X
open Go.RowKit Go.Proofs.YtagbfaacklilbaaW.PrintWords Go.Proofs.YtagbfaacklilbaaW.PrintLast
set_option linter.unusedVariables false
set_option linter.unusedSimpArgs false
def sameFrom (ps ds qs es : List Int) : Nat → Nat → Bool
  | 0, _ => false
  | d + 1, i => (decide (turnL ps i = qs) && decide (turnL ds i = es)) || sameFrom ps ds qs es d (i + 1)
theorem same_loop (ps ds qs es : List Int) (hg : goodR ps ds = true) (d : Nat) : ∀ (k i : Nat), i + d = ps.length → d + 14 < k →
    spec_SameCycle.l0 k (i : Int) ps ds qs es = some (sameFrom ps ds qs es d i, true) ∧ impl_SameCycle.l0 k (ps.length : Int) (i : Int) ps ds qs es = some (sameFrom ps ds qs es d i, true) := by
  obtain ⟨h1, h2, h3⟩ := goodR_len hg
  induction d with
  | zero =>
    intro k i hi hk
    obtain ⟨k, rfl⟩ := kpos hk
    have c : ¬ (i : Int) < (ps.length : Int) := by omega
    simp only [spec_SameCycle.l0, impl_SameCycle.l0, if_neg c, sameFrom, and_self]
  | succ d ih =>
    intro k i hi hk
    obtain ⟨k, rfl⟩ := kpos hk
    have c : (i : Int) < (ps.length : Int) := by omega
    obtain ⟨t1, t2⟩ := turn_ends ps ds hg i (by omega)
    obtain ⟨i1, i2⟩ := ih k (i + 1) (by omega) (by omega)
    have l1 : (turnL ps i).length = ps.length := turnL_length _ _ (by omega)
    have l2 : (turnL ds i).length = ds.length := turnL_length _ _ (by omega)
    simp only [spec_SameCycle.l0, impl_SameCycle.l0, if_pos c, t1, t2, Option.bind_some, wnext (show i < 13 by omega) (by omega), i1, i2]
    rw [l1Same_ends _ _ (by omega) k (by omega), l1Same_ends _ _ (by omega) k (by omega), Equal_ends _ _ (by omega) k (by omega), Equal_ends _ _ (by omega) k (by omega)]
    simp only [Option.bind_some, sameFrom, decide_eq_true_eq]
    by_cases e1 : turnL ps i = qs
    · by_cases e2 : turnL ds i = es
      · simp [e1, e2]
      · simp [e1, e2]
    · simp [e1]
def sameW (ps ds qs es : List Int) : Bool × Bool := if goodR ps ds = true ∧ goodR qs es = true then (sameFrom ps ds qs es ps.length 0, true) else (false, false)
theorem same_ends (ps ds qs es : List Int) (k : Nat) (hk : 50 ≤ k) : spec_SameCycle.f k ps ds qs es = some (sameW ps ds qs es) ∧ impl_SameCycle.f k ps ds qs es = some (sameW ps ds qs es) := by
  obtain ⟨k, rfl⟩ : ∃ m, k = m + 1 := ⟨k - 1, by omega⟩
  unfold spec_SameCycle.f impl_SameCycle.f sameW
  rw [spec_goodR _ _ _ (by omega), impl_goodR _ _ _ (by omega), spec_goodR _ _ _ (by omega), impl_goodR _ _ _ (by omega)]
  simp only [Option.bind_some]
  by_cases hg : goodR ps ds = true
  · obtain ⟨h1, h2, h3⟩ := goodR_len hg
    by_cases hg2 : goodR qs es = true
    · have := same_loop ps ds qs es hg ps.length k 0 (by omega) (by omega)
      simp only [hg, hg2, if_true, Bool.not_true, spec_SameCycle.j0, impl_SameCycle.j0, Bool.false_eq_true, if_false, and_self]
      exact this
    · simp [hg, hg2, spec_SameCycle.j0, impl_SameCycle.j0]
  · simp [hg, spec_SameCycle.j0, impl_SameCycle.j0]
end Go.Proofs.Ytagbfaacklilbaa.X
