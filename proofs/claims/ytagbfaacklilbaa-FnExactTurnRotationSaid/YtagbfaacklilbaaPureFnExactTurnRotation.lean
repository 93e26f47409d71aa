/- The law FnExactTurnRotation answers true for every rotation and call: the program's TurnRotation and the reference's give the same rotation; the program's is memory of its own. No condition beyond the form's own reach. -/
import Derived.Test.YtagbfaacklilbaaSFnExactTurnRotation
import Derived.Test.YtagbfaacklilbaaMTurn
import Derived.Test.YtagbfaacklilbaaFspecTurnRotation
import Derived.Test.YtagbfaacklilbaaFimplTurnRotation
namespace Go.Proofs.Ytagbfaacklilbaa.Pure
open Go.RowKit Go.Proofs.Ytagbfaacklilbaa.X Go.Proofs.YtagbfaacklilbaaW.PrintWords Go.Proofs.YtagbfaacklilbaaW.PrintLast
set_option linter.unusedVariables false
set_option linter.unusedSimpArgs false
theorem both (a b : List Int) (i : Int) (k : Nat) (hk : 20 ≤ k) : ∃ xs ys ok, spec_TurnRotation.f k a b i = some (xs, ys, ok) ∧ impl_TurnRotation.f k a b i = some (xs, ys, ok) ∧ xs.length ≤ 12 ∧ ys.length ≤ 12 := by
  unfold spec_TurnRotation.f impl_TurnRotation.f
  rw [asked_ends _ _ _ _ (by omega), isCall_one _ _ _ _ (by omega)]
  simp only [Option.bind_some]
  by_cases h : callB a b i = true
  · obtain ⟨hg, n, rfl, hn⟩ := callB_nat h
    obtain ⟨h1, h2, h3⟩ := goodR_len hg
    obtain ⟨e1, e2⟩ := turn_ends a b hg n hn
    simp only [if_pos h, e1, e2, Option.bind_some]
    exact ⟨_, _, _, rfl, rfl, by rw [turnL_length _ _ (by omega)]; omega, by rw [turnL_length _ _ (by omega)]; omega⟩
  · simp only [if_neg h]
    exact ⟨_, _, _, rfl, rfl, by simp, by simp⟩
theorem both_at (a b : List Int) (i : Int) : ∃ xs ys ok, (∀ k, 20 ≤ k → spec_TurnRotation.f k a b i = some (xs, ys, ok) ∧ impl_TurnRotation.f k a b i = some (xs, ys, ok)) ∧ xs.length ≤ 12 ∧ ys.length ≤ 12 := by
  obtain ⟨xs, ys, ok, e1, e2, l1, l2⟩ := both a b i 20 (by omega)
  exact ⟨xs, ys, ok, fun k hk => ⟨at_rounds (spec_TurnRotation.mono a b i) hk e1, at_rounds (impl_TurnRotation.mono a b i) hk e2⟩, l1, l2⟩
theorem FnExactTurnRotation : lw.Pure := by
  intro a b i ha hb _
  refine ⟨1048600, ?_⟩
  have ha1 := ha.1
  have hb1 := hb.1
  unfold lw.f
  by_cases h : (a.length : Int) + b.length ≤ 1048576
  · obtain ⟨xs, ys, ok, e, hl1, hl2⟩ := both_at a b i
    have e1 := (e 1048600 (by omega)).1
    have e2 := (e 1048600 (by omega)).2
    have e3 := (e 1048598 (by omega)).2
    clear e
    rw [szRotation_small a b _ h (by omega)]
    simp only [Option.bind_some]
    rw [if_neg (by omega), toRotation_ends a b h _ (by omega)]
    simp only [Option.bind_some, e1, e2]
    rw [eqRotation_refl xs ys (by omega) (by omega) _ (by omega)]
    simp only [Option.bind_some, if_true, bne_self_eq_false, lw.j0, lw.j1, lw.j2, Bool.false_eq_true, if_false]
    rw [toRotation_ends a b h _ (by omega)]
    simp only [Option.bind_some]
    rw [eqRotation_refl a b (by omega) (by omega) _ (by omega)]
    simp only [Option.bind_some, if_true]
    rw [markRotation_ends a b 1 (by omega) (by omega) (by omega) (by omega) _ (by omega)]
    simp only [Option.bind_some]
    rw [if_neg (by omega), eqRotation_refl xs ys (by omega) (by omega) _ (by omega)]
    simp only [Option.bind_some, if_true, Bool.false_eq_true, if_false]
    rw [markRotation_ends xs ys 1 (by omega) (by omega) (by omega) (by omega) _ (by omega)]
    simp only [Option.bind_some]
    rw [heldRotation_ends xs.length ys.length 1 (by omega) (by omega) (by omega) (by omega) _ (by omega)]
    simp only [Option.bind_some, if_true]
    rw [if_neg (by omega), toRotation_ends a b h _ (by omega)]
    simp only [Option.bind_some, e3]
    rw [eqRotation_refl xs ys (by omega) (by omega) _ (by omega)]
    simp only [Option.bind_some, if_true, bne_self_eq_false, Bool.false_eq_true, if_false]
    rw [heldRotation_ends xs.length ys.length 1 (by omega) (by omega) (by omega) (by omega) _ (by omega)]
    simp only [Option.bind_some, if_true]
    rw [if_neg (by omega)]
  · rw [szRotation_large a b _ ha1 hb1 (by omega) (by omega) h]
    rfl
end Go.Proofs.Ytagbfaacklilbaa.Pure
