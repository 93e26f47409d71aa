/- The law FnExactNextCall answers true for every rotation, call and port: the program's NextCall and the reference's find the same call and add up the same days. No condition beyond the form's own reach. -/
import Derived.Test.YtagbfaacklilbaaSFnExactNextCall
import Derived.Test.YtagbfaacklilbaaMWays
import Derived.Test.YtagbfaacklilbaaFspecNextCall
import Derived.Test.YtagbfaacklilbaaFimplNextCall
namespace Go.Proofs.Ytagbfaacklilbaa.Pure
open Go.RowKit Go.Proofs.Ytagbfaacklilbaa.X Go.Proofs.YtagbfaacklilbaaW.PrintWords Go.Proofs.YtagbfaacklilbaaW.PrintLast
set_option linter.unusedVariables false
set_option linter.unusedSimpArgs false
theorem both (a b : List Int) (i p : Int) (k : Nat) (hk : 20 ≤ k) : ∃ r, spec_NextCall.f k a b i p = some r ∧ impl_NextCall.f k a b i p = some r := by
  unfold spec_NextCall.f impl_NextCall.f
  rw [asked_ends _ _ _ _ (by omega), isCall_one _ _ _ _ (by omega)]
  simp only [Option.bind_some]
  by_cases h1 : callB a b i = true
  · obtain ⟨hg, n, rfl, hn⟩ := callB_nat h1
    obtain ⟨e1, e2⟩ := next_ends a b hg p n hn k (by omega)
    simp only [h1, e1, e2, if_true, Option.bind_some]
    rcases nextW_range a (by omega) p n with h | ⟨t, h, ht, _⟩
    · simp only [h]
      exact ⟨_, rfl, rfl⟩
    · obtain ⟨e3, e4⟩ := days_ends a b hg n t hn ht k (by omega)
      have c : ¬ (t : Int) < 0 := by omega
      simp only [h, if_neg c, e3, e4, Option.bind_some]
      exact ⟨_, rfl, rfl⟩
  · simp only [h1, Bool.false_eq_true, if_false]
    exact ⟨_, rfl, rfl⟩
theorem FnExactNextCall : laws_FnExactNextCall.Pure := by
  intro a b i t ha hb _ _
  refine ⟨1048600, ?_⟩
  have ha1 := ha.1
  have hb1 := hb.1
  unfold laws_FnExactNextCall.f
  by_cases h : (a.length : Int) + b.length ≤ 1048576
  · obtain ⟨r, e1, e2⟩ := both a b i t 1048600 (by omega)
    rw [szRotation_small a b _ h (by omega)]
    simp only [Option.bind_some]
    rw [if_neg (by omega), toRotation_ends a b h _ (by omega)]
    simp only [Option.bind_some, e1, e2, if_true, bne_self_eq_false, laws_FnExactNextCall.j0, Bool.false_eq_true, if_false]
    rw [toRotation_ends a b h _ (by omega)]
    simp only [Option.bind_some]
    rw [eqRotation_refl a b (by omega) (by omega) _ (by omega)]
    rfl
  · rw [szRotation_large a b _ ha1 hb1 (by omega) (by omega) h]
    rfl
end Go.Proofs.Ytagbfaacklilbaa.Pure
