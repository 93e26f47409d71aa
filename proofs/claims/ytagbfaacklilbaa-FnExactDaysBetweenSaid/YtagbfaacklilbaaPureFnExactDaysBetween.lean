/- The law FnExactDaysBetween answers true for every rotation and all calls: the program's DaysBetween and the reference's add up the same days. No condition beyond the form's own reach. -/
import Derived.Test.YtagbfaacklilbaaSFnExactDaysBetween
import Derived.Test.YtagbfaacklilbaaMWays
import Derived.Test.YtagbfaacklilbaaFspecDaysBetween
import Derived.Test.YtagbfaacklilbaaFimplDaysBetween
namespace Go.Proofs.Ytagbfaacklilbaa.Pure
open Go.RowKit Go.Proofs.Ytagbfaacklilbaa.X Go.Proofs.YtagbfaacklilbaaW.PrintWords Go.Proofs.YtagbfaacklilbaaW.PrintLast
set_option linter.unusedVariables false
set_option linter.unusedSimpArgs false
theorem both (a b : List Int) (i t : Int) (k : Nat) (hk : 20 ≤ k) : ∃ r, spec_DaysBetween.f k a b i t = some r ∧ impl_DaysBetween.f k a b i t = some r := by
  unfold spec_DaysBetween.f impl_DaysBetween.f
  rw [asked_ends _ _ _ _ (by omega), asked_ends _ _ _ _ (by omega), isCall_two _ _ _ _ _ (by omega)]
  simp only [Option.bind_some]
  by_cases h1 : callB a b i = true
  · by_cases h2 : callB a b t = true
    · obtain ⟨hg, n, rfl, hn⟩ := callB_nat h1
      obtain ⟨_, m, rfl, hm⟩ := callB_nat h2
      obtain ⟨e1, e2⟩ := days_ends a b hg n m hn hm k (by omega)
      simp only [h1, h2, e1, e2, Bool.and_self, if_true, Option.bind_some]
      exact ⟨_, rfl, rfl⟩
    · simp only [h1, h2, Bool.and_false, Bool.false_eq_true, if_true, if_false]
      exact ⟨_, rfl, rfl⟩
  · simp only [h1, Bool.false_and, Bool.false_eq_true, if_false]
    exact ⟨_, rfl, rfl⟩
theorem FnExactDaysBetween : laws_FnExactDaysBetween.Pure := by
  intro a b i t ha hb _ _
  refine ⟨1048600, ?_⟩
  have ha1 := ha.1
  have hb1 := hb.1
  unfold laws_FnExactDaysBetween.f
  by_cases h : (a.length : Int) + b.length ≤ 1048576
  · obtain ⟨r, e1, e2⟩ := both a b i t 1048600 (by omega)
    rw [szRotation_small a b _ h (by omega)]
    simp only [Option.bind_some]
    rw [if_neg (by omega), toRotation_ends a b h _ (by omega)]
    simp only [Option.bind_some, e1, e2, if_true, bne_self_eq_false, laws_FnExactDaysBetween.j0, Bool.false_eq_true, if_false]
    rw [toRotation_ends a b h _ (by omega)]
    simp only [Option.bind_some]
    rw [eqRotation_refl a b (by omega) (by omega) _ (by omega)]
    rfl
  · rw [szRotation_large a b _ ha1 hb1 (by omega) (by omega) h]
    rfl
end Go.Proofs.Ytagbfaacklilbaa.Pure
