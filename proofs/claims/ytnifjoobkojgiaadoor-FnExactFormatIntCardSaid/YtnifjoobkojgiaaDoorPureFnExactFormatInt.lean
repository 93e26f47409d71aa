/- The law FnExactFormatInt answers true for every number. No condition beyond the form's own. -/
import Derived.Test.YtnifjoobkojgiaaDoorSFnExactFormatInt
import Derived.Test.YtnifjoobkojgiaaDoorMNum
import Derived.Test.YtnifjoobkojgiaaDoorMRange
namespace Go.Proofs.YtnifjoobkojgiaaDoor.Pure
open Go.RowKit Go.Proofs.YtnifjoobkojgiaaDoor.X Go.Proofs.YtnifjoobkojgiaaDoorW.PrintWords Go.Proofs.YtnifjoobkojgiaaDoorW.PrintLast
set_option linter.unusedVariables false
set_option linter.unusedSimpArgs false
theorem FnExactFormatInt : laws_FnExactFormatInt.Pure := by
  intro n _
  refine ⟨100, ?_⟩
  unfold laws_FnExactFormatInt.f spec_FormatInt.f impl_FormatInt.f
  rw [l1In_ends, within_ends]
  simp only [Option.bind_some]
  by_cases h : inB n (-999999) 999999 = true
  · have hb : -999999 ≤ n ∧ n ≤ 999999 := by unfold inB at h; simpa using h
    rw [if_pos h, if_pos h, l1Num_ends n (by omega) (by omega) _ (by omega), decimal_ends n (by omega) (by omega)]
    simp
  · rw [if_neg h, if_neg h]
    simp
end Go.Proofs.YtnifjoobkojgiaaDoor.Pure
