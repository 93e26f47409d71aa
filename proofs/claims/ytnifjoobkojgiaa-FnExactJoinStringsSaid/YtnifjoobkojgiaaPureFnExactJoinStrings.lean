/- The law FnExactJoinStrings answers true for every list of texts and sign. No condition beyond the form's own reach. -/
import Derived.Test.YtnifjoobkojgiaaSFnExactJoinStrings
import Derived.Test.YtnifjoobkojgiaaMStrs
import Derived.Test.YtnifjoobkojgiaaMJoin
namespace Go.Proofs.Ytnifjoobkojgiaa.Pure
open Go.RowKit Go.Proofs.Ytnifjoobkojgiaa.X Go.Proofs.YtnifjoobkojgiaaW.PrintWords Go.Proofs.YtnifjoobkojgiaaW.PrintLast
set_option linter.unusedSimpArgs false
theorem tot_sum : ∀ l : List ByteArray, totT l = sumT l
  | [] => rfl
  | x :: r => by simp only [totT, sumT, tot_sum r]
theorem FnExactJoinStrings : laws_FnExactJoinStrings.Pure := by
  intro a sep ha _
  refine ⟨2200000 + 1, ?_⟩
  have ha1 := ha.1
  unfold laws_FnExactJoinStrings.f
  by_cases h0 : (sep.size : Int) > 1048576
  · rw [if_pos h0]
  rw [if_neg h0, szStringS_ends a ha1 (fun s hs => ha.2 s hs) _ (by omega), Option.bind_some]
  by_cases h : (1048576 : Int) - a.length - totT a < 0
  · rw [if_pos h, if_pos (by omega)]
  · have hl : a.length ≤ 1048576 := by omega
    have hs : sumT a ≤ 1048576 := by rw [← tot_sum]; omega
    obtain ⟨r, b, he⟩ := join_both a sep hl hs
    obtain ⟨e1, e2⟩ := he (2200000 + 1) (by omega)
    rw [if_neg h, if_neg h, toStringS_ends a hl _ (by omega)]
    simp only [Option.bind_some, e1, e2, if_true, bne_self_eq_false, laws_FnExactJoinStrings.j0, Bool.false_eq_true, if_false]
    rw [toStringS_ends a hl _ (by omega)]
    simp only [Option.bind_some]
    rw [eqStringS_same a hl _ (by omega)]
    rfl
end Go.Proofs.Ytnifjoobkojgiaa.Pure
