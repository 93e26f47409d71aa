/- The law FnExactTopOf answers true for every yard and stack. No condition beyond the form's own reach. -/
import Derived.Test.YtappefahgaljfaaSFnExactTopOf
import Derived.Test.YtappefahgaljfaaMYardQ
namespace Go.Proofs.Ytappefahgaljfaa.Pure
open Go.RowKit Go.Proofs.Ytappefahgaljfaa.X Go.Proofs.YtappefahgaljfaaW.PrintWords Go.Proofs.YtappefahgaljfaaW.PrintLast
set_option linter.unusedVariables false
set_option linter.unusedSimpArgs false
theorem both (a : List (List Int)) (s : Int) (k : Nat) (hk : 200 ≤ k) : ∃ r, spec_TopOf.f k a s = some r ∧ impl_TopOf.f k a s = some r := by
  unfold spec_TopOf.f impl_TopOf.f
  rw [l5Stack_ends _ _ _ hk, hasStack_one]
  simp only [Option.bind_some]
  by_cases h : stackB a s = true
  · obtain ⟨hg, n, rfl, hn⟩ := stackB_nat h
    have h4 := goodY_row hg n
    have p1 : 0 ≤ (n : Int) := by omega
    have p2 : (n : Int) < (a.length : Int) := by omega
    simp only [if_pos h, if_pos p1, if_pos p2]
    rw [rdL_nat, topOf_ends _ (by omega)]
    simp only [Option.bind_some]
    unfold topY
    by_cases h0 : (a.getD n []).length = 0
    · rw [if_pos h0, if_neg (by omega)]
      exact ⟨_, rfl, rfl⟩
    · rw [if_neg h0, if_pos (by omega), w64 (by omega) (by omega), if_pos (by omega), if_pos (by omega), show ((a.getD n []).length : Int) - 1 = (((a.getD n []).length - 1 : Nat) : Int) by omega, rd_nat]
      exact ⟨_, rfl, rfl⟩
  · rw [if_neg h, if_neg h]
    exact ⟨_, rfl, rfl⟩
theorem FnExactTopOf : laws_FnExactTopOf.Pure := by
  intro a s ha _
  refine ⟨2097200, ?_⟩
  have ha1 := ha.1
  unfold laws_FnExactTopOf.f
  rw [szYard_ends a ha1 (fun s hs => (ha.2 s hs).1) _ (by omega)]
  simp only [Option.bind_some]
  by_cases h : (1048576 : Int) - a.length - tot a < 0
  · rw [if_pos h, if_pos (by omega)]
  · obtain ⟨r, e1, e2⟩ := both a s 2097200 (by omega)
    rw [if_neg h, if_neg h, toYard_ends a (by omega) (by omega) _ (by omega)]
    simp only [Option.bind_some, e1, e2, if_true, bne_self_eq_false, laws_FnExactTopOf.j0, Bool.false_eq_true, if_false]
    rw [toYard_ends a (by omega) (by omega) _ (by omega)]
    simp only [Option.bind_some]
    rw [eqYard_refl a (by omega) (by omega) _ (by omega)]
    rfl
end Go.Proofs.Ytappefahgaljfaa.Pure
