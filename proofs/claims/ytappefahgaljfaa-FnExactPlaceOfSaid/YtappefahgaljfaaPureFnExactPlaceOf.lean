/- The law FnExactPlaceOf answers true for every yard and number. No condition beyond the form's own reach. -/
import Derived.Test.YtappefahgaljfaaSFnExactPlaceOf
import Derived.Test.YtappefahgaljfaaMYardQ
namespace Go.Proofs.Ytappefahgaljfaa.Pure
open Go.RowKit Go.Proofs.Ytappefahgaljfaa.X Go.Proofs.YtappefahgaljfaaW.PrintWords Go.Proofs.YtappefahgaljfaaW.PrintLast
set_option linter.unusedVariables false
set_option linter.unusedSimpArgs false
theorem both (a : List (List Int)) (s : Int) (hx : a.length ≤ 1048576) (hs : tot a ≤ 1048576) (k : Nat) (hk : 3145800 ≤ k) : ∃ r, spec_PlaceOf.f k a s = some r ∧ impl_PlaceOf.f k a s = some r := by
  unfold spec_PlaceOf.f impl_PlaceOf.f
  rw [l5Find_ends _ _ hx hs _ hk, placeOf_ends _ _ hx hs _ (by omega)]
  simp only [Option.bind_some]
  rw [spec_goodY _ _ (by omega)]
  simp only [Option.bind_some, impl_IsValidYard.f]
  split
  · split <;> exact ⟨_, rfl, rfl⟩
  · exact ⟨_, rfl, rfl⟩
theorem FnExactPlaceOf : laws_FnExactPlaceOf.Pure := by
  intro a s ha _
  refine ⟨4000000, ?_⟩
  have ha1 := ha.1
  unfold laws_FnExactPlaceOf.f
  rw [szYard_ends a ha1 (fun s hs => (ha.2 s hs).1) _ (by omega)]
  simp only [Option.bind_some]
  by_cases h : (1048576 : Int) - a.length - tot a < 0
  · rw [if_pos h, if_pos (by omega)]
  · obtain ⟨r, e1, e2⟩ := both a s (by omega) (by omega) 4000000 (by omega)
    rw [if_neg h, if_neg h, toYard_ends a (by omega) (by omega) _ (by omega)]
    simp only [Option.bind_some, e1, e2, if_true, bne_self_eq_false, laws_FnExactPlaceOf.j0, Bool.false_eq_true, if_false]
    rw [toYard_ends a (by omega) (by omega) _ (by omega)]
    simp only [Option.bind_some]
    rw [eqYard_refl a (by omega) (by omega) _ (by omega)]
    rfl
end Go.Proofs.Ytappefahgaljfaa.Pure
