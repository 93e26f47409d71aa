/- The law FnExactFreePlaces answers true for every yard. No condition beyond the form's own reach. -/
import Derived.Test.YtappefahgaljfaaSFnExactFreePlaces
import Derived.Test.YtappefahgaljfaaMYard
namespace Go.Proofs.Ytappefahgaljfaa.Pure
open Go.RowKit Go.Proofs.Ytappefahgaljfaa.X Go.Proofs.YtappefahgaljfaaW.PrintWords Go.Proofs.YtappefahgaljfaaW.PrintLast
set_option linter.unusedVariables false
set_option linter.unusedSimpArgs false
theorem loops (ss : List (List Int)) (h6 : ss.length ≤ 6) (h4 : ∀ n, (ss.getD n []).length ≤ 4) (d : Nat) : ∀ (k i : Nat) (a : Int), i + d = ss.length → d < k → -100 ≤ a → a ≤ 24 * i →
    spec_FreePlaces.l0 k a (i : Int) ss = some (a + 4 * d - tot (ss.drop i), true) ∧ impl_FreePlaces.l0 k a ss (ss.length : Int) (i : Int) = some (a + 4 * d - tot (ss.drop i), true) := by
  induction d with
  | zero =>
    intro k i a hi hk ha ha2
    obtain ⟨k, rfl⟩ := kpos hk
    have ht : tot (ss.drop i) = 0 := by rw [List.drop_of_length_le (by omega)]; rfl
    simp only [spec_FreePlaces.l0, impl_FreePlaces.l0]
    rw [if_neg (by omega), if_neg (by omega), ht]
    simp
  | succ d ih =>
    intro k i a hi hk ha ha2
    obtain ⟨k, rfl⟩ := kpos hk
    have hlt : i < ss.length := by omega
    have ht : tot (ss.drop i) = (ss.getD i []).length + tot (ss.drop (i + 1)) := by rw [getD_cons (z := ([] : List Int)) hlt]; rfl
    have hr := h4 i
    obtain ⟨i1, i2⟩ := ih k (i + 1) (a + 4 - (ss.getD i []).length) (by omega) (by omega) (by omega) (by omega)
    simp only [spec_FreePlaces.l0, impl_FreePlaces.l0]
    rw [if_pos (by omega), if_pos (by omega), if_pos (by omega), if_pos (by omega), if_pos (by omega), rdL_nat, wnext hlt (by omega), w64 (x := a + 4) (by omega) (by omega), w64 (x := a + 4 - ((ss.getD i []).length : Int)) (by omega) (by omega),
      w64 (x := 4 - ((ss.getD i []).length : Int)) (by omega) (by omega), w64 (x := a + (4 - ((ss.getD i []).length : Int))) (by omega) (by omega), show a + (4 - ((ss.getD i []).length : Int)) = a + 4 - ((ss.getD i []).length : Int) by omega, i1, i2, ht]
    constructor <;> (congr 2; omega)
theorem both (a : List (List Int)) (k : Nat) (hk : 200 ≤ k) : ∃ r, spec_FreePlaces.f k a = some r ∧ impl_FreePlaces.f k a = some r := by
  unfold spec_FreePlaces.f impl_FreePlaces.f
  rw [spec_goodY _ _ hk]
  simp only [Option.bind_some, impl_IsValidYard.f]
  by_cases h : goodY a = true
  · have := goodY_len h
    obtain ⟨e1, e2⟩ := loops a (by omega) (goodY_row h) a.length k 0 0 (by omega) (by omega) (by omega) (by omega)
    rw [show ((0 : Nat) : Int) = 0 from rfl] at e1 e2
    rw [if_pos h, if_pos h]
    exact ⟨_, e1, e2⟩
  · rw [if_neg h, if_neg h]
    exact ⟨_, rfl, rfl⟩
theorem FnExactFreePlaces : laws_FnExactFreePlaces.Pure := by
  intro a ha
  refine ⟨2097200, ?_⟩
  have ha1 := ha.1
  unfold laws_FnExactFreePlaces.f
  rw [szYard_ends a ha1 (fun s hs => (ha.2 s hs).1) _ (by omega)]
  simp only [Option.bind_some]
  by_cases h : (1048576 : Int) - a.length - tot a < 0
  · rw [if_pos h, if_pos (by omega)]
  · obtain ⟨r, e1, e2⟩ := both a 2097200 (by omega)
    rw [if_neg h, if_neg h, toYard_ends a (by omega) (by omega) _ (by omega)]
    simp only [Option.bind_some, e1, e2, if_true, bne_self_eq_false, laws_FnExactFreePlaces.j0, Bool.false_eq_true, if_false]
    rw [toYard_ends a (by omega) (by omega) _ (by omega)]
    simp only [Option.bind_some]
    rw [eqYard_refl a (by omega) (by omega) _ (by omega)]
    rfl
end Go.Proofs.Ytappefahgaljfaa.Pure
