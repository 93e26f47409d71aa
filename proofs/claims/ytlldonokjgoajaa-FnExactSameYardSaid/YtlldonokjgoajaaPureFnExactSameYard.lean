/- The law FnExactSameYard answers true for every two yards. No condition beyond the form's own reach. -/
import Derived.Test.YtlldonokjgoajaaSFnExactSameYard
import Derived.Test.YtlldonokjgoajaaMYard
namespace Go.Proofs.Ytlldonokjgoajaa.Pure
open Go.RowKit Go.Proofs.Ytlldonokjgoajaa.X Go.Proofs.YtlldonokjgoajaaW.PrintWords Go.Proofs.YtlldonokjgoajaaW.PrintLast
set_option linter.unusedVariables false
set_option linter.unusedSimpArgs false
theorem szYard_from (ss : List (List Int)) (a : Int) (h0 : 0 ≤ a) (h1 : a ≤ 1048576) (hx : ss.length ≤ 9223372036854775807) (hs : ∀ s ∈ ss, s.length ≤ 9223372036854775807) (k : Nat) (hk : 1048577 ≤ k) :
    laws_szYard.f k ss a = some (if a - ss.length - tot ss < 0 then -1 else a - ss.length - tot ss) := by
  unfold laws_szYard.f laws_szIntSS.f
  rw [w64 (by omega) (by omega)]
  by_cases h : a - ss.length < 0
  · rw [if_pos h, if_pos (by omega)]; rfl
  · rw [if_neg h]
    have := szIntSS_loop ss hx hs ss.length k 0 (a - ss.length) (by omega) (by omega) (by omega) (by omega)
    rw [show ((0 : Nat) : Int) = 0 from rfl] at this
    rw [this]
    simp only [Option.bind_some, List.drop_zero]
    split <;> rename_i h2
    · rfl
    · rfl
theorem same_law (a b : List (List Int)) (ha1 : a.length ≤ 9223372036854775807) (ha2 : ∀ s ∈ a, s.length ≤ 9223372036854775807) (hb1 : b.length ≤ 9223372036854775807) (hb2 : ∀ s ∈ b, s.length ≤ 9223372036854775807) : laws_FnExactSameYard.f (3200000 + 1) a b = some true := by
  unfold laws_FnExactSameYard.f
  rw [szYard_ends a ha1 ha2 _ (by omega), Option.bind_some]
  by_cases h : (1048576 : Int) - a.length - tot a < 0
  · rw [if_pos h, if_pos (by decide)]
  · rw [if_neg h, if_neg h, szYard_from b _ (by omega) (by omega) hb1 hb2 _ (by omega), Option.bind_some]
    by_cases h2 : (1048576 : Int) - a.length - tot a - b.length - tot b < 0
    · rw [if_pos h2, if_pos (by decide)]
    · rw [if_neg h2, if_neg h2, toYard_ends a (by omega) (by omega) _ (by omega), toYard_ends b (by omega) (by omega) _ (by omega), Option.bind_some, Option.bind_some, same_spec a b _ (by omega), Option.bind_some, Option.bind_some, Option.bind_some]
      unfold impl_SameYard.f
      rw [Option.bind_some, bne_self_eq_false, if_neg Bool.false_ne_true, bne_self_eq_false]
      simp only [laws_FnExactSameYard.j0]
      rw [if_neg Bool.false_ne_true, toYard_ends a (by omega) (by omega) _ (by omega), Option.bind_some, eqYard_refl a (by omega) (by omega) _ (by omega), Option.bind_some, if_pos rfl, toYard_ends b (by omega) (by omega) _ (by omega), Option.bind_some, eqYard_refl b (by omega) (by omega) _ (by omega), Option.bind_some, if_pos rfl]
theorem FnExactSameYard : laws_FnExactSameYard.Pure := by
  intro a b ha hb
  exact ⟨3200000 + 1, same_law a b ha.1 (fun s hs => (ha.2 s hs).1) hb.1 (fun s hs => (hb.2 s hs).1)⟩
end Go.Proofs.Ytlldonokjgoajaa.Pure
