/- The law FnExactManifestText answers true for every list of containers. No condition beyond the form's own reach. -/
import Derived.Test.YtfindomajbjacaaDoorSFnExactManifestText
import Derived.Test.YtfindomajbjacaaDoorFbMan
import Derived.Test.YtfindomajbjacaaDoorFimplManifestText
import Derived.Test.YtfindomajbjacaaDoorMManT
namespace Go.Proofs.YtfindomajbjacaaDoor.Pure
open Go.RowKit Go.Proofs.YtfindomajbjacaaDoor.X Go.Proofs.YtfindomajbjacaaDoorW.PrintWords Go.Proofs.YtfindomajbjacaaDoorW.PrintLast
set_option linter.unusedVariables false
set_option linter.unusedSimpArgs false
theorem spec_manT (cs : List S27) (hl : cs.length ≤ 1048576) (k : Nat) (hk : 1048700 ≤ k) : spec_ManifestText.f k cs = some (manR cs) := by
  unfold spec_ManifestText.f manR
  rw [spec_valid cs hl k hk, Option.bind_some]
  by_cases h : validC cs = true
  · obtain ⟨h1, h2⟩ := valid_good h
    rw [if_pos h, if_pos h, spec_man cs (by omega) h2 k (by omega), Option.bind_some]
  · rw [if_neg h, if_neg h]
theorem impl_manT (cs : List S27) (hl : cs.length ≤ 1048576) (k : Nat) (hk : 1048700 ≤ k) : impl_ManifestText.f k cs = some (manR cs) := by
  unfold impl_ManifestText.f manR
  rw [impl_valid cs hl k (by omega), Option.bind_some]
  by_cases h : validC cs = true
  · obtain ⟨h1, h2⟩ := valid_good h
    rw [if_pos h, if_pos h, impl_man cs (by omega) h2, Option.bind_some]
  · rw [if_neg h, if_neg h]
theorem FnExactManifestText : laws_FnExactManifestText.Pure := by
  intro a ha
  have ha1 := ha.1
  refine ⟨1048800 + 1, ?_⟩
  unfold laws_FnExactManifestText.f
  rw [szContainerS_ends a ha1 (fun s hs => (ha.2 s hs).1) _ (by omega), Option.bind_some]
  by_cases h : (1048576 : Int) - a.length - totC a < 0
  · rw [if_pos h, if_pos (by omega)]
  · have hal : a.length ≤ 1048576 := by omega
    have hl : (a.map c67).length ≤ 1048576 := by rw [List.length_map]; omega
    rw [if_neg h, if_neg h, toContainerS_ends a hal _ (by omega), Option.bind_some, spec_manT _ hl _ (by omega), Option.bind_some, Option.bind_some, impl_manT _ hl _ (by omega), Option.bind_some, if_pos rfl]
    simp only [bne_self_eq_false, laws_FnExactManifestText.j0, Bool.false_eq_true, if_false]
    rw [toContainerS_ends a hal _ (by omega), Option.bind_some, eqContainerS_refl _ hl _ (by omega), Option.bind_some, if_pos rfl]
end Go.Proofs.YtfindomajbjacaaDoor.Pure
