/- What the laws' comparison of yards comes to: a yard is as itself. -/
import Derived.Test.YtlldonokjgoajaaMYardG
import Derived.Test.YtlldonokjgoajaaFbV
namespace Go.Proofs.Ytlldonokjgoajaa.X
open Go.RowKit Go.Proofs.YtlldonokjgoajaaW.PrintWords Go.Proofs.YtlldonokjgoajaaW.PrintLast
set_option linter.unusedVariables false
set_option linter.unusedSimpArgs false
theorem vInts_loop (xs : List Int) (hx : xs.length ≤ 1048576) (d : Nat) : ∀ (k i : Nat), i + d = xs.length → d < k → laws_vInts.l0 k xs xs (i : Int) = some true := by
  induction d with
  | zero =>
    intro k i hi hk
    obtain ⟨k, rfl⟩ := kpos hk
    simp only [laws_vInts.l0]
    rw [if_neg (by omega)]
  | succ d ih =>
    intro k i hi hk
    obtain ⟨k, rfl⟩ := kpos hk
    have hlt : i < xs.length := by omega
    simp only [laws_vInts.l0]
    rw [if_pos (by omega), if_pos (by omega), if_pos (by omega), if_pos trivial, wnext hlt (by omega)]
    exact ih k (i + 1) (by omega) (by omega)
theorem vInts_refl (xs : List Int) (hx : xs.length ≤ 1048576) (k : Nat) (hk : xs.length < k) : laws_vInts.f k xs xs = some true := by
  unfold laws_vInts.f
  rw [if_pos rfl]
  have := vInts_loop xs hx xs.length k 0 (by omega) (by omega)
  rw [show ((0 : Nat) : Int) = 0 from rfl] at this
  exact this
theorem vTable_loop (ss : List (List Int)) (hx : ss.length ≤ 1048576) (hs : tot ss ≤ 1048576) (d : Nat) : ∀ (k i : Nat), i + d = ss.length → 1048577 + d < k → laws_vTable.l0 k ss ss (i : Int) = some true := by
  induction d with
  | zero =>
    intro k i hi hk
    obtain ⟨k, rfl⟩ := kpos hk
    simp only [laws_vTable.l0]
    rw [if_neg (by omega)]
  | succ d ih =>
    intro k i hi hk
    obtain ⟨k, rfl⟩ := kpos hk
    have hlt : i < ss.length := by omega
    have hg := tot_get ss i hlt
    simp only [laws_vTable.l0]
    rw [if_pos (by omega), if_pos (by omega), if_pos (by omega), rdL_nat, vInts_refl _ (by omega) k (by omega), Option.bind_some, if_pos rfl, wnext hlt (by omega)]
    exact ih k (i + 1) (by omega) (by omega)
theorem vYard_refl (ss : List (List Int)) (hx : ss.length ≤ 1048576) (hs : tot ss ≤ 1048576) (k : Nat) (hk : 2097160 ≤ k) : laws_vYard.f k ss ss = some true := by
  unfold laws_vYard.f laws_vTable.f
  rw [if_pos rfl]
  have := vTable_loop ss hx hs ss.length k 0 (by omega) (by omega)
  rw [show ((0 : Nat) : Int) = 0 from rfl] at this
  rw [this]
  rfl
end Go.Proofs.Ytlldonokjgoajaa.X
