/- What the laws on rotations do around the calls: the size that is left, the copy, the comparison, the marks. -/
import Derived.Test.YtfindomajbjacaaDoorMInts
import Derived.Test.YtfindomajbjacaaDoorMRot
import Derived.Test.YtfindomajbjacaaDoorFbHelpR
namespace Go.Proofs.YtfindomajbjacaaDoor.X
open Go.RowKit Go.Proofs.YtfindomajbjacaaDoorW.PrintWords Go.Proofs.YtfindomajbjacaaDoorW.PrintLast
set_option linter.unusedVariables false
set_option linter.unusedSimpArgs false

theorem szRotation_small (a b : List Int) (n : Int) (h : (a.length : Int) + b.length ≤ n) (hn : n ≤ 1048576) : laws_szRotation.f a b n = some (n - a.length - b.length) := by
  unfold laws_szRotation.f
  rw [szIntS_ends a n (by omega) (by omega) hn]
  simp only [Option.bind_some]
  rw [if_neg (show ¬ n - (a.length : Int) < 0 by omega), if_neg (by omega), szIntS_ends b _ (by omega) (by omega) (by omega)]
  simp only [Option.bind_some]
  rw [if_neg (show ¬ n - (a.length : Int) - (b.length : Int) < 0 by omega), if_neg (by omega)]
theorem szRotation_large (a b : List Int) (n : Int) (ha : a.length ≤ 9223372036854775807) (hb : b.length ≤ 9223372036854775807) (h0 : 0 ≤ n) (hn : n ≤ 1048576) (h : ¬ (a.length : Int) + b.length ≤ n) : laws_szRotation.f a b n = some (-1) := by
  unfold laws_szRotation.f
  rw [szIntS_ends a n ha h0 hn]
  simp only [Option.bind_some]
  by_cases h1 : n - (a.length : Int) < 0
  · rw [if_pos h1]; simp
  · rw [if_neg h1, if_neg h1, szIntS_ends b _ hb (by omega) (by omega)]
    simp only [Option.bind_some]
    rw [if_pos (by omega)]
    first | rfl | done
theorem toRotation_ends (a b : List Int) (h : (a.length : Int) + b.length ≤ 1048576) (k : Nat) (hk : 1048577 ≤ k) : laws_toRotation.f k a b = some (a, b) := by
  unfold laws_toRotation.f
  rw [toIntS_ends a (by omega) k (by omega), toIntS_ends b (by omega) k (by omega)]
  rfl
theorem eqRotation_refl (a b : List Int) (ha : a.length ≤ 1048576) (hb : b.length ≤ 1048576) (k : Nat) (hk : 1048577 ≤ k) : laws_eqRotation.f k a b a b = some true := by
  unfold laws_eqRotation.f
  rw [eqIntS_refl a (by omega) k (by omega), eqIntS_refl b (by omega) k (by omega)]
  rfl
theorem markRotation_ends (a b : List Int) (n : Int) (h0 : 0 ≤ n) (hn : n ≤ 10) (ha : a.length ≤ 1048576) (hb : b.length ≤ 1048576) (k : Nat) (hk : 1048577 ≤ k) :
    laws_markRotation.f k a b n = some (n + a.length + b.length, upFrom n a.length, upFrom (n + a.length) b.length) := by
  unfold laws_markRotation.f
  rw [markIntS_ends a n h0 (by omega) k (by omega)]
  simp only [Option.bind_some]
  rw [markIntS_ends b _ (by omega) (by omega) k (by omega)]
  rfl
theorem heldRotation_ends (p q : Nat) (n : Int) (h0 : 0 ≤ n) (hn : n ≤ 10) (ha : p ≤ 1048576) (hb : q ≤ 1048576) (k : Nat) (hk : 1048577 ≤ k) :
    laws_heldRotation.f k (upFrom n p) (upFrom (n + p) q) n = some (n + p + q) := by
  unfold laws_heldRotation.f
  rw [heldIntS_ends p n h0 (by omega) k (by omega)]
  simp only [Option.bind_some]
  rw [if_neg (by omega), heldIntS_ends q _ (by omega) (by omega) k (by omega)]
  simp only [Option.bind_some]
  rw [if_neg (by omega)]
end Go.Proofs.YtfindomajbjacaaDoor.X
