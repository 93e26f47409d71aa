/- All that the walks of the readers of texts ask of the world: the powers of ten, the library's two errors, the longest needle. -/
import Derived.Test.YtfindomajbjacaaGreatDoorLaidE
import Derived.Test.YtfindomajbjacaaGreatDoorLaidM
namespace Go.Proofs.YtfindomajbjacaaGreatDoor.X
open Go.RowKit Go.Proofs.YtfindomajbjacaaGreatDoorW.PrintWords Go.Proofs.YtfindomajbjacaaGreatDoorW.PrintLast
set_option linter.unusedVariables false
set_option linter.unusedSimpArgs false
def LaidA (w : World) : Prop := LaidE w ∧ LaidM w
theorem LaidA.below {w w' : World} (h : LaidA w) (hb : Below w.heap.size w w') : LaidA w' := ⟨LaidE.below h.1 hb, LaidM.below h.2 hb⟩
theorem LaidA.alloc {w : World} (h : LaidA w) (o : Obj) : LaidA (w.alloc o) := LaidA.below h (below_alloc (Below.refl _ _) o)
theorem LaidA.drew {w : World} (h : LaidA w) : LaidA w.drew := LaidA.below h (below_drew (Below.refl _ _))
theorem LaidA.drewN {w : World} (h : LaidA w) (m : Nat) : LaidA (w.drewN m) := LaidA.below h (pw_below_drewN (Below.refl _ _) m)
theorem LaidA.to_LaidE {w : World} (h : LaidA w) : LaidE w := h.1
theorem LaidA.to_Laid {w : World} (h : LaidA w) : Laid w := h.1.1
theorem LaidA.to_LaidM {w : World} (h : LaidA w) : LaidM w := h.2
theorem laidA_fnManifests {W : World} (hs : W.ShapedOpen Tryz.prog) (h : laidMetH Tryz.prog Rows.fnManifestsRow.laid W) : LaidA W := by
  rw [MakeChecks.laidMetH_plain _ _ _ (by kernel_rfl)] at h
  exact ⟨laidE_of h, laidM_of hs⟩
theorem laidA_fnRotations {W : World} (hs : W.ShapedOpen Tryz.prog) (h : laidMetH Tryz.prog Rows.fnRotationsRow.laid W) : LaidA W := by
  rw [MakeChecks.laidMetH_plain _ _ _ (by kernel_rfl)] at h
  exact ⟨laidE_of h, laidM_of hs⟩
end Go.Proofs.YtfindomajbjacaaGreatDoor.X
