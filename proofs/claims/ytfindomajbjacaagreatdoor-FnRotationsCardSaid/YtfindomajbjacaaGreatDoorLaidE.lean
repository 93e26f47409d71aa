import Derived.Test.YtfindomajbjacaaGreatDoorLaid
import Derived.Test.YtfindomajbjacaaGreatDoorLaidM
/- What a row's condition on the laid tables gives the walks that read numbers: the powers of ten, and the two errors of the library's. -/
namespace Go.Proofs.YtfindomajbjacaaGreatDoor.X
open Go.RowKit Go.Proofs.YtfindomajbjacaaGreatDoorW.PrintWords Go.Proofs.YtfindomajbjacaaGreatDoorW.PrintLast
set_option linter.unusedVariables false
set_option linter.unusedSimpArgs false
def LaidE (w : World) : Prop := Laid w ∧ (∃ tp p, w.var? Tryz.prog "strconv.ErrSyntax" = some #[.iface tp p]) ∧ (∃ tp p, w.var? Tryz.prog "strconv.ErrRange" = some #[.iface tp p])
theorem gSyn : Tryz.prog.globalNamed "strconv.ErrSyntax" = some 1 := by kernel_rfl
theorem gRan : Tryz.prog.globalNamed "strconv.ErrRange" = some 2 := by kernel_rfl
theorem LaidE.below {w w' : World} (h : LaidE w) (hb : Below w.heap.size w w') : LaidE w' := by
  obtain ⟨h1, ⟨t1, p1, h2⟩, ⟨t2, p2, h3⟩⟩ := h
  exact ⟨Laid.below h1 hb, ⟨t1, p1, Go.Joins.var_stays gSyn h2 hb (Nat.le_refl _)⟩, ⟨t2, p2, Go.Joins.var_stays gRan h3 hb (Nat.le_refl _)⟩⟩
theorem LaidE.alloc {w : World} (h : LaidE w) (o : Obj) : LaidE (w.alloc o) := LaidE.below h (below_alloc (Below.refl _ _) o)
theorem LaidE.drew {w : World} (h : LaidE w) : LaidE w.drew := LaidE.below h (below_drew (Below.refl _ _))
theorem LaidE.drewN {w : World} (h : LaidE w) (m : Nat) : LaidE (w.drewN m) := LaidE.below h (pw_below_drewN (Below.refl _ _) m)
theorem starErr : ("*errors.errorString" : String) = "*" ++ "errors.errorString" := by decide
theorem rowErr : ∀ u, Tryz.prog.typeName? 3 u = some "*errors.errorString" → u = 149 := fun u h =>
  typeName_ptr_named (nm := "errors.errorString") (by rw [← starErr]; kernel_rfl) (by kernel_rfl) (by decide) u (by rw [← starErr]; exact h)
theorem laidE_of {r : List (String × DataW Unit)} {a b : String × DataW Unit} {W : World} (h : laidMet Tryz.prog (a :: b :: ("internal/strconv.uint64pow10", Rows.laid_internal_strconv_uint64pow10) :: ("unicode/utf8.acceptRanges", Rows.laid_unicode_utf8_acceptRanges) :: ("strconv.ErrRange", Rows.laid_strconv_ErrRange) :: ("strconv.ErrSyntax", Rows.laid_strconv_ErrSyntax) :: r) W) : LaidE W := by
  have h3 := h.tail.tail.tail.tail
  obtain ⟨a0, s0, hv0, _⟩ := laid_sentinel h3 gRan (by kernel_rfl) Tryz.underlying89 rowErr Tryz.underlying149 Tryz.underlying151 rfl rfl Tryz.underlying9 (by kernel_rfl) (by kernel_rfl)
  obtain ⟨a1, s1, hv1, _⟩ := laid_sentinel h3.tail gSyn (by kernel_rfl) Tryz.underlying89 rowErr Tryz.underlying149 Tryz.underlying151 rfl rfl Tryz.underlying9 (by kernel_rfl) (by kernel_rfl)
  exact ⟨laid_pow h, ⟨_, _, hv1⟩, ⟨_, _, hv0⟩⟩
end Go.Proofs.YtfindomajbjacaaGreatDoor.X
/- All that the walks of the readers of texts ask of the world: the powers of ten, the library's two errors, the longest needle. -/
namespace Go.Proofs.YtfindomajbjacaaGreatDoor.X
open Go.RowKit Go.Proofs.YtfindomajbjacaaGreatDoorW.PrintWords Go.Proofs.YtfindomajbjacaaGreatDoorW.PrintLast
set_option linter.unusedVariables false
set_option linter.unusedSimpArgs false
def LaidA (w : World) : Prop := LaidE w ∧ LaidM w
theorem LaidA.below {w w' : World} (h : LaidA w) (hb : Below w.heap.size w w') : LaidA w' := ⟨LaidE.below h.1 hb, LaidM.below h.2 hb⟩
theorem LaidA.alloc {w : World} (h : LaidA w) (o : Obj) : LaidA (w.alloc o) := LaidA.below h (below_alloc (Below.refl _ _) o)
theorem LaidA.drew {w : World} (h : LaidA w) : LaidA w.drew := LaidA.below h (below_drew (Below.refl _ _))
theorem LaidA.drewN {w : World} (h : LaidA w) (m : Nat) : LaidA (w.drewN m) := LaidA.below h (pw_below_drewN (Below.refl _ _) m)
theorem LaidA.to_LaidE {w : World} (h : LaidA w) : LaidE w := h.1
theorem LaidA.to_Laid {w : World} (h : LaidA w) : Laid w := h.1.1
theorem LaidA.to_LaidM {w : World} (h : LaidA w) : LaidM w := h.2
theorem laidA_fnManifests {W : World} (hs : W.ShapedOpen Tryz.prog) (h : laidMetH Tryz.prog Rows.fnManifestsRow.laid W) : LaidA W := by
  rw [MakeChecks.laidMetH_plain _ _ _ (by kernel_rfl)] at h
  exact ⟨laidE_of h, laidM_of hs⟩
theorem laidA_fnRotations {W : World} (hs : W.ShapedOpen Tryz.prog) (h : laidMetH Tryz.prog Rows.fnRotationsRow.laid W) : LaidA W := by
  rw [MakeChecks.laidMetH_plain _ _ _ (by kernel_rfl)] at h
  exact ⟨laidE_of h, laidM_of hs⟩
end Go.Proofs.YtfindomajbjacaaGreatDoor.X
