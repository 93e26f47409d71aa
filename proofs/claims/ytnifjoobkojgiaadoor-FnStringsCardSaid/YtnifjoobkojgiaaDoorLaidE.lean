/- What a row's condition on the laid tables gives the walks that read numbers: the powers of ten, and the two errors of the library's. -/
import Derived.Test.YtnifjoobkojgiaaDoorLaid
namespace Go.Proofs.YtnifjoobkojgiaaDoor.X
open Go.RowKit Go.Proofs.YtnifjoobkojgiaaDoorW.PrintWords Go.Proofs.YtnifjoobkojgiaaDoorW.PrintLast
set_option linter.unusedVariables false
set_option linter.unusedSimpArgs false
def LaidE (w : World) : Prop := Laid w ∧ (∃ tp p, w.var? Tryd.prog "strconv.ErrSyntax" = some #[.iface tp p]) ∧ (∃ tp p, w.var? Tryd.prog "strconv.ErrRange" = some #[.iface tp p])
theorem gSyn : Tryd.prog.globalNamed "strconv.ErrSyntax" = some 1 := by kernel_rfl
theorem gRan : Tryd.prog.globalNamed "strconv.ErrRange" = some 2 := by kernel_rfl
theorem LaidE.below {w w' : World} (h : LaidE w) (hb : Below w.heap.size w w') : LaidE w' := by
  obtain ⟨h1, ⟨t1, p1, h2⟩, ⟨t2, p2, h3⟩⟩ := h
  exact ⟨Laid.below h1 hb, ⟨t1, p1, Go.Joins.var_stays gSyn h2 hb (Nat.le_refl _)⟩, ⟨t2, p2, Go.Joins.var_stays gRan h3 hb (Nat.le_refl _)⟩⟩
theorem LaidE.alloc {w : World} (h : LaidE w) (o : Obj) : LaidE (w.alloc o) := LaidE.below h (below_alloc (Below.refl _ _) o)
theorem LaidE.drew {w : World} (h : LaidE w) : LaidE w.drew := LaidE.below h (below_drew (Below.refl _ _))
theorem LaidE.drewN {w : World} (h : LaidE w) (m : Nat) : LaidE (w.drewN m) := LaidE.below h (pw_below_drewN (Below.refl _ _) m)
theorem starErr : ("*errors.errorString" : String) = "*" ++ "errors.errorString" := by decide
theorem rowErr : ∀ u, Tryd.prog.typeName? 3 u = some "*errors.errorString" → u = 112 := fun u h =>
  typeName_ptr_named (nm := "errors.errorString") (by rw [← starErr]; kernel_rfl) (by kernel_rfl) (by decide) u (by rw [← starErr]; exact h)
theorem laidE_of {r : List (String × DataW Unit)} {a b : String × DataW Unit} {W : World} (h : laidMet Tryd.prog (a :: b :: ("internal/strconv.uint64pow10", Rows.laid_internal_strconv_uint64pow10) :: ("strconv.ErrRange", Rows.laid_strconv_ErrRange) :: ("strconv.ErrSyntax", Rows.laid_strconv_ErrSyntax) :: r) W) : LaidE W := by
  have h3 := h.tail.tail.tail
  obtain ⟨a0, s0, hv0, _⟩ := laid_sentinel h3 gRan (by kernel_rfl) Tryd.underlying54 rowErr Tryd.underlying112 Tryd.underlying114 rfl rfl Tryd.underlying9 (by kernel_rfl) (by kernel_rfl)
  obtain ⟨a1, s1, hv1, _⟩ := laid_sentinel h3.tail gSyn (by kernel_rfl) Tryd.underlying54 rowErr Tryd.underlying112 Tryd.underlying114 rfl rfl Tryd.underlying9 (by kernel_rfl) (by kernel_rfl)
  exact ⟨laid_pow h, ⟨_, _, hv1⟩, ⟨_, _, hv0⟩⟩
theorem laid_fnExactParseInt {W : World} (h : laidMetH Tryd.prog Rows.fnExactParseIntRow.laid W) : LaidE W := by
  rw [MakeChecks.laidMetH_plain _ _ _ (by kernel_rfl)] at h
  exact laidE_of h
theorem laid_fnStrings {W : World} (h : laidMetH Tryd.prog Rows.fnStringsRow.laid W) : LaidE W := by
  rw [MakeChecks.laidMetH_plain _ _ _ (by kernel_rfl)] at h
  exact laidE_of h
end Go.Proofs.YtnifjoobkojgiaaDoor.X
