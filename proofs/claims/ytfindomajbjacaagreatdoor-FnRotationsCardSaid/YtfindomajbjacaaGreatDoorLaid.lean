/- What a row's condition on the laid tables gives the walks: the powers of ten, where they are listed. -/
import Derived.Test.YtfindomajbjacaaGreatDoorX0
import Derived.Test.YtfindomajbjacaaGreatDoorRows
import Derived.Lib.LaidTab
import Derived.Lib.SmallJoins
import Derived.Lib.ItoaNum
import Derived.Stop.LaidErr
import Derived.LaidMore
namespace Go.Proofs.YtfindomajbjacaaGreatDoor.X
open Go.RowKit Go.Proofs.YtfindomajbjacaaGreatDoorW.PrintWords Go.Proofs.YtfindomajbjacaaGreatDoorW.PrintLast
set_option linter.unusedVariables false
set_option linter.unusedSimpArgs false
/-- The powers of ten lie where the program looks for them. -/
def Laid (w : World) : Prop := Lib.TabIs Tryz.prog w "internal/strconv.uint64pow10" .u64 Lib.pow10Tab
theorem gPow : Tryz.prog.globalNamed "internal/strconv.uint64pow10" = some 5 := by kernel_rfl
theorem Laid.below {w w' : World} (h : Laid w) (hb : Below w.heap.size w w') : Laid w' := Go.Joins.tab_stays gPow h hb (Nat.le_refl _)
theorem Laid.alloc {w : World} (h : Laid w) (o : Obj) : Laid (w.alloc o) := Laid.below h (below_alloc (Below.refl _ _) o)
theorem Laid.drew {w : World} (h : Laid w) : Laid w.drew := Laid.below h (below_drew (Below.refl _ _))
theorem Laid.drewN {w : World} (h : Laid w) (m : Nat) : Laid (w.drewN m) := Laid.below h (pw_below_drewN (Below.refl _ _) m)
theorem pow_data : (Rows.laid_internal_strconv_uint64pow10 : DataW Unit) = Lib.tabData .u64 Lib.pow10Tab := by
  unfold Rows.laid_internal_strconv_uint64pow10 Lib.tabData Lib.pow10Tab
  rfl
theorem laid_pow {r : List (String × DataW Unit)} {a b : String × DataW Unit} {W : World} (h : laidMet Tryz.prog (a :: b :: ("internal/strconv.uint64pow10", Rows.laid_internal_strconv_uint64pow10) :: r) W) : Laid W := by
  rw [pow_data] at h
  exact Lib.tabIs_of_head (g := 5) (t := 153) (e := 67) (n := 20) gPow (by kernel_rfl) Tryz.underlying153 Tryz.underlying67 (by kernel_rfl) (by kernel_rfl) h.tail.tail
end Go.Proofs.YtfindomajbjacaaGreatDoor.X
