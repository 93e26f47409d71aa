/- A text as its bytes. -/
import Derived.Test.YtfindomajbjacaaDoorMBase
namespace Go.Proofs.YtfindomajbjacaaDoor.X
open Go.RowKit Go.Proofs.YtfindomajbjacaaDoorW.PrintWords Go.Proofs.YtfindomajbjacaaDoorW.PrintLast
set_option linter.unusedVariables false
set_option linter.unusedSimpArgs false
def bs (s : ByteArray) : List UInt8 := s.data.toList
theorem bs_length (s : ByteArray) : (bs s).length = s.size := Array.length_toList
theorem bt_list (s : ByteArray) (i : Nat) (h : i < s.size) : bt s (i : Int) = (((bs s).getD i 0).toNat : Int) := by
  have h2 : i < (bs s).length := by rw [bs_length]; exact h
  unfold bt
  rw [dif_pos (by simpa using h), List.getD_eq_getElem?_getD, List.getElem?_eq_getElem h2]
  rfl
end Go.Proofs.YtfindomajbjacaaDoor.X
