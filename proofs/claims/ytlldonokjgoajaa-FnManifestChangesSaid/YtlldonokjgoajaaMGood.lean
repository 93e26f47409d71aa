/- Is a container valid: the program's IsValidContainer and the reference's l2Good. -/
import Derived.Test.YtlldonokjgoajaaMIds
import Derived.Test.YtlldonokjgoajaaMRange
import Derived.Test.YtlldonokjgoajaaFbGood
namespace Go.Proofs.Ytlldonokjgoajaa.X
open Go.RowKit Go.Proofs.YtlldonokjgoajaaW.PrintWords Go.Proofs.YtlldonokjgoajaaW.PrintLast
set_option linter.unusedVariables false
set_option linter.unusedSimpArgs false
def goodB (id : ByteArray) (size weight cargo port : Int) : Bool := idB id && inB size 1 2 && inB weight 1 32000 && inB cargo 1 3 && inB port 1 9
theorem spec_good (a : ByteArray) (s w c p : Int) (k : Nat) (hk : 15 ≤ k) : spec_l2Good.f k a s w c p = some (goodB a s w c p) := by
  unfold spec_l2Good.f goodB
  rw [spec_id a k hk]
  simp only [l1In_ends, Option.bind_some]
  cases idB a <;> cases inB s 1 2 <;> cases inB w 1 32000 <;> cases inB c 1 3 <;> cases inB p 1 9 <;> rfl
theorem impl_good (a : ByteArray) (s w c p : Int) (k : Nat) (hk : 15 ≤ k) : impl_IsValidContainer.f k a s w c p = some (goodB a s w c p) := by
  unfold impl_IsValidContainer.f goodB
  rw [impl_id a k hk]
  simp only [within_ends, Option.bind_some]
  cases idB a <;> cases inB s 1 2 <;> cases inB w 1 32000 <;> cases inB c 1 3 <;> cases inB p 1 9 <;> rfl
end Go.Proofs.Ytlldonokjgoajaa.X
