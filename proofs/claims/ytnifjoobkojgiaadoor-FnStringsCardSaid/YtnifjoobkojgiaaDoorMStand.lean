/- A text as its bytes; does a byte stand in a text. -/
import Derived.Test.YtnifjoobkojgiaaDoorMBase
import Derived.Test.YtnifjoobkojgiaaDoorMBs
import Derived.Test.YtnifjoobkojgiaaDoorGContains
import Derived.Test.YtnifjoobkojgiaaDoorFspecl1Stands
namespace Go.Proofs.YtnifjoobkojgiaaDoor.X
open Go.RowKit Go.Proofs.YtnifjoobkojgiaaDoorW.PrintWords Go.Proofs.YtnifjoobkojgiaaDoorW.PrintLast
set_option linter.unusedVariables false
set_option linter.unusedSimpArgs false
theorem l1Stands_loop (s : ByteArray) (c : UInt8) (hx : s.size ≤ 1048576) (d : Nat) : ∀ (k i : Nat), i + d = s.size → d < k → spec_l1Stands.l0 k s (c.toNat : Int) (i : Int) = some (((bs s).drop i).any (fun b => b == c)) := by
  induction d with
  | zero =>
    intro k i hi hk
    obtain ⟨k, rfl⟩ := kpos hk
    unfold spec_l1Stands.l0
    rw [if_neg (by omega), List.drop_of_length_le (by rw [bs_length]; omega)]
    rfl
  | succ d ih =>
    intro k i hi hk
    obtain ⟨k, rfl⟩ := kpos hk
    have hlt : i < s.size := by omega
    have hlb : i < (bs s).length := by rw [bs_length]; exact hlt
    have hr := ih k (i + 1) (by omega) (by omega)
    unfold spec_l1Stands.l0
    rw [if_pos (by omega), if_pos (by omega), bt_list s i hlt, wnext hlt (by omega), hr, getD_cons (z := (0 : UInt8)) hlb, List.any_cons]
    by_cases h : (bs s).getD i 0 = c
    · rw [if_pos (by rw [h]), h]
      simp
    · have hn : ¬ ((((bs s).getD i 0).toNat : Int) = (c.toNat : Int)) := fun e => h (UInt8.toNat_inj.1 (by omega))
      rw [if_neg hn, show ((bs s).getD i 0 == c) = false from beq_eq_false_iff_ne.2 h, Bool.false_or]
theorem l1Stands_ends (s : ByteArray) (c : UInt8) (hx : s.size ≤ 1048576) (k : Nat) (hk : 1048577 ≤ k) : spec_l1Stands.f k s (c.toNat : Int) = some ((bs s).any (fun b => b == c)) := by
  unfold spec_l1Stands.f
  have := l1Stands_loop s c hx s.size k 0 (by omega) (by omega)
  rw [show ((0 : Nat) : Int) = 0 from rfl, List.drop_zero] at this
  exact this
end Go.Proofs.YtnifjoobkojgiaaDoor.X
