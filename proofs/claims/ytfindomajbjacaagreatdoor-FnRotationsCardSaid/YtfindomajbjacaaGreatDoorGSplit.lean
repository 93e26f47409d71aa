/- strings.Split at a sign of one byte: the pieces, in memory of the call's own. Out of the shelf's contract. -/
import Derived.Test.YtfindomajbjacaaGreatDoorX0
import Derived.Test.YtfindomajbjacaaGreatDoorLaidM
import Derived.Test.YtfindomajbjacaaGreatDoorShelf
namespace Go.Proofs.YtfindomajbjacaaGreatDoor.X
open Go.RowKit Go.Proofs.YtfindomajbjacaaGreatDoorW.PrintWords Go.Proofs.YtfindomajbjacaaGreatDoorW.PrintLast
set_option linter.unusedVariables false
set_option linter.unusedSimpArgs false
def strings_Split.f (a0 a1 : ByteArray) : Option (List ByteArray) := if a1.size = 1 ∧ a0.size ≤ 1048576 then some (Lib.splitB a1 0 (Lib.countB a0 a1) a0) else none
theorem strings_Split.calls (a0 a1 : ByteArray) (r : List ByteArray) (w : World) (hL : LaidM w) (h : strings_Split.f a0 a1 = some r) :
    Calls Tryz.prog 36 #[.string a0, .string a1] w fun e w' => ∃ v0_ : Value, e = .returned (v0_) ∧ Kd.R Kd.string 9 w' w.heap.size (fun _ => True) v0_ r ∧ Below w.heap.size w w' := by
  unfold strings_Split.f at h
  split at h
  · rename_i hb
    obtain rfl := Option.some.inj h
    obtain ⟨m, hm⟩ := hL
    have h1 : 1 ≤ a1.size := by omega
    have hle := Lib.countB_le a1 h1 a0.size a0 (Nat.le_refl _)
    have hlen := Lib.splitB_all a1 h1 0 _ a0 rfl
    refine (Tryz.strings_Split a0 a1 m w (by omega) hm h1).mono ?_
    rintro e w' ⟨rfl, rfl⟩
    refine ⟨_, rfl, Kd.R_of_own ?_ (fun _ _ => trivial), (Below.refl _ _).alloc (Nat.le_refl _) _⟩
    rw [hlen]
    refine ⟨by rw [encs_length, hlen, Nat.mul_one], .inr ⟨w.heap.size, Lib.countB a0 a1 + 1, _, rfl, Nat.le_refl _, heap_alloc_new w _, Nat.le_refl _, by unfold maxLen; omega, by simp [hlen], ?_⟩⟩
    rw [Nat.mul_one, ← hlen]
    simp [encs]
    rw [List.take_of_length_le (by simp)]
  · cases h
end Go.Proofs.YtfindomajbjacaaGreatDoor.X
