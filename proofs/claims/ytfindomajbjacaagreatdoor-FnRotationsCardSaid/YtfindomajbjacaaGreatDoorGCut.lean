/- strings.Cut at a sign of one byte, walked: what stands ahead of the sign, what behind it, and whether there is one. -/
import Derived.Test.YtfindomajbjacaaGreatDoorX0
import Derived.Test.YtfindomajbjacaaGreatDoorShelf
import Derived.Lib.Walk
import Derived.WalkKit
namespace Go.Proofs.YtfindomajbjacaaGreatDoor.X
open Go.RowKit Go.Lib Go.Proofs.YtfindomajbjacaaGreatDoorW.PrintWords Go.Proofs.YtfindomajbjacaaGreatDoorW.PrintLast
set_option linter.unusedVariables false
set_option linter.unusedSimpArgs false
def cutR (s : ByteArray) (c : UInt8) : ByteArray × ByteArray × Bool :=
  if 0 ≤ Lib.indexByte s.data.toList c then (s.extract 0 (Lib.indexByte s.data.toList c).toNat, s.extract ((Lib.indexByte s.data.toList c).toNat + 1) s.size, true) else (s, ⟨#[]⟩, false)
def strings_Cut.f (a0 a1 : ByteArray) : Option (ByteArray × ByteArray × Bool) :=
  match a1.data.toList with
  | [c] => if a0.size ≤ 9000000000000000000 then some (cutR a0 c) else none
  | _ => none
theorem indexByte_lt (c : UInt8) : ∀ l : List UInt8, 0 ≤ Lib.indexByte l c → Lib.indexByte l c < (l.length : Int)
  | [], h => by simp [Lib.indexByte] at h
  | b :: l, h => by
    have ih := indexByte_lt c l
    have e : Lib.indexByte (b :: l) c = if (b == c) = true then 0 else if (Lib.indexByte l c == -1) = true then -1 else Lib.indexByte l c + 1 := rfl
    rw [e] at h ⊢
    rw [List.length_cons]
    by_cases h1 : (b == c) = true
    · rw [if_pos h1]; omega
    · rw [if_neg h1] at h ⊢
      by_cases h2 : (Lib.indexByte l c == -1) = true
      · rw [if_pos h2] at h ⊢; omega
      · rw [if_neg h2] at h ⊢
        rw [beq_iff_eq] at h2
        have := Lib.indexByte_ge l c
        have := ih (by omega)
        omega
set_option maxHeartbeats 4000000 in
set_option maxRecDepth 100000 in
theorem liteCut_one (s : ByteArray) (c : UInt8) (hs : s.size ≤ 9000000000000000000) (w : World) :
    Calls Tryz.prog 73 #[.string s, .string ⟨#[c]⟩] w fun e w' => e = .returned (.tuple #[.string (cutR s c).1, .string (cutR s c).2.1, .bool (cutR s c).2.2]) ∧ Below w.heap.size w w' := by
  have hge := Lib.indexByte_ge s.data.toList c
  have hlt := indexByte_lt c s.data.toList
  unfold cutR
  obtain ⟨j, hj⟩ : ∃ j, Lib.indexByte s.data.toList c = j := ⟨_, rfl⟩
  rw [hj] at hge hlt ⊢
  by_cases h0 : 0 ≤ j
  · obtain ⟨i, rfl⟩ : ∃ i : Nat, j = (i : Int) := ⟨j.toNat, by omega⟩
    have hi : i < s.size := by
      have := hlt h0
      simp only [Array.length_toList] at this
      have e : s.data.size = s.size := rfl
      omega
    have HJ := Aside0.mk hj
    rw [if_pos h0]
    have c1 : (0 : Int) ≤ ↑i := by omega
    have c2 : (↑i : Int) ≤ ↑s.size := by omega
    have c3 : (0 : Int) ≤ ↑i + 1 := by omega
    have c4 : (↑i + 1 : Int) ≤ ↑s.size := by omega
    have c5 : wrap64 ((i : Int) + 1) = (i : Int) + 1 := by unfold wrap64; omega
    have c6 : ((i : Int) + 1).toNat = i + 1 := by omega
    clear hge hlt hj
    go_enter Tryz.func73, Tryz.ntmps73
    go_wp2_with (go_at_call 94; refine (Tryz.stringslite_Index_one s c w).mono ?_; rintro e w' ⟨rfl, rfl⟩; rw [HJ.out])
    go_region
    go_wp2
    go_ret3
    exact ⟨rfl, below_drew (Below.refl _ _)⟩
  · have HJ := Aside0.mk hj
    rw [if_neg h0]
    obtain rfl : j = -1 := by omega
    clear hge hlt hj
    go_enter Tryz.func73, Tryz.ntmps73
    go_wp2_with (go_at_call 94; refine (Tryz.stringslite_Index_one s c w).mono ?_; rintro e w' ⟨rfl, rfl⟩; rw [HJ.out])
    go_ret3
    exact ⟨rfl, Below.refl _ _⟩
set_option maxHeartbeats 4000000 in
set_option maxRecDepth 100000 in
theorem strings_Cut.calls (a0 a1 r1 r2 : ByteArray) (r3 : Bool) (w : World) (h : strings_Cut.f a0 a1 = some (r1, r2, r3)) :
    Calls Tryz.prog 37 #[.string a0, .string a1] w fun e w' => e = .returned (.tuple #[.string r1, .string r2, .bool r3]) ∧ Below w.heap.size w w' := by
  unfold strings_Cut.f at h
  split at h
  · rename_i c hc
    split at h
    · rename_i hs
      obtain rfl : a1 = ⟨#[c]⟩ := by
        obtain ⟨⟨l⟩⟩ := a1
        simp at hc
        rw [hc]
      have h2 := Option.some.inj h
      have HL := Aside0.mk (liteCut_one a0 c hs w)
      rw [h2] at HL
      clear h h2 hc hs
      go_enter Tryz.func37, Tryz.ntmps37
      go_wp2_with (go_at_call 73; refine HL.out.mono ?_; rintro e w' ⟨rfl, hb⟩)
      go_ret3
      exact ⟨rfl, hb⟩
    · cases h
  · cases h
end Go.Proofs.YtfindomajbjacaaGreatDoor.X
