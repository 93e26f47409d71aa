/- The program's linesOf, walked: the pieces between newlines but the last one, and whether that is empty. -/
import Derived.Test.YtfindomajbjacaaGreatDoorX0
import Derived.Test.YtfindomajbjacaaGreatDoorGSplit
import Derived.Lib.Walk
import Derived.WalkKit
import Derived.BigQuiet
namespace Go.Proofs.YtfindomajbjacaaGreatDoor.X
open Go.RowKit Go.Lib Go.Proofs.YtfindomajbjacaaGreatDoorW.PrintWords Go.Proofs.YtfindomajbjacaaGreatDoorW.PrintLast Go.Proofs.YtfindomajbjacaaGreatDoorW.PrintMore
set_option linter.unusedVariables false
set_option linter.unusedSimpArgs false
def impl_linesOf.f (a0 : ByteArray) : Option (List ByteArray × Bool) :=
  if a0.toList = ([] : List UInt8) then some ([], true) else (strings_Split.f a0 ⟨#[10]⟩).bind fun ys => if 0 < ys.length ∧ ys.length ≤ 2000000 then some (ys.take (ys.length - 1), (rdOf ByteArray.empty ys ((ys.length - 1 : Nat) : Int)).toList == ([] : List UInt8)) else none
theorem own_take {e : Nat} {w : World} {base : Nat} {g cap : Nat} {ys : List ByteArray} (h : Kd.R Kd.string e w base (fun _ => True) (.slice (some ⟨g, 0, none⟩) ys.length cap) ys) (n : Nat) (hn : n ≤ ys.length) :
    Kd.R Kd.string e w base (fun _ => True) (.slice (some ⟨g, 0, none⟩) n cap) (ys.take n) := by
  have hown : w.ownsRow base e 1 (.slice (some ⟨g, 0, none⟩) ys.length cap) ys.length (encs Value.string ys) := Kd.own_of_R h
  refine Kd.R_of_own ?_ (fun _ _ => trivial)
  have hl : (ys.take n).length = n := by rw [List.length_take]; omega
  rw [hl]
  rcases hown.2 with ⟨h0, _⟩ | ⟨g', cap', cur, hv, hb, hc, h1, h2, h3, h4⟩
  · cases h0
  · cases hv
    refine ⟨by rw [encs_length, hl, Nat.mul_one], .inr ⟨g, cap, cur, rfl, hb, hc, by omega, h2, h3, ?_⟩⟩
    rw [Nat.mul_one] at h4 ⊢
    have : cur.toList.take n = (cur.toList.take ys.length).take n := by rw [List.take_take, Nat.min_eq_left hn]
    rw [this, h4]
    simp [encs]
set_option maxHeartbeats 2000000 in
set_option maxRecDepth 100000 in
theorem impl_linesOf.calls (a0 : ByteArray) (r1 : List ByteArray) (r2 : Bool) (w : World) (hL : LaidM w) (h : impl_linesOf.f a0 = some (r1, r2)) :
    Calls Tryz.prog 57 #[.string a0] w fun e w' => ∃ v0_ : Value, e = .returned (.tuple #[v0_, .bool r2]) ∧ Kd.R Kd.string 9 w' w.heap.size (fun _ => True) v0_ r1 ∧ Below w.heap.size w w' := by
  unfold impl_linesOf.f at h
  by_cases h0 : a0.toList = ([] : List UInt8)
  · rw [if_pos h0] at h
    obtain ⟨rfl, rfl⟩ := Prod.mk.inj (Option.some.inj h)
    have c1 : (a0.toList == ([] : List UInt8)) = true := beq_iff_eq.mpr h0
    clear h h0
    go_enter Tryz.func57, Tryz.ntmps57
    go_wp2
    go_ret2
    exact ⟨_, rfl, Kd.R_nil _ _ _ _ _, Below.refl _ _⟩
  · rw [if_neg h0] at h
    have c1 : (a0.toList == ([] : List UInt8)) = false := beq_eq_false_iff_ne.mpr h0
    obtain ⟨ys, hs, h⟩ := Option.bind_eq_some_iff.mp h
    by_cases hp : 0 < ys.length ∧ ys.length ≤ 2000000
    · rw [if_pos hp] at h
      obtain ⟨rfl, rfl⟩ := Prod.mk.inj (Option.some.inj h)
      have HS := Aside0.mk hs
      have HL := Aside0.mk hL
      obtain ⟨m, hm⟩ : ∃ m : Nat, ys.length = m + 1 := ⟨ys.length - 1, by omega⟩
      have hw : wrap64 ((ys.length : Int) - 1) = (m : Int) := by unfold wrap64; omega
      have hm1 : ys.length - 1 = m := by omega
      have HM := Aside0.mk hm1
      have HP := Aside0.mk hp
      have q1 : (m : Int) < (ys.length : Int) := by omega
      have q2 : m < ys.length := by omega
      have q3 : (0 : Int) ≤ (m : Int) := by omega
      have HX := Aside0.mk hm
      clear h h0 hs hL hm hm1 hp
      go_enter Tryz.func57, Tryz.ntmps57
      go_wp2_with (go_at_call 36; refine (strings_Split.calls a0 (⟨#[10]⟩ : ByteArray) ys _ HL.out HS.out).mono ?_; rintro e w3 ⟨v0, rfl, hr, hb⟩; obtain ⟨g, cap, hv, hg1, hg2, cells, hg3⟩ := Kd.R_form hr HP.out.1; subst hv; have hcap : ys.length ≤ cap := (by rcases (Kd.own_of_R hr).2 with ⟨z, _⟩ | ⟨_, _, _, z, _, _, z2, _⟩; cases z; cases z; exact z2); have q4 : (m : Int) ≤ (cap : Int) := (by omega); have q5 : m ≤ cap := (by omega); have hcl := (Kd.R_celln ByteArray.empty hr (m : Int) q3 q1).1; rw [Int.toNat_natCast] at hcl; have HR := Aside0.mk hr; have HB := Aside0.mk hb; clear hr hb hg1 hg2 hg3)
      go_quiet (fail)
      try go_wp2
      go_ret2
      have he : ∀ l : List UInt8, (l == ([] : List UInt8)) = l.isEmpty := fun l => by cases l <;> rfl
      rw [HM.out, he]
      refine ⟨_, rfl, ?_, by repeat (first | (with_reducible first | exact HB.out | apply pw_below_drewN | apply below_drew1) | exact HB.out)⟩
      (with_reducible repeat (first | apply Kd.R_alloc | apply Kd.R_drewN | apply Kd.R_drew))
      exact own_take HR.out m (by have := HX.out; omega)
    · rw [if_neg hp] at h
      cases h
end Go.Proofs.YtfindomajbjacaaGreatDoor.X
