/- slices.Clone over whole numbers, as a function of lists: the same list, in memory of its own. Out of the shelf's contract. -/
import Derived.Test.YtfindomajbjacaaGreatDoorX0
import Derived.Test.YtfindomajbjacaaGreatDoorShelf
namespace Go.Proofs.YtfindomajbjacaaGreatDoor.X
open Go.RowKit Go.Proofs.YtfindomajbjacaaGreatDoorW.PrintWords Go.Proofs.YtfindomajbjacaaGreatDoorW.PrintLast Go.Proofs.YtfindomajbjacaaGreatDoorW.PrintMore
set_option linter.unusedVariables false
set_option linter.unusedSimpArgs false

def slices_Clone_int_int.f (l0 : List Int) : Option (List Int) := if l0.length * 8 ≤ 140737488355328 then some l0 else none
theorem slices_Clone_int_int.calls (A0 : Option Addr) (c0 : Nat) (l0 : List Int) (r : List Int) (w : World) (hr0 : Kd.C (Kd.int .i64) w A0 l0.length l0) (hc0 : l0.length ≤ c0) (h : slices_Clone_int_int.f l0 = some r) :
    Calls Tryz.prog 77 #[.slice A0 l0.length c0] w fun e w' => ∃ v0_ : Value, e = .returned (v0_) ∧ Kd.R (Kd.int .i64) 3 w' w.heap.size (fun _ => True) v0_ r ∧ Below w.heap.size w w' := by
  unfold slices_Clone_int_int.f at h
  split at h
  · rename_i hb
    obtain rfl := Option.some.inj h
    cases hl : l0 with
    | nil =>
      cases A0 with
      | none =>
        refine (Tryz.slices_Clone_int_nil _ c0 w).mono ?_
        rintro e w' ⟨rfl, rfl⟩
        exact ⟨_, rfl, Kd.R_nil _ _ _ _ _, Below.refl _ _⟩
      | some a =>
        refine (Tryz.slices_Clone_int_zero a c0 w).mono ?_
        rintro e w' ⟨v, rfl, ho, _, hbl⟩
        exact ⟨v, rfl, Kd.R_of_own (xs := []) ho (fun _ _ => trivial), hbl⟩
    | cons x l =>
      rw [← hl]
      have hp : 0 < l0.length := by rw [hl]; simp
      obtain ⟨ad, rfl, hx⟩ := Kd.at_int hr0 0 (by omega) (by omega)
      have hadd : ad.add (Int.toNat 0) = ad := by simp [Addr.add]
      rw [hadd] at hx
      obtain ⟨b, off, sp⟩ := ad
      cases sp with
      | some s => simp only [World.cell?] at hx; split at hx <;> simp at hx
      | none =>
        refine (Tryz.slices_Clone_int b off l0.length c0 l0 w (Nat.le_refl _) hb (fun j hj => ?_)).mono ?_
        · obtain ⟨ad', e', hx'⟩ := Kd.at_int hr0 (j : Int) (by omega) (by omega)
          injection e' with e'
          subst e'
          rw [add_at, Int.toNat_natCast] at hx'
          exact hx'
        · rintro e w' ⟨v, rfl, ho, _, hbl⟩
          rw [List.take_length] at ho
          exact ⟨v, rfl, Kd.R_of_own ho (fun _ _ => trivial), hbl⟩
  · cases h
theorem Clone_ends (l : List Int) (h : l.length ≤ 17592186044416) : slices_Clone_int_int.f l = some l := by
  unfold slices_Clone_int_int.f
  rw [if_pos (by omega)]
end Go.Proofs.YtfindomajbjacaaGreatDoor.X
