/- strings.Join, as a function of lists: the elements with the sign between them. Out of the shelf's contract. -/
import Derived.Test.YtfindomajbjacaaGreatDoorX0
import Derived.Test.YtfindomajbjacaaGreatDoorShelf
namespace Go.Proofs.YtfindomajbjacaaGreatDoor.X
open Go.RowKit Go.Proofs.YtfindomajbjacaaGreatDoorW.PrintWords Go.Proofs.YtfindomajbjacaaGreatDoorW.PrintLast
set_option linter.unusedVariables false
set_option linter.unusedSimpArgs false
def joinB (l : List ByteArray) (sep : ByteArray) : ByteArray := ⟨(Lib.join (l.map (·.data.toList)) sep.data.toList).toArray⟩
def strings_Join.f (l0 : List ByteArray) (a1 : ByteArray) : Option ByteArray := if l0.length ≤ 1048577 ∧ (Lib.join (l0.map (·.data.toList)) a1.data.toList).length ≤ 140737488355328 then some (joinB l0 a1) else none
theorem strings_Join.calls (A0 : Option Addr) (c0 : Nat) (l0 : List ByteArray) (a1 r : ByteArray) (w : World) (hr0 : Kd.C Kd.string w A0 l0.length l0) (hc0 : l0.length ≤ c0) (h : strings_Join.f l0 a1 = some r) :
    Calls Tryz.prog 70 #[.slice A0 l0.length c0, .string a1] w fun e w' => e = .returned (.string r) ∧ Below w.heap.size w w' := by
  unfold strings_Join.f at h
  split at h
  · rename_i hb
    obtain rfl := Option.some.inj h
    cases hl : l0 with
    | nil =>
      refine (Tryz.strings_Join_none A0 c0 a1 w).mono ?_
      rintro e w' ⟨rfl, rfl⟩
      exact ⟨rfl, Below.refl _ _⟩
    | cons x l =>
      rw [← hl]
      have hp : 0 < l0.length := by rw [hl]; simp
      obtain ⟨ad, rfl, hx⟩ := Kd.at_string hr0 0 (by omega) (by omega)
      have hadd : ad.add (Int.toNat 0) = ad := by simp [Addr.add]
      rw [hadd] at hx
      obtain ⟨b, off, sp⟩ := ad
      cases sp with
      | some s => simp only [World.cell?] at hx; split at hx <;> simp at hx
      | none =>
        refine (Tryz.strings_Join b off c0 l0 a1 w (fun j y hj => ?_) (World.block_lt_of_cell? w _ hx) (by omega) hc0 hb.2).mono ?_
        · have hjl : j < l0.length := (List.getElem?_eq_some_iff.1 hj).1
          obtain ⟨ad', e', hx'⟩ := Kd.at_string hr0 (j : Int) (by omega) (by omega)
          injection e' with e'
          subst e'
          rw [add_at, Int.toNat_natCast] at hx'
          rw [hx', show rdOf ByteArray.empty l0 (j : Int) = y by unfold rdOf; rw [Int.toNat_natCast, List.getD_eq_getElem?_getD, hj]; rfl]
        · rintro e w' ⟨rfl, hbl⟩
          exact ⟨rfl, hbl⟩
  · cases h
end Go.Proofs.YtfindomajbjacaaGreatDoor.X
