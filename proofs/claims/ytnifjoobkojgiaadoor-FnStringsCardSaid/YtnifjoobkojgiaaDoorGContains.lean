/- strings.Contains at a text of one byte: does the byte stand in the text. Out of the shelf's contract. -/
import Derived.Test.YtnifjoobkojgiaaDoorX0
import Derived.Test.YtnifjoobkojgiaaDoorShelf
namespace Go.Proofs.YtnifjoobkojgiaaDoor.X
open Go.RowKit Go.Proofs.YtnifjoobkojgiaaDoorW.PrintWords Go.Proofs.YtnifjoobkojgiaaDoorW.PrintLast
set_option linter.unusedVariables false
set_option linter.unusedSimpArgs false
def strings_Contains.f (a0 a1 : ByteArray) : Option Bool :=
  match a1.data.toList with
  | [c] => some (a0.data.toList.any (fun b => b == c))
  | _ => none
theorem indexByte_iff (c : UInt8) : ∀ l : List UInt8, 0 ≤ Lib.indexByte l c ↔ l.any (fun b => b == c) = true
  | [] => by simp [Lib.indexByte]
  | b :: l => by
    have ih := indexByte_iff c l
    have hge := Lib.indexByte_ge l c
    have e : Lib.indexByte (b :: l) c = if (b == c) = true then 0 else if (Lib.indexByte l c == -1) = true then -1 else Lib.indexByte l c + 1 := rfl
    rw [e, List.any_cons]
    by_cases h : (b == c) = true
    · rw [if_pos h, h]; simp
    · rw [if_neg h]
      rw [Bool.not_eq_true] at h
      rw [h, Bool.false_or, ← ih]
      by_cases h2 : (Lib.indexByte l c == -1) = true
      · rw [if_pos h2]
        rw [beq_iff_eq] at h2
        omega
      · rw [if_neg h2]
        rw [beq_iff_eq] at h2
        omega
theorem indexByte_any (c : UInt8) (l : List UInt8) : decide (0 ≤ Lib.indexByte l c) = l.any (fun b => b == c) := by
  rw [Bool.eq_iff_iff, decide_eq_true_eq]
  exact indexByte_iff c l
theorem strings_Contains.calls (a0 a1 : ByteArray) (r : Bool) (w : World) (h : strings_Contains.f a0 a1 = some r) :
    Calls Tryd.prog 55 #[.string a0, .string a1] w fun e w' => e = .returned (.bool r) ∧ Below w.heap.size w w' := by
  unfold strings_Contains.f at h
  split at h
  · rename_i c hc
    obtain rfl := Option.some.inj h
    obtain rfl : a1 = ⟨#[c]⟩ := by
      obtain ⟨⟨l⟩⟩ := a1
      simp at hc
      rw [hc]
    refine (Tryd.strings_Contains_one a0 c w).mono ?_
    rintro e w' ⟨rfl, rfl⟩
    exact ⟨by rw [indexByte_any], Below.refl _ _⟩
  · cases h
end Go.Proofs.YtnifjoobkojgiaaDoor.X
