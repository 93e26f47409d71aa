/- The law FnExactCountRelocations answers true for every list of steps: the program's CountRelocations and the reference's both count the steps whose 'To' is not -1. No condition beyond the form's own reach. -/
import Derived.Test.YtalionklcgdhiaaSFnExactCountRelocations
import Derived.Test.YtalionklcgdhiaaMSteps
namespace Go.Proofs.Ytalionklcgdhiaa.Pure
open Go.RowKit Go.Proofs.Ytalionklcgdhiaa.X Go.Proofs.YtalionklcgdhiaaW.PrintWords Go.Proofs.YtalionklcgdhiaaW.PrintLast

/-- How many steps move a number to another stack. -/
def moves (l : List S70) : Int := (l.filter fun x => decide (¬ x.f1 = -1)).length
theorem moves_cons (x : S70) (l : List S70) : moves (x :: l) = (if x.f1 = -1 then 0 else 1) + moves l := by
  unfold moves
  by_cases h : x.f1 = -1 <;> simp [h]
  omega
theorem spec_loop (xs : List S70) (hx : xs.length ≤ 9223372036854775807) (d : Nat) : ∀ (k n : Nat) (a : Int), n ≤ xs.length → xs.length - n = d → d < k → 0 ≤ a → a ≤ n →
    spec_CountRelocations.l0 k xs a (n : Int) = some (a + moves (xs.drop n)) ∧ impl_CountRelocations.l0 k a xs xs.length (n : Int) = some (a + moves (xs.drop n)) := by
  induction d with
  | zero =>
    intro k n a hn hd hk h0 ha
    obtain ⟨k, rfl⟩ := kpos hk
    have e : xs.drop n = [] := List.drop_of_length_le (by omega)
    have c : ¬ (n : Int) < (xs.length : Int) := by omega
    simp only [spec_CountRelocations.l0, impl_CountRelocations.l0, if_neg c, e]
    simp [moves]
  | succ d ih =>
    intro k n a hn hd hk h0 ha
    obtain ⟨k, rfl⟩ := kpos hk
    have hlt : n < xs.length := by omega
    have i1 := ih k (n + 1) a (by omega) (by omega) (by omega) h0 (by omega)
    have i2 := ih k (n + 1) (a + 1) (by omega) (by omega) (by omega) (by omega) (by omega)
    have c : (n : Int) < (xs.length : Int) := by omega
    have c0 : 0 ≤ (n : Int) := by omega
    rw [getD_cons (z := z70) hlt, moves_cons]
    simp only [spec_CountRelocations.l0, impl_CountRelocations.l0, if_pos c, if_pos c0, wnext hlt hx, rd_T70, Int.toNat_natCast]
    rw [w64 (x := a + 1) (by omega) (by omega)]
    by_cases h : (xs.getD n z70).f1 = -1
    · simp only [if_pos h, Int.zero_add]
      exact i1
    · simp only [if_neg h, ← Int.add_assoc]
      exact i2
theorem FnExactCountRelocations : laws_FnExactCountRelocations.Pure := by
  intro l hl
  have hl1 := hl.1
  refine ⟨l.length + 1, ?_⟩
  unfold laws_FnExactCountRelocations.f
  rw [szStepS_ends l 1048576 hl1 (by omega) (by omega)]
  simp only [Option.bind_some]
  by_cases h : (1048576 : Int) - (l.length : Int) < 0
  · simp [h]
  · rw [if_neg h, if_neg (by omega), toStepS_ends l (by omega) _ (by omega)]
    simp only [Option.bind_some]
    obtain ⟨e1, e2⟩ := spec_loop (l.map cStep) (by simp; omega) l.length (l.length + 1) 0 0 (by omega) (by simp) (by omega) (by omega) (by omega)
    unfold spec_CountRelocations.f impl_CountRelocations.f
    have e1' : spec_CountRelocations.l0 (l.length + 1) (l.map cStep) 0 0 = _ := e1
    have e2' : impl_CountRelocations.l0 (l.length + 1) 0 (l.map cStep) (l.map cStep).length 0 = _ := e2
    rw [e1', e2']
    simp only [Option.bind_some, if_true]
    rw [eqStepS_ends _ (by simp; omega) _ (by simp)]
    rfl
end Go.Proofs.Ytalionklcgdhiaa.Pure
