/- Which container stands ahead of which: the heavier one, of two alike the one with the lesser number. A strict order, plainly. -/
import Derived.Test.YtlldonokjgoajaaMBase
import Derived.Test.YtlldonokjgoajaaMHeavy
import Derived.Shelf.SlSortCmp.NoneTotal
namespace Go.Proofs.Ytlldonokjgoajaa.X
open Go.RowKit Go.Sort Go.Proofs.YtlldonokjgoajaaW.PrintWords Go.Proofs.YtlldonokjgoajaaW.PrintLast
set_option linter.unusedVariables false
set_option linter.unusedSimpArgs false
theorem bl_irrefl : ∀ a : List UInt8, Op.bytesLess a a = false
  | [] => rfl
  | x :: a => by
    simp only [Op.bytesLess, beq_self_eq_true, Bool.true_and, bl_irrefl a, Bool.or_false, decide_eq_false_iff_not]
    exact UInt8.lt_irrefl x
theorem bl_total : ∀ a b : List UInt8, Op.bytesLess a b = false → Op.bytesLess b a = false → a = b
  | [], [], _, _ => rfl
  | [], y :: b, h, _ => by simp [Op.bytesLess] at h
  | x :: a, [], _, h => by simp [Op.bytesLess] at h
  | x :: a, y :: b, h1, h2 => by
    simp only [Op.bytesLess, Bool.or_eq_false_iff, decide_eq_false_iff_not] at h1 h2
    have e : x = y := by
      rcases UInt8.lt_or_lt_of_ne (a := x) (b := y) |> fun f => Classical.em (x = y) |>.imp id f with h | h | h
      · exact h
      · exact absurd h h1.1
      · exact absurd h h2.1
    subst e
    simp only [beq_self_eq_true, Bool.true_and] at h1 h2
    rw [bl_total a b h1.2 h2.2]
theorem bl_trans : ∀ a b c : List UInt8, Op.bytesLess a b = true → Op.bytesLess b c = true → Op.bytesLess a c = true
  | _, [], _, h, _ => by simp [Op.bytesLess] at h
  | _, _ :: _, [], _, h => by simp [Op.bytesLess] at h
  | [], y :: b, z :: c, _, _ => rfl
  | x :: a, y :: b, z :: c, h1, h2 => by
    simp only [Op.bytesLess, Bool.or_eq_true, Bool.and_eq_true, decide_eq_true_eq, beq_iff_eq] at h1 h2 ⊢
    rcases h1 with h1 | ⟨rfl, h1⟩
    · rcases h2 with h2 | ⟨rfl, h2⟩
      · exact .inl (UInt8.lt_trans h1 h2)
      · exact .inl h1
    · rcases h2 with h2 | ⟨rfl, h2⟩
      · exact .inl h2
      · exact .inr ⟨rfl, bl_trans a b c h1 h2⟩
def ahead (x y : S89) : Bool := decide (x.f2 > y.f2) || (decide (x.f2 = y.f2) && Op.bytesLess x.f0.toList y.f0.toList)
theorem ahead_iff (x y : S89) : ahead x y = true ↔ x.f2 > y.f2 ∨ (x.f2 = y.f2 ∧ Op.bytesLess x.f0.toList y.f0.toList = true) := by
  unfold ahead
  simp only [Bool.or_eq_true, Bool.and_eq_true, decide_eq_true_eq]
theorem ahead_irrefl (x : S89) : ahead x x = false := by
  rw [Bool.eq_false_iff]
  intro h
  rw [ahead_iff, bl_irrefl] at h
  rcases h with h | h
  · omega
  · cases h.2
theorem ahead_trans (x y z : S89) (h1 : ahead x y = true) (h2 : ahead y z = true) : ahead x z = true := by
  rw [ahead_iff] at *
  rcases h1 with h1 | ⟨e1, h1⟩
  · rcases h2 with h2 | ⟨e2, h2⟩
    · exact .inl (by omega)
    · exact .inl (by omega)
  · rcases h2 with h2 | ⟨e2, h2⟩
    · exact .inl (by omega)
    · exact .inr ⟨by omega, bl_trans _ _ _ h1 h2⟩
theorem ahead_total (x y : S89) (h1 : ahead x y = false) (h2 : ahead y x = false) : x.f2 = y.f2 ∧ x.f0.toList = y.f0.toList := by
  rw [Bool.eq_false_iff] at h1 h2
  rw [Ne, ahead_iff, not_or, not_and] at h1 h2
  have e : x.f2 = y.f2 := by have := h1.1; have := h2.1; omega
  refine ⟨e, bl_total _ _ ?_ ?_⟩
  · rw [Bool.eq_false_iff]; exact h1.2 e
  · rw [Bool.eq_false_iff]; exact h2.2 e.symm
theorem ahead_ntrans (x y z : S89) (h1 : ahead x y = false) (h2 : ahead y z = false) : ahead x z = false := by
  cases h : ahead x z with
  | false => rfl
  | true =>
    exfalso
    by_cases hy : ahead y x = true
    · have := ahead_trans y x z hy h
      rw [this] at h2
      cases h2
    · rw [Bool.not_eq_true] at hy
      obtain ⟨e1, e2⟩ := ahead_total x y h1 hy
      have : ahead y z = true := by
        rw [ahead_iff] at h ⊢
        rw [← e1, ← e2]
        exact h
      rw [this] at h2
      cases h2
/-- Two containers of a list have different numbers. -/
def Dist (cs : List S89) : Prop := ∀ i j : Fin cs.length, (cs.get i).f0.toList = (cs.get j).f0.toList → i = j
def cmpI (a b : Int) : Int := if a < b then -1 else if a > b then 1 else 0
def cmpS (a b : ByteArray) : Int := if Op.bytesLess a.toList b.toList = true then -1 else if Op.bytesLess b.toList a.toList = true then 1 else 0
def or2 (a b : Int) : Int := if a = 0 then b else a
def cfC (x y : S89) : Int := or2 (cmpI y.f2 x.f2) (cmpS x.f0 y.f0)
def cfH (cs : List S89) (i j : Fin cs.length) : Int := cfC (cs.get i) (cs.get j)
theorem cfC_neg (x y : S89) : decide (cfC x y < 0) = ahead x y := by
  rw [Bool.eq_iff_iff, decide_eq_true_eq, ahead_iff]
  unfold cfC or2 cmpI cmpS
  by_cases h1 : y.f2 < x.f2
  · rw [if_pos h1, if_neg (by decide)]
    exact ⟨fun _ => .inl h1, fun _ => by decide⟩
  · rw [if_neg h1]
    by_cases h2 : y.f2 > x.f2
    · rw [if_pos h2, if_neg (by decide)]
      exact ⟨fun h => absurd h (by decide), fun h => by rcases h with h | h <;> omega⟩
    · rw [if_neg h2, if_pos rfl]
      by_cases h3 : Op.bytesLess x.f0.toList y.f0.toList = true
      · rw [if_pos h3]
        exact ⟨fun _ => .inr ⟨by omega, h3⟩, fun _ => by decide⟩
      · rw [if_neg h3]
        constructor
        · intro h
          split at h
          · exact absurd h (by decide)
          · exact absurd h (by decide)
        · intro h
          rcases h with h | h
          · omega
          · exact absurd h.2 h3
theorem ltH (cs : List S89) (i j : Fin cs.length) : ltOf (cfH cs) i j = ahead (cs.get i) (cs.get j) := cfC_neg _ _
theorem swoH (cs : List S89) : SWO (ltOf (cfH cs)) where
  irrefl x := by rw [ltH]; exact ahead_irrefl _
  trans x y z h1 h2 := by rw [ltH] at *; exact ahead_trans _ _ _ h1 h2
  ntrans x y z h1 h2 := by rw [ltH] at *; exact ahead_ntrans _ _ _ h1 h2
theorem totH {cs : List S89} (h : Dist cs) (x y : Fin cs.length) (h1 : ltOf (cfH cs) x y = false) (h2 : ltOf (cfH cs) y x = false) : x = y := by
  rw [ltH] at h1 h2
  exact h x y (ahead_total _ _ h1 h2).2
/-- The places of a list's containers, the heaviest first. -/
def heavyF (cs : List S89) : List (Fin cs.length) := (List.finRange cs.length).mergeSort fun x y => !(ltOf (cfH cs)) y x
def heavyL (cs : List S89) : List Int := (heavyF cs).map fun x => ((x.val : Nat) : Int)
theorem heavyL_length (cs : List S89) : (heavyL cs).length = cs.length := by simp [heavyL, heavyF]
end Go.Proofs.Ytlldonokjgoajaa.X
