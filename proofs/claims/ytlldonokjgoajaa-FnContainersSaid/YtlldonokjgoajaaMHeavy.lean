/- Numbers sorted by insertion: a permutation, sorted; and a sorted permutation is the only one. -/
import Derived.Test.YtlldonokjgoajaaMBase
namespace Go.Proofs.Ytlldonokjgoajaa.X
open Go.RowKit Go.Proofs.YtlldonokjgoajaaW.PrintWords Go.Proofs.YtlldonokjgoajaaW.PrintLast
set_option linter.unusedVariables false
set_option linter.unusedSimpArgs false
/-- Where x goes among the first k of o: behind the last one ahead of which it does not stand. -/
def posK (lt : Int → Int → Bool) (x : Int) (o : List Int) : Nat → Nat
  | 0 => 0
  | k + 1 => if lt x (o.getD k 0) = true then posK lt x o k else k + 1
def insR (lt : Int → Int → Bool) (x : Int) (o : List Int) : List Int := o.take (posK lt x o o.length) ++ x :: o.drop (posK lt x o o.length)
def specO (lt : Int → Int → Bool) : Nat → Nat → List Int → List Int
  | 0, _, o => o
  | d + 1, i, o => specO lt d (i + 1) (insR lt (i : Int) o)
/-- The numbers from i on, so many. -/
def nums (i : Nat) : Nat → List Int
  | 0 => []
  | d + 1 => (i : Int) :: nums (i + 1) d
theorem nums_length (d : Nat) : ∀ i, (nums i d).length = d := by
  induction d with
  | zero => intro i; rfl
  | succ d ih => intro i; rw [nums, List.length_cons, ih]
theorem nums_mem (d : Nat) : ∀ (i : Nat) (x : Int), x ∈ nums i d ↔ (i : Int) ≤ x ∧ x < i + d := by
  induction d with
  | zero => intro i x; simp [nums]
  | succ d ih =>
    intro i x
    rw [nums, List.mem_cons, ih]
    omega
theorem nums_nodup (d : Nat) : ∀ i, (nums i d).Nodup := by
  induction d with
  | zero => intro i; exact List.nodup_nil
  | succ d ih =>
    intro i
    rw [nums, List.nodup_cons, nums_mem]
    exact ⟨by omega, ih (i + 1)⟩
theorem posK_le (lt : Int → Int → Bool) (x : Int) (o : List Int) : ∀ k, posK lt x o k ≤ k
  | 0 => Nat.le_refl _
  | k + 1 => by
    rw [posK]
    split
    · have := posK_le lt x o k; omega
    · exact Nat.le_refl _
theorem posK_behind (lt : Int → Int → Bool) (x : Int) (o : List Int) : ∀ k j, posK lt x o k ≤ j → j < k → lt x (o.getD j 0) = true
  | 0, j, _, h => by omega
  | k + 1, j, h1, h2 => by
    rw [posK] at h1
    split at h1
    · rename_i hl
      by_cases e : j = k
      · rw [e]; exact hl
      · exact posK_behind lt x o k j h1 (by omega)
    · omega
theorem posK_ahead (lt : Int → Int → Bool) (x : Int) (o : List Int) : ∀ k, 0 < posK lt x o k → lt x (o.getD (posK lt x o k - 1) 0) = false
  | 0, h => by simp [posK] at h
  | k + 1, h => by
    rw [posK] at h ⊢
    split
    · rename_i hl
      rw [if_pos hl] at h
      exact posK_ahead lt x o k h
    · rename_i hl
      rw [Nat.add_sub_cancel]
      simpa using hl
theorem insR_perm (lt : Int → Int → Bool) (x : Int) (o : List Int) : (insR lt x o).Perm (x :: o) := by
  unfold insR
  refine List.perm_middle.trans ?_
  rw [List.take_append_drop]
theorem specO_perm (lt : Int → Int → Bool) (d : Nat) : ∀ (i : Nat) (o : List Int), (specO lt d i o).Perm (o ++ nums i d) := by
  induction d with
  | zero => intro i o; rw [specO, nums, List.append_nil]
  | succ d ih =>
    intro i o
    rw [specO, nums]
    refine (ih (i + 1) _).trans ?_
    refine ((insR_perm lt (i : Int) o).append_right _).trans ?_
    exact List.perm_middle.symm
structure Ord (lt : Int → Int → Bool) : Prop where
  asym : ∀ a b, lt a b = true → lt b a = false
  co : ∀ a b c, lt a c = true → lt a b = true ∨ lt b c = true
def Srt (lt : Int → Int → Bool) (r : List Int) : Prop := r.Pairwise (fun a b => lt b a = false)
theorem insR_sorted {lt : Int → Int → Bool} (h : Ord lt) (x : Int) (o : List Int) (hs : Srt lt o) : Srt lt (insR lt x o) := by
  have hk := posK_le lt x o o.length
  have hb := posK_behind lt x o o.length
  have ha := posK_ahead lt x o o.length
  unfold insR Srt at *
  obtain ⟨k, hke⟩ : ∃ k, posK lt x o o.length = k := ⟨_, rfl⟩
  rw [hke] at hk hb ha ⊢
  have hs2 := hs
  rw [← List.take_append_drop k o, List.pairwise_append] at hs2
  obtain ⟨p1, p2, p3⟩ := hs2
  rw [List.pairwise_append, List.pairwise_cons]
  refine ⟨p1, ⟨fun b hbm => ?_, p2⟩, fun a ham b hbm => ?_⟩
  · obtain ⟨j, hj, rfl⟩ := List.mem_iff_getElem.1 hbm
    rw [List.length_drop] at hj
    have := hb (k + j) (by omega) (by omega)
    rw [List.getD_eq_getElem?_getD, List.getElem?_eq_getElem (by omega)] at this
    rw [List.getElem_drop]
    exact h.asym _ _ this
  · rcases List.mem_cons.1 hbm with rfl | hbm
    · obtain ⟨j, hj, rfl⟩ := List.mem_iff_getElem.1 ham
      rw [List.length_take] at hj
      rw [List.getElem_take]
      have hla := ha (by omega)
      rw [List.getD_eq_getElem?_getD, List.getElem?_eq_getElem (by omega)] at hla
      cases hx : lt b o[j] with
      | false => rfl
      | true =>
        exfalso
        rcases h.co b (o[k - 1]'(by omega)) (o[j]'(by omega)) hx with h1 | h1
        · rw [show (some (o[k - 1]'(by omega))).getD 0 = o[k - 1]'(by omega) from rfl] at hla
          rw [h1] at hla
          cases hla
        · by_cases e : j = k - 1
          · subst e
            have := h.asym _ _ h1
            rw [h1] at this
            cases this
          · have := List.pairwise_iff_getElem.1 hs j (k - 1) (by omega) (by omega) (by omega)
            rw [h1] at this
            cases this
    · exact p3 a ham b hbm
theorem specO_sorted {lt : Int → Int → Bool} (h : Ord lt) (d : Nat) : ∀ (i : Nat) (o : List Int), Srt lt o → Srt lt (specO lt d i o) := by
  induction d with
  | zero => intro i o hs; exact hs
  | succ d ih => intro i o hs; exact ih (i + 1) _ (insR_sorted h _ _ hs)
theorem sorted_unique (lt : Int → Int → Bool) : ∀ (r s : List Int), r.Perm s → r.Nodup → (∀ a ∈ r, ∀ b ∈ r, a ≠ b → lt a b = true ∨ lt b a = true) → Srt lt r → Srt lt s → r = s
  | [], s, hp, _, _, _, _ => hp.nil_eq
  | a :: r, [], hp, _, _, _, _ => absurd hp.length_eq (by simp)
  | a :: r, b :: s, hp, hn, ht, hr, hs => by
    unfold Srt at hr hs
    rw [List.pairwise_cons] at hr hs
    by_cases e : a = b
    · subst e
      rw [sorted_unique lt r s ((List.perm_cons a).1 hp) (List.nodup_cons.1 hn).2 (fun x hx y hy => ht x (List.mem_cons_of_mem _ hx) y (List.mem_cons_of_mem _ hy)) hr.2 hs.2]
    · exfalso
      have ha : a ∈ s := by
        have := hp.subset (List.mem_cons_self (a := a) (l := r))
        rcases List.mem_cons.1 this with h | h
        · exact absurd h e
        · exact h
      have hb : b ∈ r := by
        have := hp.symm.subset (List.mem_cons_self (a := b) (l := s))
        rcases List.mem_cons.1 this with h | h
        · exact absurd h.symm e
        · exact h
      rcases ht a List.mem_cons_self b (List.mem_cons_of_mem _ hb) e with h | h
      · rw [hs.1 a ha] at h; cases h
      · rw [hr.1 b hb] at h; cases h
end Go.Proofs.Ytlldonokjgoajaa.X
