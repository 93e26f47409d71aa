/- The reference's SameYard, plainly: the rows of the one are those of the other in some order. -/
import Derived.Test.YtlldonokjgoajaaMSortY
import Derived.Test.YtlldonokjgoajaaMYardD
import Derived.Test.YtlldonokjgoajaaMIntsL
import Derived.Test.YtlldonokjgoajaaFspecSameYard
namespace Go.Proofs.Ytlldonokjgoajaa.X
open Go.RowKit Go.Sort Go.Proofs.YtlldonokjgoajaaW.PrintWords Go.Proofs.YtlldonokjgoajaaW.PrintLast
set_option linter.unusedVariables false
set_option linter.unusedSimpArgs false
def empt : List (List Int) → Nat
  | [] => 0
  | r :: t => if r.length = 0 then empt t + 1 else empt t
def inAll (b : List (List Int)) : List (List Int) → Bool
  | [] => true
  | r :: t => if r.length = 0 then inAll b t else if r ∈ b then inAll b t else false
theorem empt_z {r : List Int} (t : List (List Int)) (h : r.length = 0) : empt (r :: t) = empt t + 1 := if_pos h
theorem empt_p {r : List Int} (t : List (List Int)) (h : ¬ r.length = 0) : empt (r :: t) = empt t := if_neg h
theorem inAll_z (b : List (List Int)) {r : List Int} (t : List (List Int)) (h : r.length = 0) : inAll b (r :: t) = inAll b t := if_pos h
theorem inAll_in {b : List (List Int)} {r : List Int} (t : List (List Int)) (h : ¬ r.length = 0) (hm : r ∈ b) : inAll b (r :: t) = inAll b t := (if_neg h).trans (if_pos hm)
theorem inAll_out {b : List (List Int)} {r : List Int} (t : List (List Int)) (h : ¬ r.length = 0) (hm : ¬ r ∈ b) : inAll b (r :: t) = false := (if_neg h).trans (if_neg hm)
theorem empt_le : ∀ a, empt a ≤ a.length
  | [] => Nat.le_refl _
  | r :: t => by
    have := empt_le t
    simp only [empt, List.length_cons]
    split <;> omega
theorem same_l1 (a b : List (List Int)) (hb : b.length ≤ 6) (d : Nat) : ∀ (k j : Nat) (e : Int), j + d = b.length → d < k → -100 ≤ e - (d : Int) → e ≤ 100 →
    spec_SameYard.l1 k e (j : Int) a b = some (decide (e = (empt (b.drop j) : Int)) && ((a.length : Int) == (b.length : Int)), true) := by
  induction d with
  | zero =>
    intro k j e hj hk h1 h2
    obtain ⟨k, rfl⟩ := kpos hk
    simp only [spec_SameYard.l1]
    rw [if_neg (by omega), List.drop_of_length_le (by omega)]
    by_cases h : e = 0
    · rw [if_pos h, decide_eq_true (show e = ((empt [] : Nat) : Int) from h), Bool.true_and]
    · rw [if_neg h, decide_eq_false (show ¬ e = ((empt [] : Nat) : Int) from h), Bool.false_and]
  | succ d ih =>
    intro k j e hj hk h1 h2
    obtain ⟨k, rfl⟩ := kpos hk
    have hlt : j < b.length := by omega
    have c1 : (j : Int) < (b.length : Int) := by omega
    have c2 : 0 ≤ (j : Int) := by omega
    simp only [spec_SameYard.l1]
    rw [if_pos c1, if_pos c2, rdL_nat, getD_cons (z := []) hlt]
    by_cases h : (b.getD j []).length = 0
    · have h' : ((b.getD j []).length : Int) = 0 := by omega
      rw [if_pos h', empt_z _ h, w64 (x := e - 1) (by omega) (by omega), wnext hlt (by omega), ih k (j + 1) (e - 1) (by omega) (by omega) (by omega) (by omega)]
      congr 4
      rw [eq_iff_iff]
      omega
    · have h' : ¬ ((b.getD j []).length : Int) = 0 := by omega
      rw [if_neg h', empt_p _ h, wnext hlt (by omega), ih k (j + 1) e (by omega) (by omega) (by omega) (by omega)]
theorem row_at {b : List (List Int)} {r : List Int} (h : r ∈ b) : ∃ m : Nat, m < b.length ∧ b.getD m [] = r := by
  obtain ⟨m, hm, rfl⟩ := List.mem_iff_getElem.1 h
  exact ⟨m, hm, by rw [List.getD_eq_getElem?_getD, List.getElem?_eq_getElem hm]; rfl⟩
theorem small_tot {b : List (List Int)} (h6 : b.length ≤ 6) (h4 : ∀ n, (b.getD n []).length ≤ 4) : tot b ≤ 24 := by
  have key : ∀ (b : List (List Int)), (∀ n, (b.getD n []).length ≤ 4) → tot b ≤ 4 * b.length := by
    intro b
    induction b with
    | nil => intro _; exact Nat.le_refl _
    | cons r t ih =>
      intro h
      have h0 := h 0
      have h1 := ih (fun n => h (n + 1))
      simp only [List.getD_cons_zero] at h0
      simp only [tot, List.length_cons]
      omega
  have := key b h4
  omega
theorem same_l0 (a b : List (List Int)) (ha : a.length ≤ 6) (ha4 : ∀ n, (a.getD n []).length ≤ 4) (hb : goodY b = true) (d : Nat) : ∀ (k i : Nat) (e : Int), i + d = a.length → 3145900 + d < k → 0 ≤ e → e + d ≤ 50 →
    spec_SameYard.l0 k e (i : Int) a b = some (if inAll b (a.drop i) = true then (decide (e + (empt (a.drop i) : Int) = (empt b : Int)) && ((a.length : Int) == (b.length : Int)), true) else (false, true)) := by
  have hb6 := goodY_len hb
  have hb4 := goodY_row hb
  have hbt := small_tot hb6.2 hb4
  have hnd : b.flatten.Nodup := ((goodY_iff b).1 hb).2.2.2
  induction d with
  | zero =>
    intro k i e hi hk h1 h2
    obtain ⟨k, rfl⟩ := kpos hk
    have c1 : ¬ (i : Int) < (a.length : Int) := by omega
    have h0 := same_l1 a b (by omega) b.length k 0 e (by omega) (by omega) (by omega) (by omega)
    rw [show ((0 : Nat) : Int) = 0 from rfl, List.drop_zero] at h0
    simp only [spec_SameYard.l0]
    rw [if_neg c1, List.drop_of_length_le (by omega), h0]
    simp only [inAll, empt, if_true]
    simp
  | succ d ih =>
    intro k i e hi hk h1 h2
    obtain ⟨k, rfl⟩ := kpos hk
    have hlt : i < a.length := by omega
    have hai := ha4 i
    have c1 : (i : Int) < (a.length : Int) := by omega
    have c2 : 0 ≤ (i : Int) := by omega
    have hw : wrap64 ((i : Int) + 1) = ((i + 1 : Nat) : Int) := wnext hlt (by omega)
    have hw2 : wrap64 (e + 1) = e + 1 := w64 (by omega) (by omega)
    have ih0 := ih k (i + 1) e (by omega) (by omega) (by omega) (by omega)
    have ih1 := ih k (i + 1) (e + 1) (by omega) (by omega) (by omega) (by omega)
    have hf := fun x => l5Find_ends b x (by omega) (by omega) k (by omega)
    have hsm := fun y => l1Same_ends (a.getD i []) y (by omega) k (by omega)
    clear ih
    simp only [spec_SameYard.l0]
    rw [if_pos c1, if_pos c2, rdL_nat, getD_cons (z := []) hlt, hw, hw2, ih0, ih1]
    generalize a.getD i [] = r at hai hsm ⊢
    by_cases h : r.length = 0
    · have h' : (r.length : Int) = 0 := by omega
      rw [if_pos h', empt_z _ h, inAll_z _ _ h]
      have e3 : (e + 1 + (empt (a.drop (i + 1)) : Int) = (empt b : Int)) = (e + ((empt (a.drop (i + 1)) + 1 : Nat) : Int) = (empt b : Int)) := by rw [eq_iff_iff]; omega
      simp only [e3]
    · have h' : ¬ (r.length : Int) = 0 := by omega
      have c3 : (0 : Int) < (r.length : Int) := by omega
      have er : rd r 0 = r.getD 0 0 := rfl
      rw [if_neg h', empt_p _ h, if_pos c3, hf, er, Option.bind_some]
      by_cases hm : r ∈ b
      · obtain ⟨m, hml, em⟩ := row_at hm
        have hfy := findY_at (r.getD 0 0) b 0 m 0 hnd (by rw [em]; omega) (by rw [em])
        have c4 : ¬ (m : Int) < 0 := by omega
        have c5 : (0 : Int) ≤ (m : Int) := by omega
        have c6 : (m : Int) < (b.length : Int) := by omega
        rw [hfy, Int.zero_add]
        dsimp only
        rw [if_neg c4, if_pos c5, if_pos c6, rdL_nat, em, hsm, Option.bind_some, decide_eq_true rfl, if_pos rfl, inAll_in _ h hm]
      · rw [inAll_out _ h hm, if_neg Bool.false_ne_true]
        by_cases hx : r.getD 0 0 ∈ b.flatten
        · obtain ⟨n, t, hn, ht, e4⟩ := mem_flat_row b _ hx
          have hfy := findY_at (r.getD 0 0) b 0 n t hnd ht e4
          have c4 : ¬ (n : Int) < 0 := by omega
          have c5 : (0 : Int) ≤ (n : Int) := by omega
          have c6 : (n : Int) < (b.length : Int) := by omega
          have hne : ¬ r = b.getD n [] := fun e5 => hm (by rw [e5]; exact row_mem hn)
          rw [hfy, Int.zero_add]
          dsimp only
          rw [if_neg c4, if_pos c5, if_pos c6, rdL_nat, hsm, Option.bind_some, decide_eq_false hne, if_neg (by decide)]
        · rw [findY_none _ _ _ hx]
          dsimp only
          rw [if_pos (by decide)]
/-- The rows that hold something. -/
def ne (a : List (List Int)) : List (List Int) := a.filter fun r => decide (0 < r.length)
theorem split_ne (a : List (List Int)) : a.Perm (ne a ++ List.replicate (empt a) []) := by
  induction a with
  | nil => exact .refl _
  | cons r t ih =>
    unfold ne
    rw [List.filter_cons]
    by_cases h : r.length = 0
    · have e : r = [] := List.eq_nil_of_length_eq_zero h
      subst e
      simp only [empt, List.length_nil, if_true, Nat.lt_irrefl, decide_false, Bool.false_eq_true, if_false, List.replicate_succ]
      exact (List.Perm.cons _ ih).trans List.perm_middle.symm
    · have h' : decide (0 < r.length) = true := decide_eq_true (by omega)
      simp only [empt, h', if_true]
      rw [if_neg h]
      exact List.Perm.cons _ ih
theorem ne_length (a : List (List Int)) : (ne a).length + empt a = a.length := by
  have := (split_ne a).length_eq
  simp only [List.length_append, List.length_replicate] at this
  omega
theorem ne_nodup : ∀ a : List (List Int), a.flatten.Nodup → (ne a).Nodup
  | [], _ => List.nodup_nil
  | r :: t, h => by
    rw [List.flatten_cons, List.nodup_append] at h
    obtain ⟨_, h2, h3⟩ := h
    have ih := ne_nodup t h2
    unfold ne
    rw [List.filter_cons]
    by_cases h0 : decide (0 < r.length) = true
    · rw [if_pos h0, List.nodup_cons]
      refine ⟨fun hm => ?_, ih⟩
      have hp : 0 < r.length := of_decide_eq_true h0
      have h5 := (List.mem_filter.1 hm).1
      exact h3 r[0] (List.getElem_mem hp) r[0] (List.mem_flatten.2 ⟨r, h5, List.getElem_mem hp⟩) rfl
    · rw [if_neg h0]
      exact ih
theorem nodup_perm {α : Type} [DecidableEq α] : ∀ (l m : List α), l.Nodup → (∀ x ∈ l, x ∈ m) → l.length = m.length → l.Perm m
  | [], m, _, _, h => by rw [List.eq_nil_of_length_eq_zero h.symm]
  | x :: r, m, hn, hs, hl => by
    rw [List.nodup_cons] at hn
    have hx : x ∈ m := hs x List.mem_cons_self
    have hp := List.perm_cons_erase hx
    have := hp.length_eq
    simp only [List.length_cons] at this hl
    refine (List.Perm.cons x (nodup_perm r (m.erase x) hn.2 (fun y hy => ?_) (by omega))).trans hp.symm
    have hne : y ≠ x := fun e => hn.1 (e ▸ hy)
    exact (List.mem_erase_of_ne hne).2 (hs y (List.mem_cons_of_mem _ hy))
theorem inAll_iff (b : List (List Int)) : ∀ a, inAll b a = true ↔ ∀ r ∈ ne a, r ∈ b
  | [] => by simp [inAll, ne]
  | r :: t => by
    have ih := inAll_iff b t
    unfold ne at ih ⊢
    rw [List.filter_cons]
    simp only [inAll]
    by_cases h : r.length = 0
    · rw [if_pos h, if_neg (by simp [h])]
      exact ih
    · rw [if_neg h, if_pos (decide_eq_true (by omega : 0 < r.length))]
      by_cases hm : r ∈ b
      · rw [if_pos hm, ih]
        exact ⟨fun h2 x hx => by rcases List.mem_cons.1 hx with rfl | hx; exact hm; exact h2 x hx, fun h2 x hx => h2 x (List.mem_cons_of_mem _ hx)⟩
      · rw [if_neg hm]
        exact ⟨fun z => absurd z (by decide), fun h2 => absurd (h2 r List.mem_cons_self) hm⟩
theorem same_iff {a b : List (List Int)} (ha : goodY a = true) (hb : goodY b = true) : (inAll b a = true ∧ empt a = empt b ∧ a.length = b.length) ↔ a.Perm b := by
  have na := ne_nodup a ((goodY_iff a).1 ha).2.2.2
  have la := ne_length a
  have lb := ne_length b
  constructor
  · rintro ⟨h1, h2, h3⟩
    rw [inAll_iff] at h1
    have hp : (ne a).Perm (ne b) := nodup_perm _ _ na (fun r hr => by
      have h4 := List.mem_filter.1 hr
      exact List.mem_filter.2 ⟨h1 r hr, h4.2⟩) (by omega)
    have := split_ne a
    rw [h2] at this
    exact this.trans ((hp.append_right _).trans (split_ne b).symm)
  · intro h
    have hp : (ne a).Perm (ne b) := h.filter _
    have h1 := hp.length_eq
    have h2 := h.length_eq
    refine ⟨(inAll_iff b a).2 (fun r hr => h.mem_iff.1 (List.mem_filter.1 hr).1), by omega, h2⟩
def sameA (a b : List (List Int)) : Bool × Bool := if goodY a = true then (if goodY b = true then (decide (sortY a = sortY b), true) else (false, false)) else (false, false)
theorem same_spec (a b : List (List Int)) (k : Nat) (hk : 3146000 ≤ k) : spec_SameYard.f k a b = some (sameA a b) := by
  unfold spec_SameYard.f sameA
  rw [spec_goodY a k (by omega), spec_goodY b k (by omega), Option.bind_some, Option.bind_some]
  obtain ⟨k, rfl⟩ := kpos (d := 0) (k := k) (by omega)
  by_cases ha : goodY a = true
  · rw [if_pos ha, if_pos ha]
    by_cases hb : goodY b = true
    · have h0 := same_l0 a b (goodY_len ha).2 (goodY_row ha) hb a.length k 0 0 (by omega) (by have := (goodY_len ha).2; omega) (by omega) (by have := (goodY_len ha).2; omega)
      rw [show ((0 : Nat) : Int) = 0 from rfl, List.drop_zero, Int.zero_add] at h0
      rw [if_pos hb, hb]
      simp only [spec_SameYard.j0, Bool.not_true, Bool.false_eq_true, if_false]
      rw [h0]
      have hiff := same_iff ha hb
      by_cases h1 : inAll b a = true
      · rw [if_pos h1]
        congr 2
        rw [Bool.eq_iff_iff, Bool.and_eq_true, decide_eq_true_eq, decide_eq_true_eq, beq_iff_eq, sortY_iff, ← hiff]
        exact ⟨fun z => ⟨h1, by omega, by omega⟩, fun z => ⟨by omega, by omega⟩⟩
      · rw [if_neg h1, decide_eq_false (fun z => h1 (hiff.2 ((sortY_iff a b).1 z)).1)]
    · rw [if_neg hb]
      rw [Bool.not_eq_true] at hb
      rw [hb]
      simp only [spec_SameYard.j0, Bool.not_false, if_true]
  · rw [if_neg ha, if_neg ha]
    simp only [spec_SameYard.j0, if_true]
end Go.Proofs.Ytlldonokjgoajaa.X
