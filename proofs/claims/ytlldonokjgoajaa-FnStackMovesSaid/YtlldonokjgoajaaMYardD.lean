/- Valid yards, plainly: rows of at most four, numbers 1 to 99, none twice. Where a number lies; what moving a top does. No Go in it. -/
import Derived.Test.YtlldonokjgoajaaMYardQ
import Derived.Test.YtlldonokjgoajaaGmoveTop
namespace Go.Proofs.Ytlldonokjgoajaa.X
open Go.RowKit Go.Proofs.YtlldonokjgoajaaW.PrintWords Go.Proofs.YtlldonokjgoajaaW.PrintLast
set_option linter.unusedVariables false
set_option linter.unusedSimpArgs false
theorem seeRow_iff : ∀ (s seen t : List Int), seeRow seen s = some t ↔ t = seen ++ s ∧ (∀ x ∈ s, inB x 1 99 = true) ∧ s.Nodup ∧ (∀ x ∈ s, x ∉ seen)
  | [], seen, t => by
    simp only [seeRow, Option.some.injEq, List.append_nil, List.not_mem_nil, false_implies, implies_true, List.nodup_nil, and_true]
    exact eq_comm
  | n :: r, seen, t => by
    simp only [seeRow]
    by_cases h1 : inB n 1 99 = true
    · rw [if_pos h1]
      by_cases h2 : seen.contains n = true
      · rw [if_pos h2]
        have h3 : n ∈ seen := by simpa using h2
        constructor
        · intro h; cases h
        · intro h; exact absurd h3 (h.2.2.2 n List.mem_cons_self)
      · rw [if_neg h2]
        have h3 : n ∉ seen := by simpa using h2
        rw [seeRow_iff r (seen ++ [n]) t]
        constructor
        · rintro ⟨e, a, b, c⟩
          refine ⟨by rw [e]; simp, ?_, ?_, ?_⟩
          · intro x hx
            rcases List.mem_cons.1 hx with rfl | hx
            · exact h1
            · exact a x hx
          · rw [List.nodup_cons]
            exact ⟨fun hn => c n hn (by simp), b⟩
          · intro x hx
            rcases List.mem_cons.1 hx with rfl | hx
            · exact h3
            · exact fun hs => c x hx (by simp [hs])
        · rintro ⟨e, a, b, c⟩
          rw [List.nodup_cons] at b
          refine ⟨by rw [e]; simp, fun x hx => a x (List.mem_cons_of_mem _ hx), b.2, ?_⟩
          intro x hx hs
          rcases List.mem_append.1 hs with hs | hs
          · exact c x (List.mem_cons_of_mem _ hx) hs
          · rw [List.mem_singleton.1 hs] at hx
            exact b.1 hx
    · rw [if_neg h1]
      constructor
      · intro h; cases h
      · intro h; exact absurd (h.2.1 n List.mem_cons_self) h1
theorem goodRows_iff : ∀ (ss : List (List Int)) (seen : List Int), goodRows seen ss = true ↔ (∀ s ∈ ss, s.length ≤ 4) ∧ (∀ x ∈ ss.flatten, inB x 1 99 = true) ∧ ss.flatten.Nodup ∧ (∀ x ∈ ss.flatten, x ∉ seen)
  | [], seen => by simp [goodRows]
  | s :: r, seen => by
    simp only [goodRows]
    by_cases h4 : 4 < s.length
    · rw [if_pos h4]
      constructor
      · intro h; cases h
      · intro h; have := h.1 s List.mem_cons_self; omega
    · rw [if_neg h4]
      cases hs : seeRow seen s with
      | none =>
        constructor
        · intro h; cases h
        · rintro ⟨_, b, c, d⟩
          rw [List.flatten_cons] at b c d
          rw [List.nodup_append] at c
          have := (seeRow_iff s seen (seen ++ s)).2 ⟨rfl, fun x hx => b x (List.mem_append_left _ hx), c.1, fun x hx => d x (List.mem_append_left _ hx)⟩
          rw [hs] at this
          cases this
      | some t =>
        obtain ⟨rfl, a, b, c⟩ := (seeRow_iff s seen t).1 hs
        show goodRows (seen ++ s) r = true ↔ _
        rw [goodRows_iff r (seen ++ s), List.flatten_cons]
        constructor
        · rintro ⟨e1, e2, e3, e4⟩
          refine ⟨?_, ?_, ?_, ?_⟩
          · intro x hx
            rcases List.mem_cons.1 hx with rfl | hx
            · omega
            · exact e1 x hx
          · intro x hx
            rcases List.mem_append.1 hx with hx | hx
            · exact a x hx
            · exact e2 x hx
          · rw [List.nodup_append]
            exact ⟨b, e3, fun x hx y hy e => e4 y hy (by rw [← e]; exact List.mem_append_right _ hx)⟩
          · intro x hx
            rcases List.mem_append.1 hx with hx | hx
            · exact c x hx
            · exact fun h => e4 x hx (List.mem_append_left _ h)
        · rintro ⟨e1, e2, e3, e4⟩
          rw [List.nodup_append] at e3
          refine ⟨fun x hx => e1 x (List.mem_cons_of_mem _ hx), fun x hx => e2 x (List.mem_append_right _ hx), e3.2.1, ?_⟩
          intro x hx h
          rcases List.mem_append.1 h with h | h
          · exact e4 x (List.mem_append_right _ hx) h
          · exact e3.2.2 x h x hx rfl
theorem goodY_iff (ss : List (List Int)) : goodY ss = true ↔ (1 ≤ ss.length ∧ ss.length ≤ 6) ∧ (∀ s ∈ ss, s.length ≤ 4) ∧ (∀ x ∈ ss.flatten, 1 ≤ x ∧ x ≤ 99) ∧ ss.flatten.Nodup := by
  unfold goodY
  rw [Bool.and_eq_true, goodRows_iff]
  unfold inB
  simp only [decide_eq_true_eq]
  constructor
  · rintro ⟨a, b, c, d, _⟩
    exact ⟨by omega, b, c, d⟩
  · rintro ⟨a, b, c, d⟩
    exact ⟨by omega, b, c, d, by simp⟩
theorem whereI_not (x : Int) : ∀ (l : List Int) (i : Int), x ∉ l → whereI x l i = -1
  | [], i, _ => rfl
  | y :: l, i, h => by
    rw [List.mem_cons, not_or] at h
    simp only [whereI]
    rw [if_neg h.1]
    exact whereI_not x l (i + 1) h.2
theorem whereI_at (x : Int) : ∀ (l : List Int) (i : Int) (t : Nat), l.Nodup → t < l.length → l.getD t 0 = x → whereI x l i = i + t
  | [], i, t, _, h, _ => by simp at h
  | y :: l, i, 0, hn, h, e => by
    simp only [List.getD_cons_zero] at e
    simp only [whereI]
    rw [if_pos e.symm]
    omega
  | y :: l, i, t + 1, hn, h, e => by
    rw [List.nodup_cons] at hn
    simp only [List.getD_cons_succ] at e
    simp only [List.length_cons] at h
    have hm : x ∈ l := by
      rw [← e, List.getD_eq_getElem?_getD, List.getElem?_eq_getElem (by omega)]
      exact List.getElem_mem _
    simp only [whereI]
    rw [if_neg (fun h1 => hn.1 (by rw [← h1]; exact hm)), whereI_at x l (i + 1) t hn.2 (by omega) e]
    omega
theorem mem_row_flat : ∀ (ss : List (List Int)) (n : Nat) (x : Int), x ∈ ss.getD n [] → x ∈ ss.flatten
  | [], n, x, h => by simp at h
  | s :: r, 0, x, h => by
    simp only [List.getD_cons_zero] at h
    rw [List.flatten_cons]
    exact List.mem_append_left _ h
  | s :: r, n + 1, x, h => by
    simp only [List.getD_cons_succ] at h
    rw [List.flatten_cons]
    exact List.mem_append_right _ (mem_row_flat r n x h)
theorem getD_in {l : List Int} {t : Nat} (h : t < l.length) : l.getD t 0 ∈ l := by
  rw [List.getD_eq_getElem?_getD, List.getElem?_eq_getElem h]
  exact List.getElem_mem _
theorem findY_at (x : Int) : ∀ (ss : List (List Int)) (i : Int) (n t : Nat), ss.flatten.Nodup → t < (ss.getD n []).length → (ss.getD n []).getD t 0 = x → findY x ss i = (i + n, (t : Int))
  | [], i, n, t, _, h, _ => by simp at h
  | s :: r, i, 0, t, hn, h, e => by
    rw [List.flatten_cons, List.nodup_append] at hn
    simp only [List.getD_cons_zero] at h e
    simp only [findY]
    rw [whereI_at x s 0 t hn.1 h e, if_pos (by omega)]
    simp
  | s :: r, i, n + 1, t, hn, h, e => by
    rw [List.flatten_cons, List.nodup_append] at hn
    simp only [List.getD_cons_succ] at h e
    have hx : x ∈ r.flatten := mem_row_flat r n x (by rw [← e]; exact getD_in h)
    simp only [findY]
    rw [whereI_not x s 0 (fun hs => hn.2.2 x hs x hx rfl), if_neg (by omega), findY_at x r (i + 1) n t hn.2.1 h e]
    congr 1
    omega
theorem findY_none (x : Int) : ∀ (ss : List (List Int)) (i : Int), x ∉ ss.flatten → findY x ss i = (-1, -1)
  | [], i, _ => rfl
  | s :: r, i, h => by
    rw [List.flatten_cons, List.mem_append, not_or] at h
    simp only [findY]
    rw [whereI_not x s 0 h.1, if_neg (by omega)]
    exact findY_none x r (i + 1) h.2
theorem mem_flat_row : ∀ (ss : List (List Int)) (x : Int), x ∈ ss.flatten → ∃ n t : Nat, n < ss.length ∧ t < (ss.getD n []).length ∧ (ss.getD n []).getD t 0 = x
  | [], x, h => by simp at h
  | s :: r, x, h => by
    rw [List.flatten_cons] at h
    rcases List.mem_append.1 h with h | h
    · obtain ⟨t, ht, e⟩ := List.mem_iff_getElem.1 h
      refine ⟨0, t, by simp, by simpa using ht, ?_⟩
      simp only [List.getD_cons_zero]
      rw [List.getD_eq_getElem?_getD, List.getElem?_eq_getElem ht]
      exact e
    · obtain ⟨n, t, hn, ht, e⟩ := mem_flat_row r x h
      exact ⟨n + 1, t, by simp; omega, by simpa using ht, by simpa using e⟩
/-- A row put in place of another: what the yard holds. -/
theorem flat_set : ∀ (ss : List (List Int)) (n : Nat) (s : List Int), n < ss.length → (ss.set n s).flatten.Perm (s ++ (ss.set n []).flatten)
  | [], n, s, h => by simp at h
  | r :: rs, 0, s, _ => by simp
  | r :: rs, n + 1, s, h => by
    simp only [List.length_cons] at h
    simp only [List.set_cons_succ, List.flatten_cons]
    refine ((flat_set rs n s (by omega)).append_left r).trans ?_
    rw [← List.append_assoc, ← List.append_assoc]
    exact List.perm_append_comm.append_right _
theorem set_self {α : Type} : ∀ (ss : List α) (n : Nat) (z : α), ss.set n (ss.getD n z) = ss
  | [], n, z => rfl
  | r :: rs, 0, z => rfl
  | r :: rs, n + 1, z => by simp only [List.set_cons_succ, List.getD_cons_succ]; rw [set_self rs n z]
theorem flat_split (ss : List (List Int)) (n : Nat) (h : n < ss.length) : ss.flatten.Perm (ss.getD n [] ++ (ss.set n []).flatten) := by
  have := flat_set ss n (ss.getD n []) h
  rwa [set_self] at this
theorem top_split (s : List Int) (h : 0 < s.length) : s = s.take (s.length - 1) ++ [topY s] := by
  have e : s.take (s.length - 1 + 1) = s.take (s.length - 1) ++ [s.getD (s.length - 1) 0] := by
    rw [List.take_succ_eq_append_getElem (by omega), List.getD_eq_getElem?_getD, List.getElem?_eq_getElem (by omega)]
    rfl
  unfold topY
  rw [if_neg (by omega), ← e, List.take_of_length_le (by omega)]
theorem getD_set_same {α : Type} (ss : List α) (n : Nat) (s z : α) (h : n < ss.length) : (ss.set n s).getD n z = s := by
  rw [List.getD_eq_getElem?_getD, List.getElem?_set_self h]
  rfl
theorem getD_set_other {α : Type} (ss : List α) (n m : Nat) (s z : α) (h : n ≠ m) : (ss.set n s).getD m z = ss.getD m z := by
  rw [List.getD_eq_getElem?_getD, List.getElem?_set_ne h, List.getD_eq_getElem?_getD]
theorem cut_flat (ss : List (List Int)) (f : Nat) (hf : f < ss.length) (hp : 0 < (ss.getD f []).length) : ss.flatten.Perm (topY (ss.getD f []) :: (cutL ss f).flatten) := by
  have h1 := flat_split ss f hf
  have h2 := flat_set ss f ((ss.getD f []).take ((ss.getD f []).length - 1)) hf
  rw [top_split _ hp] at h1
  refine h1.trans ?_
  rw [List.append_assoc, List.singleton_append]
  refine List.perm_middle.trans ?_
  exact (List.Perm.cons _ h2.symm)
theorem move_flat (ss : List (List Int)) (f t : Nat) (hf : f < ss.length) (ht : t < ss.length) (hp : 0 < (ss.getD f []).length) : (moveL ss f t).flatten.Perm ss.flatten := by
  have hl : (cutL ss f).length = ss.length := by unfold cutL; simp
  have h0 := cut_flat ss f hf hp
  have h1 := flat_set (cutL ss f) t ((cutL ss f).getD t [] ++ [topY (ss.getD f [])]) (by omega)
  have h2 := flat_split (cutL ss f) t (by omega)
  unfold moveL
  refine h1.trans ?_
  refine List.Perm.trans ?_ h0.symm
  rw [List.append_assoc, List.singleton_append]
  refine List.perm_middle.trans ?_
  exact List.Perm.cons _ h2.symm
theorem mem_set_or {ss : List (List Int)} {n : Nat} {s x : List Int} (h : x ∈ ss.set n s) : x ∈ ss ∨ x = s := by
  rcases List.mem_or_eq_of_mem_set h with h | h
  · exact .inl h
  · exact .inr h
theorem row_mem {ss : List (List Int)} {n : Nat} (h : n < ss.length) : ss.getD n [] ∈ ss := by
  rw [List.getD_eq_getElem?_getD, List.getElem?_eq_getElem h]
  exact List.getElem_mem _
theorem cut_good {ss : List (List Int)} {f : Nat} (h : goodY ss = true) (hf : f < ss.length) (hp : 0 < (ss.getD f []).length) : goodY (cutL ss f) = true := by
  have hc := cut_flat ss f hf hp
  rw [goodY_iff] at h ⊢
  obtain ⟨a, b, c, d⟩ := h
  have hl : (cutL ss f).length = ss.length := by unfold cutL; simp
  refine ⟨by omega, ?_, ?_, ?_⟩
  · intro s hs
    rcases mem_set_or hs with hs | rfl
    · exact b s hs
    · have := b _ (row_mem hf)
      rw [List.length_take]; omega
  · intro x hx
    exact c x (hc.symm.subset (List.mem_cons_of_mem _ hx))
  · exact (List.nodup_cons.1 (hc.nodup_iff.1 d)).2
theorem move_good {ss : List (List Int)} {f t : Nat} (h : goodY ss = true) (hf : f < ss.length) (ht : t < ss.length) (hne : f ≠ t) (hp : 0 < (ss.getD f []).length) (h4 : (ss.getD t []).length ≠ 4) : goodY (moveL ss f t) = true := by
  have hc := move_flat ss f t hf ht hp
  have hg := h
  rw [goodY_iff] at h ⊢
  obtain ⟨a, b, c, d⟩ := h
  have hl : (cutL ss f).length = ss.length := by unfold cutL; simp
  have hl2 : (moveL ss f t).length = ss.length := by unfold moveL; simp [hl]
  refine ⟨by omega, ?_, ?_, ?_⟩
  · intro s hs
    unfold moveL at hs
    rcases mem_set_or hs with hs | rfl
    · unfold cutL at hs
      rcases mem_set_or hs with hs | rfl
      · exact b s hs
      · have := b _ (row_mem hf)
        rw [List.length_take]; omega
    · have := b _ (row_mem ht)
      have e : (cutL ss f).getD t [] = ss.getD t [] := by unfold cutL; exact getD_set_other _ _ _ _ _ hne
      rw [e, List.length_append, List.length_singleton]; omega
  · intro x hx
    exact c x (hc.subset hx)
  · exact hc.nodup_iff.2 d
/-- The top moved there and back. -/
theorem move_back {ss : List (List Int)} {f t : Nat} (hf : f < ss.length) (ht : t < ss.length) (hne : f ≠ t) (hp : 0 < (ss.getD f []).length) :
    moveL (moveL ss f t) t f = ss ∧ topY ((moveL ss f t).getD t []) = topY (ss.getD f []) ∧ 0 < ((moveL ss f t).getD t []).length ∧ ((moveL ss f t).getD f []).length = (ss.getD f []).length - 1 ∧ (moveL ss f t).length = ss.length := by
  have e1 : (cutL ss f).getD t [] = ss.getD t [] := by unfold cutL; exact getD_set_other _ _ _ _ _ hne
  have hl : (cutL ss f).length = ss.length := by unfold cutL; simp
  have hl2 : (moveL ss f t).length = ss.length := by unfold moveL; simp [hl]
  have e2 : (moveL ss f t).getD t [] = ss.getD t [] ++ [topY (ss.getD f [])] := by unfold moveL; rw [getD_set_same _ _ _ _ (by omega), e1]
  have e3 : (moveL ss f t).getD f [] = (ss.getD f []).take ((ss.getD f []).length - 1) := by
    unfold moveL; rw [getD_set_other _ _ _ _ _ (Ne.symm hne)]; unfold cutL; exact getD_set_same _ _ _ _ hf
  have e4 : topY (ss.getD t [] ++ [topY (ss.getD f [])]) = topY (ss.getD f []) := by
    generalize topY (ss.getD f []) = y
    unfold topY
    rw [if_neg (by simp)]
    simp [List.getD_eq_getElem?_getD]
  have e5 : (ss.getD t [] ++ [topY (ss.getD f [])]).take ((ss.getD t [] ++ [topY (ss.getD f [])]).length - 1) = ss.getD t [] := by simp
  refine ⟨?_, by rw [e2, e4], by rw [e2]; simp, by rw [e3, List.length_take]; omega, hl2⟩
  have e6 : cutL (moveL ss f t) t = cutL ss f := by
    conv => lhs; unfold cutL
    rw [e2, e5]
    unfold moveL
    rw [List.set_set, ← e1, set_self]
  show (cutL (moveL ss f t) t).set f ((cutL (moveL ss f t) t).getD f [] ++ [topY ((moveL ss f t).getD t [])]) = ss
  rw [e6, e2, e4]
  have e7 : (cutL ss f).getD f [] = (ss.getD f []).take ((ss.getD f []).length - 1) := by unfold cutL; exact getD_set_same _ _ _ _ hf
  rw [e7, ← top_split _ hp]
  unfold cutL
  rw [List.set_set, set_self]
end Go.Proofs.Ytlldonokjgoajaa.X
