/- The changes between two manifests: the reference puts each number to its place, the program sorts at the end; both come to the same lists. -/
import Derived.Test.YtlldonokjgoajaaMCont
import Derived.Test.YtlldonokjgoajaaMBs
import Derived.Test.YtlldonokjgoajaaGSortS
import Derived.Test.YtlldonokjgoajaaFspecl4Put
import Derived.Test.YtlldonokjgoajaaFspecManifestChanges
import Derived.Test.YtlldonokjgoajaaFimplManifestChanges
namespace Go.Proofs.Ytlldonokjgoajaa.X
open Go.RowKit Go.Proofs.YtlldonokjgoajaaW.PrintWords Go.Proofs.YtlldonokjgoajaaW.PrintLast
set_option linter.unusedVariables false
set_option linter.unusedSimpArgs false
theorem less_lt : ∀ a b : List UInt8, Op.bytesLess a b = decide (a < b)
  | _, [] => by simp [Op.bytesLess]
  | [], y :: b => by simp [Op.bytesLess]
  | x :: a, y :: b => by
    simp only [Op.bytesLess]
    rw [less_lt a b, Bool.eq_iff_iff]
    simp [List.cons_lt_cons_iff]
/-- In order. -/
def Ord (l : List ByteArray) : Prop := l.Pairwise (fun a b => bs a ≤ bs b)
def posR (l : List ByteArray) (s : ByteArray) : Nat → Nat
  | 0 => 0
  | i + 1 => if Op.bytesLess s.toList (l.getD i ByteArray.empty).toList = true then posR l s i else i + 1
def putS (l : List ByteArray) (s : ByteArray) : List ByteArray := l.take (posR l s l.length) ++ [s] ++ l.drop (posR l s l.length)
theorem posR_spec (l : List ByteArray) (s : ByteArray) : ∀ n, posR l s n ≤ n ∧ (∀ i, posR l s n ≤ i → i < n → bs s ≤ bs (l.getD i ByteArray.empty)) ∧ (posR l s n = 0 ∨ bs (l.getD (posR l s n - 1) ByteArray.empty) ≤ bs s) := by
  intro n
  induction n with
  | zero => exact ⟨Nat.le_refl _, fun i h1 h2 => by omega, .inl rfl⟩
  | succ n ih =>
    obtain ⟨h1, h2, h3⟩ := ih
    unfold posR
    by_cases h : Op.bytesLess s.toList (l.getD n ByteArray.empty).toList = true
    · rw [if_pos h]
      refine ⟨by omega, fun i hi hn => ?_, h3⟩
      by_cases he : i = n
      · subst he
        rw [less_lt, decide_eq_true_eq, ByteArray.toList_eq, ByteArray.toList_eq] at h
        exact List.le_of_lt h
      · exact h2 i hi (by omega)
    · rw [if_neg h]
      refine ⟨Nat.le_refl _, fun i hi hn => by omega, .inr ?_⟩
      rw [less_lt, decide_eq_true_eq, ByteArray.toList_eq, ByteArray.toList_eq] at h
      exact List.not_lt.1 h
theorem mem_take_get {l : List ByteArray} {p : Nat} {a : ByteArray} (h : a ∈ l.take p) : ∃ i, i < p ∧ i < l.length ∧ l.getD i ByteArray.empty = a := by
  obtain ⟨i, hi, e⟩ := List.mem_iff_getElem.1 h
  rw [List.length_take] at hi
  refine ⟨i, by omega, by omega, ?_⟩
  rw [List.getElem_take] at e
  rw [List.getD_eq_getElem?_getD, List.getElem?_eq_getElem (by omega), ← e]
  rfl
theorem mem_drop_get {l : List ByteArray} {p : Nat} {a : ByteArray} (h : a ∈ l.drop p) : ∃ i, p ≤ i ∧ i < l.length ∧ l.getD i ByteArray.empty = a := by
  obtain ⟨i, hi, e⟩ := List.mem_iff_getElem.1 h
  rw [List.length_drop] at hi
  refine ⟨p + i, by omega, by omega, ?_⟩
  rw [List.getElem_drop] at e
  rw [List.getD_eq_getElem?_getD, List.getElem?_eq_getElem (by omega), ← e]
  rfl
theorem ord_get {l : List ByteArray} (h : Ord l) {i j : Nat} (hij : i ≤ j) (hj : j < l.length) : bs (l.getD i ByteArray.empty) ≤ bs (l.getD j ByteArray.empty) := by
  by_cases he : i = j
  · rw [he]; exact List.le_refl _
  · have := List.pairwise_iff_getElem.1 h i j (by omega) hj (by omega)
    rw [List.getD_eq_getElem?_getD, List.getElem?_eq_getElem (by omega), List.getD_eq_getElem?_getD, List.getElem?_eq_getElem hj]
    exact this
theorem putS_ord {l : List ByteArray} (h : Ord l) (s : ByteArray) : Ord (putS l s) := by
  obtain ⟨h1, h2, h3⟩ := posR_spec l s l.length
  unfold putS
  generalize posR l s l.length = p at *
  have ht : ∀ a ∈ l.take p, bs a ≤ bs s := by
    intro a ha
    obtain ⟨i, hi, hl, rfl⟩ := mem_take_get ha
    rcases h3 with h3 | h3
    · omega
    · exact List.le_trans (ord_get h (i := i) (j := p - 1) (by omega) (by omega)) h3
  have hd : ∀ b ∈ l.drop p, bs s ≤ bs b := by
    intro b hb
    obtain ⟨i, hi, hl, rfl⟩ := mem_drop_get hb
    exact h2 i hi hl
  unfold Ord
  refine List.pairwise_append.2 ⟨List.pairwise_append.2 ⟨List.Pairwise.sublist (List.take_sublist _ _) h, List.pairwise_singleton _ _, fun a ha b hb => ?_⟩, List.Pairwise.sublist (List.drop_sublist _ _) h, fun a ha b hb => ?_⟩
  · rw [List.mem_singleton.1 hb]; exact ht a ha
  · rcases List.mem_append.1 ha with ha | ha
    · obtain ⟨i, hi, hl, rfl⟩ := mem_take_get ha
      obtain ⟨j, hj, hl2, rfl⟩ := mem_drop_get hb
      exact ord_get h (by omega) hl2
    · rw [List.mem_singleton.1 ha]; exact hd b hb
theorem putS_perm (l : List ByteArray) (s : ByteArray) : (putS l s).Perm (l ++ [s]) := by
  unfold putS
  generalize posR l s l.length = p
  have e : l ++ [s] = l.take p ++ (l.drop p ++ [s]) := by rw [← List.append_assoc, List.take_append_drop]
  rw [e, List.append_assoc]
  exact List.Perm.append_left _ List.perm_append_comm
theorem l4Put_loop (l : List ByteArray) (s : ByteArray) (hl : l.length ≤ 1000000) : ∀ (i k : Nat), i ≤ l.length → i < k → spec_l4Put.l0 k l s (i : Int) = some (l.take (posR l s i) ++ [s] ++ l.drop (posR l s i)) := by
  intro i
  induction i with
  | zero =>
    intro k hi hk
    obtain ⟨k, rfl⟩ := kpos hk
    simp only [spec_l4Put.l0]
    rw [if_neg (by omega)]
    simp only [Option.bind_some, posR, List.nil_append, List.length_nil, List.length_singleton]
    rw [if_pos (by omega), if_pos (by omega), if_pos (by simp), if_pos (by simp), if_pos (by simp; omega)]
    simp
  | succ i ih =>
    intro k hi hk
    obtain ⟨k, rfl⟩ := kpos (d := 0) (k := k) (by omega)
    have hw : wrap64 (((i + 1 : Nat) : Int) - 1) = (i : Int) := by rw [w64 (by omega) (by omega)]; omega
    simp only [spec_l4Put.l0, hw]
    rw [if_pos (by omega), if_pos (by omega), if_pos (by omega), show rdOf ByteArray.empty l (i : Int) = l.getD i ByteArray.empty from rfl]
    unfold posR
    by_cases h : Op.bytesLess s.toList (l.getD i ByteArray.empty).toList = true
    · rw [if_pos h, if_pos h]
      exact ih k (by omega) (by omega)
    · rw [if_neg h, if_neg h]
      have h1 : (l.take (i + 1)).length = i + 1 := by rw [List.length_take]; omega
      have h2 : (l.drop (i + 1)).length ≤ l.length := by rw [List.length_drop]; omega
      simp only [Option.bind_some, List.nil_append, List.length_nil, List.length_singleton, Int.toNat_natCast, List.length_append, h1]
      rw [if_pos (by omega), if_pos (by omega), if_pos (by omega), if_pos (by omega), if_pos (by omega)]
theorem l4Put_ends (l : List ByteArray) (s : ByteArray) (hl : l.length ≤ 1000000) (k : Nat) (hk : l.length < k) : spec_l4Put.f k l s = some (putS l s) := by
  unfold spec_l4Put.f
  exact l4Put_loop l s hl l.length k (Nat.le_refl _) hk
/-- What is in order and has the same elements is what sorting gives. -/
theorem sorted_is {X Y : List ByteArray} (ho : Ord X) (hp : X.Perm Y) : sortB Y = X := by
  have tr : ∀ a b c : List UInt8, decide (a ≤ b) = true → decide (b ≤ c) = true → decide (a ≤ c) = true := fun a b c h1 h2 => by simp only [decide_eq_true_eq] at *; exact List.le_trans h1 h2
  have ttl : ∀ a b : List UInt8, (decide (a ≤ b) || decide (b ≤ a)) = true := fun a b => by simp only [Bool.or_eq_true, decide_eq_true_eq]; exact List.le_total a b
  have h1 : (sortU (Y.map bs)).Pairwise (fun a b => decide (a ≤ b) = true) := List.pairwise_mergeSort tr ttl _
  have h2 : (X.map bs).Pairwise (fun a b => decide (a ≤ b) = true) := by
    rw [List.pairwise_map]
    exact ho.imp (fun h => decide_eq_true h)
  have h3 : (sortU (Y.map bs)).Perm (X.map bs) := (List.mergeSort_perm _ _).trans (hp.symm.map bs)
  have e : sortU (Y.map bs) = X.map bs := List.Perm.eq_of_pairwise (le := fun a b => decide (a ≤ b) = true) (fun a b _ _ h1 h2 => by simp only [decide_eq_true_eq] at h1 h2; exact List.le_antisymm h1 h2) h1 h2 h3
  show (sortU (Y.map bs)).map (fun b => (⟨b.toArray⟩ : ByteArray)) = X
  rw [e, List.map_map]
  refine (List.map_congr_left (fun x _ => ?_)).trans (List.map_id _)
  show (⟨x.data.toList.toArray⟩ : ByteArray) = x
  rw [Array.toArray_toList]
theorem idxI_case {α : Type} (p : α → Bool) : ∀ (l : List α) (s : Int), idxI p l s = -1 ∨ ∃ n : Nat, idxI p l s = s + n ∧ n < l.length
  | [], s => .inl rfl
  | x :: r, s => by
    simp only [idxI]
    split
    · exact .inr ⟨0, by simp, by simp⟩
    · rcases idxI_case p r (s + 1) with h | ⟨n, h1, h2⟩
      · exact .inl h
      · exact .inr ⟨n + 1, by rw [h1]; omega, by simpa using h2⟩
/-- What the reference holds in order, the program holds as it came. -/
def Same (X Y : List ByteArray) (n : Nat) : Prop := Ord X ∧ X.Perm Y ∧ X.length ≤ n
theorem Same.put {X Y : List ByteArray} {n : Nat} (h : Same X Y n) (s : ByteArray) : Same (putS X s) (Y ++ [s]) (n + 1) := by
  refine ⟨putS_ord h.1 s, (putS_perm X s).trans (h.2.1.append_right [s]), ?_⟩
  have := (putS_perm X s).length_eq
  rw [List.length_append, List.length_singleton] at this
  have := h.2.2
  omega
theorem Same.up {X Y : List ByteArray} {n m : Nat} (h : Same X Y n) (hm : n ≤ m) : Same X Y m := ⟨h.1, h.2.1, Nat.le_trans h.2.2 hm⟩
theorem Same.len {X Y : List ByteArray} {n : Nat} (h : Same X Y n) : Y.length ≤ n := by rw [← h.2.1.length_eq]; exact h.2.2
theorem Same.sort {X Y : List ByteArray} {n : Nat} (h : Same X Y n) (hn : n ≤ 1000000) : slices_Sort_string_string.f Y = some X := by
  unfold slices_Sort_string_string.f
  rw [if_pos (by have := h.len; omega), sorted_is h.1 h.2.1]
theorem gone_loop (a b : List S89) (ha : a.length ≤ 12) (hb : b.length ≤ 12) (X Y Z X' Y' Z' : List ByteArray) (hX : Same X X' 100) (hZ : Same Z Z' 100) (d : Nat) : ∀ (n : Nat) (Y Y' : List ByteArray), n + d = a.length → Same Y Y' n →
    ∃ V, V.length ≤ 100 ∧ (∀ k, 1048700 + d ≤ k → spec_ManifestChanges.l1 k a b X Y Z (n : Int) = some (X, V, Z, true)) ∧ (∀ k, 1048700 + d ≤ k → impl_ManifestChanges.l1 k b X' Y' Z' a (a.length : Int) (n : Int) = some (X, V, Z, true)) := by
  induction d with
  | zero =>
    intro n Y Y' hn hs
    refine ⟨Y, by have := hs.2.2; omega, fun k hk => ?_, fun k hk => ?_⟩
    · obtain ⟨k, rfl⟩ := kpos (d := 0) (k := k) (by omega)
      simp only [spec_ManifestChanges.l1]
      rw [if_neg (by omega)]
    · obtain ⟨k, rfl⟩ := kpos (d := 0) (k := k) (by omega)
      simp only [impl_ManifestChanges.l1]
      rw [if_neg (by omega), hX.sort (by omega), hs.sort (by omega), hZ.sort (by omega)]
      rfl
  | succ d ih =>
    intro n Y Y' hn hs
    have hlt : n < a.length := by omega
    have hw : wrap64 ((n : Int) + 1) = ((n + 1 : Nat) : Int) := wnext hlt (by omega)
    obtain ⟨c, hc⟩ : ∃ c, a.getD n z89 = c := ⟨_, rfl⟩
    obtain ⟨t, ht⟩ : ∃ t, idxI (sameId c.f0) b 0 = t := ⟨_, rfl⟩
    by_cases h : t < 0
    · obtain ⟨V, hV, e1, e2⟩ := ih (n + 1) (putS Y c.f0) (Y' ++ [c.f0]) (by omega) (hs.put c.f0)
      refine ⟨V, hV, fun k hk => ?_, fun k hk => ?_⟩
      · obtain ⟨k, rfl⟩ := kpos (d := 0) (k := k) (by omega)
        simp only [spec_ManifestChanges.l1]
        rw [if_pos (by omega), if_pos (by omega), rdC61_nat, hc, Find_ends _ _ (by omega) k (by omega), ht, Option.bind_some, if_pos h, l4Put_ends _ _ (by have := hs.2.2; omega) k (by have := hs.2.2; omega), Option.bind_some, hw]
        exact e1 k (by omega)
      · obtain ⟨k, rfl⟩ := kpos (d := 0) (k := k) (by omega)
        simp only [impl_ManifestChanges.l1]
        rw [if_pos (by omega), if_pos (by omega), if_pos (by omega), rdC61_nat, hc, indexOf_ends, ht, Option.bind_some, if_pos h, if_pos (by have := hs.len; omega), hw]
        exact e2 k (by omega)
    · obtain ⟨V, hV, e1, e2⟩ := ih (n + 1) Y Y' (by omega) (hs.up (by omega))
      refine ⟨V, hV, fun k hk => ?_, fun k hk => ?_⟩
      · obtain ⟨k, rfl⟩ := kpos (d := 0) (k := k) (by omega)
        simp only [spec_ManifestChanges.l1]
        rw [if_pos (by omega), if_pos (by omega), rdC61_nat, hc, Find_ends _ _ (by omega) k (by omega), ht, Option.bind_some, if_neg h, hw]
        exact e1 k (by omega)
      · obtain ⟨k, rfl⟩ := kpos (d := 0) (k := k) (by omega)
        simp only [impl_ManifestChanges.l1]
        rw [if_pos (by omega), if_pos (by omega), if_pos (by omega), rdC61_nat, hc, indexOf_ends, ht, Option.bind_some, if_neg h, hw]
        exact e2 k (by omega)
theorem add_loop (a b : List S89) (ha : a.length ≤ 12) (hb : b.length ≤ 12) (d : Nat) : ∀ (n : Nat) (X X' Z Z' : List ByteArray), n + d = b.length → Same X X' n → Same Z Z' n →
    ∃ U V W, (U.length ≤ 100 ∧ V.length ≤ 100 ∧ W.length ≤ 100) ∧ (∀ k, 1048800 + d ≤ k → spec_ManifestChanges.l0 k a b X [] Z (n : Int) = some (U, V, W, true)) ∧ (∀ k, 1048800 + d ≤ k → impl_ManifestChanges.l0 k a b X' [] Z' b (b.length : Int) (n : Int) = some (U, V, W, true)) := by
  induction d with
  | zero =>
    intro n X X' Z Z' hn hX hZ
    obtain ⟨V, hV, e1, e2⟩ := gone_loop a b ha hb X [] Z X' [] Z' (hX.up (by omega)) (hZ.up (by omega)) a.length 0 [] [] (by omega) ⟨List.Pairwise.nil, List.Perm.refl _, by simp⟩
    refine ⟨X, V, Z, ⟨by have := hX.2.2; omega, hV, by have := hZ.2.2; omega⟩, fun k hk => ?_, fun k hk => ?_⟩
    · obtain ⟨k, rfl⟩ := kpos (d := 0) (k := k) (by omega)
      simp only [spec_ManifestChanges.l0]
      rw [if_neg (by omega)]
      exact e1 k (by omega)
    · obtain ⟨k, rfl⟩ := kpos (d := 0) (k := k) (by omega)
      simp only [impl_ManifestChanges.l0]
      rw [if_neg (by omega)]
      exact e2 k (by omega)
  | succ d ih =>
    intro n X X' Z Z' hn hX hZ
    have hlt : n < b.length := by omega
    have hw : wrap64 ((n : Int) + 1) = ((n + 1 : Nat) : Int) := wnext hlt (by omega)
    obtain ⟨c, hc⟩ : ∃ c, b.getD n z89 = c := ⟨_, rfl⟩
    obtain ⟨t, ht⟩ : ∃ t, idxI (sameId c.f0) a 0 = t := ⟨_, rfl⟩
    by_cases h : t < 0
    · obtain ⟨U, V, W, hl, e1, e2⟩ := ih (n + 1) (putS X c.f0) (X' ++ [c.f0]) Z Z' (by omega) (hX.put c.f0) (hZ.up (by omega))
      refine ⟨U, V, W, hl, fun k hk => ?_, fun k hk => ?_⟩
      · obtain ⟨k, rfl⟩ := kpos (d := 0) (k := k) (by omega)
        simp only [spec_ManifestChanges.l0]
        rw [if_pos (by omega), if_pos (by omega), rdC61_nat, hc, Find_ends _ _ (by omega) k (by omega), ht, Option.bind_some, if_pos h, l4Put_ends _ _ (by have := hX.2.2; omega) k (by have := hX.2.2; omega), Option.bind_some, hw]
        exact e1 k (by omega)
      · obtain ⟨k, rfl⟩ := kpos (d := 0) (k := k) (by omega)
        simp only [impl_ManifestChanges.l0]
        rw [if_pos (by omega), if_pos (by omega), if_pos (by omega), rdC61_nat, hc, indexOf_ends, ht, Option.bind_some, if_pos h, if_pos (by have := hX.len; omega), hw]
        exact e2 k (by omega)
    · obtain ⟨m, hm, hml⟩ : ∃ m : Nat, t = m ∧ m < a.length := by
        rcases idxI_case (sameId c.f0) a 0 with h1 | ⟨m, h1, h2⟩
        · rw [ht] at h1; omega
        · exact ⟨m, by rw [← ht, h1]; omega, h2⟩
      subst hm
      generalize hq : (!((((rd_T89 a (m : Int)).f0).toList) == ((c.f0).toList)) || (!(((rd_T89 a (m : Int)).f1) == (c.f1)) || (!(((rd_T89 a (m : Int)).f2) == (c.f2)) || (!(((rd_T89 a (m : Int)).f3) == (c.f3)) || (!(((rd_T89 a (m : Int)).f4) == (c.f4))))))) = q
      by_cases hqq : q = true
      · obtain ⟨U, V, W, hl, e1, e2⟩ := ih (n + 1) X X' (putS Z c.f0) (Z' ++ [c.f0]) (by omega) (hX.up (by omega)) (hZ.put c.f0)
        refine ⟨U, V, W, hl, fun k hk => ?_, fun k hk => ?_⟩
        · obtain ⟨k, rfl⟩ := kpos (d := 0) (k := k) (by omega)
          simp only [spec_ManifestChanges.l0]
          rw [if_pos (by omega), if_pos (by omega), rdC61_nat, hc, Find_ends _ _ (by omega) k (by omega), ht, Option.bind_some, if_neg h, if_pos (by omega), if_pos (by omega), hq, if_pos hqq, l4Put_ends _ _ (by have := hZ.2.2; omega) k (by have := hZ.2.2; omega), Option.bind_some, hw]
          exact e1 k (by omega)
        · obtain ⟨k, rfl⟩ := kpos (d := 0) (k := k) (by omega)
          simp only [impl_ManifestChanges.l0]
          rw [if_pos (by omega), if_pos (by omega), if_pos (by omega), rdC61_nat, hc, indexOf_ends, ht, Option.bind_some, if_neg h, if_pos (by omega), if_pos (by omega), hq, if_pos hqq, if_pos (by have := hZ.len; omega), hw]
          exact e2 k (by omega)
      · obtain ⟨U, V, W, hl, e1, e2⟩ := ih (n + 1) X X' Z Z' (by omega) (hX.up (by omega)) (hZ.up (by omega))
        refine ⟨U, V, W, hl, fun k hk => ?_, fun k hk => ?_⟩
        · obtain ⟨k, rfl⟩ := kpos (d := 0) (k := k) (by omega)
          simp only [spec_ManifestChanges.l0]
          rw [if_pos (by omega), if_pos (by omega), rdC61_nat, hc, Find_ends _ _ (by omega) k (by omega), ht, Option.bind_some, if_neg h, if_pos (by omega), if_pos (by omega), hq, if_neg hqq, hw]
          exact e1 k (by omega)
        · obtain ⟨k, rfl⟩ := kpos (d := 0) (k := k) (by omega)
          simp only [impl_ManifestChanges.l0]
          rw [if_pos (by omega), if_pos (by omega), if_pos (by omega), rdC61_nat, hc, indexOf_ends, ht, Option.bind_some, if_neg h, if_pos (by omega), if_pos (by omega), hq, if_neg hqq, hw]
          exact e2 k (by omega)
theorem valid_le {cs : List S89} (h : validC cs = true) : cs.length ≤ 12 := by
  unfold validC at h
  simp only [Bool.and_eq_true, decide_eq_true_eq] at h
  exact h.1
/-- Both come to the same three lists and the same word. -/
theorem changes_both (a b : List S89) (ha : a.length ≤ 1048576) (hb : b.length ≤ 1048576) : ∃ U V W c, (U.length ≤ 100 ∧ V.length ≤ 100 ∧ W.length ≤ 100) ∧ ∀ k, 1048900 ≤ k → spec_ManifestChanges.f k a b = some (U, V, W, c) ∧ impl_ManifestChanges.f k a b = some (U, V, W, c) := by
  have hno : (∃ U V W c, (U.length ≤ 100 ∧ V.length ≤ 100 ∧ W.length ≤ 100) ∧ ∀ k, 1048900 ≤ k → spec_ManifestChanges.j0 k a b [] [] [] true = some (U, V, W, c) ∧ impl_ManifestChanges.j0 k a b true = some ((U : List ByteArray), V, W, c)) := by
    refine ⟨[], [], [], false, by simp, fun k hk => ?_⟩
    obtain ⟨k, rfl⟩ := kpos (d := 0) (k := k) (by omega)
    simp only [spec_ManifestChanges.j0, impl_ManifestChanges.j0, if_true]
    exact ⟨trivial, trivial⟩
  unfold spec_ManifestChanges.f impl_ManifestChanges.f
  simp only [Option.bind_some]
  by_cases va : validC a = true
  · by_cases vb : validC b = true
    · obtain ⟨U, V, W, hl, e1, e2⟩ := add_loop a b (valid_le va) (valid_le vb) b.length 0 [] [] [] [] (by omega) ⟨List.Pairwise.nil, List.Perm.refl _, by simp⟩ ⟨List.Pairwise.nil, List.Perm.refl _, by simp⟩
      refine ⟨U, V, W, true, hl, fun k hk => ?_⟩
      have hbl := valid_le vb
      rw [spec_valid a ha k (by omega), impl_valid a ha k (by omega), spec_valid b hb k (by omega), impl_valid b hb k (by omega)]
      simp only [Option.bind_some, va, vb, if_true]
      obtain ⟨k, rfl⟩ := kpos (d := 0) (k := k) (by omega)
      simp only [spec_ManifestChanges.j0, impl_ManifestChanges.j0, Bool.not_true, Bool.false_eq_true, if_false]
      exact ⟨e1 k (by omega), e2 k (by omega)⟩
    · obtain ⟨U, V, W, c, hl, e⟩ := hno
      refine ⟨U, V, W, c, hl, fun k hk => ?_⟩
      rw [spec_valid a ha k (by omega), impl_valid a ha k (by omega), spec_valid b hb k (by omega), impl_valid b hb k (by omega)]
      rw [Bool.not_eq_true] at vb
      simp only [Option.bind_some, va, vb, if_true, Bool.not_false]
      exact e k hk
  · obtain ⟨U, V, W, c, hl, e⟩ := hno
    refine ⟨U, V, W, c, hl, fun k hk => ?_⟩
    rw [spec_valid a ha k (by omega), impl_valid a ha k (by omega)]
    rw [Bool.not_eq_true] at va
    simp only [Option.bind_some, va, Bool.false_eq_true, if_false]
    exact e k hk
end Go.Proofs.Ytlldonokjgoajaa.X
