/- The changes between two manifests, told outright; what merging does to them; how a manifest is split by its ports. -/
import Derived.Test.YtlldonokjgoajaaMChanges
import Derived.Test.YtlldonokjgoajaaMMerge
import Derived.Test.YtlldonokjgoajaaMCounts
import Derived.Test.YtlldonokjgoajaaFimplSplitManifest
namespace Go.Proofs.Ytlldonokjgoajaa.X
open Go.RowKit Go.Proofs.YtlldonokjgoajaaW.PrintWords Go.Proofs.YtlldonokjgoajaaW.PrintLast
set_option linter.unusedVariables false
set_option linter.unusedSimpArgs false
theorem toList_inj {a b : ByteArray} (h : a.toList = b.toList) : a = b := by
  rw [ByteArray.toList_eq, ByteArray.toList_eq] at h
  exact bs_inj h
def diffC (x y : S89) : Bool := (!((x.f0.toList) == (y.f0.toList)) || (!(x.f1 == y.f1) || (!(x.f2 == y.f2) || (!(x.f3 == y.f3) || (!(x.f4 == y.f4))))))
theorem diffC_iff (x y : S89) : diffC x y = true ↔ x ≠ y := by
  obtain ⟨a0, a1, a2, a3, a4⟩ := x
  obtain ⟨b0, b1, b2, b3, b4⟩ := y
  unfold diffC
  simp only [Bool.or_eq_true, Bool.not_eq_true', beq_eq_false_iff_ne, ne_eq, S89.mk.injEq]
  constructor
  · rintro h ⟨rfl, rfl, rfl, rfl, rfl⟩
    rcases h with h | h | h | h | h <;> exact h rfl
  · intro h
    by_cases h0 : a0.toList = b0.toList
    · by_cases h1 : a1 = b1
      · by_cases h2 : a2 = b2
        · by_cases h3 : a3 = b3
          · by_cases h4 : a4 = b4
            · exact absurd ⟨toList_inj h0, h1, h2, h3, h4⟩ h
            · exact .inr (.inr (.inr (.inr h4)))
          · exact .inr (.inr (.inr (.inl h3)))
        · exact .inr (.inr (.inl h2))
      · exact .inr (.inl h1)
    · exact .inl h0
/-- Is a container of the second list in the first one, with other contents? -/
def chg (a : List S89) (y : S89) : Bool := match a.find? (sameId y.f0) with | some x => diffC x y | none => false
def idsOf (l : List S89) : List ByteArray := l.map fun x => x.f0
def addL (a b : List S89) : List ByteArray := idsOf (b.filter (fresh a))
def chgL (a b : List S89) : List ByteArray := idsOf (b.filter (chg a))
theorem filt_step (p : S89 → Bool) (l : List S89) (n : Nat) (h : n < l.length) : idsOf ((l.take (n + 1)).filter p) = if p (l.getD n z89) = true then idsOf ((l.take n).filter p) ++ [(l.getD n z89).f0] else idsOf ((l.take n).filter p) := by
  rw [take_succ_getD (z := z89) h, List.filter_append, List.filter_cons]
  unfold idsOf
  split
  · rw [List.map_append]; rfl
  · rw [List.filter_nil, List.append_nil]
theorem filt_len (p : S89 → Bool) (l : List S89) (n : Nat) : (idsOf ((l.take n).filter p)).length ≤ l.length := by
  unfold idsOf
  rw [List.length_map]
  have := List.length_filter_le p (l.take n)
  rw [List.length_take] at this
  omega
theorem sort_ends (l : List ByteArray) (h : l.length ≤ 1000) : slices_Sort_string_string.f l = some (sortB l) := if_pos (by omega)
theorem impl_gone (a b : List S89) (ha : a.length ≤ 12) (X Z : List ByteArray) (hX : X.length ≤ 1000) (hZ : Z.length ≤ 1000) (d : Nat) : ∀ (k n : Nat), n + d = a.length → d < k →
    impl_ManifestChanges.l1 k b X (idsOf ((a.take n).filter (fresh b))) Z a (a.length : Int) (n : Int) = some (sortB X, sortB (addL b a), sortB Z, true) := by
  induction d with
  | zero =>
    intro k n hn hk
    obtain ⟨k, rfl⟩ := kpos hk
    have hl := filt_len (fresh b) a n
    rw [impl_ManifestChanges.l1, if_neg (by omega), sort_ends X hX, sort_ends _ (by omega), sort_ends Z hZ, List.take_of_length_le (by omega)]
    rfl
  | succ d ih =>
    intro k n hn hk
    obtain ⟨k, rfl⟩ := kpos hk
    have hlt : n < a.length := by omega
    have hw : wrap64 ((n : Int) + 1) = ((n + 1 : Nat) : Int) := wnext hlt (by omega)
    have hl := filt_len (fresh b) a n
    have i := ih k (n + 1) (by omega) (by omega)
    rw [filt_step _ _ _ hlt] at i
    rw [impl_ManifestChanges.l1, if_pos (by omega), if_pos (by omega), if_pos (by omega), rdC61_nat, indexOf_ends, Option.bind_some, hw]
    rcases idxI_nat (sameId (a.getD n z89).f0) z89 b 0 with ⟨e1, e2, _⟩ | ⟨m, e1, e2, e3, e4, _⟩
    · rw [if_pos (by unfold fresh; rw [e2]; rfl)] at i
      rw [e1, if_pos (by omega), if_pos (by omega)]
      exact i
    · rw [if_neg (by unfold fresh; rw [e4]; decide)] at i
      rw [e1, if_neg (by omega)]
      exact i
theorem impl_add (a b : List S89) (ha : a.length ≤ 12) (hb : b.length ≤ 12) (d : Nat) : ∀ (k n : Nat), n + d = b.length → d + 20 < k →
    impl_ManifestChanges.l0 k a b (idsOf ((b.take n).filter (fresh a))) [] (idsOf ((b.take n).filter (chg a))) b (b.length : Int) (n : Int) = some (sortB (addL a b), sortB (addL b a), sortB (chgL a b), true) := by
  induction d with
  | zero =>
    intro k n hn hk
    obtain ⟨k, rfl⟩ := kpos (d := 0) (k := k) (by omega)
    have h1 := filt_len (fresh a) b n
    have h2 := filt_len (chg a) b n
    have e := impl_gone a b ha (idsOf ((b.take n).filter (fresh a))) (idsOf ((b.take n).filter (chg a))) (by omega) (by omega) a.length k 0 (by omega) (by omega)
    rw [List.take_of_length_le (show b.length ≤ n by omega)] at e ⊢
    rw [impl_ManifestChanges.l0, if_neg (by omega)]
    exact e
  | succ d ih =>
    intro k n hn hk
    obtain ⟨k, rfl⟩ := kpos (d := 0) (k := k) (by omega)
    have hlt : n < b.length := by omega
    have hw : wrap64 ((n : Int) + 1) = ((n + 1 : Nat) : Int) := wnext hlt (by omega)
    have h1 := filt_len (fresh a) b n
    have h2 := filt_len (chg a) b n
    have i := ih k (n + 1) (by omega) (by omega)
    rw [filt_step _ _ _ hlt, filt_step _ _ _ hlt] at i
    rw [impl_ManifestChanges.l0, if_pos (by omega), if_pos (by omega), if_pos (by omega), rdC61_nat, indexOf_ends, Option.bind_some, hw]
    rcases idxI_nat (sameId (b.getD n z89).f0) z89 a 0 with ⟨e1, e2, e5⟩ | ⟨m, e1, e2, e3, e4, e5⟩
    · have ec0 : chg a (b.getD n z89) = false := by unfold chg; rw [e5]
      rw [if_pos (by unfold fresh; rw [e2]; rfl), if_neg (by rw [ec0]; decide)] at i
      rw [e1, if_pos (by omega), if_pos (by omega)]
      exact i
    · have ec : chg a (b.getD n z89) = diffC (a.getD m z89) (b.getD n z89) := by unfold chg; rw [e5]
      rw [if_neg (by unfold fresh; rw [e4]; decide), ec] at i
      rw [e1, Int.zero_add, if_neg (by omega), if_pos (by omega), if_pos (by omega), rdC61_nat]
      by_cases hq : diffC (a.getD m z89) (b.getD n z89) = true
      · rw [if_pos hq] at i
        unfold diffC at hq
        rw [if_pos hq, if_pos (by omega)]
        exact i
      · rw [if_neg hq] at i
        unfold diffC at hq
        rw [if_neg hq]
        exact i
def chA (a b : List S89) : List ByteArray × List ByteArray × List ByteArray × Bool := if validC a = true ∧ validC b = true then (sortB (addL a b), sortB (addL b a), sortB (chgL a b), true) else ([], [], [], false)
theorem impl_ch (a b : List S89) (ha : a.length ≤ 1048576) (hb : b.length ≤ 1048576) (k : Nat) (hk : 1048900 ≤ k) : impl_ManifestChanges.f k a b = some (chA a b) := by
  unfold impl_ManifestChanges.f chA
  rw [impl_valid a ha k (by omega), impl_valid b hb k (by omega), Option.bind_some, Option.bind_some]
  obtain ⟨k, rfl⟩ := kpos (d := 0) (k := k) (by omega)
  by_cases va : validC a = true
  · by_cases vb : validC b = true
    · have e := impl_add a b (valid_le va) (valid_le vb) b.length k 0 (by omega) (by have := valid_le vb; omega)
      rw [if_pos va, if_pos ⟨va, vb⟩, vb, Bool.not_true, impl_ManifestChanges.j0, if_neg (by decide)]
      exact e
    · rw [if_pos va, if_neg (fun h => vb h.2)]
      rw [Bool.not_eq_true] at vb
      rw [vb, Bool.not_false, impl_ManifestChanges.j0, if_pos rfl]
  · rw [if_neg va, if_neg (fun h => va h.1), impl_ManifestChanges.j0, if_pos rfl]
theorem spec_ch (a b : List S89) (ha : a.length ≤ 1048576) (hb : b.length ≤ 1048576) (k : Nat) (hk : 1048900 ≤ k) : spec_ManifestChanges.f k a b = some (chA a b) := by
  obtain ⟨U, V, W, c, _, h⟩ := changes_both a b ha hb
  obtain ⟨e1, e2⟩ := h k hk
  rw [e1, ← e2, impl_ch a b ha hb k hk]
theorem chA_len (a b : List S89) : (chA a b).1.length ≤ 12 ∧ (chA a b).2.1.length ≤ 12 ∧ (chA a b).2.2.1.length ≤ 12 := by
  unfold chA
  by_cases h : validC a = true ∧ validC b = true
  · have h1 := valid_le h.1
    have h2 := valid_le h.2
    have f1 := List.length_filter_le (fresh a) b
    have f2 := List.length_filter_le (fresh b) a
    have f3 := List.length_filter_le (chg a) b
    rw [if_pos h]
    simp only [sortB_length]
    unfold addL chgL idsOf
    simp only [List.length_map]
    omega
  · rw [if_neg h]
    simp
theorem sortB_perm {X Y : List ByteArray} (hp : X.Perm Y) : sortB X = sortB Y := by
  have tr : ∀ a b c : List UInt8, decide (a ≤ b) = true → decide (b ≤ c) = true → decide (a ≤ c) = true := fun a b c h1 h2 => by simp only [decide_eq_true_eq] at *; exact List.le_trans h1 h2
  have ttl : ∀ a b : List UInt8, (decide (a ≤ b) || decide (b ≤ a)) = true := fun a b => by simp only [Bool.or_eq_true, decide_eq_true_eq]; exact List.le_total a b
  have h1 : (sortU (X.map bs)).Pairwise (fun a b => decide (a ≤ b) = true) := List.pairwise_mergeSort tr ttl _
  have h2 : (sortU (Y.map bs)).Pairwise (fun a b => decide (a ≤ b) = true) := List.pairwise_mergeSort tr ttl _
  have h3 : (sortU (X.map bs)).Perm (sortU (Y.map bs)) := (List.mergeSort_perm _ _).trans ((hp.map bs).trans (List.mergeSort_perm _ _).symm)
  have e : sortU (X.map bs) = sortU (Y.map bs) := List.Perm.eq_of_pairwise (le := fun a b => decide (a ≤ b) = true) (fun a b _ _ h1 h2 => by simp only [decide_eq_true_eq] at h1 h2; exact List.le_antisymm h1 h2) h1 h2 h3
  show (sortU (X.map bs)).map (fun b => (⟨b.toArray⟩ : ByteArray)) = (sortU (Y.map bs)).map (fun b => (⟨b.toArray⟩ : ByteArray))
  rw [e]
/-- No number stands twice. -/
theorem dist_mem {l : List S89} (h : Dist l) {x y : S89} (hx : x ∈ l) (hy : y ∈ l) (e : x.f0.toList = y.f0.toList) : x = y := by
  obtain ⟨i, hi, rfl⟩ := List.mem_iff_getElem.1 hx
  obtain ⟨j, hj, rfl⟩ := List.mem_iff_getElem.1 hy
  have g : ∀ n (hn : n < l.length), l.getD n z89 = l[n] := fun n hn => by rw [List.getD_eq_getElem?_getD, List.getElem?_eq_getElem hn]; rfl
  have := h i j hi hj (by rw [g i hi, g j hj]; exact e)
  subst this
  rfl
theorem find_some {b : List S89} {id : ByteArray} {x : S89} (h : b.find? (sameId id) = some x) : x ∈ b ∧ x.f0.toList = id.toList := by
  refine ⟨List.mem_of_find?_eq_some h, ?_⟩
  have := List.find?_some h
  unfold sameId at this
  exact beq_iff_eq.1 this
theorem find_none {b : List S89} {id : ByteArray} (h : b.find? (sameId id) = none) : ∀ x ∈ b, x.f0.toList ≠ id.toList := by
  intro x hx e
  have := List.find?_eq_none.1 h x hx
  unfold sameId at this
  exact this (beq_iff_eq.2 e)
theorem fresh_iff (a : List S89) (y : S89) : fresh a y = true ↔ ∀ x ∈ a, x.f0.toList ≠ y.f0.toList := by
  unfold fresh
  rw [Bool.not_eq_true', List.any_eq_false]
  constructor
  · intro h x hx e
    exact h x hx (by unfold sameId; exact beq_iff_eq.2 e)
  · intro h x hx e
    unfold sameId at e
    exact h x hx (beq_iff_eq.1 e)
theorem chg_iff {a : List S89} (ha : Dist a) (y : S89) : chg a y = true ↔ ∃ x ∈ a, x.f0.toList = y.f0.toList ∧ x ≠ y := by
  unfold chg
  constructor
  · intro h
    split at h
    · rename_i x hx
      obtain ⟨h1, h2⟩ := find_some hx
      exact ⟨x, h1, h2, (diffC_iff x y).1 h⟩
    · cases h
  · rintro ⟨x, hx, e, hne⟩
    cases hf : a.find? (sameId y.f0) with
    | none => exact absurd e (find_none hf x hx)
    | some z =>
      obtain ⟨h1, h2⟩ := find_some hf
      have : z = x := dist_mem ha h1 hx (h2.trans e.symm)
      subst this
      exact (diffC_iff _ _).2 hne
theorem ids_nodup {l : List S89} (h : Dist l) (p : S89 → Bool) : ((l.filter p).map fun x => x.f0.toList).Nodup := by
  have h1 : (l.map fun x => x.f0.toList).Nodup := by
    rw [List.Nodup, List.pairwise_iff_getElem]
    intro i j hi hj hij e
    rw [List.length_map] at hi hj
    rw [List.getElem_map, List.getElem_map] at e
    have g : ∀ n (hn : n < l.length), l.getD n z89 = l[n] := fun n hn => by rw [List.getD_eq_getElem?_getD, List.getElem?_eq_getElem hn]; rfl
    have := h i j hi hj (by rw [g i hi, g j hj]; exact e)
    omega
  exact List.Nodup.sublist (List.Sublist.map _ List.filter_sublist) h1
theorem nodup_perm2 {α : Type} [DecidableEq α] : ∀ (l m : List α), l.Nodup → m.Nodup → (∀ x, x ∈ l ↔ x ∈ m) → l.Perm m
  | [], m, _, _, h => by
    cases m with
    | nil => exact List.Perm.refl _
    | cons y r => exact absurd ((h y).2 List.mem_cons_self) (by simp)
  | x :: r, m, hn, hm, hs => by
    rw [List.nodup_cons] at hn
    have hx : x ∈ m := (hs x).1 List.mem_cons_self
    have hp := List.perm_cons_erase hx
    have hm2 := hp.nodup_iff.1 hm
    rw [List.nodup_cons] at hm2
    refine (List.Perm.cons x (nodup_perm2 r (m.erase x) hn.2 hm2.2 (fun y => ?_))).trans hp.symm
    constructor
    · intro hy
      have hne : y ≠ x := fun e => hn.1 (e ▸ hy)
      exact (List.mem_erase_of_ne hne).2 ((hs y).1 (List.mem_cons_of_mem _ hy))
    · intro hy
      have hne : y ≠ x := fun e => hm2.1 (e ▸ hy)
      have := (hs y).2 ((List.mem_erase_of_ne hne).1 hy)
      rcases List.mem_cons.1 this with e | h
      · exact absurd e hne
      · exact h
theorem sortB_of_ids {X Y : List ByteArray} (h : (X.map fun x => x.toList).Perm (Y.map fun x => x.toList)) : sortB X = sortB Y := by
  have e : ∀ l : List ByteArray, l = (l.map fun x => x.toList).map fun u => (⟨u.toArray⟩ : ByteArray) := by
    intro l
    rw [List.map_map]
    refine (List.map_id l).symm.trans (List.map_congr_left fun x _ => ?_)
    refine toList_inj ?_
    show x.toList = (⟨x.toList.toArray⟩ : ByteArray).toList
    rw [ByteArray.toList_eq (⟨x.toList.toArray⟩ : ByteArray)]
  rw [e X, e Y]
  exact sortB_perm (h.map _)
theorem chg_comm {a b : List S89} (ha : Dist a) (hb : Dist b) : sortB (chgL b a) = sortB (chgL a b) := by
  refine sortB_of_ids ?_
  unfold chgL idsOf
  rw [List.map_map, List.map_map]
  refine nodup_perm2 _ _ (ids_nodup ha _) (ids_nodup hb _) (fun u => ?_)
  simp only [List.mem_map, List.mem_filter, Function.comp_apply]
  constructor
  · rintro ⟨x, ⟨hx, hc⟩, rfl⟩
    obtain ⟨y, hy, e, hne⟩ := (chg_iff hb x).1 hc
    exact ⟨y, ⟨hy, (chg_iff ha y).2 ⟨x, hx, e.symm, fun z => hne z.symm⟩⟩, e⟩
  · rintro ⟨y, ⟨hy, hc⟩, rfl⟩
    obtain ⟨x, hx, e, hne⟩ := (chg_iff ha y).1 hc
    exact ⟨x, ⟨hx, (chg_iff hb x).2 ⟨y, hy, e.symm, fun z => hne z.symm⟩⟩, e⟩
theorem upd_id (b : List S89) (x : S89) : (upd b x).f0.toList = x.f0.toList ∧ (fresh b x = true → upd b x = x) ∧ (fresh b x = false → upd b x ∈ b) := by
  unfold upd
  cases hf : b.find? (sameId x.f0) with
  | none =>
    refine ⟨rfl, fun _ => rfl, fun h => ?_⟩
    have := (fresh_iff b x).2 (find_none hf)
    rw [h] at this
    cases this
  | some z =>
    obtain ⟨h1, h2⟩ := find_some hf
    refine ⟨h2, fun h => absurd h2 ((fresh_iff b x).1 h z h1), fun _ => h1⟩
theorem fresh_same (b : List S89) {x y : S89} (h : x.f0.toList = y.f0.toList) : fresh b x = fresh b y := by
  rw [Bool.eq_iff_iff, fresh_iff, fresh_iff, h]
theorem fresh_own {b : List S89} {y : S89} (h : y ∈ b) : fresh b y = false := by
  rw [Bool.eq_false_iff]
  intro e
  exact (fresh_iff b y).1 e y h rfl
theorem add_merged (a b : List S89) : addL b (merged a b) = addL b a := by
  unfold addL merged
  have e1 : (b.filter (fresh a)).filter (fresh b) = [] := by
    rw [List.filter_eq_nil_iff]
    intro y hy
    rw [fresh_own (List.mem_filter.1 hy).1]
    decide
  have e2 : (a.map (upd b)).filter (fresh b) = a.filter (fresh b) := by
    rw [List.filter_map, show ((fresh b) ∘ (upd b)) = fresh b from funext fun x => fresh_same b (upd_id b x).1]
    refine (List.map_congr_left fun x hx => ?_).trans (List.map_id _)
    exact (upd_id b x).2.1 (List.mem_filter.1 hx).2
  rw [List.filter_append, e1, e2, List.append_nil]
theorem less_merged (a b : List S89) : addL (merged a b) b = [] := by
  unfold addL
  have : b.filter (fresh (merged a b)) = [] := by
    rw [List.filter_eq_nil_iff]
    intro y hy h
    have hm := (fresh_iff _ y).1 h
    by_cases hf : fresh a y = true
    · exact hm y (List.mem_append_right _ (List.mem_filter.2 ⟨hy, hf⟩)) rfl
    · have : ¬ ∀ x ∈ a, x.f0.toList ≠ y.f0.toList := fun z => hf ((fresh_iff a y).2 z)
      apply this
      intro x hx e
      exact hm (upd b x) (List.mem_append_left _ (List.mem_map_of_mem hx)) ((upd_id b x).1.trans e)
  rw [this]
  rfl
theorem other_merged {a b : List S89} (hb : Dist b) : chgL b (merged a b) = [] := by
  unfold chgL
  have : (merged a b).filter (chg b) = [] := by
    rw [List.filter_eq_nil_iff]
    intro y hy h
    obtain ⟨x, hx, e, hne⟩ := (chg_iff hb y).1 h
    rcases List.mem_append.1 hy with hy | hy
    · obtain ⟨w, hw, rfl⟩ := List.mem_map.1 hy
      by_cases hf : fresh b w = true
      · have := (fresh_iff b w).1 hf x hx
        rw [(upd_id b w).1] at e
        exact this e
      · rw [Bool.not_eq_true] at hf
        exact hne (dist_mem hb hx ((upd_id b w).2.2 hf) e)
    · exact hne (dist_mem hb hx (List.mem_filter.1 hy).1 e)
  rw [this]
  rfl
theorem merged_len (a b : List S89) : (merged a b).length = a.length + (addL a b).length := by
  unfold merged addL idsOf
  rw [List.length_append, List.length_map, List.length_map]
def mergeA (a b : List S89) : List S89 × Bool := if validC a = true ∧ validC b = true then mergeR a b else ([], false)
theorem impl_mergeA (a b : List S89) (hla : a.length ≤ 1048576) (hlb : b.length ≤ 1048576) (k : Nat) (hk : 1049000 ≤ k) : impl_MergeManifests.f k a b = some (mergeA a b) := by
  unfold impl_MergeManifests.f mergeA
  obtain ⟨k, rfl⟩ := kpos (d := 0) (k := k) (by omega)
  rw [impl_valid _ hla _ (by omega), impl_valid _ hlb _ (by omega), Option.bind_some, Option.bind_some]
  by_cases h : validC a = true
  · by_cases h2 : validC b = true
    · obtain ⟨la, da⟩ := valid_dist h
      obtain ⟨lb, db⟩ := valid_dist h2
      have e2 := impl_merge_loop a b da db la lb b.length k 0 (by omega) (by omega)
      rw [show ((0 : Nat) : Int) = 0 from rfl, List.take_zero, List.filter_nil, List.append_nil, show a.map (upd []) = a by rw [show upd ([] : List S89) = id from rfl]; exact List.map_id a] at e2
      rw [if_pos h, if_pos ⟨h, h2⟩, h2, Bool.not_true, impl_MergeManifests.j0, if_neg (by decide), CloneC_ends _ hla, Option.bind_some]
      exact e2
    · rw [if_pos h, if_neg (fun z => h2 z.2)]
      rw [Bool.not_eq_true] at h2
      rw [h2, Bool.not_false, impl_MergeManifests.j0, if_pos rfl]
  · rw [if_neg h, if_neg (fun z => h z.1), impl_MergeManifests.j0, if_pos rfl]
theorem spec_mergeA (a b : List S89) (hla : a.length ≤ 1048576) (hlb : b.length ≤ 1048576) (k : Nat) (hk : 1049000 ≤ k) : spec_MergeManifests.f k a b = some (mergeA a b) := by
  obtain ⟨r, c, _, h⟩ := merge_both a b hla hlb
  obtain ⟨e1, e2⟩ := h k hk
  rw [e1, ← e2, impl_mergeA a b hla hlb k hk]
/-! ### splitting by a port -/
def ownP (p : Int) : List S89 → List S89
  | [] => []
  | x :: r => if x.f4 = p then x :: ownP p r else ownP p r
def othP (p : Int) : List S89 → List S89
  | [] => []
  | x :: r => if x.f4 = p then othP p r else x :: othP p r
theorem own_oth (p : Int) : ∀ cs : List S89, (ownP p cs).length = cntP p cs ∧ (ownP p cs).length + (othP p cs).length = cs.length
  | [] => ⟨rfl, rfl⟩
  | x :: r => by
    obtain ⟨h1, h2⟩ := own_oth p r
    unfold ownP othP cntP
    by_cases h : x.f4 = p
    · rw [if_pos h, if_pos h, if_pos h]
      simp only [List.length_cons]
      omega
    · rw [if_neg h, if_neg h, if_neg h]
      simp only [List.length_cons]
      omega
theorem split_loop (cs : List S89) (p : Int) (hx : cs.length ≤ 1048576) (d : Nat) : ∀ (k i : Nat) (o1 o2 : List S89), i + d = cs.length → d < k → o1.length + d ≤ 1048576 → o2.length + d ≤ 1048576 → impl_SplitManifest.l0 k p o1 o2 cs (cs.length : Int) (i : Int) = some (o1 ++ ownP p (cs.drop i), o2 ++ othP p (cs.drop i), true) := by
  induction d with
  | zero =>
    intro k i o1 o2 hi hk h1 h2
    obtain ⟨k, rfl⟩ := kpos hk
    rw [impl_SplitManifest.l0, if_neg (by omega), List.drop_of_length_le (by omega)]
    simp [ownP, othP]
  | succ d ih =>
    intro k i o1 o2 hi hk h1 h2
    obtain ⟨k, rfl⟩ := kpos hk
    have hlt : i < cs.length := by omega
    rw [impl_SplitManifest.l0, if_pos (by omega), if_pos (by omega), if_pos (by omega), rdC61_nat, eta89, getD_cons (z := z89) hlt, wnext hlt (by omega)]
    unfold ownP othP
    by_cases h : (cs.getD i z89).f4 = p
    · rw [if_pos h, if_pos h, if_pos h, if_pos (by omega), ih k (i + 1) _ _ (by omega) (by omega) (by simp only [List.length_append, List.length_singleton]; omega) (by omega)]
      simp
    · rw [if_neg h, if_neg h, if_neg h, if_pos (by omega), ih k (i + 1) _ _ (by omega) (by omega) (by omega) (by simp only [List.length_append, List.length_singleton]; omega)]
      simp
theorem split_ends (cs : List S89) (p : Int) (hv : validC cs = true) (hp : 1 ≤ p ∧ p ≤ 9) (k : Nat) (hk : 1048700 ≤ k) : impl_SplitManifest.f k cs p = some (ownP p cs, othP p cs, true) := by
  have h12 := valid_le hv
  obtain ⟨k, rfl⟩ := kpos (d := 0) (k := k) (by omega)
  have e := split_loop cs p (by omega) cs.length k 0 [] [] (by omega) (by omega) (by simp; omega) (by simp; omega)
  rw [show ((0 : Nat) : Int) = 0 from rfl, List.drop_zero, List.nil_append, List.nil_append] at e
  unfold impl_SplitManifest.f
  rw [impl_valid _ (by omega) _ (by omega), within_ends, Option.bind_some, if_pos hv, Option.bind_some]
  rw [show inB p 1 9 = true by unfold inB; simp; omega, Bool.not_true, impl_SplitManifest.j0, if_neg (by decide)]
  exact e
/-! ### the counts of all ports -/
def sumF : List S104 → Int
  | [] => 0
  | x :: r => x.f1 + sumF r
def inP (cs : List S89) : Nat → Int → Nat
  | 0, _ => 0
  | d + 1, p => cntP p cs + inP cs d (p + 1)
theorem sum_ports (cs : List S89) : ∀ d p, sumF (portsA cs d p) = (inP cs d p : Int)
  | 0, p => rfl
  | d + 1, p => by
    have ih := sum_ports cs d (p + 1)
    unfold portsA inP
    split
    · rw [sumF, ih]; push_cast; rfl
    · rw [ih]; omega
theorem inP_cons (x : S89) (r : List S89) : ∀ d p, inP (x :: r) d p = inP r d p + if p ≤ x.f4 ∧ x.f4 < p + d then 1 else 0
  | 0, p => by
    unfold inP
    rw [if_neg (by omega)]
  | d + 1, p => by
    have ih := inP_cons x r d (p + 1)
    unfold inP
    rw [ih]
    conv => lhs; unfold cntP
    by_cases h : x.f4 = p
    · rw [if_pos h, if_neg (by omega), if_pos (by omega)]
      omega
    · rw [if_neg h]
      by_cases h2 : p + 1 ≤ x.f4 ∧ x.f4 < p + 1 + (d : Int)
      · rw [if_pos h2, if_pos (by omega)]
        omega
      · rw [if_neg h2, if_neg (by omega)]
        rfl
theorem inP_nil : ∀ d p, inP ([] : List S89) d p = 0
  | 0, _ => rfl
  | d + 1, p => by unfold inP; rw [inP_nil d (p + 1)]; rfl
theorem inP_all : ∀ (cs : List S89), (∀ x ∈ cs, 1 ≤ x.f4 ∧ x.f4 ≤ 9) → inP cs 9 1 = cs.length
  | [], _ => inP_nil 9 1
  | x :: r, h => by
    have hx := h x List.mem_cons_self
    rw [inP_cons, inP_all r (fun y hy => h y (List.mem_cons_of_mem _ hy)), if_pos (by omega), List.length_cons]
theorem valid_ports {cs : List S89} (h : validC cs = true) : ∀ x ∈ cs, 1 ≤ x.f4 ∧ x.f4 ≤ 9 := by
  unfold validC at h
  rw [Bool.and_eq_true] at h
  intro x hx
  obtain ⟨i, hi, rfl⟩ := List.mem_iff_getElem.1 hx
  have hs := listC_step cs cs.length 0 h.2 i (by omega) (by omega)
  unfold stepC goodC goodB at hs
  simp only [Bool.and_eq_true] at hs
  have h5 := hs.1.2
  rw [List.getD_eq_getElem?_getD, List.getElem?_eq_getElem hi] at h5
  unfold inB at h5
  rw [decide_eq_true_eq] at h5
  exact h5
theorem ports_at (cs : List S89) : ∀ d p, ∀ c ∈ portsA cs d p, p ≤ c.f0 ∧ c.f0 < p + d ∧ c.f1 = (cntP c.f0 cs : Int)
  | 0, p, c, hc => by cases hc
  | d + 1, p, c, hc => by
    unfold portsA at hc
    split at hc
    · rcases List.mem_cons.1 hc with rfl | hc
      · exact ⟨Int.le_refl _, by show p < _; omega, rfl⟩
      · have := ports_at cs d (p + 1) c hc
        exact ⟨by omega, by omega, this.2.2⟩
    · have := ports_at cs d (p + 1) c hc
      exact ⟨by omega, by omega, this.2.2⟩
end Go.Proofs.Ytlldonokjgoajaa.X
