/- A manifest merged with a second one: what the two loops come to, where no number stands twice in either list. -/
import Derived.Test.YtlldonokjgoajaaMCont
import Derived.Test.YtlldonokjgoajaaGCloneC
import Derived.Test.YtlldonokjgoajaaFspecMergeManifests
import Derived.Test.YtlldonokjgoajaaFimplMergeManifests
namespace Go.Proofs.Ytlldonokjgoajaa.X
open Go.RowKit Go.Proofs.YtlldonokjgoajaaW.PrintWords Go.Proofs.YtlldonokjgoajaaW.PrintLast
set_option linter.unusedVariables false
set_option linter.unusedSimpArgs false
theorem eta89 (x : S89) : (⟨x.f0, x.f1, x.f2, x.f3, x.f4⟩ : S89) = x := rfl
theorem idxI_nat {α : Type} (p : α → Bool) (z : α) : ∀ (l : List α) (s : Int), (idxI p l s = -1 ∧ l.any p = false ∧ l.find? p = none) ∨ ∃ n : Nat, idxI p l s = s + n ∧ n < l.length ∧ p (l.getD n z) = true ∧ l.any p = true ∧ l.find? p = some (l.getD n z)
  | [], s => .inl ⟨rfl, rfl, rfl⟩
  | x :: r, s => by
    simp only [idxI, List.any_cons, List.find?_cons]
    by_cases h : p x = true
    · rw [if_pos h, h]
      exact .inr ⟨0, by simp, by simp, by simpa using h, rfl, by simp⟩
    · rw [if_neg h]
      rw [Bool.not_eq_true] at h
      rw [h]
      rcases idxI_nat p z r (s + 1) with ⟨e1, e2, e3⟩ | ⟨n, e1, e2, e3, e4, e5⟩
      · exact .inl ⟨e1, by simpa using e2, e3⟩
      · exact .inr ⟨n + 1, by rw [e1]; omega, by simp; omega, by simpa using e3, by simpa using e4, by simpa using e5⟩
/-- No number twice. -/
def Dist (cs : List S89) : Prop := ∀ i j, i < cs.length → j < cs.length → (cs.getD i z89).f0.toList = (cs.getD j z89).f0.toList → i = j
theorem listC_step (cs : List S89) (d : Nat) : ∀ i, listC cs d i = true → ∀ j, i ≤ j → j < i + d → stepC cs j = true := by
  induction d with
  | zero => intro i _ j h1 h2; omega
  | succ d ih =>
    intro i h j h1 h2
    simp only [listC, Bool.and_eq_true] at h
    by_cases e : i = j
    · rw [← e]; exact h.1
    · exact ih (i + 1) h.2 j (by omega) (by omega)
theorem valid_dist {cs : List S89} (h : validC cs = true) : cs.length ≤ 12 ∧ Dist cs := by
  unfold validC at h
  simp only [Bool.and_eq_true, decide_eq_true_eq] at h
  refine ⟨h.1, ?_⟩
  have key : ∀ i j, i < j → j < cs.length → (cs.getD i z89).f0.toList ≠ (cs.getD j z89).f0.toList := by
    intro i j hij hj he
    have hs := listC_step cs cs.length 0 h.2 j (by omega) (by omega)
    unfold stepC at hs
    simp only [Bool.and_eq_true, Bool.not_eq_true'] at hs
    have hm : cs.getD i z89 ∈ cs.take j := by
      have := getD_mem (xs := cs.take j) (z := z89) (n := i) (by rw [List.length_take]; omega)
      rwa [show (cs.take j).getD i z89 = cs.getD i z89 by rw [List.getD_eq_getElem?_getD, List.getElem?_take, if_pos hij, List.getD_eq_getElem?_getD]] at this
    have := List.any_eq_false.1 hs.2 _ hm
    unfold sameId at this
    rw [beq_iff_eq] at this
    exact this he
  intro i j hi hj he
  rcases Nat.lt_trichotomy i j with h1 | h1 | h1
  · exact absurd he (key i j h1 hj)
  · exact h1
  · exact absurd he.symm (key j i h1 hi)
def upd (t : List S89) (x : S89) : S89 := (t.find? (sameId x.f0)).getD x
def fresh (a : List S89) (y : S89) : Bool := !(a.any (sameId y.f0))
def merged (a b : List S89) : List S89 := a.map (upd b) ++ b.filter (fresh a)
theorem set_map (a : List S89) (f g : S89 → S89) (F : List S89) (n : Nat) (y : S89) (hn : n < a.length) (h1 : g (a.getD n z89) = y) (h2 : ∀ j, j < a.length → j ≠ n → g (a.getD j z89) = f (a.getD j z89)) : (a.map f ++ F).set n y = a.map g ++ F := by
  rw [List.set_append_left _ _ (by simpa using hn)]
  congr 1
  apply List.ext_getElem?
  intro j
  rw [List.getElem?_set]
  by_cases hj : n = j
  · subst hj
    rw [if_pos rfl, if_pos (by simpa using hn), List.getElem?_map, List.getElem?_eq_getElem hn, ← h1, List.getD_eq_getElem?_getD, List.getElem?_eq_getElem hn]
    rfl
  · rw [if_neg hj, List.getElem?_map, List.getElem?_map]
    by_cases hl : j < a.length
    · have := h2 j hl (fun e => hj e.symm)
      rw [List.getD_eq_getElem?_getD, List.getElem?_eq_getElem hl] at this
      rw [List.getElem?_eq_getElem hl]
      simp only [Option.map_some]
      exact congrArg some this.symm
    · rw [List.getElem?_eq_none (by omega)]
      rfl
theorem upd_snoc (t : List S89) (y x : S89) : upd (t ++ [y]) x = if sameId x.f0 y = true then (t.find? (sameId x.f0)).getD y else upd t x := by
  unfold upd
  rw [List.find?_append]
  by_cases h : sameId x.f0 y = true
  · rw [if_pos h]
    cases t.find? (sameId x.f0) <;> simp [h]
  · rw [if_neg h]
    rw [Bool.not_eq_true] at h
    cases t.find? (sameId x.f0) <;> simp [h]
theorem merge_step (a b : List S89) (ha : Dist a) (hb : Dist b) (i : Nat) (hi : i < b.length) (n : Nat) (hn : n < a.length) (hp : sameId (b.getD i z89).f0 (a.getD n z89) = true) :
    (a.map (upd (b.take i)) ++ (b.take i).filter (fresh a)).set n (b.getD i z89) = a.map (upd (b.take (i + 1))) ++ (b.take i).filter (fresh a) := by
  unfold sameId at hp
  rw [beq_iff_eq] at hp
  refine set_map a _ _ _ n _ hn ?_ ?_
  · rw [take_succ_getD (z := z89) hi, upd_snoc, if_pos (by unfold sameId; rw [beq_iff_eq]; exact hp.symm)]
    have : (b.take i).find? (sameId (a.getD n z89).f0) = none := by
      rw [List.find?_eq_none]
      intro w hw
      obtain ⟨j, hj, rfl⟩ := List.getElem_of_mem hw
      rw [List.length_take] at hj
      rw [List.getElem_take]
      unfold sameId
      rw [beq_iff_eq]
      intro e
      have := hb j i (by omega) hi (by rw [List.getD_eq_getElem?_getD, List.getElem?_eq_getElem (by omega : j < b.length)]; exact e.trans hp)
      omega
    rw [this]
    rfl
  · intro j hj hne
    rw [take_succ_getD (z := z89) hi, upd_snoc, if_neg]
    unfold sameId
    rw [beq_iff_eq]
    intro e
    exact hne (ha j n hj hn (e.symm.trans hp.symm))
theorem merge_skip (a b : List S89) (i : Nat) (hi : i < b.length) (hp : a.any (sameId (b.getD i z89).f0) = false) :
    (a.map (upd (b.take i)) ++ (b.take i).filter (fresh a)) ++ [b.getD i z89] = a.map (upd (b.take (i + 1))) ++ (b.take (i + 1)).filter (fresh a) := by
  have e1 : a.map (upd (b.take (i + 1))) = a.map (upd (b.take i)) := by
    apply List.map_congr_left
    intro x hx
    rw [take_succ_getD (z := z89) hi, upd_snoc, if_neg]
    have := List.any_eq_false.1 hp x hx
    unfold sameId at this ⊢
    rw [beq_iff_eq] at this ⊢
    exact fun e => this e.symm
  have e2 : fresh a (b.getD i z89) = true := by unfold fresh; rw [hp]; rfl
  rw [e1, take_succ_getD (z := z89) hi, List.filter_append, List.filter_cons, if_pos e2]
  simp
theorem filter_take (a b : List S89) (i : Nat) (hi : i < b.length) (hp : a.any (sameId (b.getD i z89).f0) = true) : (b.take (i + 1)).filter (fresh a) = (b.take i).filter (fresh a) := by
  have e2 : fresh a (b.getD i z89) = false := by unfold fresh; rw [hp]; rfl
  rw [take_succ_getD (z := z89) hi, List.filter_append, List.filter_cons, e2]
  simp
theorem mid_length (a b : List S89) (f : S89 → S89) (i : Nat) (ha : a.length ≤ 12) (hb : b.length ≤ 12) : (a.map f ++ (b.take i).filter (fresh a)).length ≤ 24 := by
  have := List.length_filter_le (fresh a) (b.take i)
  rw [List.length_take] at this
  rw [List.length_append, List.length_map]
  omega
theorem merged_length (a b : List S89) (ha : a.length ≤ 12) (hb : b.length ≤ 12) : (merged a b).length ≤ 24 := by
  have := mid_length a b (upd b) b.length ha hb
  rw [List.take_length] at this
  exact this
/-- The answer. -/
def mergeR (a b : List S89) : List S89 × Bool := if validC (merged a b) = true then (merged a b, true) else ([], false)
theorem impl_merge_loop (a b : List S89) (ha : Dist a) (hb : Dist b) (la : a.length ≤ 12) (lb : b.length ≤ 12) (d : Nat) : ∀ (k i : Nat), i + d = b.length → d + 1048600 < k →
    impl_MergeManifests.l0 k a (a.map (upd (b.take i)) ++ (b.take i).filter (fresh a)) b (b.length : Int) (i : Int) = some (mergeR a b) := by
  induction d with
  | zero =>
    intro k i hi hk
    obtain ⟨k, rfl⟩ := kpos (d := 0) (k := k) (by omega)
    simp only [impl_MergeManifests.l0]
    rw [if_neg (by omega), List.take_of_length_le (by omega)]
    have hm := merged_length a b la lb
    show (impl_IsValidContainers.f k (merged a b)).bind _ = _
    rw [impl_valid _ (by omega) _ (by omega)]
    simp only [Option.bind_some, mergeR]
    split <;> rfl
  | succ d ih =>
    intro k i hi hk
    obtain ⟨k, rfl⟩ := kpos (d := 0) (k := k) (by omega)
    have hlt : i < b.length := by omega
    have hml := mid_length a b (upd (b.take i)) i la lb
    have hil := ih k (i + 1) (by omega) (by omega)
    simp only [impl_MergeManifests.l0]
    rw [if_pos (by omega), if_pos (by omega), if_pos (by omega), rdC61_nat, indexOf_ends, eta89, wnext hlt (by omega)]
    simp only [Option.bind_some, ge_iff_le]
    rcases idxI_nat (sameId (b.getD i z89).f0) z89 a 0 with ⟨e1, e2, _⟩ | ⟨n, e1, e2, e3, e4, _⟩
    · rw [e1, if_neg (by omega), if_pos (by omega), merge_skip a b i hlt e2]
      exact hil
    · rw [e1, Int.zero_add, if_pos (by omega), if_pos (by omega), if_pos (by rw [List.length_append, List.length_map]; omega), Int.toNat_natCast, merge_step a b ha hb i hlt n e2 e3, ← filter_take a b i hlt e4]
      exact hil
theorem spec_merge_loop1 (a b : List S89) (la : a.length ≤ 12) (lb : b.length ≤ 12) (d : Nat) : ∀ (k i : Nat), i + d = b.length → d + 1048800 < k →
    spec_MergeManifests.l1 k a b (a.map (upd b) ++ (b.take i).filter (fresh a)) (i : Int) = some (mergeR a b) := by
  induction d with
  | zero =>
    intro k i hi hk
    obtain ⟨k, rfl⟩ := kpos (d := 0) (k := k) (by omega)
    simp only [spec_MergeManifests.l1]
    rw [if_neg (by omega), List.take_of_length_le (by omega)]
    have hm := merged_length a b la lb
    show (spec_l2List.f k (merged a b)).bind _ = _
    rw [spec_valid _ (by omega) _ (by omega)]
    simp only [Option.bind_some, mergeR]
    split <;> rfl
  | succ d ih =>
    intro k i hi hk
    obtain ⟨k, rfl⟩ := kpos (d := 0) (k := k) (by omega)
    have hlt : i < b.length := by omega
    have hml := mid_length a b (upd b) i la lb
    have hil := ih k (i + 1) (by omega) (by omega)
    simp only [spec_MergeManifests.l1]
    rw [if_pos (by omega), if_pos (by omega), rdC61_nat, Find_ends _ _ (by omega) _ (by omega), eta89, wnext hlt (by omega)]
    simp only [Option.bind_some]
    rcases idxI_nat (sameId (b.getD i z89).f0) z89 a 0 with ⟨e1, e2, _⟩ | ⟨n, e1, e2, e3, e4, _⟩
    · have e5 : fresh a (b.getD i z89) = true := by unfold fresh; rw [e2]; rfl
      rw [e1, if_pos (by omega), if_pos (by omega), List.append_assoc]
      rw [show (b.take i).filter (fresh a) ++ [b.getD i z89] = (b.take (i + 1)).filter (fresh a) by rw [take_succ_getD (z := z89) hlt, List.filter_append, List.filter_cons, if_pos e5]; rfl]
      exact hil
    · rw [e1, if_neg (by omega), ← filter_take a b i hlt e4]
      exact hil
theorem spec_merge_loop0 (a b : List S89) (la : a.length ≤ 12) (lb : b.length ≤ 12) (d : Nat) : ∀ (k i : Nat), i + d = a.length → d + 1048900 < k →
    spec_MergeManifests.l0 k a b ((a.take i).map (upd b)) (i : Int) = some (mergeR a b) := by
  induction d with
  | zero =>
    intro k i hi hk
    obtain ⟨k, rfl⟩ := kpos (d := 0) (k := k) (by omega)
    simp only [spec_MergeManifests.l0]
    rw [if_neg (by omega), List.take_of_length_le (by omega)]
    have := spec_merge_loop1 a b la lb b.length k 0 (by omega) (by omega)
    rw [show ((0 : Nat) : Int) = 0 from rfl, List.take_zero, List.filter_nil, List.append_nil] at this
    exact this
  | succ d ih =>
    intro k i hi hk
    obtain ⟨k, rfl⟩ := kpos (d := 0) (k := k) (by omega)
    have hlt : i < a.length := by omega
    have hil := ih k (i + 1) (by omega) (by omega)
    have hll : ((a.take i).map (upd b)).length < 2932031007402 := by rw [List.length_map, List.length_take]; omega
    rw [take_succ_getD (z := z89) hlt, List.map_append, List.map_cons, List.map_nil] at hil
    simp only [spec_MergeManifests.l0]
    rw [if_pos (by omega), if_pos (by omega), rdC61_nat, Find_ends _ _ (by omega) _ (by omega), wnext hlt (by omega)]
    simp only [Option.bind_some, ge_iff_le]
    rcases idxI_nat (sameId (a.getD i z89).f0) z89 b 0 with ⟨e1, _, e3⟩ | ⟨n, e1, e2, _, _, e5⟩
    · rw [e1, if_neg (by omega), if_pos hll, eta89]
      rw [show upd b (a.getD i z89) = a.getD i z89 by unfold upd; rw [e3]; rfl] at hil
      exact hil
    · rw [e1, Int.zero_add, if_pos (by omega), if_pos (by omega), if_pos (by omega), if_pos hll, rdC61_nat, eta89]
      rw [show upd b (a.getD i z89) = b.getD n z89 by unfold upd; rw [e5]; rfl] at hil
      exact hil
theorem merge_both (a b : List S89) (hla : a.length ≤ 1048576) (hlb : b.length ≤ 1048576) : ∃ r c, r.length ≤ 1048576 ∧ ∀ k, 1049000 ≤ k → spec_MergeManifests.f k a b = some (r, c) ∧ impl_MergeManifests.f k a b = some (r, c) := by
  by_cases h : validC a = true
  · by_cases h2 : validC b = true
    · obtain ⟨la, da⟩ := valid_dist h
      obtain ⟨lb, db⟩ := valid_dist h2
      refine ⟨(mergeR a b).1, (mergeR a b).2, ?_, fun k hk => ?_⟩
      · have := merged_length a b la lb
        unfold mergeR
        split
        · show (merged a b).length ≤ _; omega
        · simp
      obtain ⟨k, rfl⟩ := kpos (d := 0) (k := k) (by omega)
      unfold spec_MergeManifests.f impl_MergeManifests.f
      rw [spec_valid _ hla _ (by omega), impl_valid _ hla _ (by omega), spec_valid _ hlb _ (by omega), impl_valid _ hlb _ (by omega)]
      simp only [Option.bind_some]
      rw [if_pos h, if_pos h, h2]
      simp only [spec_MergeManifests.j0, impl_MergeManifests.j0, Bool.not_true, Bool.false_eq_true, if_false]
      rw [CloneC_ends _ hla]
      simp only [Option.bind_some]
      have e1 := spec_merge_loop0 a b la lb a.length k 0 (by omega) (by omega)
      have e2 := impl_merge_loop a b da db la lb b.length k 0 (by omega) (by omega)
      rw [show ((0 : Nat) : Int) = 0 from rfl, List.take_zero] at e1 e2
      rw [List.filter_nil, List.append_nil, show a.map (upd []) = a by rw [show upd ([] : List S89) = id from rfl]; exact List.map_id a] at e2
      exact ⟨e1, e2⟩
    · refine ⟨[], false, by simp, fun k hk => ?_⟩
      obtain ⟨k, rfl⟩ := kpos (d := 0) (k := k) (by omega)
      unfold spec_MergeManifests.f impl_MergeManifests.f
      rw [spec_valid _ hla _ (by omega), impl_valid _ hla _ (by omega), spec_valid _ hlb _ (by omega), impl_valid _ hlb _ (by omega)]
      simp only [Option.bind_some]
      rw [Bool.not_eq_true] at h2
      rw [if_pos h, if_pos h, h2]
      simp only [spec_MergeManifests.j0, impl_MergeManifests.j0, Bool.not_false, if_true]
      exact ⟨trivial, trivial⟩
  · refine ⟨[], false, by simp, fun k hk => ?_⟩
    obtain ⟨k, rfl⟩ := kpos (d := 0) (k := k) (by omega)
    unfold spec_MergeManifests.f impl_MergeManifests.f
    rw [spec_valid _ hla _ (by omega), impl_valid _ hla _ (by omega)]
    simp only [Option.bind_some]
    rw [if_neg h, if_neg h]
    simp only [spec_MergeManifests.j0, impl_MergeManifests.j0, if_true]
    exact ⟨trivial, trivial⟩
end Go.Proofs.Ytlldonokjgoajaa.X
