/- What the printed functions on lists of containers come to: the size that is left, the copy, the comparison, the search, the test of a list. -/
import Derived.Test.YthijmjdjnihggaaMGoodC
import Derived.Test.YthijmjdjnihggaaGindexOf
import Derived.Test.YthijmjdjnihggaaFbHelpC
import Derived.Test.YthijmjdjnihggaaFbGood
namespace Go.Proofs.Ythijmjdjnihggaa.X
open Go.RowKit Go.Proofs.YthijmjdjnihggaaW.PrintWords Go.Proofs.YthijmjdjnihggaaW.PrintLast
set_option linter.unusedVariables false
set_option linter.unusedSimpArgs false

def c67 (x : S67) : S61 := ⟨x.f0, x.f1, x.f2, x.f3, x.f4⟩
def totC : List S67 → Nat
  | [] => 0
  | s :: r => s.f0.size + totC r
theorem rdC67_nat (xs : List S67) (n : Nat) : rd_T67 xs (n : Int) = xs.getD n z67 := rfl
theorem rdC61_nat (xs : List S61) (n : Nat) : rd_T61 xs (n : Int) = xs.getD n z61 := rfl
theorem szContainerS_loop (ss : List S67) (hx : ss.length ≤ 9223372036854775807) (hs : ∀ s ∈ ss, s.f0.size ≤ 9223372036854775807) (d : Nat) : ∀ (k n : Nat) (a : Int), n + d = ss.length → d < k → 0 ≤ a → a ≤ 1048576 →
    laws_szContainerS.l0 k ss a (n : Int) = some (if a - (totC (ss.drop n) : Int) < 0 then -1 else a - (totC (ss.drop n) : Int)) := by
  induction d with
  | zero =>
    intro k n a hn hk ha ha2
    obtain ⟨k, rfl⟩ := kpos hk
    simp only [laws_szContainerS.l0]
    have ht : totC (ss.drop n) = 0 := by rw [List.drop_of_length_le (by omega)]; rfl
    rw [if_neg (by omega), ht, if_neg (by omega)]
    simp
  | succ d ih =>
    intro k n a hn hk ha ha2
    obtain ⟨k, rfl⟩ := kpos hk
    have hlt : n < ss.length := by omega
    have hz := hs _ (getD_mem (z := z67) hlt)
    have ht : totC (ss.drop n) = (ss.getD n z67).f0.size + totC (ss.drop (n + 1)) := by rw [getD_cons (z := z67) hlt]; rfl
    simp only [laws_szContainerS.l0]
    rw [if_pos (by omega), if_pos (by omega), rdC67_nat, ht]
    unfold laws_szContainer.f
    rw [w64 (by omega) (by omega)]
    by_cases h : a - ((ss.getD n z67).f0.size : Int) < 0
    · rw [if_pos h]
      simp only [Option.bind_some]
      rw [if_pos (by omega), if_pos (by omega)]
    · rw [if_neg h]
      simp only [Option.bind_some]
      rw [if_neg h, wnext hlt hx, ih k (n + 1) _ (by omega) (by omega) (by omega) (by omega)]
      by_cases h2 : a - ((ss.getD n z67).f0.size : Int) - (totC (ss.drop (n + 1)) : Int) < 0
      · rw [if_pos h2, if_pos (by omega)]
      · rw [if_neg h2, if_neg (by omega)]
        congr 1
        omega
theorem szContainerS_ends (ss : List S67) (hx : ss.length ≤ 9223372036854775807) (hs : ∀ s ∈ ss, s.f0.size ≤ 9223372036854775807) (k : Nat) (hk : 1048577 ≤ k) :
    laws_szContainerS.f k ss 1048576 = some (if (1048576 : Int) - ss.length - totC ss < 0 then -1 else (1048576 : Int) - ss.length - totC ss) := by
  unfold laws_szContainerS.f
  rw [w64 (by omega) (by omega)]
  by_cases h : (1048576 : Int) - ss.length < 0
  · rw [if_pos h, if_pos (by omega)]
  · rw [if_neg h]
    have := szContainerS_loop ss hx hs ss.length k 0 ((1048576 : Int) - ss.length) (by omega) (by omega) (by omega) (by omega)
    rw [show ((0 : Nat) : Int) = 0 from rfl, List.drop_zero] at this
    exact this
theorem toContainerS_loop (ss : List S67) (hx : ss.length ≤ 1048576) (d : Nat) : ∀ (k n : Nat) (ys : List S61), n ≤ ss.length → ss.length - n = d → d < k → ys.length = ss.length → ys.take n = (ss.take n).map c67 →
    laws_toContainerS.l0 k ss ys (n : Int) = some (ss.map c67) := by
  induction d with
  | zero =>
    intro k n ys hn hd hk hl hy
    obtain ⟨k, rfl⟩ := kpos hk
    simp only [laws_toContainerS.l0]
    rw [if_neg (by omega), fill_end c67 hl (by omega) hy]
  | succ d ih =>
    intro k n ys hn hd hk hl hy
    obtain ⟨k, rfl⟩ := kpos hk
    have hlt : n < ss.length := by omega
    obtain ⟨e1, e2⟩ := fill_step (z := z67) c67 hl hlt hy
    have hn1 := ih k (n + 1) _ (by omega) (by omega) (by omega) e2 e1
    simp only [laws_toContainerS.l0, laws_toContainer.f, Option.bind_some]
    rw [if_pos (by omega), if_pos (by omega), if_pos (by omega), wnext hlt (by omega), Int.toNat_natCast]
    exact hn1
theorem toContainerS_ends (ss : List S67) (hx : ss.length ≤ 1048576) (k : Nat) (hk : 1048577 ≤ k) : laws_toContainerS.f k ss = some (ss.map c67) := by
  unfold laws_toContainerS.f
  rw [if_pos (by omega), if_pos (by omega)]
  have := toContainerS_loop ss hx ss.length k 0 (List.replicate (ss.length : Int).toNat z61) (by omega) (by omega) (by omega) (by simp) (by simp)
  exact this
theorem eqContainerS_loop (ss : List S61) (hx : ss.length ≤ 1048576) (d : Nat) : ∀ (k n : Nat), n + d = ss.length → d < k → laws_eqContainerS.l0 k ss ss (n : Int) = some true := by
  induction d with
  | zero =>
    intro k n hn hk
    obtain ⟨k, rfl⟩ := kpos hk
    simp only [laws_eqContainerS.l0]
    rw [if_neg (by omega)]
  | succ d ih =>
    intro k n hn hk
    obtain ⟨k, rfl⟩ := kpos hk
    have hlt : n < ss.length := by omega
    simp only [laws_eqContainerS.l0, laws_eqContainer.f, if_true, Option.bind_some]
    rw [if_pos (by omega), if_pos (by omega), if_pos (by omega), wnext hlt (by omega)]
    exact ih k (n + 1) (by omega) (by omega)
theorem eqContainerS_refl (ss : List S61) (hx : ss.length ≤ 1048576) (k : Nat) (hk : 1048577 ≤ k) : laws_eqContainerS.f k ss ss = some true := by
  unfold laws_eqContainerS.f
  rw [if_pos rfl]
  exact eqContainerS_loop ss hx ss.length k 0 (by omega) (by omega)

/-! ### the search -/
def sameId (id : ByteArray) (x : S61) : Bool := x.f0.toList == id.toList
theorem Find_loop (cs : List S61) (id : ByteArray) (hx : cs.length ≤ 1048576) (d : Nat) : ∀ (k n : Nat), n + d = cs.length → d < k → spec_l2Find.l0 k cs id (n : Int) = some (idxI (sameId id) (cs.drop n) (n : Int)) := by
  induction d with
  | zero =>
    intro k n hn hk
    obtain ⟨k, rfl⟩ := kpos hk
    simp only [spec_l2Find.l0]
    rw [if_neg (by omega), List.drop_of_length_le (by omega)]
    rfl
  | succ d ih =>
    intro k n hn hk
    obtain ⟨k, rfl⟩ := kpos hk
    have hlt : n < cs.length := by omega
    simp only [spec_l2Find.l0]
    rw [if_pos (by omega), if_pos (by omega), rdC61_nat, getD_cons (z := z61) hlt]
    simp only [idxI]
    by_cases h : (cs.getD n z61).f0.toList = id.toList
    · rw [if_pos h, if_pos (by unfold sameId; rw [beq_iff_eq]; exact h)]
    · rw [if_neg h, if_neg (by unfold sameId; rw [beq_iff_eq]; exact h), wnext hlt (by omega), ih k (n + 1) (by omega) (by omega)]
      rfl
theorem Find_ends (cs : List S61) (id : ByteArray) (hx : cs.length ≤ 1048576) (k : Nat) (hk : 1048577 ≤ k) : spec_l2Find.f k cs id = some (idxI (sameId id) cs 0) := by
  unfold spec_l2Find.f
  have := Find_loop cs id hx cs.length k 0 (by omega) (by omega)
  rw [show ((0 : Nat) : Int) = 0 from rfl, List.drop_zero] at this
  exact this
theorem indexOf_ends (cs : List S61) (id : ByteArray) : impl_indexOf.f cs id = some (idxI (sameId id) cs 0) := rfl
theorem idxI_first {α : Type} (p : α → Bool) (z : α) : ∀ (l : List α) (s : Int) (i : Nat), i < l.length → p (l.getD i z) = true → (idxI p l s = s + i ↔ (l.take i).any p = false)
  | [], s, i, h, _ => by simp at h
  | x :: l, s, i, h, hp => by
    simp only [idxI]
    cases i with
    | zero => rw [if_pos (by simpa using hp)]; simp
    | succ i =>
      by_cases hx : p x = true
      · rw [if_pos hx]
        simp only [List.take_succ_cons, List.any_cons, hx, Bool.true_or]
        constructor
        · intro h1; omega
        · intro h1; cases h1
      · rw [if_neg hx]
        have := idxI_first p z l (s + 1) i (by simpa using h) (by simpa using hp)
        simp only [List.take_succ_cons, List.any_cons, Bool.not_eq_true] at hx ⊢
        rw [hx, Bool.false_or, ← this]
        constructor <;> intro h1 <;> omega

/-! ### the test of a list -/
def stepC (cs : List S61) (i : Nat) : Bool := goodC (cs.getD i z61) && !((cs.take i).any (sameId (cs.getD i z61).f0))
def listC (cs : List S61) : Nat → Nat → Bool
  | 0, _ => true
  | d + 1, i => stepC cs i && listC cs d (i + 1)
def validC (cs : List S61) : Bool := decide (cs.length ≤ 12) && listC cs cs.length 0
theorem impl_list_loop (cs : List S61) (hx : cs.length ≤ 1048576) (d : Nat) : ∀ (k i : Nat), i + d = cs.length → d + 20 < k → impl_IsValidContainers.l0 k cs cs (cs.length : Int) (i : Int) = some (listC cs d i && decide (cs.length ≤ 12)) := by
  induction d with
  | zero =>
    intro k i hi hk
    obtain ⟨k, rfl⟩ := kpos (d := 0) (k := k) (by omega)
    simp only [impl_IsValidContainers.l0]
    rw [if_neg (by omega)]
    simp only [listC, Bool.true_and]
    congr 1
    rw [Bool.eq_iff_iff, decide_eq_true_eq, decide_eq_true_eq]
    omega
  | succ d ih =>
    intro k i hi hk
    obtain ⟨k, rfl⟩ := kpos (d := 0) (k := k) (by omega)
    have hlt : i < cs.length := by omega
    simp only [impl_IsValidContainers.l0, listC, stepC]
    rw [if_pos (by omega), if_pos (by omega), if_pos (by omega), rdC61_nat, impl_good _ _ _ _ _ k (by omega), show goodB _ _ _ _ _ = goodC (cs.getD i z61) from rfl]
    simp only [Option.bind_some]
    by_cases hg : goodC (cs.getD i z61) = true
    · rw [if_pos hg, if_pos (by omega), indexOf_ends, Int.toNat_natCast, hg, Bool.true_and]
      simp only [Option.bind_some, ge_iff_le]
      by_cases ha : (cs.take i).any (sameId (cs.getD i z61).f0) = true
      · rw [if_pos ((idxI_any _ _ 0 (by omega)).2 ha), ha]
        rfl
      · rw [if_neg (fun h => ha ((idxI_any _ _ 0 (by omega)).1 h)), wnext hlt (by omega), ih k (i + 1) (by omega) (by omega)]
        rw [Bool.not_eq_true] at ha
        rw [ha]
        rfl
    · rw [if_neg hg]
      rw [Bool.not_eq_true] at hg
      rw [hg]
      rfl
theorem impl_valid (cs : List S61) (hx : cs.length ≤ 1048576) (k : Nat) (hk : 1048600 ≤ k) : impl_IsValidContainers.f k cs = some (validC cs) := by
  unfold impl_IsValidContainers.f validC
  have := impl_list_loop cs hx cs.length k 0 (by omega) (by omega)
  rw [show ((0 : Nat) : Int) = 0 from rfl] at this
  rw [this, Bool.and_comm]
theorem spec_list_loop (cs : List S61) (hx : cs.length ≤ 12) (d : Nat) : ∀ (k i : Nat), i + d = cs.length → 2 * d + 1048600 < k → spec_l2List.l0 k cs (i : Int) = some (listC cs d i) := by
  induction d with
  | zero =>
    intro k i hi hk
    obtain ⟨k, rfl⟩ : ∃ m, k = m + 2 := ⟨k - 2, by omega⟩
    simp only [spec_l2List.l0]
    rw [if_neg (by omega)]
    simp only [spec_l2List.j1, Bool.false_eq_true, if_false, listC]
    congr 1
    rw [decide_eq_true_eq]
    omega
  | succ d ih =>
    intro k i hi hk
    obtain ⟨k, rfl⟩ : ∃ m, k = m + 2 := ⟨k - 2, by omega⟩
    have hlt : i < cs.length := by omega
    have h12 : decide ((i : Int) ≤ 12) = true := decide_eq_true (by omega)
    simp only [spec_l2List.l0]
    rw [if_pos (by omega), h12]
    simp only [spec_l2List.j1, if_true, listC, stepC]
    rw [if_pos (by omega), if_pos (by omega), rdC61_nat, spec_good _ _ _ _ _ k (by omega), show goodB _ _ _ _ _ = goodC (cs.getD i z61) from rfl]
    simp only [Option.bind_some]
    by_cases hg : goodC (cs.getD i z61) = true
    · rw [if_pos hg, hg, Bool.true_and, Find_ends _ _ (by omega) k (by omega)]
      simp only [Option.bind_some]
      have hself : sameId (cs.getD i z61).f0 (cs.getD i z61) = true := by unfold sameId; simp
      have hf := idxI_first (sameId (cs.getD i z61).f0) z61 cs 0 i hlt hself
      rw [Int.zero_add] at hf
      by_cases ha : (cs.take i).any (sameId (cs.getD i z61).f0) = false
      · rw [if_pos (hf.2 ha), ha, wnext hlt (by omega), ih k (i + 1) (by omega) (by omega)]
        rfl
      · rw [if_neg (fun h => ha (hf.1 h))]
        simp only [Bool.not_eq_false] at ha
        rw [ha]
        rfl
    · rw [if_neg hg]
      rw [Bool.not_eq_true] at hg
      rw [hg]
      rfl
theorem spec_list_long (cs : List S61) (hx : cs.length ≤ 1048576) (h12 : 12 < cs.length) (d : Nat) : ∀ (k i : Nat), i + d = 13 → 2 * d + 1048600 < k → spec_l2List.l0 k cs (i : Int) = some false := by
  induction d with
  | zero =>
    intro k i hi hk
    obtain ⟨k, rfl⟩ : ∃ m, k = m + 2 := ⟨k - 2, by omega⟩
    have e1 : decide ((i : Int) ≤ 12) = false := decide_eq_false (by omega)
    simp only [spec_l2List.l0, e1, ite_self, spec_l2List.j1, Bool.false_eq_true, if_false]
    congr 1
    rw [decide_eq_false_iff_not]
    omega
  | succ d ih =>
    intro k i hi hk
    obtain ⟨k, rfl⟩ : ∃ m, k = m + 2 := ⟨k - 2, by omega⟩
    have hlt : i < cs.length := by omega
    have e1 : decide ((i : Int) ≤ 12) = true := decide_eq_true (by omega)
    simp only [spec_l2List.l0]
    rw [if_pos (by omega), e1]
    simp only [spec_l2List.j1, if_true]
    rw [if_pos (by omega), if_pos (by omega), rdC61_nat, spec_good _ _ _ _ _ k (by omega)]
    simp only [Option.bind_some]
    split
    · rw [Find_ends _ _ (by omega) k (by omega)]
      simp only [Option.bind_some]
      split
      · rw [wnext hlt (by omega), ih k (i + 1) (by omega) (by omega)]
      · rfl
    · rfl
theorem spec_valid (cs : List S61) (hx : cs.length ≤ 1048576) (k : Nat) (hk : 1048700 ≤ k) : spec_l2List.f k cs = some (validC cs) := by
  unfold spec_l2List.f validC
  by_cases h : cs.length ≤ 12
  · have := spec_list_loop cs h cs.length k 0 (by omega) (by omega)
    rw [show ((0 : Nat) : Int) = 0 from rfl] at this
    rw [this, decide_eq_true h, Bool.true_and]
  · have := spec_list_long cs hx (by omega) 13 k 0 (by omega) (by omega)
    rw [show ((0 : Nat) : Int) = 0 from rfl] at this
    rw [this, decide_eq_false h, Bool.false_and]
end Go.Proofs.Ythijmjdjnihggaa.X
