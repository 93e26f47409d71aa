/- What the printed functions on lists of containers come to: the search, the test of a list. -/
import Derived.Test.YtlldonokjgoajaaMGoodC
import Derived.Test.YtlldonokjgoajaaGindexOf
import Derived.Test.YtlldonokjgoajaaFbGood
namespace Go.Proofs.Ytlldonokjgoajaa.X
open Go.RowKit Go.Proofs.YtlldonokjgoajaaW.PrintWords Go.Proofs.YtlldonokjgoajaaW.PrintLast
set_option linter.unusedVariables false
set_option linter.unusedSimpArgs false

theorem rdC61_nat (xs : List S89) (n : Nat) : rd_T89 xs (n : Int) = xs.getD n z89 := rfl
def sameId (id : ByteArray) (x : S89) : Bool := x.f0.toList == id.toList
theorem Find_loop (cs : List S89) (id : ByteArray) (hx : cs.length ≤ 1048576) (d : Nat) : ∀ (k n : Nat), n + d = cs.length → d < k → spec_l2Find.l0 k cs id (n : Int) = some (idxI (sameId id) (cs.drop n) (n : Int)) := by
  induction d with
  | zero =>
    intro k n hn hk
    obtain ⟨k, rfl⟩ := kpos hk
    simp only [spec_l2Find.l0]
    rw [if_neg (by omega), List.drop_of_length_le (by omega)]
    rfl
  | succ d ih =>
    intro k n hn hk
    obtain ⟨k, rfl⟩ := kpos hk
    have hlt : n < cs.length := by omega
    simp only [spec_l2Find.l0]
    rw [if_pos (by omega), if_pos (by omega), rdC61_nat, getD_cons (z := z89) hlt]
    simp only [idxI]
    by_cases h : (cs.getD n z89).f0.toList = id.toList
    · rw [if_pos h, if_pos (by unfold sameId; rw [beq_iff_eq]; exact h)]
    · rw [if_neg h, if_neg (by unfold sameId; rw [beq_iff_eq]; exact h), wnext hlt (by omega), ih k (n + 1) (by omega) (by omega)]
      rfl
theorem Find_ends (cs : List S89) (id : ByteArray) (hx : cs.length ≤ 1048576) (k : Nat) (hk : 1048577 ≤ k) : spec_l2Find.f k cs id = some (idxI (sameId id) cs 0) := by
  unfold spec_l2Find.f
  have := Find_loop cs id hx cs.length k 0 (by omega) (by omega)
  rw [show ((0 : Nat) : Int) = 0 from rfl, List.drop_zero] at this
  exact this
theorem indexOf_ends (cs : List S89) (id : ByteArray) : impl_indexOf.f cs id = some (idxI (sameId id) cs 0) := rfl
theorem idxI_first {α : Type} (p : α → Bool) (z : α) : ∀ (l : List α) (s : Int) (i : Nat), i < l.length → p (l.getD i z) = true → (idxI p l s = s + i ↔ (l.take i).any p = false)
  | [], s, i, h, _ => by simp at h
  | x :: l, s, i, h, hp => by
    simp only [idxI]
    cases i with
    | zero => rw [if_pos (by simpa using hp)]; simp
    | succ i =>
      by_cases hx : p x = true
      · rw [if_pos hx]
        simp only [List.take_succ_cons, List.any_cons, hx, Bool.true_or]
        constructor
        · intro h1; omega
        · intro h1; cases h1
      · rw [if_neg hx]
        have := idxI_first p z l (s + 1) i (by simpa using h) (by simpa using hp)
        simp only [List.take_succ_cons, List.any_cons, Bool.not_eq_true] at hx ⊢
        rw [hx, Bool.false_or, ← this]
        constructor <;> intro h1 <;> omega

/-! ### the test of a list -/
def stepC (cs : List S89) (i : Nat) : Bool := goodC (cs.getD i z89) && !((cs.take i).any (sameId (cs.getD i z89).f0))
def listC (cs : List S89) : Nat → Nat → Bool
  | 0, _ => true
  | d + 1, i => stepC cs i && listC cs d (i + 1)
def validC (cs : List S89) : Bool := decide (cs.length ≤ 12) && listC cs cs.length 0
theorem impl_list_loop (cs : List S89) (hx : cs.length ≤ 1048576) (d : Nat) : ∀ (k i : Nat), i + d = cs.length → d + 20 < k → impl_IsValidContainers.l0 k cs cs (cs.length : Int) (i : Int) = some (listC cs d i && decide (cs.length ≤ 12)) := by
  induction d with
  | zero =>
    intro k i hi hk
    obtain ⟨k, rfl⟩ := kpos (d := 0) (k := k) (by omega)
    simp only [impl_IsValidContainers.l0]
    rw [if_neg (by omega)]
    simp only [listC, Bool.true_and]
    congr 1
    rw [Bool.eq_iff_iff, decide_eq_true_eq, decide_eq_true_eq]
    omega
  | succ d ih =>
    intro k i hi hk
    obtain ⟨k, rfl⟩ := kpos (d := 0) (k := k) (by omega)
    have hlt : i < cs.length := by omega
    simp only [impl_IsValidContainers.l0, listC, stepC]
    rw [if_pos (by omega), if_pos (by omega), if_pos (by omega), rdC61_nat, impl_good _ _ _ _ _ k (by omega), show goodB _ _ _ _ _ = goodC (cs.getD i z89) from rfl]
    simp only [Option.bind_some]
    by_cases hg : goodC (cs.getD i z89) = true
    · rw [if_pos hg, if_pos (by omega), indexOf_ends, Int.toNat_natCast, hg, Bool.true_and]
      simp only [Option.bind_some, ge_iff_le]
      by_cases ha : (cs.take i).any (sameId (cs.getD i z89).f0) = true
      · rw [if_pos ((idxI_any _ _ 0 (by omega)).2 ha), ha]
        rfl
      · rw [if_neg (fun h => ha ((idxI_any _ _ 0 (by omega)).1 h)), wnext hlt (by omega), ih k (i + 1) (by omega) (by omega)]
        rw [Bool.not_eq_true] at ha
        rw [ha]
        rfl
    · rw [if_neg hg]
      rw [Bool.not_eq_true] at hg
      rw [hg]
      rfl
theorem impl_valid (cs : List S89) (hx : cs.length ≤ 1048576) (k : Nat) (hk : 1048600 ≤ k) : impl_IsValidContainers.f k cs = some (validC cs) := by
  unfold impl_IsValidContainers.f validC
  have := impl_list_loop cs hx cs.length k 0 (by omega) (by omega)
  rw [show ((0 : Nat) : Int) = 0 from rfl] at this
  rw [this, Bool.and_comm]
theorem spec_list_loop (cs : List S89) (hx : cs.length ≤ 12) (d : Nat) : ∀ (k i : Nat), i + d = cs.length → 2 * d + 1048600 < k → spec_l2List.l0 k cs (i : Int) = some (listC cs d i) := by
  induction d with
  | zero =>
    intro k i hi hk
    obtain ⟨k, rfl⟩ : ∃ m, k = m + 2 := ⟨k - 2, by omega⟩
    simp only [spec_l2List.l0]
    rw [if_neg (by omega)]
    simp only [spec_l2List.j1, Bool.false_eq_true, if_false, listC]
    congr 1
    rw [decide_eq_true_eq]
    omega
  | succ d ih =>
    intro k i hi hk
    obtain ⟨k, rfl⟩ : ∃ m, k = m + 2 := ⟨k - 2, by omega⟩
    have hlt : i < cs.length := by omega
    have h12 : decide ((i : Int) ≤ 12) = true := decide_eq_true (by omega)
    simp only [spec_l2List.l0]
    rw [if_pos (by omega), h12]
    simp only [spec_l2List.j1, if_true, listC, stepC]
    rw [if_pos (by omega), if_pos (by omega), rdC61_nat, spec_good _ _ _ _ _ k (by omega), show goodB _ _ _ _ _ = goodC (cs.getD i z89) from rfl]
    simp only [Option.bind_some]
    by_cases hg : goodC (cs.getD i z89) = true
    · rw [if_pos hg, hg, Bool.true_and, Find_ends _ _ (by omega) k (by omega)]
      simp only [Option.bind_some]
      have hself : sameId (cs.getD i z89).f0 (cs.getD i z89) = true := by unfold sameId; simp
      have hf := idxI_first (sameId (cs.getD i z89).f0) z89 cs 0 i hlt hself
      rw [Int.zero_add] at hf
      by_cases ha : (cs.take i).any (sameId (cs.getD i z89).f0) = false
      · rw [if_pos (hf.2 ha), ha, wnext hlt (by omega), ih k (i + 1) (by omega) (by omega)]
        rfl
      · rw [if_neg (fun h => ha (hf.1 h))]
        simp only [Bool.not_eq_false] at ha
        rw [ha]
        rfl
    · rw [if_neg hg]
      rw [Bool.not_eq_true] at hg
      rw [hg]
      rfl
theorem spec_list_long (cs : List S89) (hx : cs.length ≤ 1048576) (h12 : 12 < cs.length) (d : Nat) : ∀ (k i : Nat), i + d = 13 → 2 * d + 1048600 < k → spec_l2List.l0 k cs (i : Int) = some false := by
  induction d with
  | zero =>
    intro k i hi hk
    obtain ⟨k, rfl⟩ : ∃ m, k = m + 2 := ⟨k - 2, by omega⟩
    have e1 : decide ((i : Int) ≤ 12) = false := decide_eq_false (by omega)
    simp only [spec_l2List.l0, e1, ite_self, spec_l2List.j1, Bool.false_eq_true, if_false]
    congr 1
    rw [decide_eq_false_iff_not]
    omega
  | succ d ih =>
    intro k i hi hk
    obtain ⟨k, rfl⟩ : ∃ m, k = m + 2 := ⟨k - 2, by omega⟩
    have hlt : i < cs.length := by omega
    have e1 : decide ((i : Int) ≤ 12) = true := decide_eq_true (by omega)
    simp only [spec_l2List.l0]
    rw [if_pos (by omega), e1]
    simp only [spec_l2List.j1, if_true]
    rw [if_pos (by omega), if_pos (by omega), rdC61_nat, spec_good _ _ _ _ _ k (by omega)]
    simp only [Option.bind_some]
    split
    · rw [Find_ends _ _ (by omega) k (by omega)]
      simp only [Option.bind_some]
      split
      · rw [wnext hlt (by omega), ih k (i + 1) (by omega) (by omega)]
      · rfl
    · rfl
theorem spec_valid (cs : List S89) (hx : cs.length ≤ 1048576) (k : Nat) (hk : 1048700 ≤ k) : spec_l2List.f k cs = some (validC cs) := by
  unfold spec_l2List.f validC
  by_cases h : cs.length ≤ 12
  · have := spec_list_loop cs h cs.length k 0 (by omega) (by omega)
    rw [show ((0 : Nat) : Int) = 0 from rfl] at this
    rw [this, decide_eq_true h, Bool.true_and]
  · have := spec_list_long cs hx (by omega) 13 k 0 (by omega) (by omega)
    rw [show ((0 : Nat) : Int) = 0 from rfl] at this
    rw [this, decide_eq_false h, Bool.false_and]
end Go.Proofs.Ytlldonokjgoajaa.X
