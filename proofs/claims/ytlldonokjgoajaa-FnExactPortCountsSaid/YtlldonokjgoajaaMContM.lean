/- What the laws' marks on lists of containers and of strings come to: what was marked reads back. The marks' texts are a function that is not looked into. -/
import Derived.Test.YtlldonokjgoajaaMCont
import Derived.Test.YtlldonokjgoajaaFbText
import Derived.Test.YtlldonokjgoajaaFbHelpM
namespace Go.Proofs.Ytlldonokjgoajaa.X
open Go.RowKit Go.Proofs.YtlldonokjgoajaaW.PrintWords Go.Proofs.YtlldonokjgoajaaW.PrintLast
set_option linter.unusedVariables false
set_option linter.unusedSimpArgs false

/-- The text of a mark is what t says, for small marks and enough rounds. -/
def Marks (t : Int → ByteArray) : Prop := ∀ x k, 0 ≤ x → x ≤ 1000000000000 → 20 ≤ k → laws_markText.f k x = some (t x)
theorem strOfNums_one (x : Int) : (strOfNums [x]).size = 1 := rfl
theorem markText_loop (d : Nat) : ∀ (k : Nat) (x : Int) (s : ByteArray), 0 ≤ x → x ≤ 1000000000000000 → x < 10 ^ d → d < k → s.size + d ≤ 100 → ∃ t, laws_markText.l0 k x s = some t := by
  induction d with
  | zero =>
    intro k x s h0 hm h1 hk hs
    obtain ⟨k, rfl⟩ := kpos hk
    simp only [laws_markText.l0]
    have : ¬ x > 0 := by simp at h1; omega
    rw [if_neg this, if_pos (by omega)]
    exact ⟨_, rfl⟩
  | succ d ih =>
    intro k x s h0 hm h1 hk hs
    obtain ⟨k, rfl⟩ := kpos hk
    simp only [laws_markText.l0, Option.bind_some]
    by_cases h : x > 0
    · rw [if_pos h, strOfNums_one, if_pos (by omega)]
      have e : Int.tdiv x 10 = x / 10 := Int.tdiv_eq_ediv_of_nonneg h0
      have hx2 : x < 10 ^ d * 10 := by rw [← Int.pow_succ]; exact h1
      rw [e]
      rw [w64 (x := x / 10) (by omega) (by omega)]
      exact ih k _ _ (by omega) (by omega) (by omega) (by omega) (by rw [ByteArray.size_append, strOfNums_one]; omega)
    · rw [if_neg h, if_pos (by omega)]
      exact ⟨_, rfl⟩
theorem markText_some (x : Int) (h0 : 0 ≤ x) (hx : x ≤ 1000000000000) : ∃ t, laws_markText.f 20 x = some t := by
  unfold laws_markText.f
  split
  · exact ⟨_, rfl⟩
  · exact markText_loop 13 20 x _ h0 (by omega) (by omega) (by omega) (by decide)
theorem markText_up (x : Int) (t : ByteArray) (h : laws_markText.f 20 x = some t) (j : Nat) : laws_markText.f (20 + j) x = some t := by
  induction j with
  | zero => exact h
  | succ j ih => exact laws_markText.mono _ _ _ ih
theorem marks : ∃ t, Marks t := by
  refine ⟨fun x => (laws_markText.f 20 x).getD ⟨#[]⟩, ?_⟩
  intro x k h0 hx hk
  obtain ⟨t, ht⟩ := markText_some x h0 hx
  obtain ⟨j, rfl⟩ : ∃ j, k = 20 + j := ⟨k - 20, by omega⟩
  rw [markText_up x t ht j]
  show _ = some ((laws_markText.f 20 x).getD ⟨#[]⟩)
  rw [ht]
  rfl

/-! ### containers -/
def mkC (t : Int → ByteArray) (a : Int) : S89 := ⟨t a, a + 1, a + 2, a + 3, a + 4⟩
def marksC (t : Int → ByteArray) (a : Int) : Nat → List S89
  | 0 => []
  | n + 1 => mkC t a :: marksC t (a + 5) n
theorem marksC_length (t : Int → ByteArray) (n : Nat) : ∀ a, (marksC t a n).length = n := by
  induction n with
  | zero => intro a; rfl
  | succ n ih => intro a; simp [marksC, ih]
theorem marksC_get (t : Int → ByteArray) (n : Nat) : ∀ (a : Int) (i : Nat), i < n → (marksC t a n).getD i z89 = mkC t (a + 5 * i) := by
  induction n with
  | zero => intro a i h; omega
  | succ n ih =>
    intro a i h
    cases i with
    | zero => simp [marksC]
    | succ i =>
      simp only [marksC, List.getD_cons_succ]
      rw [ih (a + 5) i (by omega)]
      congr 1
      omega
theorem marksC_snoc (t : Int → ByteArray) (n : Nat) : ∀ a, marksC t a (n + 1) = marksC t a n ++ [mkC t (a + 5 * n)] := by
  induction n with
  | zero => intro a; simp [marksC]
  | succ n ih =>
    intro a
    rw [marksC, ih (a + 5), marksC]
    simp only [List.cons_append, List.cons.injEq, true_and, List.append_cancel_left_eq, and_true]
    congr 1
    omega
theorem rd_set89 (l : List S89) (i : Nat) (v : S89) (h : i < l.length) : rd_T89 (l.set i v) (i : Int) = v := by
  rw [rdC61_nat, List.getD_eq_getElem?_getD, List.getElem?_set_self h]
  rfl
theorem five (a : Int) (n len : Nat) (ha : 0 ≤ a) (hn : n < len) (hx : a + 5 * (len : Int) ≤ 100000000) : 0 ≤ a + 5 * (n : Int) ∧ a + 5 * (n : Int) ≤ 1000000000000 ∧ wrap64 (a + 5 * (n : Int) + 1) = a + 5 * n + 1 ∧ wrap64 (a + 5 * (n : Int) + 1 + 1) = a + 5 * n + 2 ∧ wrap64 (a + 5 * (n : Int) + 2 + 1) = a + 5 * n + 3 ∧ wrap64 (a + 5 * (n : Int) + 3 + 1) = a + 5 * n + 4 ∧ wrap64 (a + 5 * (n : Int) + 4 + 1) = a + 5 * ((n + 1 : Nat) : Int) ∧ wrap64 ((n : Int) + 1) = ((n + 1 : Nat) : Int) := by
  refine ⟨by omega, by omega, w64 (by omega) (by omega), ?_, ?_, ?_, ?_, ?_⟩ <;> (rw [w64 (by omega) (by omega)]; omega)
theorem markContainerS_loop (t : Int → ByteArray) (ht : Marks t) (len : Nat) (a : Int) (ha : 0 ≤ a) (hx : a + 5 * len ≤ 100000000) (d : Nat) : ∀ (k n : Nat) (ys : List S89), n + d = len → d + 30 < k → ys.length = len → ys.take n = marksC t a n →
    laws_markContainerS.l0 k ys (a + 5 * n) (n : Int) = some (a + 5 * len, marksC t a len) := by
  induction d with
  | zero =>
    intro k n ys hn hk hl hy
    obtain ⟨k, rfl⟩ := kpos (d := 0) (k := k) (by omega)
    simp only [laws_markContainerS.l0]
    rw [if_neg (by omega), ← show n = len by omega, ← hy, List.take_of_length_le (by omega)]
  | succ d ih =>
    intro k n ys hn hk hl hy
    obtain ⟨k, rfl⟩ := kpos (d := 0) (k := k) (by omega)
    have hlt : n < ys.length := by omega
    have c1 : (n : Int) < (ys.length : Int) := by omega
    have c2 : 0 ≤ (n : Int) := by omega
    have b2 : 20 ≤ k := by omega
    have hnext : ∀ ys' : List S89, ys'.length = len → ys'.take (n + 1) = marksC t a (n + 1) → laws_markContainerS.l0 k ys' (a + 5 * ((n + 1 : Nat) : Int)) ((n + 1 : Nat) : Int) = some (a + 5 * len, marksC t a len) := fun ys' h1 h2 => ih k (n + 1) ys' (by omega) (by omega) h1 h2
    obtain ⟨b0, b1, e1, e2, e3, e4, e5, e6⟩ := five a n len ha (by omega) hx
    have hm := ht (a + 5 * (n : Int)) k b0 b1 b2
    clear ih ht hk b0 b1 b2 ha hx hn
    simp only [laws_markContainerS.l0, Int.toNat_natCast]
    rw [if_pos c1, hm]
    simp only [Option.bind_some]
    rw [if_pos c2]
    simp only [rd_set89 _ _ _ hlt, List.set_set]
    simp only [e1, e2, e3, e4, e5, e6]
    refine hnext _ (by rw [List.length_set]; exact hl) ?_
    rw [set_take _ hlt, hy, marksC_snoc]
    rfl
theorem markContainerS_ends (t : Int → ByteArray) (ht : Marks t) (cs : List S89) (a : Int) (ha : 0 ≤ a) (hx : a + 5 * cs.length ≤ 100000000) (k : Nat) (hk : cs.length + 30 < k) : laws_markContainerS.f k cs a = some (a + 5 * cs.length, marksC t a cs.length) := by
  unfold laws_markContainerS.f
  have := markContainerS_loop t ht cs.length a ha hx cs.length k 0 cs (by omega) (by omega) rfl rfl
  rw [show ((0 : Nat) : Int) = 0 from rfl, show a + 5 * (0 : Int) = a by omega] at this
  exact this
end Go.Proofs.Ytlldonokjgoajaa.X
