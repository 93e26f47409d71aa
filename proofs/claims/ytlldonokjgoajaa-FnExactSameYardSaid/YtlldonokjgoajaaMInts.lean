/- What the printed functions on lists of whole numbers come to: the copy, the comparison, marks written and read again. -/
import Derived.Test.YtlldonokjgoajaaMIntsL
import Derived.Test.YtlldonokjgoajaaMBase
import Derived.Test.YtlldonokjgoajaaFbHelpR
namespace Go.Proofs.Ytlldonokjgoajaa.X
open Go.RowKit Go.Proofs.YtlldonokjgoajaaW.PrintWords Go.Proofs.YtlldonokjgoajaaW.PrintLast
set_option linter.unusedVariables false
set_option linter.unusedSimpArgs false

theorem szIntS_ends (l : List Int) (a : Int) (h : l.length ≤ 9223372036854775807) (ha : 0 ≤ a) (ha2 : a ≤ 1048576) : laws_szIntS.f l a = some (if a - (l.length : Int) < 0 then -1 else a - (l.length : Int)) := by
  unfold laws_szIntS.f
  rw [w64 (by omega) (by omega)]
  split <;> rfl
theorem toIntS_loop (xs : List Int) (hx : xs.length ≤ 9223372036854775807) (d : Nat) : ∀ (k n : Nat) (ys : List Int), n ≤ xs.length → xs.length - n = d → d < k → ys.length = xs.length → ys.take n = (xs.take n).map id →
    laws_toIntS.l0 k xs ys (n : Int) = some (xs.map id) := by
  induction d with
  | zero =>
    intro k n ys hn hd hk hl hy
    obtain ⟨k, rfl⟩ := kpos hk
    simp only [laws_toIntS.l0]
    rw [if_neg (by omega), fill_end id hl (by omega) hy]
  | succ d ih =>
    intro k n ys hn hd hk hl hy
    obtain ⟨k, rfl⟩ := kpos hk
    have hlt : n < xs.length := by omega
    obtain ⟨e1, e2⟩ := fill_step (z := (0 : Int)) id hl hlt hy
    have hn1 := ih k (n + 1) _ (by omega) (by omega) (by omega) e2 e1
    simp only [laws_toIntS.l0]
    rw [if_pos (by omega), if_pos (by omega), if_pos (by omega), wnext hlt hx]
    exact hn1
theorem toIntS_ends (xs : List Int) (hx : xs.length ≤ 1048576) (k : Nat) (hk : xs.length < k) : laws_toIntS.f k xs = some xs := by
  unfold laws_toIntS.f
  rw [if_pos (by omega), if_pos (by omega)]
  have := toIntS_loop xs (by omega) xs.length k 0 (List.replicate (xs.length : Int).toNat 0) (by omega) (by omega) hk (by simp) (by simp)
  rw [List.map_id] at this
  exact this
theorem eqIntS_loop (xs ys : List Int) (hl : ys.length = xs.length) (hx : xs.length ≤ 9223372036854775807) (d : Nat) : ∀ (k n : Nat), n + d = xs.length → d < k → laws_eqIntS.l0 k xs ys (n : Int) = some (decide (xs.drop n = ys.drop n)) := by
  induction d with
  | zero =>
    intro k n hn hk
    obtain ⟨k, rfl⟩ := kpos hk
    simp only [laws_eqIntS.l0]
    rw [if_neg (by omega), List.drop_of_length_le (by omega), List.drop_of_length_le (by omega)]
    rfl
  | succ d ih =>
    intro k n hn hk
    obtain ⟨k, rfl⟩ := kpos hk
    have hlt : n < xs.length := by omega
    have hn1 := ih k (n + 1) (by omega) (by omega)
    simp only [laws_eqIntS.l0]
    rw [if_pos (by omega), if_pos (by omega), if_pos (by omega), wnext hlt hx, hn1, getD_cons (z := (0 : Int)) hlt, getD_cons (xs := ys) (n := n) (z := (0 : Int)) (by omega), rd_nat, rd_nat]
    by_cases h : xs.getD n 0 = ys.getD n 0
    · rw [if_pos h, dec_cons_pos h]
    · rw [if_neg h, dec_cons_neg h]
theorem eqIntS_ends (xs ys : List Int) (hx : xs.length ≤ 9223372036854775807) (k : Nat) (hk : xs.length < k) : laws_eqIntS.f k xs ys = some (decide (xs = ys)) := by
  unfold laws_eqIntS.f
  by_cases hl : (xs.length : Int) = (ys.length : Int)
  · rw [if_pos hl]
    have := eqIntS_loop xs ys (by omega) hx xs.length k 0 (by omega) hk
    simpa using this
  · rw [if_neg hl]
    have : ¬ xs = ys := fun h => hl (by rw [h])
    simp [this]
theorem eqIntS_refl (xs : List Int) (hx : xs.length ≤ 9223372036854775807) (k : Nat) (hk : xs.length < k) : laws_eqIntS.f k xs xs = some true := by
  rw [eqIntS_ends xs xs hx k hk]; simp
/-- a, a + 1, .. : so many numbers. -/
def upFrom (a : Int) : Nat → List Int
  | 0 => []
  | n + 1 => a :: upFrom (a + 1) n
theorem upFrom_length (n : Nat) : ∀ a, (upFrom a n).length = n := by
  induction n with
  | zero => intro a; rfl
  | succ n ih => intro a; simp [upFrom, ih]
theorem upFrom_get (n : Nat) : ∀ (a : Int) (j : Nat), j < n → (upFrom a n).getD j 0 = a + j := by
  induction n with
  | zero => intro a j h; omega
  | succ n ih =>
    intro a j h
    cases j with
    | zero => simp [upFrom]
    | succ j =>
      have := ih (a + 1) j (by omega)
      simp only [upFrom, List.getD_cons_succ, this]
      omega
theorem upFrom_snoc (n : Nat) : ∀ a, upFrom a (n + 1) = upFrom a n ++ [a + n] := by
  induction n with
  | zero => intro a; simp [upFrom]
  | succ n ih =>
    intro a
    rw [upFrom, ih (a + 1)]
    simp only [upFrom, List.cons_append]
    congr 3
    omega
theorem markIntS_loop (len : Nat) (a : Int) (ha : 0 ≤ a) (hx : a + len ≤ 9223372036854775806) (d : Nat) : ∀ (k n : Nat) (ys : List Int), n + d = len → d < k → ys.length = len → ys.take n = upFrom a n →
    laws_markIntS.l0 k ys (a + n) (n : Int) = some (a + len, upFrom a len) := by
  induction d with
  | zero =>
    intro k n ys hn hk hl hy
    obtain ⟨k, rfl⟩ := kpos hk
    simp only [laws_markIntS.l0]
    have e : n = len := by omega
    subst e
    rw [if_neg (by omega), ← hy, List.take_of_length_le (by omega)]
  | succ d ih =>
    intro k n ys hn hk hl hy
    obtain ⟨k, rfl⟩ := kpos hk
    have hlt : n < ys.length := by omega
    have hn1 := ih k (n + 1) (ys.set n (a + n)) (by omega) (by omega) (by simpa using hl) (by rw [set_take _ hlt, hy, upFrom_snoc])
    simp only [laws_markIntS.l0]
    rw [if_pos (by omega), if_pos (by omega), wnext (m := len) (by omega) (by omega), w64 (x := a + n + 1) (by omega) (by omega)]
    rw [show a + ((n + 1 : Nat) : Int) = a + n + 1 by omega] at hn1
    exact hn1
theorem markIntS_ends (xs : List Int) (a : Int) (ha : 0 ≤ a) (hx : a + xs.length ≤ 9223372036854775806) (k : Nat) (hk : xs.length < k) : laws_markIntS.f k xs a = some (a + xs.length, upFrom a xs.length) := by
  unfold laws_markIntS.f
  have := markIntS_loop xs.length a ha hx xs.length k 0 xs (by omega) hk rfl rfl
  simpa using this
theorem heldIntS_loop (len : Nat) (a : Int) (ha : 0 ≤ a) (hx : a + len ≤ 9223372036854775806) (d : Nat) : ∀ (k n : Nat), n + d = len → d < k →
    laws_heldIntS.l0 k (upFrom a len) (a + n) (n : Int) = some (a + len) := by
  induction d with
  | zero =>
    intro k n hn hk
    obtain ⟨k, rfl⟩ := kpos hk
    simp only [laws_heldIntS.l0]
    have e : n = len := by omega
    subst e
    rw [if_neg (by rw [upFrom_length]; omega)]
  | succ d ih =>
    intro k n hn hk
    obtain ⟨k, rfl⟩ := kpos hk
    have hn1 := ih k (n + 1) (by omega) (by omega)
    simp only [laws_heldIntS.l0]
    rw [if_pos (by rw [upFrom_length]; omega), if_pos (by omega), rd_nat, upFrom_get _ _ _ (by omega), if_pos rfl, wnext (m := len) (by omega) (by omega), w64 (x := a + n + 1) (by omega) (by omega)]
    rw [show a + ((n + 1 : Nat) : Int) = a + n + 1 by omega] at hn1
    exact hn1
theorem heldIntS_ends (len : Nat) (a : Int) (ha : 0 ≤ a) (hx : a + len ≤ 9223372036854775806) (k : Nat) (hk : len < k) : laws_heldIntS.f k (upFrom a len) a = some (a + len) := by
  unfold laws_heldIntS.f
  have := heldIntS_loop len a ha hx len k 0 (by omega) hk
  simpa using this
end Go.Proofs.Ytlldonokjgoajaa.X
