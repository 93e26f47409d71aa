/- What the laws' marks on lists of strings come to: what was marked reads back; a list is equal to itself. -/
import Derived.Test.YthijmjdjnihggaaMContM
import Derived.Test.YthijmjdjnihggaaFbHelpT
namespace Go.Proofs.Ythijmjdjnihggaa.X
open Go.RowKit Go.Proofs.YthijmjdjnihggaaW.PrintWords Go.Proofs.YthijmjdjnihggaaW.PrintLast
set_option linter.unusedVariables false
set_option linter.unusedSimpArgs false

theorem rdOf_nat (xs : List ByteArray) (n : Nat) : rdOf ByteArray.empty xs (n : Int) = xs.getD n ByteArray.empty := rfl
def marksT (t : Int → ByteArray) (a : Int) : Nat → List ByteArray
  | 0 => []
  | n + 1 => t a :: marksT t (a + 1) n
theorem marksT_length (t : Int → ByteArray) (n : Nat) : ∀ a, (marksT t a n).length = n := by
  induction n with
  | zero => intro a; rfl
  | succ n ih => intro a; simp [marksT, ih]
theorem marksT_get (t : Int → ByteArray) (n : Nat) (z : ByteArray) : ∀ (a : Int) (i : Nat), i < n → (marksT t a n).getD i z = t (a + i) := by
  induction n with
  | zero => intro a i h; omega
  | succ n ih =>
    intro a i h
    cases i with
    | zero => simp [marksT]
    | succ i =>
      simp only [marksT, List.getD_cons_succ]
      rw [ih (a + 1) i (by omega)]
      congr 1
      omega
theorem marksT_snoc (t : Int → ByteArray) (n : Nat) : ∀ a, marksT t a (n + 1) = marksT t a n ++ [t (a + n)] := by
  induction n with
  | zero => intro a; simp [marksT]
  | succ n ih =>
    intro a
    rw [marksT, ih (a + 1), marksT]
    simp only [List.cons_append, List.cons.injEq, true_and, List.append_cancel_left_eq, and_true]
    congr 1
    omega
theorem one (a : Int) (n len : Nat) (ha : 0 ≤ a) (hn : n < len) (hx : a + (len : Int) ≤ 100000000) : 0 ≤ a + (n : Int) ∧ a + (n : Int) ≤ 1000000000000 ∧ wrap64 (a + (n : Int) + 1) = a + ((n + 1 : Nat) : Int) ∧ wrap64 ((n : Int) + 1) = ((n + 1 : Nat) : Int) := by
  refine ⟨by omega, by omega, ?_, ?_⟩ <;> (rw [w64 (by omega) (by omega)]; omega)
theorem markStringS_loop (t : Int → ByteArray) (ht : Marks t) (len : Nat) (a : Int) (ha : 0 ≤ a) (hx : a + (len : Int) ≤ 100000000) (d : Nat) : ∀ (k n : Nat) (ys : List ByteArray), n + d = len → d + 30 < k → ys.length = len → ys.take n = marksT t a n →
    laws_markStringS.l0 k ys (a + n) (n : Int) = some (a + len, marksT t a len) := by
  induction d with
  | zero =>
    intro k n ys hn hk hl hy
    obtain ⟨k, rfl⟩ := kpos (d := 0) (k := k) (by omega)
    simp only [laws_markStringS.l0]
    rw [if_neg (by omega), ← show n = len by omega, ← hy, List.take_of_length_le (by omega)]
  | succ d ih =>
    intro k n ys hn hk hl hy
    obtain ⟨k, rfl⟩ := kpos (d := 0) (k := k) (by omega)
    have hlt : n < ys.length := by omega
    have c1 : (n : Int) < (ys.length : Int) := by omega
    have c2 : 0 ≤ (n : Int) := by omega
    have b2 : 20 ≤ k := by omega
    have hnext : ∀ ys' : List ByteArray, ys'.length = len → ys'.take (n + 1) = marksT t a (n + 1) → laws_markStringS.l0 k ys' (a + ((n + 1 : Nat) : Int)) ((n + 1 : Nat) : Int) = some (a + len, marksT t a len) := fun ys' h1 h2 => ih k (n + 1) ys' (by omega) (by omega) h1 h2
    obtain ⟨b0, b1, e1, e2⟩ := one a n len ha (by omega) hx
    have hm := ht (a + (n : Int)) k b0 b1 b2
    clear ih ht hk b0 b1 b2 ha hx hn
    simp only [laws_markStringS.l0, Int.toNat_natCast]
    rw [if_pos c1, hm]
    simp only [Option.bind_some]
    rw [if_pos c2]
    simp only [e1, e2]
    refine hnext _ (by rw [List.length_set]; exact hl) ?_
    rw [set_take _ hlt, hy, marksT_snoc]
theorem markStringS_ends (t : Int → ByteArray) (ht : Marks t) (cs : List ByteArray) (a : Int) (ha : 0 ≤ a) (hx : a + cs.length ≤ 100000000) (k : Nat) (hk : cs.length + 30 < k) : laws_markStringS.f k cs a = some (a + cs.length, marksT t a cs.length) := by
  unfold laws_markStringS.f
  have := markStringS_loop t ht cs.length a ha hx cs.length k 0 cs (by omega) (by omega) rfl rfl
  rw [show ((0 : Nat) : Int) = 0 from rfl, Int.add_zero] at this
  exact this
theorem heldStringS_loop (t : Int → ByteArray) (ht : Marks t) (len : Nat) (a : Int) (ha : 0 ≤ a) (hx : a + (len : Int) ≤ 100000000) (d : Nat) : ∀ (k n : Nat), n + d = len → d + 30 < k →
    laws_heldStringS.l0 k (marksT t a len) (a + n) (n : Int) = some (a + len) := by
  induction d with
  | zero =>
    intro k n hn hk
    obtain ⟨k, rfl⟩ := kpos (d := 0) (k := k) (by omega)
    simp only [laws_heldStringS.l0]
    rw [marksT_length, if_neg (by omega), show n = len by omega]
  | succ d ih =>
    intro k n hn hk
    obtain ⟨k, rfl⟩ := kpos (d := 0) (k := k) (by omega)
    have hlt : n < len := by omega
    have c1 : (n : Int) < (len : Int) := by omega
    have c2 : 0 ≤ (n : Int) := by omega
    have b2 : 20 ≤ k := by omega
    have hnext := ih k (n + 1) (by omega) (by omega)
    obtain ⟨b0, b1, e1, e2⟩ := one a n len ha (by omega) hx
    have hm := ht (a + (n : Int)) k b0 b1 b2
    clear ih ht hk b0 b1 b2 ha hx hn
    simp only [laws_heldStringS.l0, e1, e2]
    rw [marksT_length, if_pos c1, if_pos c2, hm]
    simp only [Option.bind_some, rdOf_nat, marksT_get t len _ a n hlt, if_true]
    exact hnext
theorem heldStringS_ends (t : Int → ByteArray) (ht : Marks t) (len : Nat) (a : Int) (ha : 0 ≤ a) (hx : a + (len : Int) ≤ 100000000) (k : Nat) (hk : len + 30 < k) : laws_heldStringS.f k (marksT t a len) a = some (a + len) := by
  unfold laws_heldStringS.f
  have := heldStringS_loop t ht len a ha hx len k 0 (by omega) (by omega)
  rw [show ((0 : Nat) : Int) = 0 from rfl, Int.add_zero] at this
  exact this
theorem eqStringS_loop (ss : List ByteArray) (hx : ss.length ≤ 1048576) (d : Nat) : ∀ (k n : Nat), n + d = ss.length → d < k → laws_eqStringS.l0 k ss ss (n : Int) = some true := by
  induction d with
  | zero =>
    intro k n hn hk
    obtain ⟨k, rfl⟩ := kpos hk
    simp only [laws_eqStringS.l0]
    rw [if_neg (by omega)]
  | succ d ih =>
    intro k n hn hk
    obtain ⟨k, rfl⟩ := kpos hk
    have hlt : n < ss.length := by omega
    simp only [laws_eqStringS.l0, if_true, Option.bind_some]
    rw [if_pos (by omega), if_pos (by omega), if_pos (by omega), wnext hlt (by omega)]
    exact ih k (n + 1) (by omega) (by omega)
theorem eqStringS_refl (ss : List ByteArray) (hx : ss.length ≤ 1048576) (k : Nat) (hk : 1048577 ≤ k) : laws_eqStringS.f k ss ss = some true := by
  unfold laws_eqStringS.f
  rw [if_pos rfl]
  exact eqStringS_loop ss hx ss.length k 0 (by omega) (by omega)
end Go.Proofs.Ythijmjdjnihggaa.X
