/- What the printed functions on the way between calls come to: the days from a call to another, the next call at a port. -/
import Derived.Test.YtlldonokjgoajaaMRot
import Derived.Test.YtlldonokjgoajaaMInts
namespace Go.Proofs.Ytlldonokjgoajaa.X
open Go.RowKit Go.Proofs.YtlldonokjgoajaaW.PrintWords Go.Proofs.YtlldonokjgoajaaW.PrintLast
set_option linter.unusedVariables false
set_option linter.unusedSimpArgs false

/-- The days of d steps from call i on. -/
def daysM (ds : List Int) (n : Nat) : Nat → Nat → Int
  | 0, _ => 0
  | d + 1, i => ds.getD i 0 + daysM ds n d ((i + 1) % n)
theorem mod_step {n i d t : Nat} (h : (i + (d + 1)) % n = t) : ((i + 1) % n + d) % n = t := by
  rw [Nat.mod_add_mod, ← h]
  congr 1
  omega
theorem mod_ne {n i d t : Nat} (hi : i < n) (hd : d + 1 < n) (h : (i + (d + 1)) % n = t) : ¬ i = t := by
  intro e
  subst e
  by_cases h1 : i + (d + 1) < n
  · rw [Nat.mod_eq_of_lt h1] at h; omega
  · rw [Nat.mod_eq_sub_mod (by omega), Nat.mod_eq_of_lt (by omega)] at h; omega
theorem days_loop (ps ds : List Int) (hg : goodR ps ds = true) (t : Nat) (d : Nat) : ∀ (k i : Nat) (a : Int), i < ps.length → (i + d) % ps.length = t → d < ps.length → d < k → 0 ≤ a → a ≤ 40 * (12 - d) →
    spec_l3Days.l0 k (i : Int) (t : Int) a ps ds = some (a + daysM ds ps.length d i) ∧ impl_daysBetween.l0 k (i : Int) (t : Int) a ps ds = some (a + daysM ds ps.length d i) := by
  obtain ⟨h1, h2, h3⟩ := goodR_len hg
  induction d with
  | zero =>
    intro k i a hi ht hd hk h0 ha
    obtain ⟨k, rfl⟩ := kpos hk
    rw [Nat.add_zero, Nat.mod_eq_of_lt hi] at ht
    subst ht
    simp only [spec_l3Days.l0, impl_daysBetween.l0, if_true, daysM, Int.add_zero, and_self]
  | succ d ih =>
    intro k i a hi ht hd hk h0 ha
    obtain ⟨k, rfl⟩ := kpos hk
    have hr := goodR_at hg i hi
    have hm : (i + 1) % ps.length < ps.length := Nat.mod_lt _ (by omega)
    obtain ⟨i1, i2⟩ := ih k ((i + 1) % ps.length) (a + ds.getD i 0) hm (mod_step ht) (by omega) (by omega) (by omega) (by omega)
    have c1 : ¬ (i : Int) = (t : Int) := fun e => mod_ne hi hd ht (by omega)
    have c2 : 0 ≤ (i : Int) := by omega
    have c3 : (i : Int) < (ds.length : Int) := by omega
    have c4 : ¬ (ds.length : Int) = 0 := by omega
    have c5 : ¬ (ps.length : Int) = 0 := by omega
    simp only [spec_l3Days.l0, impl_daysBetween.l0, if_neg c1, if_pos c2, if_pos c3, if_neg c4, if_neg c5, daysM, ← Int.add_assoc, rd_nat]
    rw [wnext (m := 13) (by omega) (by omega), w64 (x := a + ds.getD i 0) (by omega) (by omega), h3, tmod_nat]
    exact ⟨i1, i2⟩
/-- The days from call i to call t. -/
def daysW (ps ds : List Int) (i t : Nat) : Int := daysM ds ps.length ((t + ps.length - i) % ps.length) i
theorem gap_mod {n i t : Nat} (hi : i < n) (ht : t < n) : (i + (t + n - i) % n) % n = t := by
  by_cases h : t + n - i < n
  · rw [Nat.mod_eq_of_lt h, show i + (t + n - i) = t + n by omega, Nat.add_mod_right, Nat.mod_eq_of_lt ht]
  · have e : (t + n - i) % n = t - i := by rw [show t + n - i = (t - i) + n by omega, Nat.add_mod_right, Nat.mod_eq_of_lt (by omega)]
    rw [e, show i + (t - i) = t by omega, Nat.mod_eq_of_lt ht]
theorem days_ends (ps ds : List Int) (hg : goodR ps ds = true) (i t : Nat) (hi : i < ps.length) (ht : t < ps.length) (k : Nat) (hk : 13 ≤ k) :
    spec_l3Days.f k ps ds (i : Int) (t : Int) = some (daysW ps ds i t) ∧ impl_daysBetween.f k ps ds (i : Int) (t : Int) = some (daysW ps ds i t) := by
  obtain ⟨h1, h2, h3⟩ := goodR_len hg
  have hm : (t + ps.length - i) % ps.length < ps.length := Nat.mod_lt _ (by omega)
  have := days_loop ps ds hg t ((t + ps.length - i) % ps.length) k i 0 hi (gap_mod hi ht) hm (by omega) (by omega) (by omega)
  unfold spec_l3Days.f impl_daysBetween.f daysW
  simpa using this

/-- The next call at a port, so many calls being asked, from the j-th behind call i on; -1 if there is none. -/
def nextFrom (ps : List Int) (p : Int) (i : Nat) : Nat → Nat → Int
  | 0, _ => -1
  | d + 1, j => if ps.getD ((i + j) % ps.length) 0 = p then (((i + j) % ps.length : Nat) : Int) else nextFrom ps p i d (j + 1)
def nextW (ps : List Int) (i : Nat) (p : Int) : Int := nextFrom ps p i ps.length 0
theorem next_loop (ps ds : List Int) (h12 : ps.length ≤ 12) (p : Int) (i : Nat) (hi : i < ps.length) (d : Nat) : ∀ (k j : Nat), j + d = ps.length → d < k →
    spec_l3Next.l0 k (i : Int) p (j : Int) ps ds = some (nextFrom ps p i d j) ∧ impl_nextCall.l0 k (i : Int) p (ps.length : Int) (ps.length : Int) (j : Int) ps ds = some (nextFrom ps p i d j) := by
  induction d with
  | zero =>
    intro k j hj hk
    obtain ⟨k, rfl⟩ := kpos hk
    have c : ¬ (j : Int) < (ps.length : Int) := by omega
    simp only [spec_l3Next.l0, impl_nextCall.l0, if_neg c, nextFrom, and_self]
  | succ d ih =>
    intro k j hj hk
    obtain ⟨k, rfl⟩ := kpos hk
    obtain ⟨i1, i2⟩ := ih k (j + 1) (by omega) (by omega)
    have c : (j : Int) < (ps.length : Int) := by omega
    have c4 : ¬ (ps.length : Int) = 0 := by omega
    have hm : (i + j) % ps.length < ps.length := Nat.mod_lt _ (by omega)
    have c5 : 0 ≤ (((i + j) % ps.length : Nat) : Int) := by omega
    have c6 : (((i + j) % ps.length : Nat) : Int) < (ps.length : Int) := by omega
    have ew : wrap64 ((i : Int) + (j : Int)) = ((i + j : Nat) : Int) := by rw [w64 (by omega) (by omega)]; omega
    simp only [spec_l3Next.l0, impl_nextCall.l0, if_pos c, if_neg c4, ew, tmod_nat, if_pos c5, if_pos c6, rd_nat, nextFrom, wnext (show j < 13 by omega) (by omega), i1, i2]
    split <;> exact ⟨rfl, rfl⟩
theorem next_ends (ps ds : List Int) (hg : goodR ps ds = true) (p : Int) (i : Nat) (hi : i < ps.length) (k : Nat) (hk : 13 ≤ k) :
    spec_l3Next.f k ps ds (i : Int) p = some (nextW ps i p) ∧ impl_nextCall.f k ps ds (i : Int) p = some (nextW ps i p) := by
  obtain ⟨h1, h2, h3⟩ := goodR_len hg
  have := next_loop ps ds h2 p i hi ps.length k 0 (by omega) (by omega)
  unfold spec_l3Next.f impl_nextCall.f nextW
  simpa using this
theorem nextFrom_range (ps : List Int) (hn : 0 < ps.length) (p : Int) (i : Nat) (d : Nat) : ∀ j, nextFrom ps p i d j = -1 ∨ ∃ t : Nat, nextFrom ps p i d j = (t : Int) ∧ t < ps.length ∧ ps.getD t 0 = p := by
  induction d with
  | zero => intro j; exact .inl rfl
  | succ d ih =>
    intro j
    simp only [nextFrom]
    split
    · rename_i h
      exact .inr ⟨_, rfl, Nat.mod_lt _ hn, h⟩
    · exact ih (j + 1)
theorem nextW_range (ps : List Int) (hn : 0 < ps.length) (p : Int) (i : Nat) : nextW ps i p = -1 ∨ ∃ t : Nat, nextW ps i p = (t : Int) ∧ t < ps.length ∧ ps.getD t 0 = p := nextFrom_range ps hn p i ps.length 0
theorem nextFrom_none (ps : List Int) (p : Int) (i : Nat) (d : Nat) : ∀ j, nextFrom ps p i d j = -1 → ∀ q, j ≤ q → q < j + d → ¬ ps.getD ((i + q) % ps.length) 0 = p := by
  induction d with
  | zero => intro j _ q h1 h2; omega
  | succ d ih =>
    intro j h q h1 h2
    simp only [nextFrom] at h
    split at h
    · exfalso; omega
    · rename_i hne
      by_cases e : q = j
      · rw [e]; exact hne
      · exact ih (j + 1) h q (by omega) (by omega)
/-- There is no call at the port at all. -/
theorem nextW_none (ps : List Int) (p : Int) (i : Nat) (hi : i < ps.length) (h : nextW ps i p = -1) (t : Nat) (ht : t < ps.length) : ¬ ps.getD t 0 = p := by
  have := nextFrom_none ps p i ps.length 0 h ((t + ps.length - i) % ps.length) (by omega) (by have := Nat.mod_lt (t + ps.length - i) (show 0 < ps.length by omega); omega)
  rw [gap_mod hi ht] at this
  exact this
end Go.Proofs.Ytlldonokjgoajaa.X
