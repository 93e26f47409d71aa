/- What BestLoading comes to: of the calls at the one port, the first from which the way to the other is shortest. -/
import Derived.Test.YtlldonokjgoajaaMWays
import Derived.Test.YtlldonokjgoajaaFspecBestLoading
import Derived.Test.YtlldonokjgoajaaFimplBestLoading
namespace Go.Proofs.Ytlldonokjgoajaa.X
open Go.RowKit Go.Proofs.YtlldonokjgoajaaW.PrintWords Go.Proofs.YtlldonokjgoajaaW.PrintLast
set_option linter.unusedVariables false
set_option linter.unusedSimpArgs false
/-- The search for the best call, d calls being left, the i-th at hand, b the best one so far (-1: none), with l days. -/
def bestFrom (ps ds : List Int) (p q : Int) : Nat → Nat → Int → Int → Int × Int × Bool
  | 0, _, b, l => if b < 0 then (0, 0, false) else (b, l, true)
  | d + 1, i, b, l =>
    if ps.getD i 0 = p then
      (if b < 0 then bestFrom ps ds p q d (i + 1) (i : Int) (daysW ps ds i (nextW ps i q).toNat)
       else if daysW ps ds i (nextW ps i q).toNat < l then bestFrom ps ds p q d (i + 1) (i : Int) (daysW ps ds i (nextW ps i q).toNat) else bestFrom ps ds p q d (i + 1) b l)
    else bestFrom ps ds p q d (i + 1) b l
theorem nextW_all (ps : List Int) (hn : 0 < ps.length) (q : Int) (h : ¬ nextW ps 0 q = -1) (i : Nat) (hi : i < ps.length) : ∃ t : Nat, nextW ps i q = (t : Int) ∧ t < ps.length := by
  rcases nextW_range ps hn q i with e | ⟨t, e, ht, _⟩
  · rcases nextW_range ps hn q 0 with e0 | ⟨t, _, ht, hq⟩
    · exact absurd e0 h
    · exact absurd hq (nextW_none ps q i hi e t ht)
  · exact ⟨t, e, ht⟩
theorem best_loop (ps ds : List Int) (hg : goodR ps ds = true) (p q : Int) (hq : ¬ nextW ps 0 q = -1) (d : Nat) : ∀ (k k' i : Nat) (b l : Int), i + d = ps.length → d + 14 < k → 2 * d + 14 < k' →
    spec_BestLoading.l0 k p q b l (i : Int) ps ds = some (bestFrom ps ds p q d i b l) ∧ impl_BestLoading.l0 k' p q b l ps (ps.length : Int) (i : Int) ps ds = some (bestFrom ps ds p q d i b l) := by
  obtain ⟨h1, h2, h3⟩ := goodR_len hg
  induction d with
  | zero =>
    intro k k' i b l hi hk hk'
    obtain ⟨k, rfl⟩ := kpos hk
    obtain ⟨k', rfl⟩ := kpos hk'
    have c : ¬ (i : Int) < (ps.length : Int) := by omega
    simp only [spec_BestLoading.l0, impl_BestLoading.l0, if_neg c, bestFrom]
    split <;> exact ⟨rfl, rfl⟩
  | succ d ih =>
    intro k k' i b l hi hk hk'
    obtain ⟨k, rfl⟩ := kpos hk
    obtain ⟨k', rfl⟩ : ∃ m, k' = m + 2 := ⟨k' - 2, by omega⟩
    have c : (i : Int) < (ps.length : Int) := by omega
    have c0 : 0 ≤ (i : Int) := by omega
    obtain ⟨t, et, ht⟩ := nextW_all ps (by omega) q hq i (by omega)
    obtain ⟨n1, _⟩ := next_ends ps ds hg q i (by omega) k (by omega)
    obtain ⟨_, n2⟩ := next_ends ps ds hg q i (by omega) (k' + 1) (by omega)
    obtain ⟨d1, _⟩ := days_ends ps ds hg i t (by omega) ht k (by omega)
    obtain ⟨_, d2⟩ := days_ends ps ds hg i t (by omega) ht k' (by omega)
    have ec : ¬ (t : Int) < 0 := by omega
    rw [show k' + 2 = (k' + 1) + 1 from rfl]
    simp only [spec_BestLoading.l0, impl_BestLoading.l0, impl_BestLoading.j2, if_pos c, if_pos c0, rd_nat, n1, n2, et, Option.bind_some, d1, d2, bestFrom, Int.toNat_natCast, wnext (show i < 13 by omega) (by omega), ec, decide_false, Bool.false_eq_true, if_false, if_true]
    obtain ⟨a1, a2⟩ := ih k k' (i + 1) b l (by omega) (by omega) (by omega)
    obtain ⟨b1, b2⟩ := ih k k' (i + 1) (i : Int) (daysW ps ds i t) (by omega) (by omega) (by omega)
    obtain ⟨_, a3⟩ := ih k k' (i + 1) b l (by omega) (by omega) (by omega)
    by_cases hp : ps.getD i 0 = p
    · simp only [if_pos hp]
      by_cases hb : b < 0
      · simp only [if_pos hb]; exact ⟨b1, b2⟩
      · simp only [if_neg hb]
        by_cases hl : daysW ps ds i t < l
        · simp only [if_pos hl]; exact ⟨b1, b2⟩
        · simp only [if_neg hl]; exact ⟨a1, a2⟩
    · simp only [if_neg hp]; exact ⟨a1, a2⟩
theorem best_none (ps ds : List Int) (hg : goodR ps ds = true) (p q : Int) (hq : nextW ps 0 q = -1) (d : Nat) : ∀ (k i : Nat), i + d = ps.length → 2 * d + 14 < k →
    impl_BestLoading.l0 k p q (-1) 0 ps (ps.length : Int) (i : Int) ps ds = some (0, 0, false) := by
  obtain ⟨h1, h2, h3⟩ := goodR_len hg
  induction d with
  | zero =>
    intro k i hi hk
    obtain ⟨k, rfl⟩ := kpos hk
    have c : ¬ (i : Int) < (ps.length : Int) := by omega
    simp only [impl_BestLoading.l0, if_neg c]
    rfl
  | succ d ih =>
    intro k i hi hk
    obtain ⟨k, rfl⟩ : ∃ m, k = m + 2 := ⟨k - 2, by omega⟩
    have c : (i : Int) < (ps.length : Int) := by omega
    have c0 : 0 ≤ (i : Int) := by omega
    have et : nextW ps i q = -1 := by
      rcases nextW_range ps (by omega) q i with e | ⟨t, _, ht, h⟩
      · exact e
      · exact absurd h (nextW_none ps q 0 (by omega) hq t ht)
    obtain ⟨_, n2⟩ := next_ends ps ds hg q i (by omega) (k + 1) (by omega)
    have a1 := ih k (i + 1) (by omega) (by omega)
    rw [show k + 2 = (k + 1) + 1 from rfl]
    simp only [impl_BestLoading.l0, impl_BestLoading.j2, if_pos c, if_pos c0, rd_nat, n2, et, Option.bind_some, wnext (show i < 13 by omega) (by omega)]
    split <;> simpa using a1
/-- The best loading call, and the days from there. -/
def bestW (ps ds : List Int) (p q : Int) : Int × Int × Bool :=
  if goodR ps ds = true ∧ ¬ p = q ∧ ¬ nextW ps 0 q = -1 then bestFrom ps ds p q ps.length 0 (-1) 0 else (0, 0, false)
theorem best_ends (ps ds : List Int) (p q : Int) (k : Nat) (hk : 50 ≤ k) : spec_BestLoading.f k ps ds p q = some (bestW ps ds p q) ∧ impl_BestLoading.f k ps ds p q = some (bestW ps ds p q) := by
  obtain ⟨k, rfl⟩ : ∃ m, k = m + 1 := ⟨k - 1, by omega⟩
  unfold spec_BestLoading.f impl_BestLoading.f bestW
  rw [spec_goodR _ _ _ (by omega), impl_goodR _ _ _ (by omega)]
  simp only [Option.bind_some]
  by_cases hg : goodR ps ds = true
  · obtain ⟨h1, h2, h3⟩ := goodR_len hg
    obtain ⟨n1, _⟩ := next_ends ps ds hg q 0 (by omega) (k + 1) (by omega)
    have n1' : spec_l3Next.f (k + 1) ps ds 0 q = some (nextW ps 0 q) := n1
    simp only [hg, if_true, true_and]
    by_cases e : p = q
    · simp [e, spec_BestLoading.j0, impl_BestLoading.j0]
    · have eb : (p == q) = false := by simpa using e
      simp only [if_neg e, n1', Option.bind_some, eb, spec_BestLoading.j0, impl_BestLoading.j0, Bool.false_eq_true, if_false, e, not_false_eq_true, true_and]
      by_cases hq : nextW ps 0 q = -1
      · have := best_none ps ds hg p q hq ps.length k 0 (by omega) (by omega)
        simp only [hq]
        exact ⟨rfl, this⟩
      · obtain ⟨t, et, ht⟩ := nextW_all ps (by omega) q hq 0 (by omega)
        have c : ¬ nextW ps 0 q < 0 := by omega
        have := best_loop ps ds hg p q hq ps.length k k 0 (-1) 0 (by omega) (by omega) (by omega)
        simp only [c, decide_false, Bool.false_eq_true, if_false, hq, not_false_eq_true, if_true]
        exact this
  · simp [hg, spec_BestLoading.j0, impl_BestLoading.j0]
theorem best_both (ps ds : List Int) (p q : Int) (k : Nat) (hk : 50 ≤ k) : ∃ r, spec_BestLoading.f k ps ds p q = some r ∧ impl_BestLoading.f k ps ds p q = some r := ⟨_, best_ends ps ds p q k hk⟩
end Go.Proofs.Ytlldonokjgoajaa.X
