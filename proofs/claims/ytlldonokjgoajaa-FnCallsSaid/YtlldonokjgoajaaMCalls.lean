/- Three facts on rotations: both ways between two calls make a round voyage; no loading call is better than the best one; the ports ahead are those with a next call. -/
import Derived.Test.YtlldonokjgoajaaMWays
import Derived.Test.YtlldonokjgoajaaMCycle
import Derived.Test.YtlldonokjgoajaaMBest
import Derived.Test.YtlldonokjgoajaaMAhead
namespace Go.Proofs.Ytlldonokjgoajaa.X
open Go.RowKit Go.Proofs.YtlldonokjgoajaaW.PrintWords Go.Proofs.YtlldonokjgoajaaW.PrintLast
set_option linter.unusedVariables false
set_option linter.unusedSimpArgs false
theorem sumI_app : ∀ (a b : List Int), sumI (a ++ b) = sumI a + sumI b
  | [], b => by simp [sumI]
  | x :: a, b => by simp only [List.cons_append, sumI, sumI_app a b]; omega
theorem daysM_add (ds : List Int) (n : Nat) (a : Nat) : ∀ (b i : Nat), i < n → daysM ds n (a + b) i = daysM ds n a i + daysM ds n b ((i + a) % n) := by
  induction a with
  | zero => intro b i hi; rw [Nat.zero_add, Nat.add_zero, Nat.mod_eq_of_lt hi]; simp [daysM]
  | succ a ih =>
    intro b i hi
    have hm : (i + 1) % n < n := Nat.mod_lt _ (by omega)
    rw [show a + 1 + b = (a + b) + 1 by omega, daysM, daysM, ih b _ hm, Nat.mod_add_mod, show i + 1 + a = i + (a + 1) by omega]
    omega
theorem daysM_line (ds : List Int) (d : Nat) : ∀ i : Nat, i + d ≤ ds.length → i < ds.length → daysM ds ds.length d i = sumI ((ds.drop i).take d) := by
  induction d with
  | zero => intro i _ _; simp [daysM, sumI]
  | succ d ih =>
    intro i h hi
    rw [daysM, getD_cons (z := (0 : Int)) hi, List.take_succ_cons, sumI]
    by_cases h1 : i + 1 < ds.length
    · rw [Nat.mod_eq_of_lt h1, ih (i + 1) (by omega) h1]
    · have hd : d = 0 := by omega
      subst hd
      simp [daysM, sumI]
theorem daysM_all (ds : List Int) (i : Nat) (hi : i < ds.length) : daysM ds ds.length ds.length i = sumI ds := by
  obtain ⟨e, he⟩ : ∃ e, ds.length = e := ⟨_, rfl⟩
  have h := daysM_add ds ds.length (ds.length - i) i i hi
  rw [show ds.length - i + i = ds.length by omega, show i + (ds.length - i) = ds.length by omega, Nat.mod_self] at h
  rw [h, daysM_line ds _ i (by omega) hi, daysM_line ds i 0 (by omega) (by omega), List.drop_zero, List.take_of_length_le (by rw [List.length_drop]; omega), Int.add_comm, ← sumI_app, List.take_append_drop]
/-- There and back again is a round voyage. -/
theorem days_round (ps ds : List Int) (hl : ds.length = ps.length) (i t : Nat) (hi : i < ps.length) (ht : t < ps.length) (hne : i ≠ t) : daysW ps ds i t + daysW ps ds t i = sumI ds := by
  have hs : (t + ps.length - i) % ps.length + (i + ps.length - t) % ps.length = ps.length := by
    by_cases h : i < t
    · rw [show t + ps.length - i = (t - i) + ps.length by omega, Nat.add_mod_right, Nat.mod_eq_of_lt (show t - i < ps.length by omega), Nat.mod_eq_of_lt (show i + ps.length - t < ps.length by omega)]
      omega
    · rw [show i + ps.length - t = (i - t) + ps.length by omega, Nat.add_mod_right, Nat.mod_eq_of_lt (show i - t < ps.length by omega), Nat.mod_eq_of_lt (show t + ps.length - i < ps.length by omega)]
      omega
  have h := daysM_add ds ps.length ((t + ps.length - i) % ps.length) ((i + ps.length - t) % ps.length) i hi
  rw [gap_mod hi ht, hs] at h
  unfold daysW
  rw [← h, ← hl]
  exact daysM_all ds i (by omega)
/-- The days from a call to the next one at a port. -/
def wayD (ps ds : List Int) (q : Int) (i : Nat) : Int := daysW ps ds i (nextW ps i q).toNat
theorem best_least (ps ds : List Int) (p q : Int) (d : Nat) : ∀ (i : Nat) (b l c m : Int), i + d = ps.length → (b < 0 ∨ ∃ b' : Nat, b = b' ∧ b' < i ∧ wayD ps ds q b' = l) → (∀ j, j < i → ps.getD j 0 = p → ¬ b < 0 ∧ l ≤ wayD ps ds q j) →
    bestFrom ps ds p q d i b l = (c, m, true) → (∃ c' : Nat, c = c' ∧ wayD ps ds q c' = m) ∧ ∀ j, j < ps.length → ps.getD j 0 = p → m ≤ wayD ps ds q j := by
  induction d with
  | zero =>
    intro i b l c m hi hb hall h
    rw [bestFrom] at h
    by_cases hn : b < 0
    · rw [if_pos hn] at h; cases h
    · rw [if_neg hn] at h
      simp only [Prod.mk.injEq, and_true] at h
      obtain ⟨rfl, rfl⟩ := h
      rcases hb with h1 | ⟨b', rfl, _, h2⟩
      · exact absurd h1 hn
      · exact ⟨⟨b', rfl, h2⟩, fun j hj hp => (hall j (by omega) hp).2⟩
  | succ d ih =>
    intro i b l c m hi hb hall h
    rw [bestFrom] at h
    by_cases hp : ps.getD i 0 = p
    · rw [if_pos hp] at h
      by_cases hn : b < 0
      · rw [if_pos hn] at h
        refine ih (i + 1) _ _ c m (by omega) (.inr ⟨i, rfl, by omega, rfl⟩) (fun j hj hpj => ⟨by omega, ?_⟩) h
        by_cases hji : j = i
        · rw [hji]; exact Int.le_refl _
        · exact absurd hn (hall j (by omega) hpj).1
      · rw [if_neg hn] at h
        by_cases hl : daysW ps ds i (nextW ps i q).toNat < l
        · rw [if_pos hl] at h
          refine ih (i + 1) _ _ c m (by omega) (.inr ⟨i, rfl, by omega, rfl⟩) (fun j hj hpj => ⟨by omega, ?_⟩) h
          by_cases hji : j = i
          · rw [hji]; exact Int.le_refl _
          · have := (hall j (by omega) hpj).2
            have e : wayD ps ds q i = daysW ps ds i (nextW ps i q).toNat := rfl
            omega
        · rw [if_neg hl] at h
          refine ih (i + 1) b l c m (by omega) ?_ (fun j hj hpj => ?_) h
          · rcases hb with h1 | ⟨b', rfl, h2, h3⟩
            · exact .inl h1
            · exact .inr ⟨b', rfl, by omega, h3⟩
          · by_cases hji : j = i
            · rw [hji]
              refine ⟨hn, ?_⟩
              show l ≤ daysW ps ds i (nextW ps i q).toNat
              omega
            · exact hall j (by omega) hpj
    · rw [if_neg hp] at h
      refine ih (i + 1) b l c m (by omega) ?_ (fun j hj hpj => ?_) h
      · rcases hb with h1 | ⟨b', rfl, h2, h3⟩
        · exact .inl h1
        · exact .inr ⟨b', rfl, by omega, h3⟩
      · by_cases hji : j = i
        · exact absurd (by rw [← hji]; exact hpj) hp
        · exact hall j (by omega) hpj
theorem aheadFrom_mem (ps : List Int) (i : Nat) (x : Int) (d : Nat) : ∀ (j : Nat) (acc : List Int), x ∈ aheadFrom ps i d j acc ↔ x ∈ acc ∨ ∃ q, j ≤ q ∧ q < j + d ∧ ps.getD ((i + q) % ps.length) 0 = x := by
  induction d with
  | zero =>
    intro j acc
    rw [aheadFrom]
    exact ⟨.inl, fun h => h.elim id (fun ⟨q, h1, h2, _⟩ => by omega)⟩
  | succ d ih =>
    intro j acc
    have step : (∃ q, j ≤ q ∧ q < j + (d + 1) ∧ ps.getD ((i + q) % ps.length) 0 = x) ↔ (ps.getD ((i + j) % ps.length) 0 = x ∨ ∃ q, j + 1 ≤ q ∧ q < j + 1 + d ∧ ps.getD ((i + q) % ps.length) 0 = x) := by
      constructor
      · rintro ⟨q, h1, h2, h3⟩
        by_cases e : q = j
        · rw [e] at h3; exact .inl h3
        · exact .inr ⟨q, by omega, by omega, h3⟩
      · rintro (h | ⟨q, h1, h2, h3⟩)
        · exact ⟨j, by omega, by omega, h⟩
        · exact ⟨q, by omega, by omega, h3⟩
    rw [aheadFrom, step]
    by_cases hm : ps.getD ((i + j) % ps.length) 0 ∈ acc
    · rw [if_pos hm, ih (j + 1) acc]
      constructor
      · rintro (h | h)
        · exact .inl h
        · exact .inr (.inr h)
      · rintro (h | h | h)
        · exact .inl h
        · rw [h] at hm; exact .inl hm
        · exact .inr h
    · rw [if_neg hm, ih (j + 1), List.mem_append, List.mem_singleton]
      constructor
      · rintro ((h | h) | h)
        · exact .inl h
        · exact .inr (.inl h.symm)
        · exact .inr (.inr h)
      · rintro (h | h | h)
        · exact .inl (.inl h)
        · exact .inl (.inr h.symm)
        · exact .inr h
/-- A port is ahead if it has a next call. -/
theorem ahead_next (ps : List Int) (i : Nat) (hi : i < ps.length) (x : Int) : x ∈ aheadFrom ps i ps.length 0 [] ↔ 0 ≤ nextW ps i x := by
  rw [aheadFrom_mem]
  constructor
  · rintro (h | ⟨q, _, h2, h3⟩)
    · cases h
    · rcases nextW_range ps (by omega) x i with e | ⟨t, e, _, _⟩
      · exact absurd h3 (nextFrom_none ps x i ps.length 0 e q (by omega) (by omega))
      · omega
  · intro h
    rcases nextW_range ps (by omega) x i with e | ⟨t, e, ht, hp⟩
    · omega
    · exact .inr ⟨(t + ps.length - i) % ps.length, by omega, by have := Nat.mod_lt (t + ps.length - i) (show 0 < ps.length by omega); omega, by rw [gap_mod hi ht]; exact hp⟩
end Go.Proofs.Ytlldonokjgoajaa.X
