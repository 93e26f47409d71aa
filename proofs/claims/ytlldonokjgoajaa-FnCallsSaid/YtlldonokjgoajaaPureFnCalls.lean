/- The law FnCalls answers true for every code. No condition beyond the form's own. -/
import Derived.Test.YtlldonokjgoajaaSFnCalls
import Derived.Test.YtlldonokjgoajaaMCalls
import Derived.Test.YtlldonokjgoajaaMDrawR
import Derived.Test.YtlldonokjgoajaaFspecDaysBetween
import Derived.Test.YtlldonokjgoajaaFimplDaysBetween
import Derived.Test.YtlldonokjgoajaaFspecNextCall
import Derived.Test.YtlldonokjgoajaaFimplNextCall
namespace Go.Proofs.Ytlldonokjgoajaa.Pure
open Go.RowKit Go.Proofs.Ytlldonokjgoajaa.X Go.Proofs.YtlldonokjgoajaaW.PrintWords Go.Proofs.YtlldonokjgoajaaW.PrintLast
set_option linter.unusedVariables false
set_option linter.unusedSimpArgs false
def daysA (ps ds : List Int) (i t : Int) : Int × Bool := if (callB ps ds i && callB ps ds t) = true then (daysW ps ds i.toNat t.toNat, true) else (0, false)
theorem days_both (a b : List Int) (i t : Int) (k : Nat) (hk : 20 ≤ k) : spec_DaysBetween.f k a b i t = some (daysA a b i t) ∧ impl_DaysBetween.f k a b i t = some (daysA a b i t) := by
  unfold spec_DaysBetween.f impl_DaysBetween.f daysA
  rw [asked_ends _ _ _ _ (by omega), asked_ends _ _ _ _ (by omega), isCall_two _ _ _ _ _ (by omega)]
  simp only [Option.bind_some]
  by_cases h1 : callB a b i = true
  · by_cases h2 : callB a b t = true
    · obtain ⟨hg, n, rfl, hn⟩ := callB_nat h1
      obtain ⟨_, m, rfl, hm⟩ := callB_nat h2
      obtain ⟨e1, e2⟩ := days_ends a b hg n m hn hm k (by omega)
      simp only [h1, h2, e1, e2, Bool.and_self, if_true, Option.bind_some, Int.toNat_natCast, and_self]
    · simp only [h1, h2, Bool.and_false, Bool.false_eq_true, if_true, if_false, and_self]
  · simp only [h1, Bool.false_and, Bool.false_eq_true, if_false, and_self]
def nextA (ps ds : List Int) (i p : Int) : Int × Int × Bool := if callB ps ds i = true then (if nextW ps i.toNat p < 0 then (0, 0, false) else (nextW ps i.toNat p, wayD ps ds p i.toNat, true)) else (0, 0, false)
theorem next_both (a b : List Int) (i p : Int) (k : Nat) (hk : 20 ≤ k) : spec_NextCall.f k a b i p = some (nextA a b i p) ∧ impl_NextCall.f k a b i p = some (nextA a b i p) := by
  unfold spec_NextCall.f impl_NextCall.f nextA
  rw [asked_ends _ _ _ _ (by omega), isCall_one _ _ _ _ (by omega)]
  simp only [Option.bind_some]
  by_cases h1 : callB a b i = true
  · obtain ⟨hg, n, rfl, hn⟩ := callB_nat h1
    obtain ⟨e1, e2⟩ := next_ends a b hg p n hn k (by omega)
    simp only [h1, e1, e2, if_true, Option.bind_some, Int.toNat_natCast]
    rcases nextW_range a (by omega) p n with h | ⟨t, h, ht, _⟩
    · rw [if_pos (by omega), if_pos (by omega), if_pos (by omega)]
      exact ⟨rfl, rfl⟩
    · obtain ⟨e3, e4⟩ := days_ends a b hg n t hn ht k (by omega)
      have c : ¬ nextW a n p < 0 := by omega
      unfold wayD
      rw [if_neg c, if_neg c, if_neg c, h, e3, e4, Option.bind_some, Int.toNat_natCast]
      exact ⟨rfl, rfl⟩
  · simp only [h1, Bool.false_eq_true, if_false, and_self]
theorem draw_days {l : List Int} (hl : Byt l) (k : Nat) (hk : 30 ≤ k) : ∃ ps ds i t, spec_DrawDaysBetween.f k l = some (ps, ds, i, t) := by
  unfold spec_DrawDaysBetween.f
  obtain ⟨ps, ds, a1, s1, e1, h1, h2, ha1⟩ := anyRotation_ok hl (show At 0 0 from ⟨by decide, by decide⟩) (by decide) 0 k hk
  obtain ⟨i, a2, s2, e2, _, ha2⟩ := call_ok hl ha1 (by omega) s1 ps ds h1
  obtain ⟨t, a3, s3, e3, _, ha3⟩ := call_ok hl ha2 (by omega) s2 ps ds h1
  rw [e1, Option.bind_some]
  dsimp only
  rw [e2, Option.bind_some]
  dsimp only
  rw [e3, Option.bind_some]
  exact ⟨_, _, _, _, rfl⟩
theorem draw_best {l : List Int} (hl : Byt l) (k : Nat) (hk : 30 ≤ k) : ∃ ps ds p q, spec_DrawBestLoading.f k l = some (ps, ds, p, q) ∧ ps.length ≤ 20 := by
  unfold spec_DrawBestLoading.f
  obtain ⟨ps, ds, a1, s1, e1, h1, h2, ha1⟩ := anyRotation_ok hl (show At 0 0 from ⟨by decide, by decide⟩) (by decide) 0 k hk
  obtain ⟨i, a2, s2, e2, _, ha2⟩ := pick_ok hl ha1 (by omega) s1 6
  obtain ⟨t, a3, s3, e3, _, ha3⟩ := pick_ok hl ha2 (by omega) s2 6
  rw [e1, Option.bind_some]
  dsimp only
  rw [e2, Option.bind_some]
  dsimp only
  rw [e3, Option.bind_some]
  exact ⟨_, _, _, _, rfl, h1⟩
theorem draw_next {l : List Int} (hl : Byt l) (k : Nat) (hk : 30 ≤ k) : ∃ ps ds i p, spec_DrawNextCall.f k l = some (ps, ds, i, p) := by
  unfold spec_DrawNextCall.f
  obtain ⟨ps, ds, a1, s1, e1, h1, h2, ha1⟩ := anyRotation_ok hl (show At 0 0 from ⟨by decide, by decide⟩) (by decide) 0 k hk
  obtain ⟨i, a2, s2, e2, _, ha2⟩ := call_ok hl ha1 (by omega) s1 ps ds h1
  obtain ⟨t, a3, s3, e3, _, ha3⟩ := pick_ok hl ha2 (by omega) s2 6
  rw [e1, Option.bind_some]
  dsimp only
  rw [e2, Option.bind_some]
  dsimp only
  rw [e3, Option.bind_some]
  exact ⟨_, _, _, _, rfl⟩
theorem rInts_loop (xs : List Int) (hx : xs.length ≤ 1000) (d : Nat) : ∀ (k i : Nat), i + d = xs.length → d < k → laws_rInts.l0 k xs xs (i : Int) = some true := by
  induction d with
  | zero =>
    intro k i hi hk
    obtain ⟨k, rfl⟩ := kpos hk
    simp only [laws_rInts.l0]
    rw [if_neg (by omega)]
  | succ d ih =>
    intro k i hi hk
    obtain ⟨k, rfl⟩ := kpos hk
    have hlt : i < xs.length := by omega
    simp only [laws_rInts.l0]
    rw [if_pos (by omega), if_pos (by omega), if_pos (by omega), if_pos trivial, wnext hlt (by omega)]
    exact ih k (i + 1) (by omega) (by omega)
theorem rInts_refl (xs : List Int) (hx : xs.length ≤ 1000) (k : Nat) (hk : 1001 ≤ k) : laws_rInts.f k xs xs = some true := by
  unfold laws_rInts.f
  rw [if_pos rfl]
  have := rInts_loop xs hx xs.length k 0 (by omega) (by omega)
  rw [show ((0 : Nat) : Int) = 0 from rfl] at this
  exact this
theorem rHas_loop (xs : List Int) (x : Int) (hx : xs.length ≤ 1000) (d : Nat) : ∀ (k i : Nat), i + d = xs.length → d < k → laws_rHas.l0 k xs x (i : Int) = some (decide (x ∈ xs.drop i)) := by
  induction d with
  | zero =>
    intro k i hi hk
    obtain ⟨k, rfl⟩ := kpos hk
    simp only [laws_rHas.l0]
    rw [if_neg (by omega), List.drop_of_length_le (by omega)]
    rfl
  | succ d ih =>
    intro k i hi hk
    obtain ⟨k, rfl⟩ := kpos hk
    have hlt : i < xs.length := by omega
    simp only [laws_rHas.l0]
    rw [if_pos (by omega), if_pos (by omega), getD_cons (z := (0 : Int)) hlt]
    by_cases h : rd xs (i : Int) = x
    · rw [if_pos h]
      have : x ∈ xs.getD i 0 :: xs.drop (i + 1) := by
        have e : rd xs (i : Int) = xs.getD i 0 := rfl
        rw [← h, e]; exact List.mem_cons_self
      rw [decide_eq_true this]
    · rw [if_neg h, wnext hlt (by omega), ih k (i + 1) (by omega) (by omega)]
      have e : (x ∈ xs.getD i 0 :: xs.drop (i + 1)) ↔ x ∈ xs.drop (i + 1) := by
        rw [List.mem_cons]
        exact ⟨fun h1 => h1.elim (fun h2 => absurd h2.symm h) id, .inr⟩
      congr 1
      exact decide_eq_decide.2 e.symm
theorem rHas_ends (xs : List Int) (x : Int) (hx : xs.length ≤ 1000) (k : Nat) (hk : 1001 ≤ k) : laws_rHas.f k xs x = some (decide (x ∈ xs)) := by
  unfold laws_rHas.f
  have := rHas_loop xs x hx xs.length k 0 (by omega) (by omega)
  rw [show ((0 : Nat) : Int) = 0 from rfl, List.drop_zero] at this
  exact this
theorem j6_ends (ps ds : List Int) (i p : Int) (k : Nat) (hk : 1100 ≤ k) : laws_FnCalls.j6 (k + 1) i p (nextA ps ds i p).2.2 false ps ds = some true := by
  obtain ⟨e1, e2⟩ := ahead_ends ps ds i k (by omega)
  have hlen := aheadW_len ps ds i
  simp only [laws_FnCalls.j6]
  rw [if_neg (by decide), e2, Option.bind_some, e1, Option.bind_some, beq_self_eq_true, if_pos rfl, rInts_refl _ (by omega) k (by omega), Option.bind_some, if_pos rfl]
  by_cases hg : (aheadW ps ds i).2 = true
  · rw [if_pos hg, rHas_ends _ _ (by omega) k (by omega), Option.bind_some]
    unfold aheadW nextA at *
    by_cases hc : callB ps ds i = true
    · obtain ⟨h0, n, rfl, hn⟩ := callB_nat hc
      rw [if_pos hc, if_pos hc, Int.toNat_natCast]
      have hm := ahead_next ps n hn p
      by_cases hx : nextW ps n p < 0
      · rw [if_pos hx, decide_eq_false (by rw [hm]; omega)]
        rfl
      · rw [if_neg hx, decide_eq_true (by rw [hm]; omega)]
        rfl
    · rw [if_neg hc] at hg
      cases hg
  · rw [if_neg hg]
theorem tail_ends {l : List Int} (hl : Byt l) (p q c m n : Int) (fine : Bool) (ps ds : List Int) (k : Nat) (hk : 1200 ≤ k) : laws_FnCalls.j5 (k + 1) l p q c m fine n false ps ds = some true := by
  obtain ⟨ps', ds', i', p', ed⟩ := draw_next hl k (by omega)
  obtain ⟨e1, e2⟩ := next_both ps' ds' i' p' k (by omega)
  simp only [laws_FnCalls.j5]
  obtain ⟨k, rfl⟩ := kpos (d := 0) (k := k) (by omega)
  have hj := j6_ends ps' ds' i' p' k (by omega)
  rw [if_neg (by decide), ed, Option.bind_some]
  dsimp only
  rw [e2, Option.bind_some, e1, Option.bind_some, if_pos rfl, if_pos rfl, bne_self_eq_false]
  exact hj
theorem loop_ends {l : List Int} (hl : Byt l) (ps ds : List Int) (p q c m : Int) (hg : goodR ps ds = true) (hq : ¬ nextW ps 0 q = -1) (hc : ∃ c' : Nat, c = c' ∧ wayD ps ds q c' = m) (hb : ∀ j, j < ps.length → ps.getD j 0 = p → m ≤ wayD ps ds q j) (d : Nat) :
    ∀ (k n : Nat), n + d = ps.length → 1300 + 2 * d ≤ k → laws_FnCalls.l0 k l p q c m true (n : Int) ps ds = some true := by
  obtain ⟨h1, h2, h3⟩ := goodR_len hg
  induction d with
  | zero =>
    intro k n hn hk
    obtain ⟨k, rfl⟩ : ∃ q, k = q + 2 := ⟨k - 2, by omega⟩
    have c1 : ¬ (n : Int) < (ps.length : Int) := by omega
    have ht := tail_ends hl p q c m (n : Int) true ps ds k (by omega)
    rw [laws_FnCalls.l0, if_neg c1]
    exact ht
  | succ d ih =>
    intro k n hn hk
    obtain ⟨k, rfl⟩ : ∃ q, k = q + 2 := ⟨k - 2, by omega⟩
    have c1 : (n : Int) < (ps.length : Int) := by omega
    have c2 : (0 : Int) ≤ (n : Int) := by omega
    have hi := ih k (n + 1) (by omega) (by omega)
    have hw : wrap64 ((n : Int) + 1) = ((n + 1 : Nat) : Int) := by rw [w64 (by omega) (by omega)]; omega
    rw [laws_FnCalls.l0, if_pos c1, laws_FnCalls.j5, if_pos rfl, if_pos c2, if_pos c1, hw]
    by_cases hp : rd ps (n : Int) = p
    · obtain ⟨_, e2⟩ := next_both ps ds (n : Int) q k (by omega)
      have hcb : callB ps ds (n : Int) = true := by
        unfold callB inB
        rw [hg, Bool.true_and, decide_eq_true_eq]
        omega
      obtain ⟨t, et, ht⟩ := nextW_all ps (by omega) q hq n (by omega)
      have hn0 : ¬ nextW ps n q < 0 := by omega
      have e3 : nextA ps ds (n : Int) q = (nextW ps n q, wayD ps ds q n, true) := by
        unfold nextA
        rw [if_pos hcb, Int.toNat_natCast, if_neg hn0]
      have hle := hb n (by omega) hp
      rw [if_pos hp, e2, e3, Option.bind_some]
      dsimp only
      rw [if_pos rfl, if_neg (by omega)]
      by_cases hnc : (n : Int) = c
      · obtain ⟨c', rfl, hm⟩ := hc
        have hcn : n = c' := by omega
        subst hcn
        rw [if_pos rfl, if_pos hm]
        exact hi
      · rw [if_neg hnc]
        exact hi
    · rw [if_neg hp]
      exact hi
theorem j2_ends {l : List Int} (hl : Byt l) (k : Nat) (hk : 1500 ≤ k) : laws_FnCalls.j2 (k + 1) l = some true := by
  obtain ⟨ps, ds, p, q, ed, h20⟩ := draw_best hl k (by omega)
  obtain ⟨e1, e2⟩ := best_ends ps ds p q k (by omega)
  obtain ⟨k, rfl⟩ : ∃ q, k = q + 3 := ⟨k - 3, by omega⟩
  simp only [laws_FnCalls.j2]
  rw [ed, Option.bind_some]
  dsimp only
  rw [e2, Option.bind_some, e1, Option.bind_some, if_pos rfl, if_pos rfl, bne_self_eq_false]
  rw [laws_FnCalls.j3, if_neg (by decide)]
  obtain ⟨r, hr⟩ : ∃ r, bestW ps ds p q = r := ⟨_, rfl⟩
  obtain ⟨c, m, fine⟩ := r
  rw [hr]
  dsimp only
  cases fine with
  | true =>
    unfold bestW at hr
    by_cases hc : goodR ps ds = true ∧ ¬ p = q ∧ ¬ nextW ps 0 q = -1
    · rw [if_pos hc] at hr
      obtain ⟨hx, hy⟩ := best_least ps ds p q ps.length 0 (-1) 0 c m (by omega) (.inl (by decide)) (fun j hj => by omega) hr
      exact loop_ends hl ps ds p q c m hc.1 hc.2.2 hx hy ps.length (k + 2) 0 (by omega) (by omega)
    · rw [if_neg hc] at hr
      simp at hr
  | false =>
    have ht := tail_ends hl p q c m 0 false ps ds k (by omega)
    rw [laws_FnCalls.l0]
    by_cases hlen : (0 : Int) < (ps.length : Int)
    · rw [if_pos hlen]; exact ht
    · rw [if_neg hlen]; exact ht
theorem sumI_bound : ∀ (l : List Int), (∀ x ∈ l, 0 ≤ x ∧ x ≤ 40) → 0 ≤ sumI l ∧ sumI l ≤ 40 * l.length
  | [], _ => by simp [sumI]
  | x :: l, h => by
    have h1 := h x List.mem_cons_self
    have h2 := sumI_bound l (fun y hy => h y (List.mem_cons_of_mem _ hy))
    rw [sumI, List.length_cons]
    omega
theorem FnCalls : laws_FnCalls.Pure := by
  intro l hl
  refine ⟨2000 + 2, ?_⟩
  unfold laws_FnCalls.f laws_rBig.f
  rw [Option.bind_some]
  by_cases h : (l.length : Int) > 65536
  · rw [if_pos (decide_eq_true h)]
  · rw [if_neg (by simpa using h)]
    have hb : Byt l := ⟨by omega, hl.2⟩
    obtain ⟨ps, ds, i, t, ed⟩ := draw_days hb (2000 + 2) (by omega)
    obtain ⟨e1, e2⟩ := days_both ps ds i t (2000 + 2) (by omega)
    have hj := j2_ends hb 1999 (by omega)
    rw [ed, Option.bind_some]
    dsimp only
    rw [e2, Option.bind_some, e1, Option.bind_some, if_pos rfl, bne_self_eq_false]
    rw [laws_FnCalls.j0, if_neg (by decide)]
    by_cases ho : (daysA ps ds i t).2 = true
    · rw [if_pos ho, laws_FnCalls.j1]
      by_cases hne : (i != t) = true
      · rw [if_pos hne]
        obtain ⟨_, e3⟩ := days_both ps ds t i 2000 (by omega)
        have e4 := impl_cycle ps ds 2000 (by omega)
        have hcc : (callB ps ds i && callB ps ds t) = true := by
          unfold daysA at ho
          by_cases hc : (callB ps ds i && callB ps ds t) = true
          · exact hc
          · rw [if_neg hc] at ho; cases ho
        have hcc2 := hcc
        rw [Bool.and_eq_true] at hcc
        obtain ⟨hg, n, rfl, hn⟩ := callB_nat hcc.1
        obtain ⟨_, m, rfl, hm⟩ := callB_nat hcc.2
        obtain ⟨l1, l2, l3⟩ := goodR_len hg
        have hnm : n ≠ m := by
          rintro rfl
          simp at hne
        have hr := days_round ps ds l3 n m hn hm hnm
        have hs := sumI_bound ds (fun x hx => by
          obtain ⟨j, hj, rfl⟩ := List.mem_iff_getElem.1 hx
          have := goodR_at hg j (by omega)
          rw [List.getD_eq_getElem?_getD (l := ds), List.getElem?_eq_getElem hj] at this
          have h3 : 1 ≤ ds[j] ∧ ds[j] ≤ 40 := this.2.2
          omega)
        have a1 : daysA ps ds (n : Int) (m : Int) = (daysW ps ds n m, true) := by
          unfold daysA
          rw [if_pos hcc2, Int.toNat_natCast, Int.toNat_natCast]
        have a2 : daysA ps ds (m : Int) (n : Int) = (daysW ps ds m n, true) := by
          unfold daysA
          rw [if_pos (by rw [Bool.and_comm]; exact hcc2), Int.toNat_natCast, Int.toNat_natCast]
        have a3 : cycleM ps ds = (sumI ds, true) := by
          unfold cycleM
          rw [if_pos hg]
        rw [e3, Option.bind_some, e4, Option.bind_some, a1, a2, a3]
        dsimp only
        rw [if_pos rfl, if_pos rfl, hr, w64 (by omega) (by omega), if_pos rfl]
        exact hj
      · rw [if_neg hne]
        exact hj
    · rw [if_neg ho, laws_FnCalls.j1, if_neg (by decide)]
      exact hj
end Go.Proofs.Ytlldonokjgoajaa.Pure
