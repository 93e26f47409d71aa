/- IsPlan: what the reference and the program answer: the order, the steps one by one. -/
import Derived.Test.YtlldonokjgoajaaMFindY
import Derived.Test.YtlldonokjgoajaaFspecl6Order
import Derived.Test.YtlldonokjgoajaaFspecl6Asked
import Derived.Test.YtlldonokjgoajaaGl6Step
import Derived.Test.YtlldonokjgoajaaFspecl6Plan
import Derived.Test.YtlldonokjgoajaaFspecIsPlan
import Derived.Test.YtlldonokjgoajaaFimplisOrder
import Derived.Test.YtlldonokjgoajaaGimplPlan
namespace Go.Proofs.Ytlldonokjgoajaa.X
open Go.RowKit Go.Proofs.YtlldonokjgoajaaW.PrintWords Go.Proofs.YtlldonokjgoajaaW.PrintLast
set_option linter.unusedVariables false
set_option linter.unusedSimpArgs false
def ordL (ss : List (List Int)) (o : List Int) : Nat → Nat → Bool
  | _, 0 => true
  | i, d + 1 => !(decide ((findY (o.getD i 0) ss 0).1 < 0)) && !(decide (o.getD i 0 ∈ o.take i)) && ordL ss o (i + 1) d
theorem l6Order_loop (ss : List (List Int)) (o : List Int) (hx : ss.length ≤ 1048576) (hs : tot ss ≤ 1048576) (ho : o.length ≤ 1048576) (d : Nat) : ∀ (k i : Nat), i + d = o.length → 3145801 + d ≤ k → spec_l6Order.l0 k o (i : Int) ss = some (ordL ss o i d && decide (o.length ≤ 8)) := by
  induction d with
  | zero =>
    intro k i hi hk
    obtain ⟨k, rfl⟩ := kpos (d := 0) (k := k) (by omega)
    simp only [spec_l6Order.l0]
    rw [if_neg (by omega)]
    simp only [ordL, Bool.true_and]
    congr 1
    rw [Bool.eq_iff_iff, decide_eq_true_eq, decide_eq_true_eq]
    omega
  | succ d ih =>
    intro k i hi hk
    obtain ⟨k, rfl⟩ := kpos (d := 0) (k := k) (by omega)
    have hlt : i < o.length := by omega
    simp only [spec_l6Order.l0, ordL]
    rw [if_pos (by omega), if_pos (by omega), rd_nat, l5Find_ends ss _ hx hs k (by omega), Option.bind_some]
    by_cases h1 : (findY (o.getD i 0) ss 0).1 < 0
    · rw [if_pos h1, decide_eq_true h1]; rfl
    · rw [if_neg h1, decide_eq_false h1, if_pos (by omega), Int.toNat_natCast, l1Has_ends _ _ (by rw [List.length_take]; omega) k (by rw [List.length_take]; omega), Option.bind_some]
      by_cases h2 : o.getD i 0 ∈ o.take i
      · rw [decide_eq_true h2, if_pos rfl]; rfl
      · rw [decide_eq_false h2, if_neg (by decide), wnext hlt (by omega), ih k (i + 1) (by omega) (by omega)]
        rfl
theorem isOrder_loop (ss : List (List Int)) (o : List Int) (hx : ss.length ≤ 1048576) (hs : tot ss ≤ 1048576) (ho : o.length ≤ 1048576) (d : Nat) : ∀ (k i : Nat), i + d = o.length → 3145801 + d ≤ k → impl_isOrder.l0 k o o (o.length : Int) (i : Int) ss = some (ordL ss o i d) := by
  induction d with
  | zero =>
    intro k i hi hk
    obtain ⟨k, rfl⟩ := kpos (d := 0) (k := k) (by omega)
    simp only [impl_isOrder.l0]
    rw [if_neg (by omega)]
    rfl
  | succ d ih =>
    intro k i hi hk
    obtain ⟨k, rfl⟩ := kpos (d := 0) (k := k) (by omega)
    have hlt : i < o.length := by omega
    simp only [impl_isOrder.l0, ordL]
    rw [if_pos (by omega), if_pos (by omega), if_pos (by omega), rd_nat, placeOf_ends ss _ hx hs k (by omega), Option.bind_some]
    by_cases h1 : (findY (o.getD i 0) ss 0).1 < 0
    · rw [if_pos h1, decide_eq_true h1]; rfl
    · rw [if_neg h1, decide_eq_false h1, if_pos (by omega), Int.toNat_natCast, Contains_ends _ _ (by rw [List.length_take]; omega) k (by rw [List.length_take]; omega), Option.bind_some]
      by_cases h2 : o.getD i 0 ∈ o.take i
      · rw [decide_eq_true h2, if_pos rfl]; rfl
      · rw [decide_eq_false h2, if_neg (by decide), wnext hlt (by omega), ih k (i + 1) (by omega) (by omega)]
        rfl
def ordB (ss : List (List Int)) (o : List Int) : Bool := goodY ss && (ordL ss o 0 o.length && decide (o.length ≤ 8))
theorem spec_asked (ss : List (List Int)) (o : List Int) (hx : ss.length ≤ 1048576) (hs : tot ss ≤ 1048576) (ho : o.length ≤ 1048576) (k : Nat) (hk : 4500000 ≤ k) : spec_l6Asked.f k ss o = some (ordB ss o) := by
  unfold spec_l6Asked.f ordB
  rw [spec_goodY ss k (by omega), Option.bind_some]
  by_cases hg : goodY ss = true
  · unfold spec_l6Order.f
    have := l6Order_loop ss o hx hs ho o.length k 0 (by omega) (by omega)
    rw [show ((0 : Nat) : Int) = 0 from rfl] at this
    rw [if_pos hg, this, Option.bind_some, hg, Bool.true_and]
  · rw [if_neg hg]
    rw [Bool.not_eq_true] at hg
    rw [hg]
    rfl
theorem impl_order (ss : List (List Int)) (o : List Int) (hx : ss.length ≤ 1048576) (hs : tot ss ≤ 1048576) (ho : o.length ≤ 1048576) (k : Nat) (hk : 4500000 ≤ k) : impl_isOrder.f k ss o = some (ordB ss o) := by
  unfold impl_isOrder.f ordB impl_IsValidYard.f
  obtain ⟨k, rfl⟩ := kpos (d := 0) (k := k) (by omega)
  rw [Option.bind_some]
  by_cases hg : goodY ss = true
  · rw [if_pos hg, hg, Bool.true_and]
    simp only [impl_isOrder.j0]
    by_cases h8 : o.length ≤ 8
    · have := isOrder_loop ss o hx hs ho o.length k 0 (by omega) (by omega)
      rw [show ((0 : Nat) : Int) = 0 from rfl] at this
      rw [decide_eq_false (by omega), if_neg (by decide), this, decide_eq_true h8, Bool.and_true]
    · rw [decide_eq_true (by omega), if_pos rfl, decide_eq_false h8, Bool.and_false]
  · rw [if_neg hg]
    simp only [impl_isOrder.j0, if_true]
    rw [Bool.not_eq_true] at hg
    rw [hg]
    rfl
/-- In an order each number stands in the yard and none comes twice. -/
theorem ordL_get (ss : List (List Int)) (o : List Int) (d : Nat) : ∀ i, ordL ss o i d = true → ∀ j, i ≤ j → j < i + d → 0 ≤ (findY (o.getD j 0) ss 0).1 ∧ o.getD j 0 ∉ o.take j := by
  induction d with
  | zero => intro i _ j h1 h2; omega
  | succ d ih =>
    intro i h j h1 h2
    simp only [ordL, Bool.and_eq_true, Bool.not_eq_true', decide_eq_false_iff_not] at h
    by_cases e : j = i
    · subst e
      exact ⟨by have := h.1.1; omega, h.1.2⟩
    · exact ih (i + 1) h.2 j (by omega) (by omega)
theorem findY_mem {ss : List (List Int)} {x : Int} (h : 0 ≤ (findY x ss 0).1) : x ∈ ss.flatten := by
  by_cases hm : x ∈ ss.flatten
  · exact hm
  · rw [findY_none x ss 0 hm] at h
    exact absurd h (by decide)
/-- Where a number of a valid yard stands. -/
theorem findY_good {ss : List (List Int)} (hg : goodY ss = true) {x : Int} (hm : x ∈ ss.flatten) : ∃ n t : Nat, findY x ss 0 = ((n : Int), (t : Int)) ∧ n < ss.length ∧ t < (ss.getD n []).length ∧ (ss.getD n []).getD t 0 = x := by
  rw [goodY_iff] at hg
  obtain ⟨n, t, hn, ht, e⟩ := mem_flat_row ss x hm
  refine ⟨n, t, ?_, hn, ht, e⟩
  rw [findY_at x ss 0 n t hg.2.2.2 ht e]
  simp
theorem l6Step_ends {ss : List (List Int)} (hg : goodY ss = true) (bx tg : Int) (k : Nat) : spec_l6Step.f k ss bx tg = some (stepA ss bx tg) := by
  unfold spec_l6Step.f
  rw [if_pos hg]
/-- What a step that could be made has done. -/
theorem step_done {ss : List (List Int)} (hg : goodY ss = true) {bx tg : Int} (h : (stepA ss bx tg).2 = true) :
    ∃ n : Nat, n < ss.length ∧ 0 < (ss.getD n []).length ∧ findY bx ss 0 = ((n : Int), (((ss.getD n []).length - 1 : Nat) : Int)) ∧ ((tg = -1 ∧ (stepA ss bx tg).1 = cutL ss n) ∨ (tg ≠ -1 ∧ ∃ m : Nat, m < ss.length ∧ (stepA ss bx tg).1 = moveL ss n m)) := by
  unfold stepA at h ⊢
  split at h
  · cases h
  rename_i h1
  split at h
  · cases h
  rename_i h2
  rcases findY_rng bx ss 0 with e | ⟨n, t, e, hn, ht⟩
  · rw [e] at h1; exact absurd (by decide) h1
  rw [Int.zero_add] at e
  rw [e] at h1 h2 h ⊢
  simp only [Int.toNat_natCast] at h1 h2 h ⊢
  refine ⟨n, hn, by omega, by rw [show (ss.getD n []).length - 1 = t by omega], ?_⟩
  rw [if_neg h1, if_neg h2]
  split at h
  · rename_i h3
    rw [if_pos h3]
    exact .inl ⟨h3, rfl⟩
  · rename_i h3
    rw [if_neg h3]
    split at h
    · cases h
    · rename_i h4
      rw [if_neg h4]
      refine .inr ⟨h3, tg.toNat, ?_, rfl⟩
      simp only [not_or, Bool.not_eq_false, inB_iff] at h4
      omega
theorem flat_top {ss : List (List Int)} (hg : goodY ss = true) {n : Nat} (hn : n < ss.length) (hp : 0 < (ss.getD n []).length) : findY (topY (ss.getD n [])) ss 0 = ((n : Int), (((ss.getD n []).length - 1 : Nat) : Int)) := by
  rw [goodY_iff] at hg
  have := findY_at (topY (ss.getD n [])) ss 0 n ((ss.getD n []).length - 1) hg.2.2.2 (by omega) (by unfold topY; rw [if_neg (by omega)])
  rw [this]
  simp
theorem top_of_find {ss : List (List Int)} (hg : goodY ss = true) {x : Int} {n : Nat} (hx : x ∈ ss.flatten) (hp : 0 < (ss.getD n []).length) (e : findY x ss 0 = ((n : Int), (((ss.getD n []).length - 1 : Nat) : Int))) : topY (ss.getD n []) = x := by
  obtain ⟨n', t', e', hn', ht', hx'⟩ := findY_good hg hx
  rw [e] at e'
  simp only [Prod.mk.injEq] at e'
  obtain rfl : n = n' := by omega
  unfold topY
  rw [if_neg (by omega), show (ss.getD n []).length - 1 = t' by omega]
  exact hx'
/-- What is left of an order, done numbers being out: each stands in the yard, none comes twice. -/
def Left (o : List Int) (ss : List (List Int)) (done : Nat) : Prop := ∀ j, done ≤ j → j < o.length → o.getD j 0 ∈ ss.flatten
def NoRep (o : List Int) : Prop := ∀ i j, i < j → j < o.length → o.getD i 0 ≠ o.getD j 0
theorem find_mem {ss : List (List Int)} {x : Int} {n : Nat} {b : Int} (e : findY x ss 0 = ((n : Int), b)) : x ∈ ss.flatten := findY_mem (by rw [e]; show 0 ≤ (n : Int); omega)
theorem plan_loop (o : List Int) (ho : o.length ≤ 8) (hr : NoRep o) (l : List S138) (hl : l.length ≤ 1048576) (d : Nat) : ∀ (k i done : Nat) (ss : List (List Int)), i + d = l.length → 3146000 + 2 * d ≤ k → goodY ss = true → done ≤ o.length → Left o ss done →
    ∃ r, spec_l6Plan.l0 k o l (done : Int) (i : Int) ss = some r ∧ planR o (l.drop i) ss done = some r := by
  induction d with
  | zero =>
    intro k i done ss hi hk hg hd hL
    obtain ⟨k, rfl⟩ := kpos (d := 0) (k := k) (by omega)
    simp only [spec_l6Plan.l0]
    rw [if_neg (by omega), List.drop_of_length_le (by omega), planR]
    refine ⟨_, rfl, ?_⟩
    congr 1
    rw [Bool.eq_iff_iff, decide_eq_true_eq, beq_iff_eq]
    omega
  | succ d ih =>
    intro k i done ss hi hk hg hd hL
    obtain ⟨k, rfl⟩ := kpos (d := 0) (k := k) (by omega)
    obtain ⟨k, rfl⟩ := kpos (d := 0) (k := k) (by omega)
    have hlt : i < l.length := by omega
    have h6 := goodY_len hg
    have ht := goodY_tot hg
    have hD : l.drop i = rd_T138 l (i : Int) :: l.drop (i + 1) := by
      unfold rd_T138
      rw [Int.toNat_natCast]
      exact getD_cons hlt
    have p1 : (i : Int) < (l.length : Int) := by omega
    have p2 : 0 ≤ (i : Int) := by omega
    rw [hD, planR]
    simp only [spec_l6Plan.l0, spec_l6Plan.j1]
    rw [if_pos p1]
    generalize rd_T138 l (i : Int) = x
    obtain ⟨bx, tg⟩ := x
    dsimp only
    by_cases h1 : done = o.length
    · have h1' : (done : Int) = (o.length : Int) := by omega
      rw [if_pos h1', if_pos h1]
      exact ⟨_, rfl, rfl⟩
    have h1' : ¬ (done : Int) = (o.length : Int) := by omega
    have p3 : 0 ≤ (done : Int) := by omega
    have p4 : (done : Int) < (o.length : Int) := by omega
    rw [if_neg h1', if_neg h1, if_pos p3, if_pos p4, rd_nat, l5Find_ends ss _ (by omega) (by omega) _ (by omega), Option.bind_some, if_pos p2, l5Find_ends ss _ (by omega) (by omega) _ (by omega), Option.bind_some, l6Step_ends hg bx tg _, Option.bind_some]
    have hm := hL done (Nat.le_refl _) (by omega)
    obtain ⟨nx, hnx⟩ : ∃ nx, o.getD done 0 = nx := ⟨_, rfl⟩
    rw [hnx] at hm ⊢
    obtain ⟨m, t, em, hmn, htm, hmx⟩ := findY_good hg hm
    have hn0 : ¬ (findY nx ss 0).1 < 0 := by rw [em]; show ¬ (m : Int) < 0; omega
    rw [if_neg hn0, if_pos p1]
    by_cases hs : (stepA ss bx tg).2 = true
    · obtain ⟨n, hn, hp, en, hcase⟩ := step_done hg hs
      have hbx := find_mem en
      have htop := top_of_find hg hbx hp en
      have hgs := (step_good hg bx tg).1
      rw [if_pos hs]
      have hl9 : l.length ≤ 9223372036854775807 := by omega
      have ho9 : o.length ≤ 9223372036854775807 := by omega
      have hdo : done < o.length := by omega
      rcases hcase with ⟨htg, hst⟩ | ⟨htg, m', hm', hst⟩
      · by_cases hb : bx = nx
        · subst hb
          have hLn : Left o (stepA ss bx tg).1 (done + 1) := by
            intro j h1 h2
            rw [hst]
            have hc := cut_flat ss n hn hp
            rw [htop] at hc
            have := hc.subset (hL j (by omega) h2)
            rcases List.mem_cons.1 this with h | h
            · exact absurd (hnx.trans h.symm) (hr done j (by omega) h2)
            · exact h
          obtain ⟨r, e1, e2⟩ := ih k (i + 1) (done + 1) _ (by omega) (by omega) hgs (by omega) hLn
          refine ⟨r, ?_, ?_⟩
          · rw [if_pos rfl, if_pos htg, bne_self_eq_false, if_neg (by decide), if_pos htg, wnext hlt hl9, wnext hdo ho9]
            exact e1
          · rw [if_pos htg, if_pos rfl, if_pos hs]
            exact e2
        · refine ⟨false, ?_, ?_⟩
          · by_cases hq : (findY bx ss 0).1 = (findY nx ss 0).1
            · have hbn : (bx != nx) = true := bne_iff_ne.2 hb
              rw [if_pos hq, if_pos htg, hbn, if_pos rfl]
            · rw [if_neg hq, if_pos trivial]
          · rw [if_pos htg, if_neg hb]
      · have hLn : Left o (stepA ss bx tg).1 done := by
          intro j h1 h2
          rw [hst]
          exact (move_flat ss n m' hn hm' hp).symm.subset (hL j h1 h2)
        by_cases hq : (findY bx ss 0).1 = (findY nx ss 0).1
        · have hnm : n = m := by
            rw [en, em] at hq
            have hq' : (n : Int) = (m : Int) := hq
            omega
          obtain ⟨r, e1, e2⟩ := ih k (i + 1) done _ (by omega) (by omega) hgs hd hLn
          refine ⟨r, ?_, ?_⟩
          · rw [if_pos hq, if_neg htg, if_neg (by decide), if_neg htg, wnext hlt hl9]
            exact e1
          · have htp : topY (ss.getD (findY nx ss 0).1.toNat []) = bx := by
              rw [em]
              show topY (ss.getD (m : Int).toNat []) = bx
              rw [Int.toNat_natCast, ← hnm]
              exact htop
            rw [if_neg htg, if_pos htp, if_pos hs]
            exact e2
        · refine ⟨false, ?_, ?_⟩
          · rw [if_neg hq, if_pos trivial]
          · have htp : ¬ topY (ss.getD (findY nx ss 0).1.toNat []) = bx := by
              rw [em]
              show ¬ topY (ss.getD (m : Int).toNat []) = bx
              rw [Int.toNat_natCast]
              intro h
              have := flat_top hg hmn (by omega)
              rw [h] at this
              exact hq (by rw [this, em])
            rw [if_neg htg, if_neg htp]
    · refine ⟨false, ?_, ?_⟩
      · rw [if_neg hs, if_pos trivial]
      · split
        · split
          · rfl
          · rfl
        · split
          · rfl
          · rfl
theorem plan_both (ss : List (List Int)) (o : List Int) (l : List S138) (hx : ss.length ≤ 1048576) (hs : tot ss ≤ 1048576) (ho : o.length ≤ 1048576) (hl : l.length ≤ 1048576) (k : Nat) (hk : 6000000 ≤ k) :
    ∃ r, spec_IsPlan.f k ss o l = some r ∧ impl_IsPlan.f k ss o l = some r := by
  unfold spec_IsPlan.f impl_IsPlan.f spec_l6Plan.f
  rw [spec_asked ss o hx hs ho k (by omega), impl_order ss o hx hs ho k (by omega), Option.bind_some, Option.bind_some]
  by_cases h : ordB ss o = true
  · rw [if_pos h, if_pos h]
    unfold ordB at h
    simp only [Bool.and_eq_true, decide_eq_true_eq] at h
    obtain ⟨hg, hO, h8⟩ := h
    have hG := ordL_get ss o o.length 0 hO
    have hr : NoRep o := by
      intro i j h1 h2 e
      refine (hG j (by omega) (by omega)).2 ?_
      rw [← e]
      rw [List.mem_iff_getElem]
      refine ⟨i, by rw [List.length_take]; omega, ?_⟩
      rw [List.getElem_take, List.getD_eq_getElem?_getD, List.getElem?_eq_getElem (by omega)]
      rfl
    obtain ⟨r, e1, e2⟩ := plan_loop o h8 hr l hl l.length k 0 0 ss (by omega) (by omega) hg (by omega) (fun j h1 h2 => findY_mem (hG j (by omega) (by omega)).1)
    rw [show ((0 : Nat) : Int) = 0 from rfl] at e1
    rw [List.drop_zero] at e2
    rw [if_pos hg, e1, e2]
    exact ⟨_, rfl, rfl⟩
  · rw [if_neg h, if_neg h]
    exact ⟨_, rfl, rfl⟩
end Go.Proofs.Ytlldonokjgoajaa.X
