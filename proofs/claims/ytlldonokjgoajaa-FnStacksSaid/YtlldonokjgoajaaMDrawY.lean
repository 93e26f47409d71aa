/- Drawing yards: it always ends; a yard is small. -/
import Derived.Test.YtlldonokjgoajaaMDraw
import Derived.Test.YtlldonokjgoajaaMOwn
import Derived.Test.YtlldonokjgoajaaMYardQ
import Derived.Test.YtlldonokjgoajaaGl5Move
import Derived.Test.YtlldonokjgoajaaFspecl1Curyard
import Derived.Test.YtlldonokjgoajaaFspecl1CuranyYard
namespace Go.Proofs.Ytlldonokjgoajaa.X
open Go.RowKit Go.Proofs.YtlldonokjgoajaaW.PrintWords Go.Proofs.YtlldonokjgoajaaW.PrintLast
set_option linter.unusedVariables false
set_option linter.unusedSimpArgs false
/-- A small yard: one to four rows of at most four. -/
def SmY (ss : List (List Int)) : Prop := (1 ≤ ss.length ∧ ss.length ≤ 4) ∧ ∀ n, (ss.getD n []).length ≤ 4
theorem getD_set (ss : List (List Int)) (i n : Nat) (y : List Int) : (ss.set i y).getD n [] = if i = n ∧ i < ss.length then y else ss.getD n [] := by
  rw [List.getD_eq_getElem?_getD, List.getElem?_set, List.getD_eq_getElem?_getD]
  by_cases h : i = n
  · subst h
    by_cases h2 : i < ss.length
    · simp [h2]
    · simp [h2]
  · simp [h]
theorem SmY.set {ss : List (List Int)} (h : SmY ss) (i : Nat) (y : List Int) (hy : y.length ≤ 4) : SmY (ss.set i y) := by
  refine ⟨by rw [List.length_set]; exact h.1, fun n => ?_⟩
  rw [getD_set]
  split
  · exact hy
  · exact h.2 n
theorem own_small (ss : List (List Int)) (h6 : ss.length ≤ 6) (h4 : ∀ n, (ss.getD n []).length ≤ 4) (k : Nat) (hk : 200 ≤ k) : spec_l5Own.f k ss = some ss := by
  unfold spec_l5Own.f
  have := (own_loops ss h6 h4 ss.length k 0 (by omega) (by omega)).1
  rw [show ((0 : Nat) : Int) = 0 from rfl] at this
  simpa using this
theorem move_small {ss : List (List Int)} (h : SmY ss) (f t : Nat) (hf : f < ss.length) (ht : t < ss.length) (hne : f ≠ t) (hp : 0 < (ss.getD f []).length) (h4 : (ss.getD t []).length < 4) (k : Nat) (hk : 200 ≤ k) :
    ∃ ys, spec_l5Move.f k ss (f : Int) (t : Int) = some ys ∧ SmY ys := by
  have h1 := h.2 f
  have hc : SmY (cutL ss f) := h.set f _ (by rw [List.length_take]; omega)
  have e : (cutL ss f).getD t [] = ss.getD t [] := by unfold cutL; rw [getD_set, if_neg (fun x => hne x.1)]
  refine ⟨moveL ss f t, ?_, hc.set t _ (by rw [e, List.length_append, List.length_singleton]; omega)⟩
  unfold spec_l5Move.f
  rw [own_small ss (by have := h.1; omega) h.2 k hk, Option.bind_some]
  unfold moveO
  rw [Int.toNat_natCast, Int.toNat_natCast, if_pos ⟨by omega, by omega, by omega, by omega, hp, by omega, by rw [e]; omega⟩]
theorem yard_l2 {l : List Int} (hl : Byt l) (d : Nat) : ∀ (k : Nat) (ss : List (List Int)) (n m a s : Int), SmY ss → n = d → d + 220 < k → At m a → m + 4 * d ≤ 10000000 →
    ∃ ys a' s', spec_l1Cur_yard.l2 k n l a s ss = some (ys, a', s') ∧ SmY ys ∧ At (m + 4 * d) a' := by
  induction d with
  | zero =>
    intro k ss n m a s hs hn hk ha hm
    obtain ⟨k, rfl⟩ := kpos (d := 0) (k := k) (by omega)
    simp only [spec_l1Cur_yard.l2]
    rw [if_neg (by omega), own_small ss (by have := hs.1; omega) hs.2 k (by omega), Option.bind_some]
    exact ⟨_, _, _, rfl, hs, ha.up (by omega)⟩
  | succ d ih =>
    intro k ss n m a s hs hn hk ha hm
    obtain ⟨k, rfl⟩ := kpos (d := 0) (k := k) (by omega)
    obtain ⟨x, a1, s1, e1, hx, ha1⟩ := pick_ok hl ha (by omega) s (ss.length : Int)
    obtain ⟨y, a2, s2, e2, hy, ha2⟩ := pick_ok hl ha1 (by omega) s1 (ss.length : Int)
    have hl1 := hs.1
    have hx2 := hx.2.2 (by omega)
    have hx0 := hx.1
    have hy2 := hy.2.2 (by omega)
    have hy0 := hy.1
    obtain ⟨f, rfl⟩ : ∃ f : Nat, x = f := ⟨x.toNat, by omega⟩
    obtain ⟨t, rfl⟩ : ∃ t : Nat, y = t := ⟨y.toNat, by omega⟩
    have ham : 0 ≤ a ∧ a ≤ m := ha
    have key : ∀ zs, SmY zs → ∃ ys a' s', spec_l1Cur_yard.l2 k (n - 1) l a2 s2 zs = some (ys, a', s') ∧ SmY ys ∧ At (m + 4 * (d + 1 : Nat)) a' := by
      intro zs hz
      obtain ⟨ys, a', s', q1, q2, q3⟩ := ih k zs (n - 1) (m + 2 + 2) a2 s2 hz (by omega) (by omega) ha2 (by omega)
      exact ⟨ys, a', s', q1, q2, q3.up (by omega)⟩
    simp only [spec_l1Cur_yard.l2]
    rw [if_pos (by omega), e1, Option.bind_some]
    dsimp only
    rw [e2, Option.bind_some]
    dsimp only
    rw [w64 (show -9223372036854775808 ≤ n - 1 by omega) (by omega)]
    by_cases h1 : (f : Int) = (t : Int)
    · rw [if_pos h1]
      exact key ss hs
    rw [if_neg h1, if_pos hx0, if_pos hx2]
    by_cases h2 : ((rd_L2 ss (f : Int)).length : Int) > 0
    · rw [if_pos h2, if_pos hy0, if_pos hy2]
      by_cases h3 : ((rd_L2 ss (t : Int)).length : Int) < 4
      · obtain ⟨zs, ez, hz⟩ := move_small hs f t (by omega) (by omega) (by omega) (by rw [rdL_nat] at h2; omega) (by rw [rdL_nat] at h3; omega) k (by omega)
        rw [if_pos h3, ez, Option.bind_some]
        exact key zs hz
      · rw [if_neg h3]
        exact key ss hs
    · rw [if_neg h2]
      exact key ss hs
theorem yard_l1 {l : List Int} (hl : Byt l) (d : Nat) : ∀ (k : Nat) (ss : List (List Int)) (n m a s : Int), SmY ss → n = d → d + 230 < k → At m a → m + 2 * d ≤ 1000000 →
    ∃ ys a' s', spec_l1Cur_yard.l1 k n l a s ss = some (ys, a', s') ∧ SmY ys ∧ At (m + 2 * d + 20) a' := by
  induction d with
  | zero =>
    intro k ss n m a s hs hn hk ha hm
    obtain ⟨k, rfl⟩ := kpos (d := 0) (k := k) (by omega)
    obtain ⟨v, a1, s1, e1, hv, ha1⟩ := pick_ok hl ha (by omega) s 4
    have hv2 := hv.2.2 (by omega)
    have hv0 := hv.1
    obtain ⟨n', rfl⟩ : ∃ n : Nat, v = n := ⟨v.toNat, by omega⟩
    obtain ⟨ys, a', s', q1, q2, q3⟩ := yard_l2 hl n' k ss (n' : Int) _ a1 s1 hs rfl (by omega) ha1 (by omega)
    simp only [spec_l1Cur_yard.l1]
    rw [if_neg (by omega), e1, Option.bind_some]
    exact ⟨ys, a', s', q1, q2, q3.up (by omega)⟩
  | succ d ih =>
    intro k ss n m a s hs hn hk ha hm
    obtain ⟨k, rfl⟩ := kpos (d := 0) (k := k) (by omega)
    obtain ⟨x, a1, s1, e1, hx, ha1⟩ := pick_ok hl ha (by omega) s (ss.length : Int)
    have hl1 := hs.1
    have hx2 := hx.2.2 (by omega)
    have hx0 := hx.1
    obtain ⟨f, rfl⟩ : ∃ f : Nat, x = f := ⟨x.toNat, by omega⟩
    have ham : 0 ≤ a ∧ a ≤ m := ha
    have key : ∀ zs, SmY zs → ∃ ys a' s', spec_l1Cur_yard.l1 k (n - 1) l a1 s1 zs = some (ys, a', s') ∧ SmY ys ∧ At (m + 2 * (d + 1 : Nat) + 20) a' := by
      intro zs hz
      obtain ⟨ys, a', s', q1, q2, q3⟩ := ih k zs (n - 1) (m + 2) a1 s1 hz (by omega) (by omega) ha1 (by omega)
      exact ⟨ys, a', s', q1, q2, q3.up (by omega)⟩
    simp only [spec_l1Cur_yard.l1]
    rw [if_pos (by omega), e1, Option.bind_some]
    dsimp only
    rw [if_pos hx0, if_pos hx2, w64 (show -9223372036854775808 ≤ n - 1 by omega) (by omega)]
    by_cases h3 : ((rd_L2 ss (f : Int)).length : Int) < 4
    · have h4 : (rd_L2 ss (f : Int)).length < 17592186044416 := by omega
      rw [if_pos h3, if_pos h4]
      exact key _ (hs.set _ _ (by rw [List.length_append, List.length_singleton]; omega))
    · rw [if_neg h3]
      exact key ss hs
theorem yard_l0 {l : List Int} (hl : Byt l) (d : Nat) : ∀ (k : Nat) (ss : List (List Int)) (n m a s : Int), (∀ n, (ss.getD n []).length ≤ 4) → 1 ≤ ss.length + d → ss.length + d ≤ 4 → n = d → d + 250 < k → At m a → m ≤ 100000 →
    ∃ ys a' s', spec_l1Cur_yard.l0 k n l a s ss = some (ys, a', s') ∧ SmY ys ∧ At (m + 60) a' := by
  induction d with
  | zero =>
    intro k ss n m a s hs h1 h4 hn hk ha hm
    obtain ⟨k, rfl⟩ := kpos (d := 0) (k := k) (by omega)
    obtain ⟨v, a1, s1, e1, hv, ha1⟩ := pick_ok hl ha (by omega) s 8
    have hv2 := hv.2.2 (by omega)
    have hv0 := hv.1
    obtain ⟨n', rfl⟩ : ∃ n : Nat, v = n := ⟨v.toNat, by omega⟩
    have hw : wrap64 (1 + (n' : Int)) = ((n' + 1 : Nat) : Int) := by rw [w64 (by omega) (by omega)]; omega
    obtain ⟨ys, a', s', q1, q2, q3⟩ := yard_l1 hl (n' + 1) k ss ((n' + 1 : Nat) : Int) _ a1 s1 ⟨by omega, hs⟩ rfl (by omega) ha1 (by omega)
    simp only [spec_l1Cur_yard.l0]
    rw [if_neg (by omega), e1, Option.bind_some]
    dsimp only
    rw [hw]
    exact ⟨ys, a', s', q1, q2, q3.up (by omega)⟩
  | succ d ih =>
    intro k ss n m a s hs h1 h4 hn hk ha hm
    obtain ⟨k, rfl⟩ := kpos (d := 0) (k := k) (by omega)
    simp only [spec_l1Cur_yard.l0]
    rw [if_pos (by omega), if_pos (by omega), w64 (show -9223372036854775808 ≤ n - 1 by omega) (by omega)]
    refine ih k (ss ++ [([] : List Int)]) (n - 1) m a s (fun n => ?_) (by rw [List.length_append, List.length_singleton]; omega) (by rw [List.length_append, List.length_singleton]; omega) (by omega) (by omega) ha hm
    rw [List.getD_eq_getElem?_getD, List.getElem?_append]
    split
    · have := hs n
      rwa [List.getD_eq_getElem?_getD] at this
    · rcases Nat.eq_zero_or_pos (n - ss.length) with e | e
      · rw [e]; simp
      · rw [List.getElem?_eq_none (by rw [List.length_singleton]; omega)]; simp
theorem yard_ok {l : List Int} (hl : Byt l) {m a : Int} (ha : At m a) (hm : m ≤ 10000) (s : Int) (k : Nat) (hk : 300 ≤ k) :
    ∃ ys a' s', spec_l1Cur_yard.f k l a s = some (ys, a', s') ∧ SmY ys ∧ At (m + 70) a' := by
  unfold spec_l1Cur_yard.f
  obtain ⟨v, a1, s1, e1, hv, ha1⟩ := pick_ok hl ha (by omega) s 4
  have hv2 := hv.2.2 (by omega)
  have hv0 := hv.1
  obtain ⟨n', rfl⟩ : ∃ n : Nat, v = n := ⟨v.toNat, by omega⟩
  have hw : wrap64 (1 + (n' : Int)) = ((n' + 1 : Nat) : Int) := by rw [w64 (by omega) (by omega)]; omega
  obtain ⟨ys, a', s', q1, q2, q3⟩ := yard_l0 hl (n' + 1) k [] ((n' + 1 : Nat) : Int) _ a1 s1 (fun n => by simp) (by simp) (by simp; omega) rfl (by omega) ha1 (by omega)
  rw [e1, Option.bind_some]
  dsimp only
  rw [hw]
  exact ⟨ys, a', s', q1, q2, q3.up (by omega)⟩
/-- What a drawn yard may be. -/
def AnY (ss : List (List Int)) : Prop := ss.length ≤ 20 ∧ ∀ n, (ss.getD n []).length ≤ 8
theorem AnY.tot {ss : List (List Int)} (h : AnY ss) : tot ss ≤ 160 := by
  have : ∀ (l : List (List Int)), (∀ n, (l.getD n []).length ≤ 8) → X.tot l ≤ 8 * l.length := by
    intro l
    induction l with
    | nil => intro _; simp [X.tot]
    | cons s r ih =>
      intro h
      have h0 := h 0
      have h1 := ih (fun n => by simpa using h (n + 1))
      simp only [List.getD_cons_zero] at h0
      simp only [X.tot, List.length_cons]
      omega
  have := this ss h.2
  have := h.1
  omega
theorem AnY.snoc {ss : List (List Int)} (h : AnY ss) (y : List Int) (hy : y.length ≤ 8) (hl : ss.length < 20) : AnY (ss ++ [y]) := by
  refine ⟨by rw [List.length_append, List.length_singleton]; omega, fun n => ?_⟩
  rw [List.getD_eq_getElem?_getD, List.getElem?_append]
  split
  · have := h.2 n
    rwa [List.getD_eq_getElem?_getD] at this
  · rcases Nat.eq_zero_or_pos (n - ss.length) with e | e
    · rw [e]; simpa using hy
    · rw [List.getElem?_eq_none (by rw [List.length_singleton]; omega)]; simp
theorem SmY.any {ss : List (List Int)} (h : SmY ss) : AnY ss := ⟨by have := h.1; omega, fun n => by have := h.2 n; omega⟩
theorem AnY.set {ss : List (List Int)} (h : AnY ss) (i : Nat) (y : List Int) (hy : y.length ≤ 8) : AnY (ss.set i y) := by
  refine ⟨by rw [List.length_set]; exact h.1, fun n => ?_⟩
  rw [getD_set]
  split
  · exact hy
  · exact h.2 n
theorem anyYard_l0 {l : List Int} (hl : Byt l) (d : Nat) : ∀ (k : Nat) (ss : List (List Int)) (n m a s : Int), AnY ss → 0 ≤ n → n + d = 8 → ss.length ≤ 4 + (8 - d) → d ≤ 8 → d + 2 < k → At m a → m + 2 * d ≤ 1000000 →
    ∃ ys a' s', spec_l1Cur_anyYard.l0 k n l a s ss = some (ys, a', s') ∧ AnY ys ∧ At (m + 2 * d + 2) a' := by
  induction d with
  | zero =>
    intro k ss n m a s hs h0 hn hx hd hk ha hm
    obtain ⟨k, rfl⟩ := kpos (d := 0) (k := k) (by omega)
    obtain ⟨v, a1, s1, e1, hv, ha1⟩ := pick_ok hl ha (by omega) s 2
    simp only [spec_l1Cur_anyYard.l0]
    rw [e1, Option.bind_some]
    dsimp only
    have hc : ¬ n < 8 := by omega
    by_cases hq : (ss.length : Int) < wrap64 (6 + v)
    · rw [if_pos hq, if_neg hc]
      exact ⟨_, _, _, rfl, hs, ha1.up (by omega)⟩
    · rw [if_neg hq]
      exact ⟨_, _, _, rfl, hs, ha1.up (by omega)⟩
  | succ d ih =>
    intro k ss n m a s hs h0 hn hx hd hk ha hm
    obtain ⟨k, rfl⟩ := kpos (d := 0) (k := k) (by omega)
    obtain ⟨v, a1, s1, e1, hv, ha1⟩ := pick_ok hl ha (by omega) s 2
    simp only [spec_l1Cur_anyYard.l0]
    rw [e1, Option.bind_some]
    dsimp only
    have hc : n < 8 := by omega
    have hc2 : ss.length < 5864062014805 := by omega
    by_cases hq : (ss.length : Int) < wrap64 (6 + v)
    · rw [if_pos hq, if_pos hc, if_pos hc2, w64 (show -9223372036854775808 ≤ n + 1 by omega) (by omega)]
      obtain ⟨ys, a', s', q1, q2, q3⟩ := ih k (ss ++ [([wrap64 (40 + n)] : List Int)]) (n + 1) _ a1 s1 (hs.snoc _ (by simp) (by omega)) (by omega) (by omega) (by rw [List.length_append, List.length_singleton]; omega) (by omega) (by omega) ha1 (by omega)
      exact ⟨ys, a', s', q1, q2, q3.up (by omega)⟩
    · rw [if_neg hq]
      exact ⟨_, _, _, rfl, hs, ha1.up (by omega)⟩
theorem anyYard_ok {l : List Int} (hl : Byt l) {m a : Int} (ha : At m a) (hm : m ≤ 1000) (s : Int) (k : Nat) (hk : 300 ≤ k) :
    ∃ ys a' s', spec_l1Cur_anyYard.f k l a s = some (ys, a', s') ∧ AnY ys ∧ At (m + 100) a' := by
  unfold spec_l1Cur_anyYard.f
  obtain ⟨ss, a1, s1, e1, hs, ha1⟩ := yard_ok hl ha (by omega) s k hk
  have hl1 := hs.1
  rw [e1, Option.bind_some]
  dsimp only
  obtain ⟨x, a2, s2, e2, hx, ha2⟩ := pick_ok hl ha1 (by omega) s1 (ss.length : Int)
  have hx2 := hx.2.2 (by omega)
  have hx0 := hx.1
  rw [e2, Option.bind_some]
  dsimp only
  obtain ⟨y, a3, s3, e3, hy, ha3⟩ := pick_ok hl ha2 (by omega) s2 24
  rw [e3, Option.bind_some]
  dsimp only
  by_cases y0 : y = 0
  · obtain ⟨z, a4, s4, e4, hz, ha4⟩ := among_ok hl ha3 (by omega) s3 ([0, 100, 99, 1] : List Int) (by decide) (fun _ => True) (fun _ _ => trivial)
    obtain ⟨f, rfl⟩ : ∃ f : Nat, x = f := ⟨x.toNat, by omega⟩
    have h4 := hs.2 f
    have h5 : (rd_L2 ss (f : Int)).length < 17592186044416 := by rw [rdL_nat]; omega
    rw [if_pos y0, if_pos hx0, if_pos hx2, e4, Option.bind_some, if_pos h5]
    exact ⟨_, _, _, rfl, hs.any.set _ _ (by rw [List.length_append, List.length_singleton, rdL_nat]; omega), ha4.up (by omega)⟩
  rw [if_neg y0]
  by_cases y1 : y = 1
  · rw [if_pos y1, if_pos hx0, if_pos hx2]
    exact ⟨_, _, _, rfl, hs.any.set _ _ (by decide), ha3.up (by omega)⟩
  rw [if_neg y1]
  by_cases y2 : y = 2
  · rw [if_pos y2]
    exact ⟨_, _, _, rfl, ⟨by simp, fun n => by simp⟩, ha3.up (by omega)⟩
  rw [if_neg y2]
  by_cases y3 : y = 3
  · rw [if_pos y3]
    obtain ⟨ys, a', s', q1, q2, q3⟩ := anyYard_l0 hl 8 k ss 0 _ a3 s3 hs.any (by omega) (by omega) (by omega) (by omega) (by omega) ha3 (by omega)
    exact ⟨ys, a', s', q1, q2, q3.up (by omega)⟩
  rw [if_neg y3]
  exact ⟨_, _, _, rfl, hs.any, ha3.up (by omega)⟩
end Go.Proofs.Ytlldonokjgoajaa.X
