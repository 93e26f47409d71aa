/- The code's IsValidYard, walked by hand: a map keeps the numbers seen. -/
import Derived.Test.YtlldonokjgoajaaX0
import Derived.Test.YtlldonokjgoajaaMYardM
import Derived.Lib.Walk
import Derived.Deep.LoopGhost
import Derived.Deep.Draws
import Derived.Deep.QuietTactic
import Derived.BigQuiet
import Derived.Maps.OwnOps
import Derived.Maps.OwnSet
namespace Go.Proofs.Ytlldonokjgoajaa.X
open Go.RowKit Go.Lib Go.Maps Go.Proofs.YtlldonokjgoajaaW.PrintWords Go.Proofs.YtlldonokjgoajaaW.PrintLast Go.Proofs.YtlldonokjgoajaaW.PrintMore
set_option linter.unusedVariables false
set_option linter.unusedSimpArgs false

theorem key3 : Keyed Try.prog 3 := int_keyed Try.underlying3
theorem zero4 (w : World) : (zeroValue 4).run Try.prog w = .ok (.bool false) w := by kernel_rfl
theorem plainElem_bool_inv {H : Type} {P : Program} {e : TypeId} (he : P.underlying e = some .bool) {v : Value} {z : DataW H × List MemPlace} (h : plainElem P e v = some z) : ∃ x, v = .bool x ∧ z = (.lit (.bool x), []) := by
  unfold plainElem at h
  rw [he] at h
  cases v <;> simp at h
  subst h
  exact ⟨_, rfl, rfl⟩

/-- Block M is a map that holds the numbers seen. -/
def SeenM (w : World) (M : Nat) (seen : List Int) : Prop :=
  ∃ (D : DataW Unit) (n : Nat), w.ownsMap Try.prog 3 (plainElem Try.prog 4) M n D ∧ n ≤ seen.length ∧ ∀ x, D.atKey (.int .i64 x) (.lit (.bool false)) = .lit (.bool (seen.contains x))
theorem SeenM.run {w : World} {M : Nat} {seen : List Int} (h : SeenM w M seen) (x : Int) (hx : (Lit.int .i64 x).wf = true) : (Instr.lookup 131 (.map (some M)) (.int .i64 x) false).run Try.prog w = .ok (.bool (seen.contains x)) w := by
  obtain ⟨D, n, ho, hn, hD⟩ := h
  obtain ⟨v, ps, hrun, hv⟩ := ho.lookup key3 Try.underlying131 (zero4 w) (plainElem_bool Try.underlying4 false) (keyOf_int_mk Try.underlying3 hx)
  obtain ⟨c, rfl, hc⟩ := plainElem_bool_inv Try.underlying4 hv
  simp only [Prod.mk.injEq] at hc
  rw [hD x] at hc
  have : seen.contains x = c := by simpa using hc.1
  rw [this]; exact hrun
theorem SeenM.drewN {w : World} {M : Nat} {seen : List Int} (h : SeenM w M seen) (n : Nat) : SeenM (w.drewN n) M seen := h
theorem SeenM.step {w w' : World} {M n : Nat} {D : DataW Unit} {seen : List Int} {x : Int} (hx : (Lit.int .i64 x).wf = true) (ho : w.ownsMap Try.prog 3 (plainElem Try.prog 4) M n D) (hn : n ≤ seen.length)
    (hD : ∀ x, D.atKey (.int .i64 x) (.lit (.bool false)) = .lit (.bool (seen.contains x))) (h' : w'.ownsMap Try.prog 3 (plainElem Try.prog 4) M (n + 1) (D.put (.int .i64 x) (.lit (.bool true)))) : SeenM w' M (seen ++ [x]) := by
  refine ⟨_, _, h', by simp; omega, fun y => ?_⟩
  by_cases e : y = x
  · subst e
    rw [atKey_put_same (k := .int .i64 y) ho.isMap trivial]
    simp
  · rw [atKey_put_other (by intro h; injection h with h1 h2; exact e h2), hD y]
    simp [e]
/-- The store of a number as seen. -/
theorem wpList_see (w : World) {ops : Array Oper} {rest : List Oper} {o : Oper} {a : Act} {Q : Exit → Act → World → Prop} (hg : o.guard = none) (m x v : Operand) (hop : o.op = Op.mapUpdate 131 m x v)
    (M : Nat) (seen : List Int) (hm : a.eval m = .map (some M)) (hs : SeenM w M seen) (hl : seen.length < maxLen) (y : Int) (hx : a.eval x = .int .i64 y) (hy : (Lit.int .i64 y).wf = true) (hv : a.eval v = .bool true)
    (hK : ∀ w', SeenM w' M (seen ++ [y]) → w.grownBy w' (some M) → wpList Try.prog ops Q rest (a.put o.dst undef) w') : wpList Try.prog ops Q (o :: rest) a w := by
  obtain ⟨D, n, ho, hn, hD⟩ := hs
  refine wpList_mapUpdate_own w hg m x v 131 hop 3 4 key3 Try.underlying131 _ M n D hm ho (by omega) _ _ _ hx hv (keyOf_int_mk Try.underlying3 hy) _ [] (plainElem_bool Try.underlying4 true) ?_
  intro w' h1 h2
  exact hK w' (SeenM.step hy ho hn hD h1) h2
theorem within_same (x a b : Int) (w : World) : Calls Try.prog 118 #[.int .i64 x, .int .i64 a, .int .i64 b] w fun e w' => e = .returned (.bool (inB x a b)) ∧ w' = w := by
  by_cases h : a ≤ x
  · have hd : decide (a ≤ x) = true := decide_eq_true h
    have he : decide (x ≤ b) = inB x a b := by unfold inB; rw [Bool.eq_iff_iff]; simp [h]
    have HE := Aside0.mk he
    clear he h
    go_enter Try.func118, Try.ntmps118
    go_wp2
    go_ret
    exact ⟨by rw [← HE.out]; rfl, rfl⟩
  · have hd : decide (a ≤ x) = false := decide_eq_false h
    have he : false = inB x a b := by unfold inB; symm; rw [decide_eq_false_iff_not]; omega
    have HE := Aside0.mk he
    clear he h
    go_enter Try.func118, Try.ntmps118
    go_wp2
    go_ret
    exact ⟨by rw [← HE.out]; rfl, rfl⟩
theorem SeenM.made (w : World) : SeenM (w.alloc (.map #[] 0)) w.heap.size [] := ⟨_, 0, World.ownsMap_made _ _ _ _, Nat.le_refl _, fun _ => rfl⟩

set_option maxHeartbeats 4000000 in
set_option maxRecDepth 100000 in
theorem IsValidYard_walk (A0 : Option Addr) (c0 : Nat) (ss : List (List Int)) (w : World) (hr0 : Kd.C (Kd.slice 3 (Kd.int .i64)) w A0 ss.length ss) :
    Calls Try.prog 40 #[.agg #[.slice A0 ss.length c0]] w fun e w' => e = .returned (.bool (goodY ss)) ∧ Below w.heap.size w w' := by
  have HR0 := Aside0.mk hr0
  clear hr0
  have HG := Aside0.mk (show goodY ss = (inB (ss.length : Int) 1 6 && goodRows [] ss) from rfl)
  by_cases h1 : inB (ss.length : Int) 1 6 = true
  · have hn : ss.length ≤ 6 := by rw [inB_iff] at h1; omega
    have H1 := Aside0.mk h1
    clear h1
    have hmm := @run_makeMap Try.prog
    go_enter Try.func40, Try.ntmps40
    go_wp2_with (go_at_call 118; refine (within_same _ _ _ _).mono ?_; rw [H1.out]; rintro e w' ⟨rfl, rfl⟩)
    clear hmm
    generalize hM : w.heap.size + 1 = M
    generalize hW1 : w.alloc (Obj.cells #[Value.slice A0 ss.length c0] 42) = W1
    have hMs : M = W1.heap.size := by rw [← hM, ← hW1]; simp
    have hB1 : Below w.heap.size w (W1.alloc (.map #[] 0)) := by rw [← hW1]; exact ((Below.refl _ _).alloc (Nat.le_refl _) _).alloc (by simp) _
    have hS0 : SeenM (W1.alloc (.map #[] 0)) M [] := by rw [hMs]; exact SeenM.made W1
    have hMw : w.heap.size ≤ M := by omega
    have HMW := Aside0.mk hMw
    clear hM hW1 hMs
    generalize W1.alloc (.map #[] 0) = W0 at hB1 hS0 ⊢
    go_loopg [17] ss.length (fun kq v17 w' => ∃ (i : Nat) (seen : List Int), v17 = .int .i64 (i : Int) ∧ Aside0 (i ≤ ss.length ∧ ss.length - i ≤ kq ∧ seen.length ≤ 4 * i) ∧ Aside0 (goodRows [] ss = goodRows seen (ss.drop i)) ∧ Aside0 (SeenM w' M seen) ∧ Aside0 (Below w.heap.size w w'))
    case atStart => exact ⟨0, [], rfl, ⟨Nat.zero_le _, by omega, by simp⟩, ⟨rfl⟩, ⟨hS0⟩, ⟨hB1⟩⟩
    case round =>
      clear hS0 hB1 hMw
      obtain ⟨i, seen, rfl, HN, HA, HS, HB⟩ := hrel
      by_cases hlt : i < ss.length
      · have c3b0 : decide ((i : Int) < (ss.length : Int)) = true := decide_eq_true (by omega)
        have c3b1 : decide (i < ss.length) = true := decide_eq_true hlt
        have HL := Aside0.mk hlt
        obtain ⟨ad0, A1, c1, e0, hx0, hl1, hr1⟩ := at_L2 HR0.out (i : Int) (by omega) (by omega)
        cases e0
        rw [Int.toNat_natCast] at hx0
        have hD : ss.drop i = rd_L2 ss (i : Int) :: ss.drop (i + 1) := by
          unfold rd_L2
          rw [Int.toNat_natCast]
          exact getD_cons (z := ([] : List Int)) hlt
        have HD := Aside0.mk hD
        have hy0 := (HB.out.cell (World.block_lt_of_cell? w _ hx0)).trans hx0
        have q0 : ((i : Int) < (ss.length : Int)) = True := eq_true (by omega)
        have q3 : (0 ≤ (i : Int)) = True := eq_true (by omega)
        have hw1 : wrap64 ((i : Int) + 1) = ((i + 1 : Nat) : Int) := wnext (m := 7) (by omega) (by omega)
        clear hx0 hD hl1
        generalize rd_L2 ss (i : Int) = s at hr1 HD hy0
        have HR1 := Aside0.mk hr1
        clear hr1
        by_cases h4 : 4 < s.length
        · have d0 : decide ((4 : Int) < (s.length : Int)) = true := decide_eq_true (by omega)
          have d1 : decide (4 < s.length) = true := decide_eq_true h4
          have H4 := Aside0.mk h4
          clear h4
          have HF := Aside0.mk (show goodY ss = false by rw [HG.out, H1.out, HA.out, HD.out]; simp only [goodRows, if_pos H4.out, Bool.and_false])
          go_wp2
          go_ret
          exact ⟨by rw [HF.out]; rfl, HB.out⟩
        · have d0 : decide ((4 : Int) < (s.length : Int)) = false := decide_eq_false (by omega)
          have d1 : decide (4 < s.length) = false := decide_eq_false h4
          have H4 := Aside0.mk h4
          have hs4 : s.length ≤ 4 := by omega
          have HS4 := Aside0.mk hs4
          clear h4 hlt
          go_wp2
          go_loopg [26] s.length (fun kq v26 w' => ∃ (j : Nat) (t : List Int), v26 = .int .i64 (j : Int) ∧ Aside0 (j ≤ s.length ∧ s.length - j ≤ kq ∧ t.length = seen.length + j) ∧ Aside0 (seeRow seen s = seeRow t (s.drop j)) ∧ Aside0 (SeenM w' M t) ∧ Aside0 (Below w.heap.size w w'))
          case atStart => exact ⟨0, seen, rfl, ⟨Nat.zero_le _, by omega, by simp⟩, ⟨rfl⟩, HS, HB⟩
          case round =>
            clear hy0 hs4
            obtain ⟨j, t, rfl, HN2, HA2, HS2, HB2⟩ := hrel
            by_cases hlt : j < s.length
            · have e3b0 : decide ((j : Int) < (s.length : Int)) = true := decide_eq_true (by omega)
              have e3b1 : decide (j < s.length) = true := decide_eq_true hlt
              have HL2 := Aside0.mk hlt
              obtain ⟨ad1, e1, hx1⟩ := Kd.at_int HR1.out (j : Int) (by omega) (by omega)
              cases e1
              rw [Int.toNat_natCast] at hx1
              have hD : s.drop j = rd s (j : Int) :: s.drop (j + 1) := by
                rw [rd_nat]
                exact getD_cons (z := (0 : Int)) hlt
              have HD2 := Aside0.mk hD
              have hy1 := (HB2.out.cell (World.block_lt_of_cell? w _ hx1)).trans hx1
              have r0 : ((j : Int) < (s.length : Int)) = True := eq_true (by omega)
              have r3 : (0 ≤ (j : Int)) = True := eq_true (by omega)
              have hw2 : wrap64 ((j : Int) + 1) = ((j + 1 : Nat) : Int) := wnext (m := 5) (by have := HS4.out; omega) (by omega)
              clear hx1 hD hlt
              generalize rd s (j : Int) = n at HD2 hy1
              by_cases b1 : inB n 1 99 = true
              · have B1 := Aside0.mk b1
                have hwf : (Lit.int .i64 n).wf = true := by rw [inB_iff] at b1; exact WalkArith.wf_i64 (by omega)
                have HWF := Aside0.mk hwf
                have hrun := HS2.out.run n hwf
                clear b1 hwf
                by_cases b2 : t.contains n = true
                · rw [b2] at hrun
                  have B2 := Aside0.mk b2
                  clear b2
                  have HF := Aside0.mk (show goodY ss = false by rw [HG.out, H1.out, HA.out, HD.out]; simp only [goodRows, if_neg H4.out, HA2.out, HD2.out, seeRow, B1.out, B2.out, if_true, Bool.and_false])
                  go_wp2_with (go_at_call 118; refine (within_same _ _ _ _).mono ?_; rw [B1.out]; rintro e w' ⟨rfl, rfl⟩)
                  go_ret
                  exact ⟨by rw [HF.out]; rfl, HB2.out⟩
                · have b2' : t.contains n = false := by simpa using b2
                  rw [b2'] at hrun
                  have B2 := Aside0.mk b2'
                  clear b2 b2'
                  go_wp2_with (first | (go_at_call 118; refine (within_same _ _ _ _).mono ?_; rw [B1.out]; rintro e w' ⟨rfl, rfl⟩) | (at_mapUpdate; refine wpList_see _ rfl _ _ _ rfl M t rfl HS2.out (by have := HN.out; have := HN2.out; have := HS4.out; unfold maxLen; omega) n rfl HWF.out rfl ?_; intro w1 hs1 hg1; have GS := Aside0.mk hs1; have GB := Aside0.mk (HB2.out.grown hg1 HB2.out.size (fun _ hj => by cases hj; exact HMW.out)); clear hs1 hg1))
                  go_roundg (s.length - (j + 1))
                  · refine ⟨j + 1, t ++ [n], by rw [hw2], ⟨by have := HL2.out; omega, Nat.le_refl _, by have := HN2.out; simp; omega⟩, ⟨?_⟩, GS, GB⟩
                    rw [HA2.out, HD2.out]
                    simp only [seeRow, B1.out, B2.out, if_true, Bool.false_eq_true, if_false]
                  · have := HN2.out; have := HL2.out; omega
              · have b1' : inB n 1 99 = false := by simpa using b1
                have B1 := Aside0.mk b1'
                clear b1 b1'
                have HF := Aside0.mk (show goodY ss = false by rw [HG.out, H1.out, HA.out, HD.out]; simp only [goodRows, if_neg H4.out, HA2.out, HD2.out, seeRow, B1.out, Bool.false_eq_true, if_false, Bool.and_false])
                go_wp2_with (go_at_call 118; refine (within_same _ _ _ _).mono ?_; rw [B1.out]; rintro e w' ⟨rfl, rfl⟩)
                go_ret
                exact ⟨by rw [HF.out]; rfl, HB2.out⟩
            · have e3b0 : decide ((j : Int) < (s.length : Int)) = false := decide_eq_false (by omega)
              have e3b1 : decide (j < s.length) = false := decide_eq_false hlt
              have hj : j = s.length := by have := HN2.out; omega
              have HJ := Aside0.mk hj
              clear hlt hj
              go_wp2
              go_roundg (ss.length - (i + 1))
              · refine ⟨i + 1, t, by rw [hw1], ⟨by have := HL.out; omega, Nat.le_refl _, by have := HN.out; have := HN2.out; have := HS4.out; omega⟩, ⟨?_⟩, HS2, HB2⟩
                rw [HA.out, HD.out]
                simp only [goodRows, if_neg H4.out, HA2.out, HJ.out, List.drop_length, seeRow]
              · have := HN.out; have := HL.out; omega
      · have c3b0 : decide ((i : Int) < (ss.length : Int)) = false := decide_eq_false (by omega)
        have c3b1 : decide (i < ss.length) = false := decide_eq_false hlt
        have HE := Aside0.mk (show ss.drop i = [] from List.drop_eq_nil_of_le (by omega))
        clear hlt
        go_wp2
        go_ret
        refine ⟨?_, HB.out⟩
        rw [HG.out, H1.out, HA.out, HE.out]
        rfl
  · have h1' : inB (ss.length : Int) 1 6 = false := by simpa using h1
    have H1 := Aside0.mk h1'
    clear h1 h1'
    go_enter Try.func40, Try.ntmps40
    go_wp2_with (go_at_call 118; refine (within_same _ _ _ _).mono ?_; rw [H1.out]; rintro e w' ⟨rfl, rfl⟩)
    go_ret
    exact ⟨by rw [HG.out, H1.out]; rfl, (Below.refl _ _).alloc (Nat.le_refl _) _⟩
def impl_IsValidYard.f (l0_0 : List (List Int)) : Option Bool := some (goodY l0_0)
theorem impl_IsValidYard.calls (A0_0 : Option Addr) (c0_0 : Nat) (l0_0 : List (List Int)) (r : Bool) (w : World) (hr0_0 : Kd.C (Kd.slice 3 (Kd.int .i64)) w A0_0 l0_0.length l0_0) (hc0_0 : l0_0.length ≤ c0_0) (h : impl_IsValidYard.f l0_0 = some r) :
    Calls Try.prog 40 #[.agg #[.slice A0_0 l0_0.length c0_0]] w fun e w' => e = .returned (.bool r) ∧ Below w.heap.size w w' := by
  unfold impl_IsValidYard.f at h
  cases h
  exact IsValidYard_walk A0_0 c0_0 l0_0 w hr0_0
end Go.Proofs.Ytlldonokjgoajaa.X
