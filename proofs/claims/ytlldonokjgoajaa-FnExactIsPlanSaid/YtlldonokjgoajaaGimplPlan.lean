/- The program's IsPlan, walked. -/
import Derived.Test.YtlldonokjgoajaaGstep
import Derived.Test.YtlldonokjgoajaaFimplisOrder
import Derived.Lib.Walk
import Derived.Deep.LoopGhost
import Derived.Deep.Draws
import Derived.Deep.QuietTactic
import Derived.BigQuiet
namespace Go.Proofs.Ytlldonokjgoajaa.X
open Go.RowKit Go.Lib Go.Proofs.YtlldonokjgoajaaW.PrintWords Go.Proofs.YtlldonokjgoajaaW.PrintLast Go.Proofs.YtlldonokjgoajaaW.PrintMore
set_option linter.unusedVariables false
set_option linter.unusedSimpArgs false
/-- Are the steps a plan, so many of the order's numbers being out; none where the next one isn't in the yard. -/
def planR (order : List Int) : List S138 → List (List Int) → Nat → Option Bool
  | [], _, done => some (decide (done = order.length))
  | x :: r, ss, done =>
    if done = order.length then some false else
    if x.f1 = -1 then
      (if x.f0 = order.getD done 0 then (if (stepA ss x.f0 x.f1).2 = true then planR order r (stepA ss x.f0 x.f1).1 (done + 1) else some false) else some false)
    else if (findY (order.getD done 0) ss 0).1 < 0 then none else
    if topY (ss.getD (findY (order.getD done 0) ss 0).1.toNat []) = x.f0 then (if (stepA ss x.f0 x.f1).2 = true then planR order r (stepA ss x.f0 x.f1).1 done else some false) else some false
set_option maxHeartbeats 8000000 in
set_option maxRecDepth 100000 in
theorem plan_no (k : Nat) (A0 : Option Addr) (c0 : Nat) (l0 : List (List Int)) (A1 : Option Addr) (c1 : Nat) (l1 : List Int) (A2 : Option Addr) (c2 : Nat) (l2 : List S138) (w : World) (hr0 : Kd.C (Kd.slice 3 (Kd.int .i64)) w A0 l0.length l0) (hc0 : l0.length ≤ c0) (hr1 : Kd.C (Kd.int .i64) w A1 l1.length l1) (hc1 : l1.length ≤ c1) (hr2 : Kd.C k138 w A2 l2.length l2) (hc2 : l2.length ≤ c2)
    (ho : impl_isOrder.f k l0 l1 = some false) : Calls Try.prog 52 #[.agg #[.slice A0 l0.length c0], .slice A1 l1.length c1, .slice A2 l2.length c2] w fun e w' => e = .returned (.tuple #[.bool false, .bool false]) ∧ Below w.heap.size w w' := by
  have HR0 := Aside0.mk hr0
  have HC0 := Aside0.mk hc0
  have HR1 := Aside0.mk hr1
  have HC1 := Aside0.mk hc1
  have HR2 := Aside0.mk hr2
  have HC2 := Aside0.mk hc2
  have HO := Aside0.mk ho
  clear hr0 hc0 hr1 hc1 hr2 hc2 ho
  go_enter Try.func52, Try.ntmps52
  go_upto_region 1 with (fail)
  generalize hwa : w.alloc (Obj.cells #[Value.slice A0 l0.length c0] 42) = wa
  have hba : Below w.heap.size w wa := by rw [← hwa]; exact below_alloc (Below.refl _ _) _
  have hx3 : wa.cell? ⟨w.heap.size, 0, none⟩ = some (.slice A0 l0.length c0) := by rw [← hwa]; exact (blk_cell (blk_new _ _) 0).trans rfl
  have HBA := Aside0.mk hba
  clear hwa hba
  go_wp2_with (go_at_call 126; refine (impl_isOrder.calls k A0 c0 l0 A1 c1 l1 false _ (Kd.C_below HR0.out HBA.out) HC0.out (Kd.C_below HR1.out HBA.out) HC1.out HO.out).mono ?_; rintro e w1 ⟨rfl, hb⟩; replace hx3 := cell_below hx3 hb; have HB1 := Aside0.mk (below_then HBA.out HBA.out.size hb); clear hb HBA)
  go_ret2
  exact ⟨rfl, HB1.out⟩
set_option maxHeartbeats 8000000 in
set_option maxRecDepth 100000 in
theorem plan_walk (k : Nat) (A0 : Option Addr) (c0 : Nat) (l0 : List (List Int)) (A1 : Option Addr) (c1 : Nat) (l1 : List Int) (A2 : Option Addr) (c2 : Nat) (l2 : List S138) (b : Bool) (w : World) (hr0 : Kd.C (Kd.slice 3 (Kd.int .i64)) w A0 l0.length l0) (hc0 : l0.length ≤ c0) (hr1 : Kd.C (Kd.int .i64) w A1 l1.length l1) (hc1 : l1.length ≤ c1) (hr2 : Kd.C k138 w A2 l2.length l2) (hc2 : l2.length ≤ c2)
    (ho : impl_isOrder.f k l0 l1 = some true) (hg : goodY l0 = true) (hp : planR l1 l2 l0 0 = some b) : Calls Try.prog 52 #[.agg #[.slice A0 l0.length c0], .slice A1 l1.length c1, .slice A2 l2.length c2] w fun e w' => e = .returned (.tuple #[.bool b, .bool true]) ∧ Below w.heap.size w w' := by
  have HR0 := Aside0.mk hr0
  have HC0 := Aside0.mk hc0
  have HR1 := Aside0.mk hr1
  have HC1 := Aside0.mk hc1
  have HR2 := Aside0.mk hr2
  have HC2 := Aside0.mk hc2
  have HO := Aside0.mk ho
  have HG := Aside0.mk hg
  have HP := Aside0.mk hp
  have HOW := Aside0.mk (own_ends l0 hg 2097160 (by omega)).2
  have HLN := Aside0.mk (goodY_len hg)
  clear hg hp
  clear hr0 hc0 hr1 hc1 hr2 hc2 ho
  go_enter Try.func52, Try.ntmps52
  go_upto_region 1 with (fail)
  generalize hwa : w.alloc (Obj.cells #[Value.slice A0 l0.length c0] 42) = wa
  have hba : Below w.heap.size w wa := by rw [← hwa]; exact below_alloc (Below.refl _ _) _
  have hx3 : wa.cell? ⟨w.heap.size, 0, none⟩ = some (.slice A0 l0.length c0) := by rw [← hwa]; exact (blk_cell (blk_new _ _) 0).trans rfl
  have HBA := Aside0.mk hba
  clear hwa hba
  go_upto_region 3 with (go_at_call 126; refine (impl_isOrder.calls k A0 c0 l0 A1 c1 l1 true _ (Kd.C_below HR0.out HBA.out) HC0.out (Kd.C_below HR1.out HBA.out) HC1.out HO.out).mono ?_; rintro e w1 ⟨rfl, hb⟩; replace hx3 := cell_below hx3 hb; have HB1 := Aside0.mk (below_then HBA.out HBA.out.size hb); clear hb HBA)
  go_upto_region 4 with (go_at_call 108; refine (impl_ownYard.calls 2097160 A0 c0 l0 l0 _ (Kd.C_below HR0.out HB1.out) HC0.out HOW.out).mono ?_; rintro e w2 ⟨v1, rfl, hs, hb⟩; have HS := Aside0.mk (Kd.S_lower hs HB1.out.size); have HB2 := Aside0.mk (below_then HB1.out HB1.out.size hb); clear hs hb hx3; obtain ⟨g, c3, rfl, hgb, hgl, _⟩ := Kd.S_form HS.out (by have := HLN.out; omega); clear hgb hgl)
  have hk7 := blk_new w2 (Obj.cells #[Value.slice (some ⟨g, 0, none⟩) l0.length c3] 42)
  have hs2 := Kd.S_types (Kd.S_alloc HS.out (Obj.cells #[Value.slice (some ⟨g, 0, none⟩) l0.length c3] 42)) hk7 (by decide)
  have hb2 := below_alloc HB2.out (Obj.cells #[Value.slice (some ⟨g, 0, none⟩) l0.length c3] 42)
  generalize hN7 : w2.heap.size = n7 at hs2 hk7 hb2 ⊢
  generalize w2.alloc (Obj.cells #[Value.slice (some ⟨g, 0, none⟩) l0.length c3] 42) = w3 at hs2 hk7 hb2 ⊢
  have HS3 := Aside0.mk (Kd.S_mono (ok' := fun k => k ≠ n7) hs2 (fun _ hk => hk.2))
  have BK3 := Aside0.mk hk7
  have HB3 := Aside0.mk hb2
  clear hs2 hk7 hb2 hN7 HS HB1 HB2
  go_wp2
  go_loopg [9, 23] l2.length (fun kq v9 v23 w' => ∃ (i done : Nat) (ss : List (List Int)), v9 = .int .i64 (done : Int) ∧ v23 = .int .i64 (i : Int) ∧ Aside0 (i ≤ l2.length ∧ l2.length - i ≤ kq) ∧ Aside0 (planR l1 (l2.drop i) ss done = some b) ∧ Aside0 (goodY ss = true ∧ ss.length = l0.length) ∧ Aside0 (done ≤ l1.length) ∧ Aside0 (Kd.S (Kd.slice 3 (Kd.int .i64)) 24 w' w.heap.size (fun k => k ≠ n7) (.slice (some ⟨g, 0, none⟩) l0.length c3) ss) ∧ Aside0 (w'.heap[n7]? = some (.cells #[.slice (some ⟨g, 0, none⟩) l0.length c3] 42 (0, 0))) ∧ Aside0 (Below w.heap.size w w'))
  case atStart => exact ⟨0, 0, l0, rfl, rfl, ⟨Nat.zero_le _, by omega⟩, ⟨HP.out⟩, ⟨HG.out, rfl⟩, ⟨Nat.zero_le _⟩, HS3, BK3, HB3⟩
  case round =>
    obtain ⟨i, done, ss, rfl, rfl, HN, HPL, HGD, HDN, HS138, BK, HBB⟩ := hrel
    by_cases hlt : i < l2.length
    · have c1b : decide ((i : Int) < (l2.length : Int)) = true := decide_eq_true (by omega)
      have c1n : decide (i < l2.length) = true := decide_eq_true hlt
      have hD : l2.drop i = rd_T138 l2 (i : Int) :: l2.drop (i + 1) := by
        unfold rd_T138
        rw [Int.toNat_natCast]
        exact getD_cons hlt
      obtain ⟨ad0, e0, hx0, hx1⟩ := at_T138 HR2.out (i : Int) (by omega) (by omega)
      cases e0
      rw [Int.toNat_natCast] at hx0 hx1
      replace hx0 := (HBB.out.cell (World.block_lt_of_cell? w _ hx0)).trans hx0
      replace hx1 := (HBB.out.cell (World.block_lt_of_cell? w _ hx1)).trans hx1
      replace HPL := HPL.out
      rw [hD] at HPL
      clear hD
      generalize rd_T138 l2 (i : Int) = x at HPL hx0 hx1
      obtain ⟨bx, tg⟩ := x
      simp only at hx0 hx1
      rw [planR] at HPL
      simp only at HPL
      replace HPL := Aside0.mk HPL
      have HLT := Aside0.mk hlt
      have q1 : (0 ≤ (i : Int)) = True := eq_true (by omega)
      have q2 : ((i : Int) < (l2.length : Int)) = True := eq_true (by omega)
      have hw1 : wrap64 ((i : Int) + 1) = ((i + 1 : Nat) : Int) := wnext hlt (Kd.C_max HR2.out)
      clear hlt
      go_upto_region 8 with (fail)
      have hb6 := below_alloc HBB.out (Obj.cells #[Value.int .i64 bx, Value.int .i64 tg] 138)
      have hs6 := Kd.S_alloc HS138.out (Obj.cells #[Value.int .i64 bx, Value.int .i64 tg] 138)
      have hk6 := blk_alloc BK.out (Obj.cells #[Value.int .i64 bx, Value.int .i64 tg] 138)
      have hk11 := blk_new wr (Obj.cells #[Value.int .i64 bx, Value.int .i64 tg] 138)
      generalize wr.heap.size = n11 at hk11 ⊢
      generalize wr.alloc (Obj.cells #[Value.int .i64 bx, Value.int .i64 tg] 138) = w6 at hb6 hs6 hk6 hk11 ⊢
      have HB6 := Aside0.mk hb6
      have HS6 := Aside0.mk hs6
      have BK6 := Aside0.mk hk6
      have BK11 := Aside0.mk hk11
      have hx8 : w6.cell? ⟨n7, 0, none⟩ = some (.slice (some ⟨g, 0, none⟩) l0.length c3) := (blk_cell hk6 0).trans rfl
      have hx11 : w6.cell? ⟨n11, 0, none⟩ = some (.int .i64 bx) := (blk_cell hk11 0).trans rfl
      have hx12 : w6.cell? ⟨n11, 1, none⟩ = some (.int .i64 tg) := (blk_cell hk11 1).trans rfl
      clear hb6 hs6 hk6 hk11 hx0 hx1 BK HS138 HBB
      by_cases h1 : done = l1.length
      · have d1 : ((done : Int) == (l1.length : Int)) = true := beq_iff_eq.2 (by omega)
        have d2 : (done == l1.length) = true := beq_iff_eq.2 h1
        have HE := Aside0.mk h1
        clear h1
        go_wp2
        go_ret2
        refine ⟨?_, HB6.out⟩
        have h := HPL.out
        rw [if_pos HE.out] at h
        cases h
        rfl
      · have d1 : ((done : Int) == (l1.length : Int)) = false := beq_eq_false_iff_ne.2 (by omega)
        have d2 : (done == l1.length) = false := beq_eq_false_iff_ne.2 h1
        have hdl : done < l1.length := by have := HDN.out; omega
        replace HPL := HPL.out
        rw [if_neg h1] at HPL
        obtain ⟨ad1, e1, hx34⟩ := Kd.at_int HR1.out (done : Int) (by omega) (by omega)
        cases e1
        rw [Int.toNat_natCast, rd_nat] at hx34
        replace hx34 := (HB6.out.cell (World.block_lt_of_cell? w _ hx34)).trans hx34
        have q4 : (0 ≤ (done : Int)) = True := eq_true (by omega)
        have q5 : ((done : Int) < (l1.length : Int)) = True := eq_true (by omega)
        have hwd : wrap64 ((done : Int) + 1) = ((done + 1 : Nat) : Int) := wnext hdl (Kd.C_max HR1.out)
        have HDL := Aside0.mk hdl
        generalize l1.getD done 0 = nx at HPL hx34
        clear h1 hdl
        by_cases h2 : tg = -1
        · have d3 : (tg == -1) = true := beq_iff_eq.2 h2
          rw [if_pos h2] at HPL
          by_cases h3 : bx = nx
          · have d4 : (bx != nx) = false := by rw [bne_eq_false_iff_eq]; exact h3
            rw [if_pos h3] at HPL
            clear h2 h3
            by_cases h4 : (stepA ss bx tg).2 = true
            · rw [if_pos h4] at HPL
              replace HPL := Aside0.mk HPL
              have H4 := Aside0.mk h4
              clear h4
              go_wp2_with (go_at_call 127; refine (step_walkn w _ (fun k => k ≠ n7) g c3 l0.length ss bx tg HGD.out.1 (HB6.out) (HS6.out) HGD.out.2).mono ?_; rw [H4.out]; rintro e w9 ⟨rfl, hs, hb, hk⟩; have HSE := Aside0.mk hs; have HBE := Aside0.mk hb; have BKE := Aside0.mk (blk_kept (BK6.out) hk (fun h => h rfl)); have HNE := Aside0.mk (blk_lt (BK6.out)); clear hs hb hk)
              go_roundg (l2.length - (i + 1))
              · exact ⟨i + 1, done + 1, (stepA ss bx tg).1, by first | rfl | (rw [hwd]), by rw [hw1], ⟨by have := HLT.out; omega, Nat.le_refl _⟩, HPL, ⟨(step_good HGD.out.1 bx tg).1, (step_good HGD.out.1 bx tg).2.trans HGD.out.2⟩, ⟨HDL.out⟩, ⟨Kd.S_mono HSE.out (fun k hk => hk.elim id (fun h => fun e_ => by have := HNE.out; omega))⟩, BKE, HBE⟩
              · have := HN.out; have := HLT.out; omega
            · rw [if_neg h4] at HPL
              have h4' : (stepA ss bx tg).2 = false := by simpa using h4
              replace HPL := Aside0.mk HPL
              have H4 := Aside0.mk h4'
              clear h4 h4'
              go_wp2_with (go_at_call 127; refine (step_walkn w _ (fun k => k ≠ n7) g c3 l0.length ss bx tg HGD.out.1 (HB6.out) (HS6.out) HGD.out.2).mono ?_; rw [H4.out]; rintro e w9 ⟨rfl, hs, hb, hk⟩; have HSE := Aside0.mk hs; have HBE := Aside0.mk hb; have BKE := Aside0.mk (blk_kept (BK6.out) hk (fun h => h rfl)); have HNE := Aside0.mk (blk_lt (BK6.out)); clear hs hb hk)
              go_ret2
              refine ⟨?_, HBE.out⟩
              have h := HPL.out
              cases h
              rfl
          · have d4 : (bx != nx) = true := bne_iff_ne.2 h3
            rw [if_neg h3] at HPL
            replace HPL := Aside0.mk HPL
            clear h2 h3
            go_wp2
            go_ret2
            refine ⟨?_, HB6.out⟩
            have h := HPL.out
            cases h
            rfl
        · have d3 : (tg == -1) = false := beq_eq_false_iff_ne.2 h2
          rw [if_neg h2] at HPL
          by_cases h5 : (findY nx ss 0).1 < 0
          · rw [if_pos h5] at HPL
            cases HPL
          rw [if_neg h5] at HPL
          rcases findY_rng nx ss 0 with e | ⟨n, t, e, hn, ht⟩
          · exact absurd (by rw [e]; decide) h5
          rw [Int.zero_add] at e
          have HPO := Aside0.mk (placeOf_ends ss nx (by have := goodY_len HGD.out.1; omega) (by have := goodY_tot HGD.out.1; omega) 2097160 (by omega))
          rw [e] at HPL HPO
          replace HPL : (if topY (ss.getD n []) = bx then (if (stepA ss bx tg).2 = true then planR l1 (l2.drop (i + 1)) (stepA ss bx tg).1 done else some false) else some false) = some b := HPL
          obtain ⟨Af, cf, hcf, hcc, hrf⟩ := S_rowC HS6.out HGD.out.2 n hn
          have h4 := goodY_row HGD.out.1 n
          have q6 : (0 ≤ (n : Int)) = True := eq_true (by omega)
          have q7 : ((n : Int) < (l0.length : Int)) = True := eq_true (by have := HGD.out.2; omega)
          generalize ss.getD n [] = lf at HPL hcf hcc hrf h4
          have HRF := Aside0.mk hrf
          have HCC := Aside0.mk hcc
          have HT := Aside0.mk (topOf_ends lf (by omega))
          have HRD := Aside0.mk (S_readsn HS6.out HGD.out.2)
          replace HPL := Aside0.mk HPL
          have HEL3 := Aside0.mk (show (.slice (some ⟨g, 0, none⟩) l0.length c3 : Value) = .slice (some ⟨g, 0, none⟩) ss.length c3 by rw [HGD.out.2])
          clear h2 h5 e hn ht hrf hcc h4
          go_upto_region 16 with (go_at_call 120; refine (show Calls Try.prog 120 #[.agg #[.slice (some ⟨g, 0, none⟩) l0.length c3], .int .i64 nx] _ _ from by rw [HEL3.out]; exact impl_placeOf.calls 2097160 (some ⟨g, 0, none⟩) c3 ss nx (n : Int) (t : Int) _ HRD.out.2 HRD.out.1 HPO.out).mono ?_; rintro e w7 ⟨rfl, hb⟩; replace hx8 := cell_below hx8 hb; replace hx11 := cell_below hx11 hb; replace hx12 := cell_below hx12 hb; replace hcf := cell_below hcf hb; have HB7 := Aside0.mk (below_then HB6.out HB6.out.size hb); have HS7 := Aside0.mk (Kd.S_below HS6.out hb); have BK7 := Aside0.mk (blk_below BK6.out hb); have BK11b := Aside0.mk (blk_below BK11.out hb); have HRF7 := Aside0.mk (Kd.C_below HRF.out hb); clear hb)
          clear HB6 HS6 BK6 BK11 HRF HRD
          refine start_ (n := 9) (S := fun w' => w'.cell? ⟨n7, 0, none⟩ = some (.slice (some ⟨g, 0, none⟩) l0.length c3) ∧ w'.cell? ⟨g, n, none⟩ = some (.slice Af lf.length cf) ∧ w'.cell? ⟨n11, 0, none⟩ = some (.int .i64 bx)) (ds := []) #[false, false, false, false, false, false, false, false, false] (by kernel_rfl) rfl rfl ⟨hx8, hcf, hx11⟩ (fun hHeld => ?_)
          replace HS7 := Aside0.mk (Kd.S_drew HS7.out)
          replace HB7 := Aside0.mk (below_drew1 HB7.out)
          replace BK7 := Aside0.mk (blk_drew BK7.out)
          replace BK11b := Aside0.mk (blk_drew BK11b.out)
          replace HRF7 := Aside0.mk (Kd.C_drew HRF7.out)
          clear hx8 hx11 hx12 hcf
          generalize w7.drew = w8 at HS7 HB7 BK7 BK11b HRF7 hHeld ⊢
          have HB8 := HB7
          clear HB7
          refine pure_ (i := 0) (N := some 50) (v := ?_) (a' := ?_) #[true, false, false, false, false, false, false, false, false] rfl rfl (by kernel_rfl) (fun _ _ _ h => h) (Or.inl ⟨by rfl, ?_⟩) ?_ ?_
          rotate_left
          · intro w'
            go_simp
            with_reducible rfl
          rotate_left
          · simp only [Act.put, List.setIfInBounds_toArray, List.set_cons_zero, List.set_cons_succ, i64_w, i32_w]
            rfl
          refine take_ (i := 1) (N := some 51) (v := ?_) (a' := ?_) #[true, true, false, false, false, false, false, false, false] rfl rfl (by kernel_rfl) (fun _ _ _ h => h) (Or.inl ⟨by rfl, ?_⟩) hHeld ?_ ?_
          rotate_left
          · rintro w' ⟨s0, s1, s2⟩
            go_simp
            with_reducible rfl
          rotate_left
          · simp only [Act.put, List.setIfInBounds_toArray, List.set_cons_zero, List.set_cons_succ, i64_w, i32_w]
            rfl
          refine pure_ (i := 2) (N := some 52) (v := ?_) (a' := ?_) #[true, true, true, false, false, false, false, false, false] rfl rfl (by kernel_rfl) (fun _ _ _ h => h) (Or.inl ⟨by rfl, ?_⟩) ?_ ?_
          rotate_left
          · intro w'
            go_simp
            with_reducible rfl
          rotate_left
          · simp only [Act.put, List.setIfInBounds_toArray, List.set_cons_zero, List.set_cons_succ, i64_w, i32_w]
            rfl
          refine pure_ (i := 3) (N := some 53) (v := ?_) (a' := ?_) #[true, true, true, true, false, false, false, false, false] rfl rfl (by kernel_rfl) (fun _ _ _ h => h) (Or.inl ⟨by rfl, ?_⟩) ?_ ?_
          rotate_left
          · intro w'
            go_simp
            with_reducible rfl
          rotate_left
          · simp only [Act.put, List.setIfInBounds_toArray, List.set_cons_zero, List.set_cons_succ, i64_w, i32_w]
            rfl
          refine take_ (i := 4) (N := some 54) (v := ?_) (a' := ?_) #[true, true, true, true, true, false, false, false, false] rfl rfl (by kernel_rfl) (fun _ _ _ h => h) (Or.inl ⟨by rfl, ?_⟩) hHeld ?_ ?_
          rotate_left
          · rintro w' ⟨s0, s1, s2⟩
            go_simp
            with_reducible rfl
          rotate_left
          · simp only [Act.put, List.setIfInBounds_toArray, List.set_cons_zero, List.set_cons_succ, i64_w, i32_w]
            rfl
          refine pure_ (i := 6) (N := some 56) (v := ?_) (a' := ?_) #[true, true, true, true, true, false, true, false, false] rfl rfl (by kernel_rfl) (fun _ _ _ h => h) (Or.inl ⟨by rfl, ?_⟩) ?_ ?_
          rotate_left
          · intro w'
            go_simp
            with_reducible rfl
          rotate_left
          · simp only [Act.put, List.setIfInBounds_toArray, List.set_cons_zero, List.set_cons_succ, i64_w, i32_w]
            rfl
          refine take_ (i := 7) (N := some 57) (v := ?_) (a' := ?_) #[true, true, true, true, true, false, true, true, false] rfl rfl (by kernel_rfl) (fun _ _ _ h => h) (Or.inl ⟨by rfl, ?_⟩) hHeld ?_ ?_
          rotate_left
          · rintro w' ⟨s0, s1, s2⟩
            go_simp
            with_reducible rfl
          rotate_left
          · simp only [Act.put, List.setIfInBounds_toArray, List.set_cons_zero, List.set_cons_succ, i64_w, i32_w]
            rfl
          refine one_ (i := 5) (N := some 55) #[true, true, true, true, true, true, true, true, false] rfl rfl (by kernel_rfl) (by decide) (fun K hK => ?_)
          refine goes_ Try.func119 (by kernel_rfl) rfl #[.slice Af lf.length cf] (by rfl) rfl rfl (by (try simp only [List.map_toArray, List.map_cons, List.map_nil]); first | done | rfl) ?_
          with_reducible refine (impl_topOf.calls Af cf lf (topY lf) _ HRF7.out HCC.out HT.out).mono ?_
          rintro e w1 ⟨rfl, ⟨⟨q1, rfl⟩⟩⟩
          refine ⟨_, rfl, ?_⟩
          refine hK.out _ _ ⟨hHeld.1, hHeld.2.1, hHeld.2.2⟩ (fun hHeld => ?_)
          clear hK K
          refine norm_ (a' := ?_) ?_ ?_
          rotate_left
          · show Act.put _ (some 55) _ = _
            simp only [Act.put, List.setIfInBounds_toArray, List.set_cons_zero, List.set_cons_succ, i64_w, i32_w]
            rfl
          refine pure_ (i := 8) (N := some 58) (v := ?_) (a' := ?_) #[true, true, true, true, true, true, true, true, true] rfl rfl (by kernel_rfl) (fun _ _ _ h => h) (Or.inl ⟨by rfl, ?_⟩) ?_ ?_
          rotate_left
          · intro w'
            go_simp
            with_reducible rfl
          rotate_left
          · simp only [Act.put, List.setIfInBounds_toArray, List.set_cons_zero, List.set_cons_succ, i64_w, i32_w]
            rfl
          refine done_ (by kernel_rfl) ?_
          have hx8 := hHeld.1
          have hx11 := hHeld.2.2
          have hx12 : (w8.drewN q1).cell? ⟨n11, 1, none⟩ = some (.int .i64 tg) := (blk_cell (blk_drewN BK11b.out q1) 1).trans rfl
          clear hHeld
          by_cases h6 : topY lf = bx
          · have d6 : (topY lf != bx) = false := by rw [bne_eq_false_iff_eq]; exact h6
            replace HPL := HPL.out
            rw [if_pos h6] at HPL
            clear h6
            by_cases h4 : (stepA ss bx tg).2 = true
            · rw [if_pos h4] at HPL
              replace HPL := Aside0.mk HPL
              have H4 := Aside0.mk h4
              clear h4
              go_wp2_with (go_at_call 127; refine (step_walkn w _ (fun k => k ≠ n7) g c3 l0.length ss bx tg HGD.out.1 (pw_below_drewN HB8.out q1) (Kd.S_drewN HS7.out q1) HGD.out.2).mono ?_; rw [H4.out]; rintro e w9 ⟨rfl, hs, hb, hk⟩; have HSE := Aside0.mk hs; have HBE := Aside0.mk hb; have BKE := Aside0.mk (blk_kept (blk_drewN BK7.out q1) hk (fun h => h rfl)); have HNE := Aside0.mk (blk_lt (blk_drewN BK7.out q1)); clear hs hb hk)
              go_roundg (l2.length - (i + 1))
              · exact ⟨i + 1, done, (stepA ss bx tg).1, by first | rfl | (rw [hwd]), by rw [hw1], ⟨by have := HLT.out; omega, Nat.le_refl _⟩, HPL, ⟨(step_good HGD.out.1 bx tg).1, (step_good HGD.out.1 bx tg).2.trans HGD.out.2⟩, ⟨HDN.out⟩, ⟨Kd.S_mono HSE.out (fun k hk => hk.elim id (fun h => fun e_ => by have := HNE.out; omega))⟩, BKE, HBE⟩
              · have := HN.out; have := HLT.out; omega
            · rw [if_neg h4] at HPL
              have h4' : (stepA ss bx tg).2 = false := by simpa using h4
              replace HPL := Aside0.mk HPL
              have H4 := Aside0.mk h4'
              clear h4 h4'
              go_wp2_with (go_at_call 127; refine (step_walkn w _ (fun k => k ≠ n7) g c3 l0.length ss bx tg HGD.out.1 (pw_below_drewN HB8.out q1) (Kd.S_drewN HS7.out q1) HGD.out.2).mono ?_; rw [H4.out]; rintro e w9 ⟨rfl, hs, hb, hk⟩; have HSE := Aside0.mk hs; have HBE := Aside0.mk hb; have BKE := Aside0.mk (blk_kept (blk_drewN BK7.out q1) hk (fun h => h rfl)); have HNE := Aside0.mk (blk_lt (blk_drewN BK7.out q1)); clear hs hb hk)
              go_ret2
              refine ⟨?_, HBE.out⟩
              have h := HPL.out
              cases h
              rfl
          · have d6 : (topY lf != bx) = true := bne_iff_ne.2 h6
            replace HPL := HPL.out
            rw [if_neg h6] at HPL
            replace HPL := Aside0.mk HPL
            clear h6
            go_wp2
            go_ret2
            refine ⟨?_, pw_below_drewN HB8.out q1⟩
            have h := HPL.out
            cases h
            rfl
    · have c1b : decide ((i : Int) < (l2.length : Int)) = false := decide_eq_false (by omega)
      have c1n : decide (i < l2.length) = false := decide_eq_false hlt
      have hD : l2.drop i = [] := List.drop_of_length_le (by omega)
      replace HPL := HPL.out
      rw [hD, planR] at HPL
      have hb : ((done : Int) == (l1.length : Int)) = b := by
        rw [← Option.some.inj HPL, Bool.eq_iff_iff, beq_iff_eq, decide_eq_true_eq]
        omega
      have HE := Aside0.mk hb
      clear hD hlt HPL hb
      go_wp2
      go_ret2
      exact ⟨by rw [HE.out]; rfl, HBB.out⟩
def impl_IsPlan.f (k : Nat) (l0_0 : List (List Int)) (l1 : List Int) (l2 : List S138) : Option (Bool × Bool) :=
  (impl_isOrder.f k l0_0 l1).bind fun b => if b = true then (if goodY l0_0 = true then (planR l1 l2 l0_0 0).bind fun r => some (r, true) else none) else some (false, false)
theorem impl_IsPlan.mono : ∀ a0 a1 a2 k, LeO (impl_IsPlan.f k a0 a1 a2) (impl_IsPlan.f (k + 1) a0 a1 a2) := by
  intro a0 a1 a2 k
  unfold impl_IsPlan.f
  exact LeO.bind (impl_isOrder.mono _ _ _) (fun _ => LeO.refl _)
theorem impl_IsPlan.calls (k : Nat) (A0_0 : Option Addr) (c0_0 : Nat) (l0_0 : List (List Int)) (A1 : Option Addr) (c1 : Nat) (l1 : List Int) (A2 : Option Addr) (c2 : Nat) (l2 : List S138) (r1 : Bool) (r2 : Bool) (w : World) (hr0_0 : Kd.C (Kd.slice 3 (Kd.int .i64)) w A0_0 l0_0.length l0_0) (hc0_0 : l0_0.length ≤ c0_0) (hr1 : Kd.C (Kd.int .i64) w A1 l1.length l1) (hc1 : l1.length ≤ c1) (hr2 : Kd.C k138 w A2 l2.length l2) (hc2 : l2.length ≤ c2) (h : impl_IsPlan.f k l0_0 l1 l2 = some (r1, r2)) :
    Calls Try.prog 52 #[.agg #[.slice A0_0 l0_0.length c0_0], .slice A1 l1.length c1, .slice A2 l2.length c2] w fun e w' => e = .returned (.tuple #[.bool r1, .bool r2]) ∧ Below w.heap.size w w' := by
  obtain ⟨b, ho, h⟩ := Option.bind_eq_some_iff.mp h
  cases b with
  | false =>
    rw [if_neg (by decide)] at h
    cases h
    exact plan_no k A0_0 c0_0 l0_0 A1 c1 l1 A2 c2 l2 w hr0_0 hc0_0 hr1 hc1 hr2 hc2 ho
  | true =>
    rw [if_pos rfl] at h
    by_cases hg : goodY l0_0 = true
    · rw [if_pos hg] at h
      obtain ⟨r, hp, h⟩ := Option.bind_eq_some_iff.mp h
      cases h
      exact plan_walk k A0_0 c0_0 l0_0 A1 c1 l1 A2 c2 l2 _ w hr0_0 hc0_0 hr1 hc1 hr2 hc2 ho hg hp
    · rw [if_neg hg] at h
      cases h
end Go.Proofs.Ytlldonokjgoajaa.X
