-- Written by a program of ours (wip/bin/xprint.py,over the kit's print.py) out of the translation. Not trusted: Lean checks it.
import Derived.Test.YtlldonokjgoajaaX0
import Derived.Test.YtlldonokjgoajaaFbList
import Derived.Test.YtlldonokjgoajaaFspecl1Own
import Derived.Test.YtlldonokjgoajaaGClone
namespace Go.Proofs.Ytlldonokjgoajaa.X
open Go.RowKit Go.Proofs.YtlldonokjgoajaaW.PrintWords Go.Proofs.YtlldonokjgoajaaW.PrintLast Go.Proofs.YtlldonokjgoajaaW.PrintMore
def lbd15 : Nat → Nat → List Bool
 | 0,_ => []
 | n+1,m => (m%2==1) :: lbd15 n (m/2)
def bd15 (n m : Nat) : Array Bool := ⟨lbd15 n m⟩
attribute [local go_sem] max2_int min2_int max_two min_two max_three min_three max_four min_four   -- for this text's walks alone
set_option linter.unusedVariables false
set_option linter.unusedSimpArgs false

/-! ### spec_l5Good: function 116 -/
mutual
def spec_l5Good.l0 : Nat → List Int → Int → List (List Int) → Option (Bool)
 | 0,_,_,_ => none
 | k + 1,x3,x4,x450000 => if x4 < (x450000.length : Int) then (if 0 ≤ x4 then (if ((rd_L2 x450000 x4).length : Int) > 4 then (some false) else (spec_l5Good.l1 k x3 x4 0 x450000)) else (none)) else (some true)
def spec_l5Good.l1 : Nat → List Int → Int → Int → List (List Int) → Option (Bool)
 | 0,_,_,_,_ => none
 | k + 1,x3,x4,x5,x450000 => if 0 ≤ x4 then (if x4 < (x450000.length : Int) then (if x5 < ((rd_L2 x450000 x4).length : Int) then (if 0 ≤ x5 then ((spec_l1In.f (rd (rd_L2 x450000 x4) x5) 1 99).bind fun t458 => (if t458 = true then ((spec_l1Has.f k x3 (rd (rd_L2 x450000 x4) x5)).bind fun t459 => (if t459 = true then (some false) else (if x3.length < 17592186044416 then (spec_l5Good.l1 k (x3 ++ [rd (rd_L2 x450000 x4) x5]) x4 (wrap64 (x5 + 1)) x450000) else (none)))) else (some false))) else (none)) else (spec_l5Good.l0 k x3 (wrap64 (x4 + 1)) x450000)) else (none)) else (none)
end
def spec_l5Good.f (k : Nat) (l0_0 : List (List Int)) : Option (Bool):=(spec_l1In.f (l0_0.length : Int) 1 6).bind fun t450 => (if t450 = true then (spec_l5Good.l0 k (([] : List Int)) 0 l0_0) else (some false))
theorem spec_l5Good.mono_l : ∀ k,(∀ y0 y1 y2,LeO (spec_l5Good.l0 k y0 y1 y2) (spec_l5Good.l0 (k + 1) y0 y1 y2)) ∧ (∀ y0 y1 y2 y3,LeO (spec_l5Good.l1 k y0 y1 y2 y3) (spec_l5Good.l1 (k + 1) y0 y1 y2 y3))
 | 0 => ⟨fun _ _ _ r h => by simp [spec_l5Good.l0] at h,fun _ _ _ _ r h => by simp [spec_l5Good.l1] at h⟩
 | k + 1 => by
  obtain ⟨ih0,ih1⟩:=spec_l5Good.mono_l k
  refine ⟨?_,?_⟩
  ·intro y0 y1 y2
   unfold spec_l5Good.l0
   repeat' first
   | (with_reducible exact ih0 _ _ _)
   | (with_reducible exact ih1 _ _ _ _)
   | (with_reducible exact spec_l1Has.mono _ _ _)
   | (with_reducible exact LeO.refl _)
   | (with_reducible exact LeO.none _)
   | (with_reducible refine LeO.ite ?_ ?_)
   | (with_reducible refine LeO.bind ?_ (fun _ => ?_))
   | exact ih0 _ _ _
   | exact ih1 _ _ _ _
   | exact spec_l1Has.mono _ _ _
   | exact LeO.none _
   | refine LeO.ite ?_ ?_
   | refine LeO.bind ?_ (fun _ => ?_)
  ·intro y0 y1 y2 y3
   unfold spec_l5Good.l1
   repeat' first
   | (with_reducible exact ih0 _ _ _)
   | (with_reducible exact ih1 _ _ _ _)
   | (with_reducible exact spec_l1Has.mono _ _ _)
   | (with_reducible exact LeO.refl _)
   | (with_reducible exact LeO.none _)
   | (with_reducible refine LeO.ite ?_ ?_)
   | (with_reducible refine LeO.bind ?_ (fun _ => ?_))
   | exact ih0 _ _ _
   | exact ih1 _ _ _ _
   | exact spec_l1Has.mono _ _ _
   | exact LeO.none _
   | refine LeO.ite ?_ ?_
   | refine LeO.bind ?_ (fun _ => ?_)
theorem spec_l5Good.mono : ∀ a0 k,LeO (spec_l5Good.f k a0) (spec_l5Good.f (k + 1) a0):=by
 intro a0 k
 obtain ⟨ih0,ih1⟩:=spec_l5Good.mono_l k
 unfold spec_l5Good.f
 repeat' first
   | (with_reducible exact ih0 _ _ _)
   | (with_reducible exact ih1 _ _ _ _)
   | (with_reducible exact spec_l1Has.mono _ _ _)
   | (with_reducible exact LeO.refl _)
   | (with_reducible exact LeO.none _)
   | (with_reducible refine LeO.ite ?_ ?_)
   | (with_reducible refine LeO.bind ?_ (fun _ => ?_))
   | exact ih0 _ _ _
   | exact ih1 _ _ _ _
   | exact spec_l1Has.mono _ _ _
   | exact LeO.none _
   | refine LeO.ite ?_ ?_
   | refine LeO.bind ?_ (fun _ => ?_)
set_option maxHeartbeats 8000000 in
set_option maxRecDepth 100000 in
theorem spec_l5Good.calls (k : Nat) (A0_0 : Option Addr) (c0_0 : Nat) (l0_0 : List (List Int)) (r : Bool) (w : World) (hr0_0 : Kd.C (Kd.slice 3 (Kd.int .i64)) w A0_0 l0_0.length l0_0) (hc0_0 : l0_0.length ≤ c0_0) (h : spec_l5Good.f k l0_0 = some r) :
  Calls Try.prog 116 #[.agg #[.slice A0_0 l0_0.length c0_0]] w fun e w' => e = .returned (.bool r) ∧ Below w.heap.size w w':=by
 have hu42:=Try.underlying42
 have HR0_0:=Aside0.mk hr0_0
 have HC0_0:=Aside0.mk hc0_0
 clear hr0_0 hc0_0
 have HB:=Aside0.mk (Below.refl w.heap.size w)
 have H : ((spec_l1In.f (l0_0.length : Int) 1 6).bind fun t450 => (if t450 = true then (spec_l5Good.l0 k (([] : List Int)) 0 l0_0) else (some false))) = some r:=h
 clear h
 replace H:=Option.bind_eq_some_iff.mp H
 obtain ⟨t450,A20,H⟩:=H
 replace H : (if t450 = true then (spec_l5Good.l0 k (([] : List Int)) 0 l0_0) else (some false)) = some r:=H
 have A2:=Aside0.mk A20
 clear A20
 by_cases c3 : t450 = true
 ·subst c3
  have H1 : (spec_l5Good.l0 k (([] : List Int)) 0 l0_0) = some r:=by rw [if_pos rfl] at H; exact H
  clear H
  have H:=H1
  clear H1
  obtain ⟨y451,hy451⟩ : ∃ y_ : List Int,y_ = (([] : List Int)):=⟨_,rfl⟩
  replace H : (spec_l5Good.l0 k y451 0 l0_0) = some r:=by first|(rw [hy451]; with_reducible exact H)|(have H2_:=(Option.bind_some _ _).symm.trans H; rw [hy451]; with_reducible exact H2_)|(have H2_:=(Option.bind_some _ _).symm.trans H; with_reducible exact H2_)|with_reducible exact H|(rw [hy451]; exact H)|exact H
  have Ny451:=Aside0.mk hy451
  clear hy451
  have H':=Aside0.mk H
  clear H
  go_enter Try.func116,Try.ntmps116
  go_wp2_with (first|((with_reducible refine gate_dst (N:=1) rfl ?_); refine box_event ?hg (N:=1) ?hd (cs:=#[.slice A0_0 l0_0.length c0_0]) (t:=42) ?hr ?_; (case hd => rfl); (case hg => rfl); (case hr => first|(go_simp; done)|(go_simp; rfl)); intro gb449 hg w4 hbox hb; have n0_:=Aside0.mk (below_step (by repeat (first|(with_reducible first|exact HB.out|apply below_alloc|apply pw_below_drewN|apply below_drew1)|exact HB.out)) hb); have n1_:=Aside0.mk (hbox); have n2_:=Aside0.mk ((by rw [hg]; exact (below_size (by repeat (first|(with_reducible first|exact HB.out|apply below_alloc|apply pw_below_drewN|apply below_drew1)|exact HB.out))) : w.heap.size ≤ gb449)); have n3_:=Aside0.mk ((by rw [hg]; exact (below_size (by repeat (first|(with_reducible first|exact HB.out|apply below_alloc|apply pw_below_drewN|apply below_drew1)|exact HB.out))) : w.heap.size ≤ gb449)); clear HB; have HB:=n0_; have BK449:=n1_; have GW449:=n2_; have GE449:=n3_; clear n0_ n1_ n2_ n3_; clear hb hbox hg; have hcz5_0 : w4.cell? ⟨gb449,0,none⟩ = some (.slice A0_0 l0_0.length c0_0):=(blk_cell BK449.out 0).trans rfl; have hfz5_0:=blk_frozen BK449.out 0)|((with_reducible refine gate_callee (f:=162) rfl ?_); refine goesL_ (some 10) rfl rfl Try.func162 (by kernel_rfl) rfl #[.int .i64 (l0_0.length : Int),.int .i64 1,.int .i64 6] rfl (by (try simp only [List.map_toArray,List.map_cons,List.map_nil]); first|done|rfl|(simp only [List.length_drop,List.length_take]; rfl)) ?_; (with_reducible refine (spec_l1In.calls (l0_0.length : Int) 1 6 true _ A2.out).mono ?_); rintro e w' ⟨rfl,⟨nd,rfl⟩⟩; refine ⟨_,rfl,?_⟩)|((with_reducible refine gate_dst (N:=12) rfl ?_); refine Kd.R_lit (Kd.int .i64) _ 3 ?hg (N:=12) ?hd (xs:=([] : List Int)) (inner:=[]) (ok:=fun _ => True) (okp:=fun _ => True) ?hr ?hp (fun _ hk => hk) trivial (Below.refl _ _) (Nat.le_refl _) (by simp) ?_; (case hd => rfl); (case hg => rfl); (case hr => first|(go_simp; done)|(go_simp; rfl)); (case hp => exact (Reps.none _ _)); intro v452 w6 ho7 hb hg_ hnew_; clear hg_ hnew_; (first|rw [← Ny451.out] at ho7|(simp only [Int.reduceToNat] at ho7; rw [← Ny451.out] at ho7)); have n0_:=Aside0.mk (Kd.R_lower ho7 (below_size (by repeat (first|(with_reducible first|exact HB.out|apply below_alloc|apply pw_below_drewN|apply below_drew1|refine below_set ?_ GE449.out)|exact HB.out)))); have n1_:=Aside0.mk (blk_below (g:=gb449) (o:=.cells #[.slice A0_0 l0_0.length c0_0] 42 (0,0)) (by (with_reducible repeat (first|refine blk_drewN ?_ _|refine blk_drew ?_|refine blk_alloc ?_ _)); exact BK449.out) hb); have n2_:=Aside0.mk (below_step (by repeat (first|(with_reducible first|exact HB.out|apply below_alloc|apply pw_below_drewN|apply below_drew1|refine below_set ?_ GE449.out)|exact HB.out)) hb); clear BK449; clear HB; have HO453:=n0_; have BK449:=n1_; have HB:=n2_; clear n0_ n1_ n2_; clear hb ho7))
  go_loopg [3,4] k (fun kq v3 v4 w' => ∃ (x3_1 : List Int) (x4_1 : Int),v4 = .int .i64 x4_1 ∧ Aside0 (spec_l5Good.l0 kq x3_1 x4_1 l0_0 = some r) ∧ Aside0 (kq ≤ k) ∧ Aside0 (Kd.R (Kd.int .i64) 3 w' w.heap.size (fun _ => True) v3 x3_1) ∧ Aside0 (w'.heap[gb449]? = some (.cells #[(.slice A0_0 l0_0.length c0_0)] 42 (0,0))) ∧ Aside0 (Below w.heap.size w w'))
  case atStart => exact ⟨(y451),(0),(by first|rfl|(simp; done)|(simp [*]; done)),H',⟨Nat.le_refl _⟩,⟨by (with_reducible repeat (first|apply Kd.R_alloc|apply Kd.R_drewN|apply Kd.R_drew)); exact HO453.out⟩,⟨by (with_reducible repeat (first|refine blk_drewN ?_ _|refine blk_drew ?_|refine blk_alloc ?_ _)); exact BK449.out⟩,⟨by repeat (first|(with_reducible first|exact HB.out|apply below_alloc|apply pw_below_drewN|apply below_drew1|refine below_set ?_ GE449.out)|exact HB.out)⟩⟩
  case round =>
   clear H'
   try clear c1
   try clear p2
   try clear c3
   try clear hcz5_0
   try clear hfz5_0
   obtain ⟨x3_1,x4_1,rfl,HA,HK1,HO_3,BK449,HB⟩:=hrel
   cases gk with
   | zero => exact absurd HA.out (by simp [spec_l5Good.l0])
   | succ k1 =>
    have H:=HA.out
    clear HA
    simp only [spec_l5Good.l0] at H
    by_cases c8 : x4_1 < (l0_0.length : Int)
    ·rw [if_pos c8] at H
     have c8b0 : decide (x4_1 < (l0_0.length : Int)) = true:=decide_eq_true c8
     clear c8
     by_cases c9 : 0 ≤ x4_1
     ·rw [if_pos c9] at H
      have c9b0 : decide (0 ≤ x4_1) = true:=decide_eq_true c9
      clear c9
      by_cases c10 : ((rd_L2 l0_0 x4_1).length : Int) > 4
      ·rw [if_pos c10] at H
       have c10b0 : decide (4 < ((rd_L2 l0_0 x4_1).length : Int)) = true:=decide_eq_true c10
       have c10b1 : decide (4 < (rd_L2 l0_0 x4_1).length) = true:=decide_eq_true (by omega)
       clear c10
       obtain rfl:=Option.some.inj H
       have hcz11_0 : wr.cell? ⟨gb449,0,none⟩ = some (.slice A0_0 l0_0.length c0_0):=(blk_cell BK449.out 0).trans rfl
       have hfz11_0:=blk_frozen BK449.out 0
       have p454 : 0 ≤ (x4_1 : Int):=of_decide_eq_true (by first|(with_reducible assumption)|assumption)
       have q454 : x4_1 < (l0_0.length : Int):=of_decide_eq_true (by first|(with_reducible assumption)|assumption)
       obtain ⟨ad454,A454_0,c454_0,e454,hx454_0,hl454_0,hi454_0⟩:=at_L2 HR0_0.out x4_1 p454 q454
       cases e454
       replace hx454_0:=(HB.out.cell (World.block_lt_of_cell? w _ hx454_0)).trans hx454_0
       have HR454_0:=Aside0.mk hi454_0
       have HC454_0:=Aside0.mk hl454_0
       clear hi454_0 hl454_0
       replace p454:=eq_true p454
       replace q454:=eq_true q454
       go_wp2
       go_ret
       exact ⟨by first|rfl|(simp [errW_none,errW_some] <;> rfl)|(simp [*,errW_none,errW_some] <;> rfl),by repeat (first|(with_reducible first|exact HB.out|apply below_alloc|apply pw_below_drewN|apply below_drew1|refine below_set ?_ GE449.out)|exact HB.out)⟩
      ·rw [if_neg c10] at H
       have c10b0 : decide (4 < ((rd_L2 l0_0 x4_1).length : Int)) = false:=decide_eq_false c10
       have c10b1 : decide (4 < (rd_L2 l0_0 x4_1).length) = false:=decide_eq_false (by omega)
       clear c10
       have H':=Aside0.mk H
       clear H
       have hcz12_0 : wr.cell? ⟨gb449,0,none⟩ = some (.slice A0_0 l0_0.length c0_0):=(blk_cell BK449.out 0).trans rfl
       have hfz12_0:=blk_frozen BK449.out 0
       have p454 : 0 ≤ (x4_1 : Int):=of_decide_eq_true (by first|(with_reducible assumption)|assumption)
       have q454 : x4_1 < (l0_0.length : Int):=of_decide_eq_true (by first|(with_reducible assumption)|assumption)
       obtain ⟨ad454,A454_0,c454_0,e454,hx454_0,hl454_0,hi454_0⟩:=at_L2 HR0_0.out x4_1 p454 q454
       cases e454
       replace hx454_0:=(HB.out.cell (World.block_lt_of_cell? w _ hx454_0)).trans hx454_0
       have HR454_0:=Aside0.mk hi454_0
       have HC454_0:=Aside0.mk hl454_0
       clear hi454_0 hl454_0
       replace p454:=eq_true p454
       replace q454:=eq_true q454
       go_wp2
       go_loopg [3,5] k1 (fun kq v3 v5 w' => ∃ (x3_2 : List Int) (x5_2 : Int),v5 = .int .i64 x5_2 ∧ Aside0 (spec_l5Good.l1 kq x3_2 x4_1 x5_2 l0_0 = some r) ∧ Aside0 (kq ≤ k1) ∧ Aside0 (Kd.R (Kd.int .i64) 3 w' w.heap.size (fun _ => True) v3 x3_2) ∧ Aside0 (w'.heap[gb449]? = some (.cells #[(.slice (some ad454) l0_0.length c0_0)] 42 (0,0))) ∧ Aside0 (Below w.heap.size w w'))
       case atStart => exact ⟨(x3_1),(0),(by first|rfl|(simp; done)|(simp [*]; done)),H',⟨Nat.le_refl _⟩,⟨by (with_reducible repeat (first|apply Kd.R_alloc|apply Kd.R_drewN|apply Kd.R_drew)); exact HO_3.out⟩,⟨by (with_reducible repeat (first|refine blk_drewN ?_ _|refine blk_drew ?_|refine blk_alloc ?_ _)); exact BK449.out⟩,⟨by repeat (first|(with_reducible first|exact HB.out|apply below_alloc|apply pw_below_drewN|apply below_drew1|refine below_set ?_ GE449.out)|exact HB.out)⟩⟩
       case round =>
        clear H'
        try clear c1
        try clear p2
        try clear c3
        try clear c4
        try clear p4
        try clear q4
        try clear hx4
        try clear c8
        try clear c8b0
        try clear c9
        try clear c9b0
        try clear c10
        try clear c10b0
        try clear c10b1
        try clear c11
        try clear hcz11_0
        try clear hcz12_0
        try clear hcz5_0
        try clear hfz11_0
        try clear hfz12_0
        try clear hfz5_0
        try clear hx454_0
        try clear p2
        try clear p454
        try clear q454
        obtain ⟨x3_2,x5_2,rfl,HA,HK2,HO_3,BK449,HB⟩:=hrel
        cases gk with
        | zero => exact absurd HA.out (by simp [spec_l5Good.l1])
        | succ k2 =>
         have H:=HA.out
         clear HA
         simp only [spec_l5Good.l1] at H
         by_cases c13 : 0 ≤ x4_1
         ·rw [if_pos c13] at H
          have c13b0 : decide (0 ≤ x4_1) = true:=decide_eq_true c13
          clear c13
          by_cases c14 : x4_1 < (l0_0.length : Int)
          ·rw [if_pos c14] at H
           have c14b0 : decide (x4_1 < (l0_0.length : Int)) = true:=decide_eq_true c14
           clear c14
           by_cases c15 : x5_2 < ((rd_L2 l0_0 x4_1).length : Int)
           ·rw [if_pos c15] at H
            have c15b0 : decide (x5_2 < ((rd_L2 l0_0 x4_1).length : Int)) = true:=decide_eq_true c15
            clear c15
            by_cases c16 : 0 ≤ x5_2
            ·rw [if_pos c16] at H
             have c16b0 : decide (0 ≤ x5_2) = true:=decide_eq_true c16
             clear c16
             replace H:=Option.bind_eq_some_iff.mp H
             obtain ⟨t458,A170,H⟩:=H
             replace H : (if t458 = true then ((spec_l1Has.f k2 x3_2 (rd (rd_L2 l0_0 x4_1) x5_2)).bind fun t459 => (if t459 = true then (some false) else (if x3_2.length < 17592186044416 then (spec_l5Good.l1 k2 (x3_2 ++ [rd (rd_L2 l0_0 x4_1) x5_2]) x4_1 (wrap64 (x5_2 + 1)) l0_0) else (none)))) else (some false)) = some r:=H
             have A17:=Aside0.mk A170
             clear A170
             by_cases c18 : t458 = true
             ·subst c18
              have H1 : ((spec_l1Has.f k2 x3_2 (rd (rd_L2 l0_0 x4_1) x5_2)).bind fun t459 => (if t459 = true then (some false) else (if x3_2.length < 17592186044416 then (spec_l5Good.l1 k2 (x3_2 ++ [rd (rd_L2 l0_0 x4_1) x5_2]) x4_1 (wrap64 (x5_2 + 1)) l0_0) else (none)))) = some r:=by rw [if_pos rfl] at H; exact H
              clear H
              have H:=H1
              clear H1
              replace H:=Option.bind_eq_some_iff.mp H
              obtain ⟨t459,A190,H⟩:=H
              replace H : (if t459 = true then (some false) else (if x3_2.length < 17592186044416 then (spec_l5Good.l1 k2 (x3_2 ++ [rd (rd_L2 l0_0 x4_1) x5_2]) x4_1 (wrap64 (x5_2 + 1)) l0_0) else (none))) = some r:=H
              have A19:=Aside0.mk A190
              clear A190
              by_cases c20 : t459 = true
              ·subst c20
               have H1 : (some false) = some r:=by rw [if_pos rfl] at H; exact H
               clear H
               have H:=H1
               clear H1
               obtain rfl:=Option.some.inj H
               have hcz21_0 : wr.cell? ⟨gb449,0,none⟩ = some (.slice (some ad454) l0_0.length c0_0):=(blk_cell BK449.out 0).trans rfl
               have hfz21_0:=blk_frozen BK449.out 0
               have p455 : 0 ≤ (x4_1 : Int):=of_decide_eq_true (by first|(with_reducible assumption)|assumption)
               have q455 : x4_1 < (l0_0.length : Int):=of_decide_eq_true (by first|(with_reducible assumption)|assumption)
               obtain ⟨ad455,A455_0,c455_0,e455,hx455_0,hl455_0,hi455_0⟩:=at_L2 HR0_0.out x4_1 p455 q455
               obtain rfl : ad454 = ad455:=(by injection e455)
               replace hx455_0:=(HB.out.cell (World.block_lt_of_cell? w _ hx455_0)).trans hx455_0
               have HR455_0:=Aside0.mk hi455_0
               have HC455_0:=Aside0.mk hl455_0
               clear hi455_0 hl455_0
               replace p455:=eq_true p455
               replace q455:=eq_true q455
               have p456 : 0 ≤ (x4_1 : Int):=of_decide_eq_true (by first|(with_reducible assumption)|assumption)
               have q456 : x4_1 < (l0_0.length : Int):=of_decide_eq_true (by first|(with_reducible assumption)|assumption)
               obtain ⟨ad456,A456_0,c456_0,e456,hx456_0,hl456_0,hi456_0⟩:=at_L2 HR0_0.out x4_1 p456 q456
               obtain rfl : ad454 = ad456:=(by injection e456)
               replace hx456_0:=(HB.out.cell (World.block_lt_of_cell? w _ hx456_0)).trans hx456_0
               have HR456_0:=Aside0.mk hi456_0
               have HC456_0:=Aside0.mk hl456_0
               clear hi456_0 hl456_0
               replace p456:=eq_true p456
               replace q456:=eq_true q456
               have ea_:=Option.some.inj (hx455_0.symm.trans hx456_0)
               injection ea_ with ea_ en_ ec_
               subst ea_
               subst ec_
               clear en_
               have p457 : 0 ≤ (x5_2 : Int):=of_decide_eq_true (by first|(with_reducible assumption)|assumption)
               have q457 : x5_2 < ((rd_L2 l0_0 x4_1).length : Int):=of_decide_eq_true (by first|(with_reducible assumption)|assumption)
               obtain ⟨ad457,e457,hx457_0⟩:=Kd.at_int HR456_0.out x5_2 p457 q457
               cases e457
               replace hx457_0:=(HB.out.cell (World.block_lt_of_cell? w _ hx457_0)).trans hx457_0
               replace p457:=eq_true p457
               replace q457:=eq_true q457
               go_wp2_with (first|((with_reducible refine gate_callee (f:=162) rfl ?_); refine goesL_ (some 46) rfl rfl Try.func162 (by kernel_rfl) rfl #[.int .i64 (rd (rd_L2 l0_0 x4_1) x5_2),.int .i64 1,.int .i64 99] rfl (by (try simp only [List.map_toArray,List.map_cons,List.map_nil]); first|done|rfl|(simp only [List.length_drop,List.length_take]; rfl)) ?_; (with_reducible refine (spec_l1In.calls (rd (rd_L2 l0_0 x4_1) x5_2) 1 99 true _ A17.out).mono ?_); rintro e w' ⟨rfl,⟨nd,rfl⟩⟩; refine ⟨_,rfl,?_⟩; obtain ⟨Ao22,co22,eo22⟩:=Kd.R_slice HO_3.out; subst eo22)|(go_at_call 102; (with_reducible refine (spec_l1Has.calls k2 _ _ x3_2 (rd (rd_L2 l0_0 x4_1) x5_2) true _ ?side1 ?side2 A19.out).mono ?_); (case side1 => repeat (first|exact (Kd.R_reads' HO_3.out).2.2|(with_reducible refine Kd.C_alloc ?_ _)|(with_reducible refine Kd.C_drewN ?_ _)|(with_reducible refine Kd.C_drew ?_))); (case side2 => exact (Kd.R_reads' HO_3.out).2.1); rintro e w' ⟨rfl,⟨nd,rfl⟩⟩))
               go_ret
               exact ⟨by first|rfl|(simp [errW_none,errW_some] <;> rfl)|(simp [*,errW_none,errW_some] <;> rfl),by repeat (first|(with_reducible first|exact HB.out|apply below_alloc|apply pw_below_drewN|apply below_drew1|refine below_set ?_ GE449.out)|exact HB.out)⟩
              ·replace c20:=Bool.eq_false_iff.mpr c20
               subst c20
               have H1 : (if x3_2.length < 17592186044416 then (spec_l5Good.l1 k2 (x3_2 ++ [rd (rd_L2 l0_0 x4_1) x5_2]) x4_1 (wrap64 (x5_2 + 1)) l0_0) else (none)) = some r:=by rw [if_neg (show ¬ (false = true) by decide)] at H; exact H
               clear H
               have H:=H1
               clear H1
               by_cases c23 : x3_2.length < 17592186044416
               ·rw [if_pos c23] at H
                have LMc23:=Aside0.mk c23
                clear c23
                obtain ⟨y460,hy460⟩ : ∃ y_ : List Int,y_ = (x3_2 ++ [rd (rd_L2 l0_0 x4_1) x5_2]):=⟨_,rfl⟩
                replace H : (spec_l5Good.l1 k2 y460 x4_1 (wrap64 (x5_2 + 1)) l0_0) = some r:=by first|(rw [hy460]; with_reducible exact H)|(have H2_:=(Option.bind_some _ _).symm.trans H; rw [hy460]; with_reducible exact H2_)|(have H2_:=(Option.bind_some _ _).symm.trans H; with_reducible exact H2_)|with_reducible exact H|(rw [hy460]; exact H)|exact H
                have Ny460:=Aside0.mk hy460
                clear hy460
                have H':=Aside0.mk H
                clear H
                have hcz24_0 : wr.cell? ⟨gb449,0,none⟩ = some (.slice (some ad454) l0_0.length c0_0):=(blk_cell BK449.out 0).trans rfl
                have hfz24_0:=blk_frozen BK449.out 0
                have p455 : 0 ≤ (x4_1 : Int):=of_decide_eq_true (by first|(with_reducible assumption)|assumption)
                have q455 : x4_1 < (l0_0.length : Int):=of_decide_eq_true (by first|(with_reducible assumption)|assumption)
                obtain ⟨ad455,A455_0,c455_0,e455,hx455_0,hl455_0,hi455_0⟩:=at_L2 HR0_0.out x4_1 p455 q455
                obtain rfl : ad454 = ad455:=(by injection e455)
                replace hx455_0:=(HB.out.cell (World.block_lt_of_cell? w _ hx455_0)).trans hx455_0
                have HR455_0:=Aside0.mk hi455_0
                have HC455_0:=Aside0.mk hl455_0
                clear hi455_0 hl455_0
                replace p455:=eq_true p455
                replace q455:=eq_true q455
                have p456 : 0 ≤ (x4_1 : Int):=of_decide_eq_true (by first|(with_reducible assumption)|assumption)
                have q456 : x4_1 < (l0_0.length : Int):=of_decide_eq_true (by first|(with_reducible assumption)|assumption)
                obtain ⟨ad456,A456_0,c456_0,e456,hx456_0,hl456_0,hi456_0⟩:=at_L2 HR0_0.out x4_1 p456 q456
                obtain rfl : ad454 = ad456:=(by injection e456)
                replace hx456_0:=(HB.out.cell (World.block_lt_of_cell? w _ hx456_0)).trans hx456_0
                have HR456_0:=Aside0.mk hi456_0
                have HC456_0:=Aside0.mk hl456_0
                clear hi456_0 hl456_0
                replace p456:=eq_true p456
                replace q456:=eq_true q456
                have ea_:=Option.some.inj (hx455_0.symm.trans hx456_0)
                injection ea_ with ea_ en_ ec_
                subst ea_
                subst ec_
                clear en_
                have p457 : 0 ≤ (x5_2 : Int):=of_decide_eq_true (by first|(with_reducible assumption)|assumption)
                have q457 : x5_2 < ((rd_L2 l0_0 x4_1).length : Int):=of_decide_eq_true (by first|(with_reducible assumption)|assumption)
                obtain ⟨ad457,e457,hx457_0⟩:=Kd.at_int HR456_0.out x5_2 p457 q457
                cases e457
                replace hx457_0:=(HB.out.cell (World.block_lt_of_cell? w _ hx457_0)).trans hx457_0
                replace p457:=eq_true p457
                replace q457:=eq_true q457
                go_wp2_with (first|((with_reducible refine gate_callee (f:=162) rfl ?_); refine goesL_ (some 46) rfl rfl Try.func162 (by kernel_rfl) rfl #[.int .i64 (rd (rd_L2 l0_0 x4_1) x5_2),.int .i64 1,.int .i64 99] rfl (by (try simp only [List.map_toArray,List.map_cons,List.map_nil]); first|done|rfl|(simp only [List.length_drop,List.length_take]; rfl)) ?_; (with_reducible refine (spec_l1In.calls (rd (rd_L2 l0_0 x4_1) x5_2) 1 99 true _ A17.out).mono ?_); rintro e w' ⟨rfl,⟨nd,rfl⟩⟩; refine ⟨_,rfl,?_⟩; obtain ⟨Ao25,co25,eo25⟩:=Kd.R_slice HO_3.out; subst eo25)|(go_at_call 102; (with_reducible refine (spec_l1Has.calls k2 _ _ x3_2 (rd (rd_L2 l0_0 x4_1) x5_2) false _ ?side1 ?side2 A19.out).mono ?_); (case side1 => repeat (first|exact (Kd.R_reads' HO_3.out).2.2|(with_reducible refine Kd.C_alloc ?_ _)|(with_reducible refine Kd.C_drewN ?_ _)|(with_reducible refine Kd.C_drew ?_))); (case side2 => exact (Kd.R_reads' HO_3.out).2.1); rintro e w' ⟨rfl,⟨nd,rfl⟩⟩)|((with_reducible refine gate_builtin (b:=.append) (xs:=#[.tmp 53,.tmp 55]) rfl ?_); at_builtin; refine Kd.R_append (Kd.int .i64) (w0:=w) w.heap.size rfl (.tmp 53) (.tmp 55) 24 3 (.int .i64 0) 8 rfl Try.underlying24 info3 rfl (by decide) (by omega) (.slice Ao25 x3_2.length co25) x3_2 (rd (rd_L2 l0_0 x4_1) x5_2) [.int .i64 (rd (rd_L2 l0_0 x4_1) x5_2)] (fun _ => True) (fun _ => False) rfl rfl ?aP (fun _ hk => hk.elim) ?aF ?aO ?aB ?aS ?aL ?_; (case aP => exact rfl); (case aB => exact (by repeat (first|(with_reducible first|exact HB.out|apply below_alloc|apply pw_below_drewN|apply below_drew1|refine below_set ?_ GE449.out)|exact HB.out))); (case aF => exact (fun _ _ => trivial)); (case aO => exact (by (with_reducible repeat (first|apply Kd.R_alloc|apply Kd.R_drewN|apply Kd.R_drew)); exact HO_3.out)); (case aS => exact (below_size (by repeat (first|(with_reducible first|exact HB.out|apply below_alloc|apply pw_below_drewN|apply below_drew1|refine below_set ?_ GE449.out)|exact HB.out)))); (case aL => have:=LMc23.out; omega); intro v461 w26 ho hb hg hat; rw [← Ny460.out] at ho; have n0_:=Aside0.mk (blk_grown (g:=gb449) (o:=.cells #[.slice (some ad454) l0_0.length c0_0] 42 (0,0)) (by (with_reducible repeat (first|refine blk_drewN ?_ _|refine blk_drew ?_|refine blk_alloc ?_ _)); exact BK449.out) hg (Kd.R_ne HO_3.out BK449.out (by decide))); have n1_:=Aside0.mk (hb); have n2_:=Aside0.mk (ho); clear BK449; clear HB; clear HO_3; have BK449:=n0_; have HB:=n1_; have HO462:=n2_; clear n0_ n1_ n2_; clear ho hb hg hat))
                go_roundg k2
                case measure => have:=HK1.out; have:=HK2.out; omega
                case rel => exact ⟨(y460),(wrap64 (x5_2 + 1)),(by first|rfl|(simp; done)|(simp [*]; done)),H',⟨by have:=HK1.out; have:=HK2.out; omega⟩,⟨by (with_reducible repeat (first|apply Kd.R_alloc|apply Kd.R_drewN|apply Kd.R_drew)); exact HO462.out⟩,⟨by (with_reducible repeat (first|refine blk_drewN ?_ _|refine blk_drew ?_|refine blk_alloc ?_ _)); exact BK449.out⟩,⟨by repeat (first|(with_reducible first|exact HB.out|apply below_alloc|apply pw_below_drewN|apply below_drew1|refine below_set ?_ GE449.out)|exact HB.out)⟩⟩
               ·rw [if_neg c23] at H
                exact absurd H (by simp)
             ·replace c18:=Bool.eq_false_iff.mpr c18
              subst c18
              have H1 : (some false) = some r:=by rw [if_neg (show ¬ (false = true) by decide)] at H; exact H
              clear H
              have H:=H1
              clear H1
              obtain rfl:=Option.some.inj H
              have hcz27_0 : wr.cell? ⟨gb449,0,none⟩ = some (.slice (some ad454) l0_0.length c0_0):=(blk_cell BK449.out 0).trans rfl
              have hfz27_0:=blk_frozen BK449.out 0
              have p455 : 0 ≤ (x4_1 : Int):=of_decide_eq_true (by first|(with_reducible assumption)|assumption)
              have q455 : x4_1 < (l0_0.length : Int):=of_decide_eq_true (by first|(with_reducible assumption)|assumption)
              obtain ⟨ad455,A455_0,c455_0,e455,hx455_0,hl455_0,hi455_0⟩:=at_L2 HR0_0.out x4_1 p455 q455
              obtain rfl : ad454 = ad455:=(by injection e455)
              replace hx455_0:=(HB.out.cell (World.block_lt_of_cell? w _ hx455_0)).trans hx455_0
              have HR455_0:=Aside0.mk hi455_0
              have HC455_0:=Aside0.mk hl455_0
              clear hi455_0 hl455_0
              replace p455:=eq_true p455
              replace q455:=eq_true q455
              have p456 : 0 ≤ (x4_1 : Int):=of_decide_eq_true (by first|(with_reducible assumption)|assumption)
              have q456 : x4_1 < (l0_0.length : Int):=of_decide_eq_true (by first|(with_reducible assumption)|assumption)
              obtain ⟨ad456,A456_0,c456_0,e456,hx456_0,hl456_0,hi456_0⟩:=at_L2 HR0_0.out x4_1 p456 q456
              obtain rfl : ad454 = ad456:=(by injection e456)
              replace hx456_0:=(HB.out.cell (World.block_lt_of_cell? w _ hx456_0)).trans hx456_0
              have HR456_0:=Aside0.mk hi456_0
              have HC456_0:=Aside0.mk hl456_0
              clear hi456_0 hl456_0
              replace p456:=eq_true p456
              replace q456:=eq_true q456
              have ea_:=Option.some.inj (hx455_0.symm.trans hx456_0)
              injection ea_ with ea_ en_ ec_
              subst ea_
              subst ec_
              clear en_
              have p457 : 0 ≤ (x5_2 : Int):=of_decide_eq_true (by first|(with_reducible assumption)|assumption)
              have q457 : x5_2 < ((rd_L2 l0_0 x4_1).length : Int):=of_decide_eq_true (by first|(with_reducible assumption)|assumption)
              obtain ⟨ad457,e457,hx457_0⟩:=Kd.at_int HR456_0.out x5_2 p457 q457
              cases e457
              replace hx457_0:=(HB.out.cell (World.block_lt_of_cell? w _ hx457_0)).trans hx457_0
              replace p457:=eq_true p457
              replace q457:=eq_true q457
              go_wp2_with (first|((with_reducible refine gate_callee (f:=162) rfl ?_); refine goesL_ (some 46) rfl rfl Try.func162 (by kernel_rfl) rfl #[.int .i64 (rd (rd_L2 l0_0 x4_1) x5_2),.int .i64 1,.int .i64 99] rfl (by (try simp only [List.map_toArray,List.map_cons,List.map_nil]); first|done|rfl|(simp only [List.length_drop,List.length_take]; rfl)) ?_; (with_reducible refine (spec_l1In.calls (rd (rd_L2 l0_0 x4_1) x5_2) 1 99 false _ A17.out).mono ?_); rintro e w' ⟨rfl,⟨nd,rfl⟩⟩; refine ⟨_,rfl,?_⟩))
              go_ret
              exact ⟨by first|rfl|(simp [errW_none,errW_some] <;> rfl)|(simp [*,errW_none,errW_some] <;> rfl),by repeat (first|(with_reducible first|exact HB.out|apply below_alloc|apply pw_below_drewN|apply below_drew1|refine below_set ?_ GE449.out)|exact HB.out)⟩
            ·rw [if_neg c16] at H
             exact absurd H (by simp)
           ·rw [if_neg c15] at H
            have c15b0 : decide (x5_2 < ((rd_L2 l0_0 x4_1).length : Int)) = false:=decide_eq_false c15
            clear c15
            have H':=Aside0.mk H
            clear H
            have hcz28_0 : wr.cell? ⟨gb449,0,none⟩ = some (.slice (some ad454) l0_0.length c0_0):=(blk_cell BK449.out 0).trans rfl
            have hfz28_0:=blk_frozen BK449.out 0
            have p455 : 0 ≤ (x4_1 : Int):=of_decide_eq_true (by first|(with_reducible assumption)|assumption)
            have q455 : x4_1 < (l0_0.length : Int):=of_decide_eq_true (by first|(with_reducible assumption)|assumption)
            obtain ⟨ad455,A455_0,c455_0,e455,hx455_0,hl455_0,hi455_0⟩:=at_L2 HR0_0.out x4_1 p455 q455
            obtain rfl : ad454 = ad455:=(by injection e455)
            replace hx455_0:=(HB.out.cell (World.block_lt_of_cell? w _ hx455_0)).trans hx455_0
            have HR455_0:=Aside0.mk hi455_0
            have HC455_0:=Aside0.mk hl455_0
            clear hi455_0 hl455_0
            replace p455:=eq_true p455
            replace q455:=eq_true q455
            go_wp2
            go_roundg k2
            case measure => have:=HK1.out; have:=HK2.out; omega
            case rel => exact ⟨(x3_2),(wrap64 (x4_1 + 1)),(by first|rfl|(simp; done)|(simp [*]; done)),H',⟨by have:=HK1.out; have:=HK2.out; omega⟩,⟨by (with_reducible repeat (first|apply Kd.R_alloc|apply Kd.R_drewN|apply Kd.R_drew)); exact HO_3.out⟩,⟨by (with_reducible repeat (first|refine blk_drewN ?_ _|refine blk_drew ?_|refine blk_alloc ?_ _)); exact BK449.out⟩,⟨by repeat (first|(with_reducible first|exact HB.out|apply below_alloc|apply pw_below_drewN|apply below_drew1|refine below_set ?_ GE449.out)|exact HB.out)⟩⟩
          ·rw [if_neg c14] at H
           exact absurd H (by simp)
         ·rw [if_neg c13] at H
          exact absurd H (by simp)
     ·rw [if_neg c9] at H
      exact absurd H (by simp)
    ·rw [if_neg c8] at H
     have c8b0 : decide (x4_1 < (l0_0.length : Int)) = false:=decide_eq_false c8
     clear c8
     obtain rfl:=Option.some.inj H
     have hcz29_0 : wr.cell? ⟨gb449,0,none⟩ = some (.slice A0_0 l0_0.length c0_0):=(blk_cell BK449.out 0).trans rfl
     have hfz29_0:=blk_frozen BK449.out 0
     go_wp2
     go_ret
     exact ⟨by first|rfl|(simp [errW_none,errW_some] <;> rfl)|(simp [*,errW_none,errW_some] <;> rfl),by repeat (first|(with_reducible first|exact HB.out|apply below_alloc|apply pw_below_drewN|apply below_drew1|refine below_set ?_ GE449.out)|exact HB.out)⟩
 ·replace c3:=Bool.eq_false_iff.mpr c3
  subst c3
  have H1 : (some false) = some r:=by rw [if_neg (show ¬ (false = true) by decide)] at H; exact H
  clear H
  have H:=H1
  clear H1
  obtain rfl:=Option.some.inj H
  go_enter Try.func116,Try.ntmps116
  go_wp2_with (first|((with_reducible refine gate_dst (N:=1) rfl ?_); refine box_event ?hg (N:=1) ?hd (cs:=#[.slice A0_0 l0_0.length c0_0]) (t:=42) ?hr ?_; (case hd => rfl); (case hg => rfl); (case hr => first|(go_simp; done)|(go_simp; rfl)); intro gb449 hg w30 hbox hb; have n0_:=Aside0.mk (below_step (by repeat (first|(with_reducible first|exact HB.out|apply below_alloc|apply pw_below_drewN|apply below_drew1)|exact HB.out)) hb); have n1_:=Aside0.mk (hbox); have n2_:=Aside0.mk ((by rw [hg]; exact (below_size (by repeat (first|(with_reducible first|exact HB.out|apply below_alloc|apply pw_below_drewN|apply below_drew1)|exact HB.out))) : w.heap.size ≤ gb449)); have n3_:=Aside0.mk ((by rw [hg]; exact (below_size (by repeat (first|(with_reducible first|exact HB.out|apply below_alloc|apply pw_below_drewN|apply below_drew1)|exact HB.out))) : w.heap.size ≤ gb449)); clear HB; have HB:=n0_; have BK449:=n1_; have GW449:=n2_; have GE449:=n3_; clear n0_ n1_ n2_ n3_; clear hb hbox hg; have hcz31_0 : w30.cell? ⟨gb449,0,none⟩ = some (.slice A0_0 l0_0.length c0_0):=(blk_cell BK449.out 0).trans rfl; have hfz31_0:=blk_frozen BK449.out 0)|((with_reducible refine gate_callee (f:=162) rfl ?_); refine goesL_ (some 10) rfl rfl Try.func162 (by kernel_rfl) rfl #[.int .i64 (l0_0.length : Int),.int .i64 1,.int .i64 6] rfl (by (try simp only [List.map_toArray,List.map_cons,List.map_nil]); first|done|rfl|(simp only [List.length_drop,List.length_take]; rfl)) ?_; (with_reducible refine (spec_l1In.calls (l0_0.length : Int) 1 6 false _ A2.out).mono ?_); rintro e w' ⟨rfl,⟨nd,rfl⟩⟩; refine ⟨_,rfl,?_⟩))
  go_ret
  exact ⟨by first|rfl|(simp [errW_none,errW_some] <;> rfl)|(simp [*,errW_none,errW_some] <;> rfl),by repeat (first|(with_reducible first|exact HB.out|apply below_alloc|apply pw_below_drewN|apply below_drew1|refine below_set ?_ GE449.out)|exact HB.out)⟩

/-! ### spec_l5Stack: function 104 -/
def spec_l5Stack.f (k : Nat) (l0_0 : List (List Int)) (a1 : Int) : Option (Bool):=(spec_l5Good.f k l0_0).bind fun t464 => (if t464 = true then ((spec_l1In.f a1 0 (wrap64 ((l0_0.length : Int) - 1))).bind fun t465 => (some t465)) else (some false))
theorem spec_l5Stack.mono : ∀ a0 a1 k,LeO (spec_l5Stack.f k a0 a1) (spec_l5Stack.f (k + 1) a0 a1):=by
 intro a0 a1 k
 unfold spec_l5Stack.f
 repeat' first
   | (with_reducible exact spec_l5Good.mono _ _)
   | (with_reducible exact LeO.refl _)
   | (with_reducible exact LeO.none _)
   | (with_reducible refine LeO.ite ?_ ?_)
   | (with_reducible refine LeO.bind ?_ (fun _ => ?_))
   | exact spec_l5Good.mono _ _
   | exact LeO.none _
   | refine LeO.ite ?_ ?_
   | refine LeO.bind ?_ (fun _ => ?_)
set_option maxHeartbeats 8000000 in
set_option maxRecDepth 100000 in
theorem spec_l5Stack.calls (k : Nat) (A0_0 : Option Addr) (c0_0 : Nat) (l0_0 : List (List Int)) (a1 : Int) (r : Bool) (w : World) (hr0_0 : Kd.C (Kd.slice 3 (Kd.int .i64)) w A0_0 l0_0.length l0_0) (hc0_0 : l0_0.length ≤ c0_0) (h : spec_l5Stack.f k l0_0 a1 = some r) :
  Calls Try.prog 104 #[.agg #[.slice A0_0 l0_0.length c0_0],.int .i64 a1] w fun e w' => e = .returned (.bool r) ∧ Below w.heap.size w w':=by
 have hu42:=Try.underlying42
 have HR0_0:=Aside0.mk hr0_0
 have HC0_0:=Aside0.mk hc0_0
 clear hr0_0 hc0_0
 have HB:=Aside0.mk (Below.refl w.heap.size w)
 have H : ((spec_l5Good.f k l0_0).bind fun t464 => (if t464 = true then ((spec_l1In.f a1 0 (wrap64 ((l0_0.length : Int) - 1))).bind fun t465 => (some t465)) else (some false))) = some r:=h
 clear h
 replace H:=Option.bind_eq_some_iff.mp H
 obtain ⟨t464,A30,H⟩:=H
 replace H : (if t464 = true then ((spec_l1In.f a1 0 (wrap64 ((l0_0.length : Int) - 1))).bind fun t465 => (some t465)) else (some false)) = some r:=H
 have A3:=Aside0.mk A30
 clear A30
 by_cases c4 : t464 = true
 ·subst c4
  have H1 : ((spec_l1In.f a1 0 (wrap64 ((l0_0.length : Int) - 1))).bind fun t465 => (some t465)) = some r:=by rw [if_pos rfl] at H; exact H
  clear H
  have H:=H1
  clear H1
  replace H:=Option.bind_eq_some_iff.mp H
  obtain ⟨t465,A50,H⟩:=H
  replace H : (some t465) = some r:=H
  have A5:=Aside0.mk A50
  clear A50
  obtain rfl:=Option.some.inj H
  go_enter Try.func104,Try.ntmps104
  go_wp2_with (first|((with_reducible refine gate_dst (N:=2) rfl ?_); (try (refine gate_guard (by rfl) ?_; dsimp only)); refine box_event ?hg (N:=2) ?hd (cs:=#[.slice A0_0 l0_0.length c0_0]) (t:=42) ?hr ?_; (case hd => rfl); (case hg => rfl); (case hr => first|(go_simp; done)|(go_simp; rfl)); intro gb463 hg w6 hbox hb; have n0_:=Aside0.mk (below_step (by repeat (first|(with_reducible first|exact HB.out|apply below_alloc|apply pw_below_drewN|apply below_drew1)|exact HB.out)) hb); have n1_:=Aside0.mk (hbox); have n2_:=Aside0.mk ((by rw [hg]; exact (below_size (by repeat (first|(with_reducible first|exact HB.out|apply below_alloc|apply pw_below_drewN|apply below_drew1)|exact HB.out))) : w.heap.size ≤ gb463)); have n3_:=Aside0.mk ((by rw [hg]; exact (below_size (by repeat (first|(with_reducible first|exact HB.out|apply below_alloc|apply pw_below_drewN|apply below_drew1)|exact HB.out))) : w.heap.size ≤ gb463)); clear HB; have HB:=n0_; have BK463:=n1_; have GW463:=n2_; have GE463:=n3_; clear n0_ n1_ n2_ n3_; clear hb hbox hg; have hcz7_0 : w6.cell? ⟨gb463,0,none⟩ = some (.slice A0_0 l0_0.length c0_0):=(blk_cell BK463.out 0).trans rfl; have hfz7_0:=blk_frozen BK463.out 0)|((with_reducible refine gate_callee (f:=116) rfl ?_); refine goesL_ (some 6) rfl rfl Try.func116 (by kernel_rfl) rfl #[.agg #[.slice A0_0 l0_0.length c0_0]] rfl (by (try simp only [List.map_toArray,List.map_cons,List.map_nil]); first|done|rfl|(simp only [List.length_drop,List.length_take]; rfl)) ?_; (with_reducible refine (spec_l5Good.calls k _ _ l0_0 true _ ?side1 ?side2 A3.out).mono ?_); (case side1 => repeat (first|exact (Kd.C_below HR0_0.out HB.out)|(with_reducible refine Kd.C_alloc ?_ _)|(with_reducible refine Kd.C_drewN ?_ _)|(with_reducible refine Kd.C_drew ?_))); (case side2 => exact HC0_0.out); rintro e w8 ⟨rfl,hb⟩; refine ⟨_,rfl,?_⟩; have n0_:=Aside0.mk (blk_below (g:=gb463) (o:=.cells #[.slice A0_0 l0_0.length c0_0] 42 (0,0)) (by (with_reducible repeat (first|refine blk_drewN ?_ _|refine blk_drew ?_|refine blk_alloc ?_ _)); exact BK463.out) hb); have n1_:=Aside0.mk (below_step (by repeat (first|(with_reducible first|exact HB.out|apply below_alloc|apply pw_below_drewN|apply below_drew1|refine below_set ?_ GE463.out)|exact HB.out)) hb); clear BK463; clear HB; have BK463:=n0_; have HB:=n1_; clear n0_ n1_; (try clear hb); (try clear hb2); (try clear hk); (try clear hi); have hcz9_0 : w8.cell? ⟨gb463,0,none⟩ = some (.slice A0_0 l0_0.length c0_0):=(blk_cell BK463.out 0).trans rfl; have hfz9_0:=blk_frozen BK463.out 0)|(go_at_call 162; (with_reducible refine (spec_l1In.calls a1 0 (wrap64 ((l0_0.length : Int) - 1)) t465 _ A5.out).mono ?_); rintro e w' ⟨rfl,⟨nd,rfl⟩⟩))
  go_ret
  exact ⟨by first|rfl|(simp [errW_none,errW_some] <;> rfl)|(simp [*,errW_none,errW_some] <;> rfl),by repeat (first|(with_reducible first|exact HB.out|apply below_alloc|apply pw_below_drewN|apply below_drew1|refine below_set ?_ GE463.out)|exact HB.out)⟩
 ·replace c4:=Bool.eq_false_iff.mpr c4
  subst c4
  have H1 : (some false) = some r:=by rw [if_neg (show ¬ (false = true) by decide)] at H; exact H
  clear H
  have H:=H1
  clear H1
  obtain rfl:=Option.some.inj H
  go_enter Try.func104,Try.ntmps104
  go_wp2_with (first|((with_reducible refine gate_dst (N:=2) rfl ?_); (try (refine gate_guard (by rfl) ?_; dsimp only)); refine box_event ?hg (N:=2) ?hd (cs:=#[.slice A0_0 l0_0.length c0_0]) (t:=42) ?hr ?_; (case hd => rfl); (case hg => rfl); (case hr => first|(go_simp; done)|(go_simp; rfl)); intro gb463 hg w10 hbox hb; have n0_:=Aside0.mk (below_step (by repeat (first|(with_reducible first|exact HB.out|apply below_alloc|apply pw_below_drewN|apply below_drew1)|exact HB.out)) hb); have n1_:=Aside0.mk (hbox); have n2_:=Aside0.mk ((by rw [hg]; exact (below_size (by repeat (first|(with_reducible first|exact HB.out|apply below_alloc|apply pw_below_drewN|apply below_drew1)|exact HB.out))) : w.heap.size ≤ gb463)); have n3_:=Aside0.mk ((by rw [hg]; exact (below_size (by repeat (first|(with_reducible first|exact HB.out|apply below_alloc|apply pw_below_drewN|apply below_drew1)|exact HB.out))) : w.heap.size ≤ gb463)); clear HB; have HB:=n0_; have BK463:=n1_; have GW463:=n2_; have GE463:=n3_; clear n0_ n1_ n2_ n3_; clear hb hbox hg; have hcz11_0 : w10.cell? ⟨gb463,0,none⟩ = some (.slice A0_0 l0_0.length c0_0):=(blk_cell BK463.out 0).trans rfl; have hfz11_0:=blk_frozen BK463.out 0)|((with_reducible refine gate_callee (f:=116) rfl ?_); refine goesL_ (some 6) rfl rfl Try.func116 (by kernel_rfl) rfl #[.agg #[.slice A0_0 l0_0.length c0_0]] rfl (by (try simp only [List.map_toArray,List.map_cons,List.map_nil]); first|done|rfl|(simp only [List.length_drop,List.length_take]; rfl)) ?_; (with_reducible refine (spec_l5Good.calls k _ _ l0_0 false _ ?side1 ?side2 A3.out).mono ?_); (case side1 => repeat (first|exact (Kd.C_below HR0_0.out HB.out)|(with_reducible refine Kd.C_alloc ?_ _)|(with_reducible refine Kd.C_drewN ?_ _)|(with_reducible refine Kd.C_drew ?_))); (case side2 => exact HC0_0.out); rintro e w12 ⟨rfl,hb⟩; refine ⟨_,rfl,?_⟩; have n0_:=Aside0.mk (blk_below (g:=gb463) (o:=.cells #[.slice A0_0 l0_0.length c0_0] 42 (0,0)) (by (with_reducible repeat (first|refine blk_drewN ?_ _|refine blk_drew ?_|refine blk_alloc ?_ _)); exact BK463.out) hb); have n1_:=Aside0.mk (below_step (by repeat (first|(with_reducible first|exact HB.out|apply below_alloc|apply pw_below_drewN|apply below_drew1|refine below_set ?_ GE463.out)|exact HB.out)) hb); clear BK463; clear HB; have BK463:=n0_; have HB:=n1_; clear n0_ n1_; (try clear hb); (try clear hb2); (try clear hk); (try clear hi)))
  go_ret
  exact ⟨by first|rfl|(simp [errW_none,errW_some] <;> rfl)|(simp [*,errW_none,errW_some] <;> rfl),by repeat (first|(with_reducible first|exact HB.out|apply below_alloc|apply pw_below_drewN|apply below_drew1|refine below_set ?_ GE463.out)|exact HB.out)⟩

/-! ### spec_l5Own: function 115 -/
def spec_l5Own.l0 : Nat → Int → List (List Int) → List (List Int) → Option ((List (List Int)))
 | 0,_,_,_ => none
 | k + 1,x4,x517000,x519000 => if x4 < (x517000.length : Int) then (if 0 ≤ x4 then ((spec_l1Own.f (rd_L2 x517000 x4)).bind fun t520 => (if x519000.length < 5864062014805 then (spec_l5Own.l0 k (wrap64 (x4 + 1)) x517000 (x519000 ++ [t520])) else (none))) else (none)) else (some x519000)
def spec_l5Own.f (k : Nat) (l0_0 : List (List Int)) : Option ((List (List Int))):=spec_l5Own.l0 k 0 l0_0 ([] : List (List Int))
theorem spec_l5Own.mono_l : ∀ k,(∀ y0 y1 y2,LeO (spec_l5Own.l0 k y0 y1 y2) (spec_l5Own.l0 (k + 1) y0 y1 y2))
 | 0 => fun _ _ _ r h => by simp [spec_l5Own.l0] at h
 | k + 1 => by
  have ih0:=spec_l5Own.mono_l k
  ·intro y0 y1 y2
   unfold spec_l5Own.l0
   repeat' first
   | (with_reducible exact ih0 _ _ _)
   | (with_reducible exact LeO.refl _)
   | (with_reducible exact LeO.none _)
   | (with_reducible refine LeO.ite ?_ ?_)
   | (with_reducible refine LeO.bind ?_ (fun _ => ?_))
   | exact ih0 _ _ _
   | exact LeO.none _
   | refine LeO.ite ?_ ?_
   | refine LeO.bind ?_ (fun _ => ?_)
theorem spec_l5Own.mono : ∀ a0 k,LeO (spec_l5Own.f k a0) (spec_l5Own.f (k + 1) a0):=by
 intro a0 k
 have ih0:=spec_l5Own.mono_l k
 unfold spec_l5Own.f
 repeat' first
   | (with_reducible exact ih0 _ _ _)
   | (with_reducible exact LeO.refl _)
   | (with_reducible exact LeO.none _)
   | (with_reducible refine LeO.ite ?_ ?_)
   | (with_reducible refine LeO.bind ?_ (fun _ => ?_))
   | exact ih0 _ _ _
   | exact LeO.none _
   | refine LeO.ite ?_ ?_
   | refine LeO.bind ?_ (fun _ => ?_)
def spec_l5Own.T5 : Bool × List (List Nat × List Nat):=(true,[([],[]),([0],[0]),([],[]),([2],[2]),([],[]),([3,4],[3,4]),([5],[5]),([6],[6]),([7],[7]),([1,8,7],[1,8]),([0,1,2,3,4,5,6,7,8,9],[]),([10,9,9,0,1,2,3,4,5,6,7,8,9],[9,10])])
def spec_l5Own.B5 : List Nat:=[0,1,0,4,0,28,60,124,252,511,1023,2047]
theorem spec_l5Own.tab5 : rtab .any (opsOf Try.f115 5) = spec_l5Own.T5:=by kernel_rfl
theorem spec_l5Own.bits5 : waitsOk spec_l5Own.T5.2 spec_l5Own.B5 = true:=by kernel_rfl
set_option maxHeartbeats 8000000 in
set_option maxRecDepth 100000 in
theorem spec_l5Own.calls (k : Nat) (A0_0 : Option Addr) (c0_0 : Nat) (l0_0 : List (List Int)) (r : List (List Int)) (w : World) (hr0_0 : Kd.C (Kd.slice 3 (Kd.int .i64)) w A0_0 l0_0.length l0_0) (hc0_0 : l0_0.length ≤ c0_0) (h : spec_l5Own.f k l0_0 = some r) :
  Calls Try.prog 115 #[.agg #[.slice A0_0 l0_0.length c0_0]] w fun e w' => ∃ v0_ : Value,e = .returned (.agg #[v0_]) ∧ Kd.S (Kd.slice 3 (Kd.int .i64)) 24 w' w.heap.size (fun _ => True) v0_ r ∧ Below w.heap.size w w':=by
 have hu42:=Try.underlying42
 have HR0_0:=Aside0.mk hr0_0
 have HC0_0:=Aside0.mk hc0_0
 clear hr0_0 hc0_0
 have HB:=Aside0.mk (Below.refl w.heap.size w)
 have H : (spec_l5Own.l0 k 0 l0_0 ([] : List (List Int))) = some r:=h
 clear h
 have H':=Aside0.mk H
 clear H
 go_enter Try.func115,Try.ntmps115
 go_wp2_with (first|((with_reducible refine gate_dst (N:=1) rfl ?_); refine box_event ?hg (N:=1) ?hd (cs:=#[.slice A0_0 l0_0.length c0_0]) (t:=42) ?hr ?_; (case hd => rfl); (case hg => rfl); (case hr => first|(go_simp; done)|(go_simp; rfl)); intro gb516 hg w2 hbox hb; have n0_:=Aside0.mk (below_step (by repeat (first|(with_reducible first|exact HB.out|apply below_alloc|apply pw_below_drewN|apply below_drew1)|exact HB.out)) hb); have n1_:=Aside0.mk (hbox); have n2_:=Aside0.mk ((by rw [hg]; exact (below_size (by repeat (first|(with_reducible first|exact HB.out|apply below_alloc|apply pw_below_drewN|apply below_drew1)|exact HB.out))) : w.heap.size ≤ gb516)); have n3_:=Aside0.mk ((by rw [hg]; exact (below_size (by repeat (first|(with_reducible first|exact HB.out|apply below_alloc|apply pw_below_drewN|apply below_drew1)|exact HB.out))) : w.heap.size ≤ gb516)); clear HB; have HB:=n0_; have BK516:=n1_; have GW516:=n2_; have GE516:=n3_; clear n0_ n1_ n2_ n3_; clear hb hbox hg)|((with_reducible refine gate_dst (N:=2) rfl ?_); refine box_event ?hg (N:=2) ?hd (cs:=#[.slice none 0 0]) (t:=42) ?hr ?_; (case hd => rfl); (case hg => rfl); (case hr => first|(go_simp; done)|(go_simp; rfl)); intro gb517 hg w3 hbox hb; have n0_:=Aside0.mk (blk_below (g:=gb516) (o:=.cells #[.slice A0_0 l0_0.length c0_0] 42 (0,0)) (by (with_reducible repeat (first|refine blk_drewN ?_ _|refine blk_drew ?_|refine blk_alloc ?_ _)); exact BK516.out) hb); have n1_:=Aside0.mk (below_step (by repeat (first|(with_reducible first|exact HB.out|apply below_alloc|apply pw_below_drewN|apply below_drew1|refine below_set ?_ GE516.out)|exact HB.out)) hb); have n2_:=Aside0.mk (hbox); have n3_:=Aside0.mk ((by rw [hg]; exact (below_size (by repeat (first|(with_reducible first|exact HB.out|apply below_alloc|apply pw_below_drewN|apply below_drew1|refine below_set ?_ GE516.out)|exact HB.out))) : w.heap.size ≤ gb517)); have n4_:=Aside0.mk ((by rw [hg]; exact (below_size (by repeat (first|(with_reducible first|exact HB.out|apply below_alloc|apply pw_below_drewN|apply below_drew1|refine below_set ?_ GE516.out)|exact HB.out))) : w.heap.size ≤ gb517)); have n5_:=Aside0.mk ((by rw [hg]; exact Nat.ne_of_lt (blk_lt (g:=gb516) (o:=.cells #[.slice A0_0 l0_0.length c0_0] 42 (0,0)) (by (with_reducible repeat (first|refine blk_drewN ?_ _|refine blk_drew ?_|refine blk_alloc ?_ _)); exact BK516.out)) : gb516 ≠ gb517)); have n6_:=Aside0.mk ((by rw [hg]; exact Nat.ne_of_gt (blk_lt (g:=gb516) (o:=.cells #[.slice A0_0 l0_0.length c0_0] 42 (0,0)) (by (with_reducible repeat (first|refine blk_drewN ?_ _|refine blk_drew ?_|refine blk_alloc ?_ _)); exact BK516.out)) : gb517 ≠ gb516)); clear BK516; clear HB; have BK516:=n0_; have HB:=n1_; have BK517:=n2_; have GW517:=n3_; have GE517:=n4_; have NB516_517:=n5_; have NB517_516:=n6_; clear n0_ n1_ n2_ n3_ n4_ n5_ n6_; clear hb hbox hg)|((with_reducible refine gate_dst (N:=3) rfl ?_); refine box_event ?hg (N:=3) ?hd (cs:=#[.slice none 0 0]) (t:=42) ?hr ?_; (case hd => rfl); (case hg => rfl); (case hr => first|(go_simp; done)|(go_simp; rfl)); intro gb518 hg w4 hbox hb; have n0_:=Aside0.mk (blk_below (g:=gb516) (o:=.cells #[.slice A0_0 l0_0.length c0_0] 42 (0,0)) (by (with_reducible repeat (first|refine blk_drewN ?_ _|refine blk_drew ?_|refine blk_alloc ?_ _)); exact BK516.out) hb); have n1_:=Aside0.mk (blk_below (g:=gb517) (o:=.cells #[.slice none 0 0] 42 (0,0)) (by (with_reducible repeat (first|refine blk_drewN ?_ _|refine blk_drew ?_|refine blk_alloc ?_ _)); exact BK517.out) hb); have n2_:=Aside0.mk (below_step (by repeat (first|(with_reducible first|exact HB.out|apply below_alloc|apply pw_below_drewN|apply below_drew1|refine below_set ?_ GE516.out|refine below_set ?_ GE517.out)|exact HB.out)) hb); have n3_:=Aside0.mk (hbox); have n4_:=Aside0.mk ((by rw [hg]; exact (below_size (by repeat (first|(with_reducible first|exact HB.out|apply below_alloc|apply pw_below_drewN|apply below_drew1|refine below_set ?_ GE516.out|refine below_set ?_ GE517.out)|exact HB.out))) : w.heap.size ≤ gb518)); have n5_:=Aside0.mk ((by rw [hg]; exact (below_size (by repeat (first|(with_reducible first|exact HB.out|apply below_alloc|apply pw_below_drewN|apply below_drew1|refine below_set ?_ GE516.out|refine below_set ?_ GE517.out)|exact HB.out))) : w.heap.size ≤ gb518)); have n6_:=Aside0.mk ((by rw [hg]; exact Nat.ne_of_lt (blk_lt (g:=gb516) (o:=.cells #[.slice A0_0 l0_0.length c0_0] 42 (0,0)) (by (with_reducible repeat (first|refine blk_drewN ?_ _|refine blk_drew ?_|refine blk_alloc ?_ _)); exact BK516.out)) : gb516 ≠ gb518)); have n7_:=Aside0.mk ((by rw [hg]; exact Nat.ne_of_gt (blk_lt (g:=gb516) (o:=.cells #[.slice A0_0 l0_0.length c0_0] 42 (0,0)) (by (with_reducible repeat (first|refine blk_drewN ?_ _|refine blk_drew ?_|refine blk_alloc ?_ _)); exact BK516.out)) : gb518 ≠ gb516)); have n8_:=Aside0.mk ((by rw [hg]; exact Nat.ne_of_lt (blk_lt (g:=gb517) (o:=.cells #[.slice none 0 0] 42 (0,0)) (by (with_reducible repeat (first|refine blk_drewN ?_ _|refine blk_drew ?_|refine blk_alloc ?_ _)); exact BK517.out)) : gb517 ≠ gb518)); have n9_:=Aside0.mk ((by rw [hg]; exact Nat.ne_of_gt (blk_lt (g:=gb517) (o:=.cells #[.slice none 0 0] 42 (0,0)) (by (with_reducible repeat (first|refine blk_drewN ?_ _|refine blk_drew ?_|refine blk_alloc ?_ _)); exact BK517.out)) : gb518 ≠ gb517)); clear BK516; clear BK517; clear HB; have BK516:=n0_; have BK517:=n1_; have HB:=n2_; have BK518:=n3_; have GW518:=n4_; have GE518:=n5_; have NB516_518:=n6_; have NB518_516:=n7_; have NB517_518:=n8_; have NB518_517:=n9_; clear n0_ n1_ n2_ n3_ n4_ n5_ n6_ n7_ n8_ n9_; clear hb hbox hg; have hnb5:=NB518_516.out; have hnc5:=NB516_518.out; have hnb6:=NB518_517.out; have hnc6:=NB517_518.out; have hcz7_0 : w4.cell? ⟨gb518,0,none⟩ = some (.slice none 0 0):=(blk_cell BK518.out 0).trans rfl; have hfz7_0:=blk_frozen BK518.out 0))
 go_loopg [4] k (fun kq v4 w' => ∃ (x4_1 : Int) (x519000_1 : List (List Int)) (u519000 : Value),v4 = .int .i64 x4_1 ∧ Aside0 (spec_l5Own.l0 kq x4_1 l0_0 x519000_1 = some r) ∧ Aside0 (kq ≤ k) ∧ Aside0 (Kd.S (Kd.slice 3 (Kd.int .i64)) 24 w' w.heap.size (fun _ => True) u519000 x519000_1) ∧ Aside0 (w'.heap[gb516]? = some (.cells #[(.slice A0_0 l0_0.length c0_0)] 42 (0,0))) ∧ Aside0 (w'.heap[gb517]? = some (.cells #[(.slice none 0 0)] 42 (0,0))) ∧ Aside0 (w'.heap[gb518]? = some (.cells #[u519000] 42 (0,0))) ∧ Aside0 (Below w.heap.size w w'))
 case atStart => exact ⟨(0),(([] : List (List Int))),(.slice none 0 0),(by first|rfl|(simp; done)|(simp [*]; done)),H',⟨Nat.le_refl _⟩,⟨by first|exact Kd.S_nil _ _ _ _ _|exact Kd.N_nil _ _ _ _ _|exact Kd.V_nil _ _ _ _ _|exact Kd.Q_nil _ _ _ _ _|exact Kd.R_nil _ _ _ _ _⟩,⟨by (with_reducible repeat (first|refine blk_drewN ?_ _|refine blk_drew ?_|refine blk_alloc ?_ _)); refine blk_far ?_ NB516_518.out _; (with_reducible repeat (first|refine blk_drewN ?_ _|refine blk_drew ?_|refine blk_alloc ?_ _)); exact BK516.out⟩,⟨by (with_reducible repeat (first|refine blk_drewN ?_ _|refine blk_drew ?_|refine blk_alloc ?_ _)); refine blk_far ?_ NB517_518.out _; (with_reducible repeat (first|refine blk_drewN ?_ _|refine blk_drew ?_|refine blk_alloc ?_ _)); exact BK517.out⟩,⟨by (with_reducible repeat (first|refine blk_drewN ?_ _|refine blk_drew ?_|refine blk_alloc ?_ _)); refine blk_put (cs:=#[.slice none 0 0]) ?_ 0 _ rfl; (with_reducible repeat (first|refine blk_drewN ?_ _|refine blk_drew ?_|refine blk_alloc ?_ _)); exact BK518.out⟩,⟨by repeat (first|(with_reducible first|exact HB.out|apply below_alloc|apply pw_below_drewN|apply below_drew1|refine below_set ?_ GE516.out|refine below_set ?_ GE517.out|refine below_set ?_ GE518.out)|exact HB.out)⟩⟩
 case round =>
  clear H'
  try clear c1
  try clear p2
  try clear c5
  try clear c6
  try clear hcz7_0
  try clear hfz7_0
  obtain ⟨x4_1,x519000_1,u519000,rfl,HA,HK1,HO_519000,BK516,BK517,BK518,HB⟩:=hrel
  cases gk with
  | zero => exact absurd HA.out (by simp [spec_l5Own.l0])
  | succ k1 =>
   have H:=HA.out
   clear HA
   simp only [spec_l5Own.l0] at H
   by_cases c8 : x4_1 < (l0_0.length : Int)
   ·rw [if_pos c8] at H
    have c8b0 : decide (x4_1 < (l0_0.length : Int)) = true:=decide_eq_true c8
    clear c8
    by_cases c9 : 0 ≤ x4_1
    ·rw [if_pos c9] at H
     have c9b0 : decide (0 ≤ x4_1) = true:=decide_eq_true c9
     clear c9
     replace H:=Option.bind_eq_some_iff.mp H
     obtain ⟨t520,A100,H⟩:=H
     replace H : (if x519000_1.length < 5864062014805 then (spec_l5Own.l0 k1 (wrap64 (x4_1 + 1)) l0_0 (x519000_1 ++ [t520])) else (none)) = some r:=H
     have A10:=Aside0.mk A100
     clear A100
     by_cases c11 : x519000_1.length < 5864062014805
     ·rw [if_pos c11] at H
      have LMc11:=Aside0.mk c11
      clear c11
      obtain ⟨y523,hy523⟩ : ∃ y_ : List (List Int),y_ = (x519000_1 ++ [t520]):=⟨_,rfl⟩
      replace H : (spec_l5Own.l0 k1 (wrap64 (x4_1 + 1)) l0_0 y523) = some r:=by first|(rw [hy523]; with_reducible exact H)|(have H2_:=(Option.bind_some _ _).symm.trans H; rw [hy523]; with_reducible exact H2_)|(have H2_:=(Option.bind_some _ _).symm.trans H; with_reducible exact H2_)|with_reducible exact H|(rw [hy523]; exact H)|exact H
      have Ny523:=Aside0.mk hy523
      clear hy523
      have H':=Aside0.mk H
      clear H
      have hnb12:=NB516_517.out
      have hnc12:=NB517_516.out
      have hnb13:=NB516_518.out
      have hnc13:=NB518_516.out
      have hcz14_0 : wr.cell? ⟨gb516,0,none⟩ = some (.slice A0_0 l0_0.length c0_0):=(blk_cell BK516.out 0).trans rfl
      have hfz14_0:=blk_frozen BK516.out 0
      try go_wp2
      have n0_:=Aside0.mk (Kd.S_drew HO_519000.out)
      have n1_:=Aside0.mk (blk_drew BK516.out)
      have n2_:=Aside0.mk (blk_drew BK517.out)
      have n3_:=Aside0.mk (blk_drew BK518.out)
      have n4_:=Aside0.mk (below_drew1 HB.out)
      clear HO_519000
      clear BK516
      clear BK517
      clear BK518
      clear HB
      have HO_519000:=n0_
      have BK516:=n1_
      have BK517:=n2_
      have BK518:=n3_
      have HB:=n4_
      clear n0_ n1_ n2_ n3_ n4_
      have p519 : 0 ≤ (x4_1 : Int):=of_decide_eq_true (by first|(with_reducible assumption)|assumption)
      have q519 : x4_1 < (l0_0.length : Int):=of_decide_eq_true (by first|(with_reducible assumption)|assumption)
      obtain ⟨ad519,A519_0,c519_0,e519,hx519_0,hl519_0,hi519_0⟩:=at_L2 HR0_0.out x4_1 p519 q519
      have hw519_0:=hx519_0
      cases e519
      replace hx519_0:=(HB.out.cell (World.block_lt_of_cell? w _ hx519_0)).trans hx519_0
      have HR519_0:=Aside0.mk hi519_0
      have HC519_0:=Aside0.mk hl519_0
      clear hi519_0 hl519_0
      replace p519:=eq_true p519
      replace q519:=eq_true q519
      refine start_ (n:=12) (S:=fun w' => w'.cell? ⟨gb518,0,none⟩ = some (u519000) ∧ w'.cell? ⟨gb516,0,none⟩ = some (.slice (some ad519) l0_0.length c0_0) ∧ w'.cell? (ad519.add (x4_1).toNat) = some (.slice A519_0 (rd_L2 l0_0 x4_1).length c519_0)) (ds:=[11]) (bd15 12 0) (by kernel_rfl) rfl rfl ⟨(blk_cell BK518.out 0).trans rfl,(blk_cell BK516.out 0).trans rfl,((HB.out.cell (World.block_lt_of_cell? w _ hw519_0)).trans hw519_0)⟩ (fun hHeld => ?_); refine with_tabW spec_l5Own.tab5 spec_l5Own.bits5 (fun HT_ HW_ => ?_)
      generalize wr.drew = w15 at HO_519000 BK516 BK517 BK518 HB HR519_0 hx519_0 hHeld ⊢
      refine pure_ (i:=0) (N:=some 13) (v:=?_) (a':=?_) (bd15 12 1) rfl rfl (any_of HT_.out (by kernel_rfl)) (fun _ _ _ h => h) (Or.inl ⟨by rfl,?_⟩) ?_ ?_
      rotate_left
      ·intro w'
       go_simp
       with_reducible rfl
      rotate_left
      ·simp only [Act.put,List.setIfInBounds_toArray,List.set_cons_zero,List.set_cons_succ,i64_w,i32_w]
       rfl
      refine pure_ (i:=2) (N:=some 15) (v:=?_) (a':=?_) (bd15 12 5) rfl rfl (any_of HT_.out (by kernel_rfl)) (fun _ _ _ h => h) (Or.inl ⟨by rfl,?_⟩) ?_ ?_
      rotate_left
      ·intro w'
       go_simp
       with_reducible rfl
      rotate_left
      ·simp only [Act.put,List.setIfInBounds_toArray,List.set_cons_zero,List.set_cons_succ,i64_w,i32_w]
       rfl
      refine pure_ (i:=4) (N:=some 17) (v:=?_) (a':=?_) (bd15 12 21) rfl rfl (any_of HT_.out (by kernel_rfl)) (fun _ _ _ h => h) (Or.inl ⟨by rfl,?_⟩) ?_ ?_
      rotate_left
      ·intro w'
       go_simp
       with_reducible rfl
      rotate_left
      ·simp only [Act.put,List.setIfInBounds_toArray,List.set_cons_zero,List.set_cons_succ,i64_w,i32_w]
       rfl
      refine take_ (i:=1) (N:=some 14) (v:=?_) (a':=?_) (bd15 12 23) rfl rfl (take_ofW HT_.out HW_.out (by kernel_rfl)) (fun _ _ _ h => h) (Or.inl ⟨by rfl,?_⟩) hHeld ?_ ?_
      rotate_left
      ·rintro w' ⟨s0,s1,s2⟩
       go_simp
       with_reducible rfl
      rotate_left
      ·simp only [Act.put,List.setIfInBounds_toArray,List.set_cons_zero,List.set_cons_succ,i64_w,i32_w]
       rfl
      refine take_ (i:=3) (N:=some 16) (v:=?_) (a':=?_) (bd15 12 31) rfl rfl (take_ofW HT_.out HW_.out (by kernel_rfl)) (fun _ _ _ h => h) (Or.inl ⟨by rfl,?_⟩) hHeld ?_ ?_
      rotate_left
      ·rintro w' ⟨s0,s1,s2⟩
       go_simp
       with_reducible rfl
      rotate_left
      ·simp only [Act.put,List.setIfInBounds_toArray,List.set_cons_zero,List.set_cons_succ,i64_w,i32_w]
       rfl
      refine pure_ (i:=5) (N:=some 18) (v:=?_) (a':=?_) (bd15 12 63) rfl rfl (any_of HT_.out (by kernel_rfl)) (fun _ _ _ h => h) (Or.inl ⟨by rfl,?_⟩) ?_ ?_
      rotate_left
      ·intro w'
       go_simp
       with_reducible rfl
      rotate_left
      ·simp only [Act.put,List.setIfInBounds_toArray,List.set_cons_zero,List.set_cons_succ,i64_w,i32_w]
       rfl
      refine take_ (i:=6) (N:=some 19) (v:=?_) (a':=?_) (bd15 12 127) rfl rfl (take_ofW HT_.out HW_.out (by kernel_rfl)) (fun _ _ _ h => h) (Or.inl ⟨by rfl,?_⟩) hHeld ?_ ?_
      rotate_left
      ·rintro w' ⟨s0,s1,s2⟩
       go_simp
       with_reducible rfl
      rotate_left
      ·simp only [Act.put,List.setIfInBounds_toArray,List.set_cons_zero,List.set_cons_succ,i64_w,i32_w]
       rfl
      refine one_ (i:=7) (N:=some 20) (bd15 12 255) rfl rfl (one_of HT_.out (by kernel_rfl)) (by decide) (fun K hK => ?_)
      refine goes_ Try.func157 (by kernel_rfl) rfl #[.slice A519_0 (rd_L2 l0_0 x4_1).length c519_0] (by rfl) rfl rfl (by (try simp only [List.map_toArray,List.map_cons,List.map_nil]); first|done|rfl|(simp only [List.length_drop,List.length_take]; rfl)) ?_
      with_reducible refine (spec_l1Own.calls _ _ (rd_L2 l0_0 x4_1) t520 _ ?side1 ?side2 A10.out).mono ?_
      (case side1 => repeat (first|exact (Kd.C_below HR519_0.out HB.out)|(with_reducible refine Kd.C_alloc ?_ _)|(with_reducible refine Kd.C_drewN ?_ _)|(with_reducible refine Kd.C_drew ?_)))
      (case side2 => exact HC519_0.out)
      rintro e w16 ⟨v521,rfl,ho0,hb⟩
      refine ⟨_,rfl,?_⟩
      have n0_:=Aside0.mk (Kd.S_elder' (by (with_reducible repeat (first|apply Kd.S_alloc|apply Kd.S_drewN|apply Kd.S_drew)); exact HO_519000.out) (Kd.R_base ho0) hb)
      have n1_:=Aside0.mk (Kd.R_lower ho0 (below_size (by repeat (first|(with_reducible first|exact HB.out|apply below_alloc|apply pw_below_drewN|apply below_drew1|refine below_set ?_ GE516.out|refine below_set ?_ GE517.out|refine below_set ?_ GE518.out)|exact HB.out))))
      have n2_:=Aside0.mk (blk_below (g:=gb516) (o:=.cells #[.slice (some ad519) l0_0.length c0_0] 42 (0,0)) (by (with_reducible repeat (first|refine blk_drewN ?_ _|refine blk_drew ?_|refine blk_alloc ?_ _)); exact BK516.out) hb)
      have n3_:=Aside0.mk (blk_below (g:=gb517) (o:=.cells #[.slice none 0 0] 42 (0,0)) (by (with_reducible repeat (first|refine blk_drewN ?_ _|refine blk_drew ?_|refine blk_alloc ?_ _)); exact BK517.out) hb)
      have n4_:=Aside0.mk (blk_below (g:=gb518) (o:=.cells #[u519000] 42 (0,0)) (by (with_reducible repeat (first|refine blk_drewN ?_ _|refine blk_drew ?_|refine blk_alloc ?_ _)); exact BK518.out) hb)
      have n5_:=Aside0.mk (below_step (by repeat (first|(with_reducible first|exact HB.out|apply below_alloc|apply pw_below_drewN|apply below_drew1|refine below_set ?_ GE516.out|refine below_set ?_ GE517.out|refine below_set ?_ GE518.out)|exact HB.out)) hb)
      clear HO_519000
      clear BK516
      clear BK517
      clear BK518
      clear HB
      have HO_519000:=n0_
      have HO522:=n1_
      have BK516:=n2_
      have BK517:=n3_
      have BK518:=n4_
      have HB:=n5_
      clear n0_ n1_ n2_ n3_ n4_ n5_
      (try clear hb)
      (try clear hb2)
      (try clear hk)
      (try clear hi)
      (try clear ho0)
      obtain ⟨Ao18,co18,eo18⟩:=Kd.R_slice HO522.out
      (first|subst eo18|(injection eo18 with f1_ f2_ f3_; have f4_:=f1_.symm; have f5_:=f3_.symm; clear f1_ f2_ f3_; subst f4_; subst f5_))
      refine hK.out _ _ ⟨(blk_cell BK518.out 0).trans rfl,(blk_cell BK516.out 0).trans rfl,((HB.out.cell (World.block_lt_of_cell? w _ hw519_0)).trans hw519_0)⟩ (fun hHeld => ?_)
      clear hK K
      refine norm_ (a':=?_) ?_ ?_
      rotate_left
      ·show Act.put _ (some 20) _ = _
       simp only [Act.put,List.setIfInBounds_toArray,List.set_cons_zero,List.set_cons_succ,i64_w,i32_w]
       rfl
      refine one_ (i:=8) (N:=some 21) (bd15 12 511) rfl rfl (one_of HT_.out (by kernel_rfl)) (by decide) (fun K hK => ?_)
      refine value_ (w1:=?_) (v:=?_) (by rfl) rfl ?_ ?_
      rotate_left 2
      ·go_simp
       constructor
       ·rfl
       ·rfl
      refine hK.out _ _ ⟨(blk_cell (blk_alloc BK518.out _) 0).trans rfl,(blk_cell (blk_alloc BK516.out _) 0).trans rfl,(World.cell?_alloc_lt _ _ _ (World.block_lt_of_cell? _ _ (((HB.out.cell (World.block_lt_of_cell? w _ hw519_0)).trans hw519_0)))).trans (((HB.out.cell (World.block_lt_of_cell? w _ hw519_0)).trans hw519_0))⟩ (fun hHeld => ?_)
      clear hK K
      refine norm_ (a':=?_) ?_ ?_
      rotate_left
      ·show Act.put _ (some 21) _ = _
       simp only [Act.put,List.setIfInBounds_toArray,List.set_cons_zero,List.set_cons_succ,i64_w,i32_w]
       rfl
      refine one_ (i:=9) (N:=some 22) (bd15 12 1023) rfl rfl (one_of HT_.out (by kernel_rfl)) (by decide) (fun K hK => ?_)
      refine Kd.S_append_step (Kd.slice 3 (Kd.int .i64)) (w0:=w) w.heap.size (by rfl) (.tmp 14) (.tmp 21) 38 24 (.slice none 0 0) 24 rfl Try.underlying38 info24 rfl (by decide) (by omega) u519000 x519000_1 t520 [.slice Ao18 t520.length co18] (fun _ => True) (fun k_ => some k_ = (.slice Ao18 t520.length co18 : Value).ownBlock) rfl rfl ?aP (fun k_ hk_ => ((Kd.R_mono (ok':=fun k_ => ((fun _ => True)) k_ ∧ some k_ ≠ (u519000 : Value).ownBlock) (Kd.R_apart' (HO522.out) (Kd.S_typed HO_519000.out) (by decide)) (fun k_ hk => ⟨trivial,hk.2⟩))).1 k_ hk_.symm) ?aF ?aO ?aB ?aS ?aL ?_
      (case aP => exact Kd.M_row (Kd.R_mono (Kd.R_tight rfl (Kd.R_mono (ok':=fun k_ => ((fun _ => True)) k_ ∧ some k_ ≠ (u519000 : Value).ownBlock) (Kd.R_apart' (HO522.out) (Kd.S_typed HO_519000.out) (by decide)) (fun k_ hk => ⟨trivial,hk.2⟩))) (fun _ h_ => h_)))
      (case aB => exact (by repeat (first|(with_reducible first|exact HB.out|apply below_alloc|apply pw_below_drewN|apply below_drew1|refine below_set ?_ GE516.out|refine below_set ?_ GE517.out|refine below_set ?_ GE518.out)|exact HB.out)))
      (case aF => exact (fun _ _ => trivial))
      (case aO => exact (by (with_reducible repeat (first|apply Kd.S_alloc|apply Kd.S_drewN|apply Kd.S_drew)); exact Kd.S_mono HO_519000.out (fun k_ hk => ⟨trivial,fun e_ => hk.2 e_⟩)))
      (case aS => exact (below_size (by repeat (first|(with_reducible first|exact HB.out|apply below_alloc|apply pw_below_drewN|apply below_drew1|refine below_set ?_ GE516.out|refine below_set ?_ GE517.out|refine below_set ?_ GE518.out)|exact HB.out))))
      (case aL => have:=LMc11.out; omega)
      intro v524 w17 ho hb hg hat
      rw [← Ny523.out] at ho
      have n0_:=Aside0.mk (blk_grown (g:=gb516) (o:=.cells #[.slice (some ad519) l0_0.length c0_0] 42 (0,0)) (by (with_reducible repeat (first|refine blk_drewN ?_ _|refine blk_drew ?_|refine blk_alloc ?_ _)); exact BK516.out) hg (Kd.S_ne HO_519000.out BK516.out (by decide)))
      have n1_:=Aside0.mk (blk_grown (g:=gb517) (o:=.cells #[.slice none 0 0] 42 (0,0)) (by (with_reducible repeat (first|refine blk_drewN ?_ _|refine blk_drew ?_|refine blk_alloc ?_ _)); exact BK517.out) hg (Kd.S_ne HO_519000.out BK517.out (by decide)))
      have n2_:=Aside0.mk (blk_grown (g:=gb518) (o:=.cells #[u519000] 42 (0,0)) (by (with_reducible repeat (first|refine blk_drewN ?_ _|refine blk_drew ?_|refine blk_alloc ?_ _)); exact BK518.out) hg (Kd.S_ne HO_519000.out BK518.out (by decide)))
      have n3_:=Aside0.mk (hb)
      have n4_:=Aside0.mk (ho)
      clear BK516
      clear BK517
      clear BK518
      clear HB
      clear HO_519000
      clear HO522
      have BK516:=n0_
      have BK517:=n1_
      have BK518:=n2_
      have HB:=n3_
      have HO525:=n4_
      clear n0_ n1_ n2_ n3_ n4_
      clear ho hb hg hat
      obtain ⟨Ao19,co19,eo19⟩:=Kd.S_slice HO525.out
      (first|subst eo19|(injection eo19 with f1_ f2_ f3_; have f4_:=f1_.symm; have f5_:=f3_.symm; clear f1_ f2_ f3_; subst f4_; subst f5_))
      refine hK.out _ _ ⟨(blk_cell BK518.out 0).trans rfl,(blk_cell BK516.out 0).trans rfl,((HB.out.cell (World.block_lt_of_cell? w _ hw519_0)).trans hw519_0)⟩ (fun hHeld => ?_)
      clear hK K
      refine norm_ (a':=?_) ?_ ?_
      rotate_left
      ·show Act.put _ (some 22) _ = _
       simp only [Act.put,List.setIfInBounds_toArray,List.set_cons_zero,List.set_cons_succ,i64_w,i32_w]
       rfl
      refine pure_ (i:=10) (N:=some 23) (v:=?_) (a':=?_) (bd15 12 2047) rfl rfl (any_of HT_.out (by kernel_rfl)) (fun _ _ _ h => h) (Or.inl ⟨by rfl,?_⟩) ?_ ?_
      rotate_left
      ·intro w'
       go_simp
       with_reducible rfl
      rotate_left
      ·simp only [Act.put,List.setIfInBounds_toArray,List.set_cons_zero,List.set_cons_succ,i64_w,i32_w]
       rfl
      refine last_ (i:=11) (N:=none) (bd15 12 4095) rfl rfl (one_of HT_.out (by kernel_rfl)) (by decide) (fun K hK => ?_)
      have hs20 : w17.cell? ⟨gb518,0,none⟩ = some (u519000):=(blk_cell BK518.out 0).trans rfl
      have hfs20:=blk_frozen BK518.out 0
      have hns20_0:=NB516_518.out
      have hns20_1:=NB517_518.out
      have hms20_0:=NB518_516.out
      have hms20_1:=NB518_517.out
      refine skip_ (w1:=?_) (by rfl) rfl ?_ ?_
      rotate_left
      ·go_simp
       rfl
      refine hK.out _ _ ?_
      clear hK K
      refine done_ (done_of HT_.out (by kernel_rfl)) ?_
      try go_wp2
      go_roundg k1
      case measure => have:=HK1.out; omega
      case rel => exact ⟨(wrap64 (x4_1 + 1)),(y523),(.slice Ao19 y523.length co19),(by first|rfl|(simp; done)|(simp [*]; done)),H',⟨by have:=HK1.out; omega⟩,⟨by (with_reducible repeat (first|apply Kd.S_alloc|apply Kd.S_drewN|apply Kd.S_drew)); exact Kd.S_mono (Kd.S_far (p:=⟨gb518,0,none⟩) (Kd.S_types HO525.out BK518.out (by decide)) (fun _ hk => hk.2) (.slice Ao19 y523.length co19)) (fun _ hk => trivial)⟩,⟨by (with_reducible repeat (first|refine blk_drewN ?_ _|refine blk_drew ?_|refine blk_alloc ?_ _)); refine blk_far ?_ NB516_518.out _; (with_reducible repeat (first|refine blk_drewN ?_ _|refine blk_drew ?_|refine blk_alloc ?_ _)); exact BK516.out⟩,⟨by (with_reducible repeat (first|refine blk_drewN ?_ _|refine blk_drew ?_|refine blk_alloc ?_ _)); refine blk_far ?_ NB517_518.out _; (with_reducible repeat (first|refine blk_drewN ?_ _|refine blk_drew ?_|refine blk_alloc ?_ _)); exact BK517.out⟩,⟨by (with_reducible repeat (first|refine blk_drewN ?_ _|refine blk_drew ?_|refine blk_alloc ?_ _)); refine blk_put (cs:=#[u519000]) ?_ 0 _ rfl; (with_reducible repeat (first|refine blk_drewN ?_ _|refine blk_drew ?_|refine blk_alloc ?_ _)); exact BK518.out⟩,⟨by repeat (first|(with_reducible first|exact HB.out|apply below_alloc|apply pw_below_drewN|apply below_drew1|refine below_set ?_ GE516.out|refine below_set ?_ GE517.out|refine below_set ?_ GE518.out)|exact HB.out)⟩⟩
     ·rw [if_neg c11] at H
      exact absurd H (by simp)
    ·rw [if_neg c9] at H
     exact absurd H (by simp)
   ·rw [if_neg c8] at H
    have c8b0 : decide (x4_1 < (l0_0.length : Int)) = false:=decide_eq_false c8
    clear c8
    obtain rfl:=Option.some.inj H
    have hnb21:=NB516_517.out
    have hnc21:=NB517_516.out
    have hnb22:=NB516_518.out
    have hnc22:=NB518_516.out
    have hcz23_0 : wr.cell? ⟨gb516,0,none⟩ = some (.slice A0_0 l0_0.length c0_0):=(blk_cell BK516.out 0).trans rfl
    have hfz23_0:=blk_frozen BK516.out 0
    have hnb24:=NB518_517.out
    have hnc24:=NB517_518.out
    have hcz25_0 : wr.cell? ⟨gb518,0,none⟩ = some (u519000):=(blk_cell BK518.out 0).trans rfl
    have hfz25_0:=blk_frozen BK518.out 0
    obtain ⟨Ao26,co26,eo26⟩:=Kd.S_slice HO_519000.out
    subst eo26
    have hcz27_0 : wr.cell? ⟨gb517,0,none⟩ = some (.slice none 0 0):=(blk_cell BK517.out 0).trans rfl
    have hfz27_0:=blk_frozen BK517.out 0
    go_wp2
    refine bodyPost_ret (results_cell_row rfl _ _ gb517 42 #[.slice Ao26 x519000_1.length co26] (0,0) _ rfl (by (with_reducible repeat (first|refine blk_drewN ?_ _|refine blk_drew ?_|refine blk_alloc ?_ _)); refine blk_put (cs:=#[.slice none 0 0]) ?_ 0 _ rfl; (with_reducible repeat (first|refine blk_drewN ?_ _|refine blk_drew ?_|refine blk_alloc ?_ _)); exact BK517.out) Try.underlying42 rfl (by kernel_rfl)) rfl ?_
    exact ⟨_,by first|rfl|(simp [errW_none,errW_some] <;> rfl)|(simp [*,errW_none,errW_some] <;> rfl),by (with_reducible repeat (first|apply Kd.S_alloc|apply Kd.S_drewN|apply Kd.S_drew)); exact Kd.S_mono (Kd.S_far (p:=⟨gb517,0,none⟩) (Kd.S_types HO_519000.out BK517.out (by decide)) (fun _ hk => hk.2) (.slice Ao26 x519000_1.length co26)) (fun _ hk => trivial),by repeat (first|(with_reducible first|exact HB.out|apply below_alloc|apply pw_below_drewN|apply below_drew1|refine below_set ?_ GE516.out|refine below_set ?_ GE517.out|refine below_set ?_ GE518.out)|exact HB.out)⟩

/-! ### impl_ownYard: function 108 -/
def impl_ownYard.l0 : Nat → List (List Int) → Int → Int → List (List Int) → Option ((List (List Int)))
 | 0,_,_,_,_ => none
 | k + 1,x9,x10,x11,x631000 => if x11 < x10 then (if 0 ≤ x11 then (if x11 < (x9.length : Int) then ((slices_Clone_int_int.f (rd_L2 x9 x11)).bind fun t632 => (if x631000.length < 5864062014805 then (impl_ownYard.l0 k x9 x10 (wrap64 (x11 + 1)) (x631000 ++ [t632])) else (none))) else (none)) else (none)) else (some x631000)
def impl_ownYard.f (k : Nat) (l0_0 : List (List Int)) : Option ((List (List Int))):=impl_ownYard.l0 k l0_0 (l0_0.length : Int) 0 (([] : List (List Int)))
theorem impl_ownYard.mono_l : ∀ k,(∀ y0 y1 y2 y3,LeO (impl_ownYard.l0 k y0 y1 y2 y3) (impl_ownYard.l0 (k + 1) y0 y1 y2 y3))
 | 0 => fun _ _ _ _ r h => by simp [impl_ownYard.l0] at h
 | k + 1 => by
  have ih0:=impl_ownYard.mono_l k
  ·intro y0 y1 y2 y3
   unfold impl_ownYard.l0
   repeat' first
   | (with_reducible exact ih0 _ _ _ _)
   | (with_reducible exact LeO.refl _)
   | (with_reducible exact LeO.none _)
   | (with_reducible refine LeO.ite ?_ ?_)
   | (with_reducible refine LeO.bind ?_ (fun _ => ?_))
   | exact ih0 _ _ _ _
   | exact LeO.none _
   | refine LeO.ite ?_ ?_
   | refine LeO.bind ?_ (fun _ => ?_)
theorem impl_ownYard.mono : ∀ a0 k,LeO (impl_ownYard.f k a0) (impl_ownYard.f (k + 1) a0):=by
 intro a0 k
 have ih0:=impl_ownYard.mono_l k
 unfold impl_ownYard.f
 repeat' first
   | (with_reducible exact ih0 _ _ _ _)
   | (with_reducible exact LeO.refl _)
   | (with_reducible exact LeO.none _)
   | (with_reducible refine LeO.ite ?_ ?_)
   | (with_reducible refine LeO.bind ?_ (fun _ => ?_))
   | exact ih0 _ _ _ _
   | exact LeO.none _
   | refine LeO.ite ?_ ?_
   | refine LeO.bind ?_ (fun _ => ?_)
def impl_ownYard.T5 : Bool × List (List Nat × List Nat):=(true,[([],[]),([0],[0]),([],[]),([2],[2]),([3],[3]),([1,4,3],[1,4]),([0,1,2,3,4,5],[]),([6,5,5,0,1,2,3,4,5],[5,6])])
def impl_ownYard.B5 : List Nat:=[0,1,0,4,12,31,63,127]
theorem impl_ownYard.tab5 : rtab .any (opsOf Try.f108 5) = impl_ownYard.T5:=by kernel_rfl
theorem impl_ownYard.bits5 : waitsOk impl_ownYard.T5.2 impl_ownYard.B5 = true:=by kernel_rfl
set_option maxHeartbeats 8000000 in
set_option maxRecDepth 100000 in
theorem impl_ownYard.calls (k : Nat) (A0_0 : Option Addr) (c0_0 : Nat) (l0_0 : List (List Int)) (r : List (List Int)) (w : World) (hr0_0 : Kd.C (Kd.slice 3 (Kd.int .i64)) w A0_0 l0_0.length l0_0) (hc0_0 : l0_0.length ≤ c0_0) (h : impl_ownYard.f k l0_0 = some r) :
  Calls Try.prog 108 #[.agg #[.slice A0_0 l0_0.length c0_0]] w fun e w' => ∃ v0_ : Value,e = .returned (.agg #[v0_]) ∧ Kd.S (Kd.slice 3 (Kd.int .i64)) 24 w' w.heap.size (fun _ => True) v0_ r ∧ Below w.heap.size w w':=by
 have hu42:=Try.underlying42
 have HR0_0:=Aside0.mk hr0_0
 have HC0_0:=Aside0.mk hc0_0
 clear hr0_0 hc0_0
 have HB:=Aside0.mk (Below.refl w.heap.size w)
 have H : (impl_ownYard.l0 k l0_0 (l0_0.length : Int) 0 (([] : List (List Int)))) = some r:=h
 clear h
 obtain ⟨y627,hy627⟩ : ∃ y_ : List (List Int),y_ = (([] : List (List Int))):=⟨_,rfl⟩
 replace H : (impl_ownYard.l0 k l0_0 (l0_0.length : Int) 0 y627) = some r:=by first|(rw [hy627]; with_reducible exact H)|(have H2_:=(Option.bind_some _ _).symm.trans H; rw [hy627]; with_reducible exact H2_)|(have H2_:=(Option.bind_some _ _).symm.trans H; with_reducible exact H2_)|with_reducible exact H|(rw [hy627]; exact H)|exact H
 have Ny627:=Aside0.mk hy627
 clear hy627
 have H':=Aside0.mk H
 clear H
 go_enter Try.func108,Try.ntmps108
 go_wp2_with (first|((with_reducible refine gate_dst (N:=1) rfl ?_); refine box_event ?hg (N:=1) ?hd (cs:=#[.slice A0_0 l0_0.length c0_0]) (t:=42) ?hr ?_; (case hd => rfl); (case hg => rfl); (case hr => first|(go_simp; done)|(go_simp; rfl)); intro gb625 hg w2 hbox hb; have n0_:=Aside0.mk (below_step (by repeat (first|(with_reducible first|exact HB.out|apply below_alloc|apply pw_below_drewN|apply below_drew1)|exact HB.out)) hb); have n1_:=Aside0.mk (hbox); have n2_:=Aside0.mk ((by rw [hg]; exact (below_size (by repeat (first|(with_reducible first|exact HB.out|apply below_alloc|apply pw_below_drewN|apply below_drew1)|exact HB.out))) : w.heap.size ≤ gb625)); have n3_:=Aside0.mk ((by rw [hg]; exact (below_size (by repeat (first|(with_reducible first|exact HB.out|apply below_alloc|apply pw_below_drewN|apply below_drew1)|exact HB.out))) : w.heap.size ≤ gb625)); clear HB; have HB:=n0_; have BK625:=n1_; have GW625:=n2_; have GE625:=n3_; clear n0_ n1_ n2_ n3_; clear hb hbox hg)|((with_reducible refine gate_dst (N:=2) rfl ?_); refine box_event ?hg (N:=2) ?hd (cs:=#[.slice none 0 0]) (t:=42) ?hr ?_; (case hd => rfl); (case hg => rfl); (case hr => first|(go_simp; done)|(go_simp; rfl)); intro gb626 hg w3 hbox hb; have n0_:=Aside0.mk (blk_below (g:=gb625) (o:=.cells #[.slice A0_0 l0_0.length c0_0] 42 (0,0)) (by (with_reducible repeat (first|refine blk_drewN ?_ _|refine blk_drew ?_|refine blk_alloc ?_ _)); exact BK625.out) hb); have n1_:=Aside0.mk (below_step (by repeat (first|(with_reducible first|exact HB.out|apply below_alloc|apply pw_below_drewN|apply below_drew1|refine below_set ?_ GE625.out)|exact HB.out)) hb); have n2_:=Aside0.mk (hbox); have n3_:=Aside0.mk ((by rw [hg]; exact (below_size (by repeat (first|(with_reducible first|exact HB.out|apply below_alloc|apply pw_below_drewN|apply below_drew1|refine below_set ?_ GE625.out)|exact HB.out))) : w.heap.size ≤ gb626)); have n4_:=Aside0.mk ((by rw [hg]; exact (below_size (by repeat (first|(with_reducible first|exact HB.out|apply below_alloc|apply pw_below_drewN|apply below_drew1|refine below_set ?_ GE625.out)|exact HB.out))) : w.heap.size ≤ gb626)); have n5_:=Aside0.mk ((by rw [hg]; exact Nat.ne_of_lt (blk_lt (g:=gb625) (o:=.cells #[.slice A0_0 l0_0.length c0_0] 42 (0,0)) (by (with_reducible repeat (first|refine blk_drewN ?_ _|refine blk_drew ?_|refine blk_alloc ?_ _)); exact BK625.out)) : gb625 ≠ gb626)); have n6_:=Aside0.mk ((by rw [hg]; exact Nat.ne_of_gt (blk_lt (g:=gb625) (o:=.cells #[.slice A0_0 l0_0.length c0_0] 42 (0,0)) (by (with_reducible repeat (first|refine blk_drewN ?_ _|refine blk_drew ?_|refine blk_alloc ?_ _)); exact BK625.out)) : gb626 ≠ gb625)); clear BK625; clear HB; have BK625:=n0_; have HB:=n1_; have BK626:=n2_; have GW626:=n3_; have GE626:=n4_; have NB625_626:=n5_; have NB626_625:=n6_; clear n0_ n1_ n2_ n3_ n4_ n5_ n6_; clear hb hbox hg)|((with_reducible refine gate_dst (N:=6) rfl ?_); refine Kd.S_lit (Kd.slice 3 (Kd.int .i64)) _ 24 ?hg (N:=6) ?hd (xs:=([] : List (List Int))) (inner:=[]) (ok:=fun _ => True) (okp:=fun _ => True) ?hr ?hp (fun _ hk => hk) trivial (Below.refl _ _) (Nat.le_refl _) (by simp) ?_; (case hd => rfl); (case hg => rfl); (case hr => first|(go_simp; done)|(go_simp; rfl)); (case hp => exact (Reps.none _ _)); intro v628 w4 ho5 hb hg_ hnew_; clear hg_ hnew_; (first|rw [← Ny627.out] at ho5|(simp only [Int.reduceToNat] at ho5; rw [← Ny627.out] at ho5)); have n0_:=Aside0.mk (Kd.S_lower ho5 (below_size (by repeat (first|(with_reducible first|exact HB.out|apply below_alloc|apply pw_below_drewN|apply below_drew1|refine below_set ?_ GE625.out|refine below_set ?_ GE626.out)|exact HB.out)))); have n1_:=Aside0.mk (blk_below (g:=gb625) (o:=.cells #[.slice A0_0 l0_0.length c0_0] 42 (0,0)) (by (with_reducible repeat (first|refine blk_drewN ?_ _|refine blk_drew ?_|refine blk_alloc ?_ _)); exact BK625.out) hb); have n2_:=Aside0.mk (blk_below (g:=gb626) (o:=.cells #[.slice none 0 0] 42 (0,0)) (by (with_reducible repeat (first|refine blk_drewN ?_ _|refine blk_drew ?_|refine blk_alloc ?_ _)); exact BK626.out) hb); have n3_:=Aside0.mk (below_step (by repeat (first|(with_reducible first|exact HB.out|apply below_alloc|apply pw_below_drewN|apply below_drew1|refine below_set ?_ GE625.out|refine below_set ?_ GE626.out)|exact HB.out)) hb); clear BK625; clear BK626; clear HB; have HO629:=n0_; have BK625:=n1_; have BK626:=n2_; have HB:=n3_; clear n0_ n1_ n2_ n3_; clear hb ho5; obtain ⟨Ao6,co6,eo6⟩:=Kd.S_slice HO629.out; subst eo6)|((with_reducible refine gate_dst (N:=3) rfl ?_); refine box_event ?hg (N:=3) ?hd (cs:=#[.slice none 0 0]) (t:=42) ?hr ?_; (case hd => rfl); (case hg => rfl); (case hr => first|(go_simp; done)|(go_simp; rfl)); intro gb630 hg w7 hbox hb; have n0_:=Aside0.mk (Kd.S_below (by (with_reducible repeat (first|apply Kd.S_alloc|apply Kd.S_drewN|apply Kd.S_drew)); exact HO629.out) hb); have n1_:=Aside0.mk (blk_below (g:=gb625) (o:=.cells #[.slice A0_0 l0_0.length c0_0] 42 (0,0)) (by (with_reducible repeat (first|refine blk_drewN ?_ _|refine blk_drew ?_|refine blk_alloc ?_ _)); exact BK625.out) hb); have n2_:=Aside0.mk (blk_below (g:=gb626) (o:=.cells #[.slice none 0 0] 42 (0,0)) (by (with_reducible repeat (first|refine blk_drewN ?_ _|refine blk_drew ?_|refine blk_alloc ?_ _)); exact BK626.out) hb); have n3_:=Aside0.mk (below_step (by repeat (first|(with_reducible first|exact HB.out|apply below_alloc|apply pw_below_drewN|apply below_drew1|refine below_set ?_ GE625.out|refine below_set ?_ GE626.out)|exact HB.out)) hb); have n4_:=Aside0.mk (hbox); have n5_:=Aside0.mk ((by rw [hg]; exact (below_size (by repeat (first|(with_reducible first|exact HB.out|apply below_alloc|apply pw_below_drewN|apply below_drew1|refine below_set ?_ GE625.out|refine below_set ?_ GE626.out)|exact HB.out))) : w.heap.size ≤ gb630)); have n6_:=Aside0.mk ((by rw [hg]; exact (below_size (by repeat (first|(with_reducible first|exact HB.out|apply below_alloc|apply pw_below_drewN|apply below_drew1|refine below_set ?_ GE625.out|refine below_set ?_ GE626.out)|exact HB.out))) : w.heap.size ≤ gb630)); have n7_:=Aside0.mk ((by rw [hg]; exact Nat.ne_of_lt (blk_lt (g:=gb625) (o:=.cells #[.slice A0_0 l0_0.length c0_0] 42 (0,0)) (by (with_reducible repeat (first|refine blk_drewN ?_ _|refine blk_drew ?_|refine blk_alloc ?_ _)); exact BK625.out)) : gb625 ≠ gb630)); have n8_:=Aside0.mk ((by rw [hg]; exact Nat.ne_of_gt (blk_lt (g:=gb625) (o:=.cells #[.slice A0_0 l0_0.length c0_0] 42 (0,0)) (by (with_reducible repeat (first|refine blk_drewN ?_ _|refine blk_drew ?_|refine blk_alloc ?_ _)); exact BK625.out)) : gb630 ≠ gb625)); have n9_:=Aside0.mk ((by rw [hg]; exact Nat.ne_of_lt (blk_lt (g:=gb626) (o:=.cells #[.slice none 0 0] 42 (0,0)) (by (with_reducible repeat (first|refine blk_drewN ?_ _|refine blk_drew ?_|refine blk_alloc ?_ _)); exact BK626.out)) : gb626 ≠ gb630)); have n10_:=Aside0.mk ((by rw [hg]; exact Nat.ne_of_gt (blk_lt (g:=gb626) (o:=.cells #[.slice none 0 0] 42 (0,0)) (by (with_reducible repeat (first|refine blk_drewN ?_ _|refine blk_drew ?_|refine blk_alloc ?_ _)); exact BK626.out)) : gb630 ≠ gb626)); clear HO629; clear BK625; clear BK626; clear HB; have HO629:=n0_; have BK625:=n1_; have BK626:=n2_; have HB:=n3_; have BK630:=n4_; have GW630:=n5_; have GE630:=n6_; have NB625_630:=n7_; have NB630_625:=n8_; have NB626_630:=n9_; have NB630_626:=n10_; clear n0_ n1_ n2_ n3_ n4_ n5_ n6_ n7_ n8_ n9_ n10_; clear hb hbox hg; have hnb8:=NB630_625.out; have hnc8:=NB625_630.out; have hnb9:=NB630_626.out; have hnc9:=NB626_630.out; have hcz10_0 : w7.cell? ⟨gb630,0,none⟩ = some (.slice none 0 0):=(blk_cell BK630.out 0).trans rfl; have hfz10_0:=blk_frozen BK630.out 0; have hnb11:=NB625_626.out; have hnc11:=NB626_625.out; have hcz12_0 : w7.cell? ⟨gb625,0,none⟩ = some (.slice A0_0 l0_0.length c0_0):=(blk_cell BK625.out 0).trans rfl; have hfz12_0:=blk_frozen BK625.out 0))
 go_loopg [11] k (fun kq v11 w' => ∃ (x11_1 : Int) (x631000_1 : List (List Int)) (u631000 : Value),v11 = .int .i64 x11_1 ∧ Aside0 (impl_ownYard.l0 kq l0_0 (l0_0.length : Int) x11_1 x631000_1 = some r) ∧ Aside0 (kq ≤ k) ∧ Aside0 (Kd.S (Kd.slice 3 (Kd.int .i64)) 24 w' w.heap.size (fun _ => True) u631000 x631000_1) ∧ Aside0 (w'.heap[gb625]? = some (.cells #[(.slice A0_0 l0_0.length c0_0)] 42 (0,0))) ∧ Aside0 (w'.heap[gb626]? = some (.cells #[(.slice none 0 0)] 42 (0,0))) ∧ Aside0 (w'.heap[gb630]? = some (.cells #[u631000] 42 (0,0))) ∧ Aside0 (Below w.heap.size w w'))
 case atStart => exact ⟨(0),(y627),(.slice Ao6 y627.length co6),(by first|rfl|(simp; done)|(simp [*]; done)),H',⟨Nat.le_refl _⟩,⟨by (with_reducible repeat (first|apply Kd.S_alloc|apply Kd.S_drewN|apply Kd.S_drew)); exact Kd.S_mono (Kd.S_far (p:=⟨gb630,0,none⟩) (Kd.S_types HO629.out BK630.out (by decide)) (fun _ hk => hk.2) (.slice Ao6 y627.length co6)) (fun _ hk => trivial)⟩,⟨by (with_reducible repeat (first|refine blk_drewN ?_ _|refine blk_drew ?_|refine blk_alloc ?_ _)); refine blk_far ?_ NB625_630.out _; (with_reducible repeat (first|refine blk_drewN ?_ _|refine blk_drew ?_|refine blk_alloc ?_ _)); exact BK625.out⟩,⟨by (with_reducible repeat (first|refine blk_drewN ?_ _|refine blk_drew ?_|refine blk_alloc ?_ _)); refine blk_far ?_ NB626_630.out _; (with_reducible repeat (first|refine blk_drewN ?_ _|refine blk_drew ?_|refine blk_alloc ?_ _)); exact BK626.out⟩,⟨by (with_reducible repeat (first|refine blk_drewN ?_ _|refine blk_drew ?_|refine blk_alloc ?_ _)); refine blk_put (cs:=#[.slice none 0 0]) ?_ 0 _ rfl; (with_reducible repeat (first|refine blk_drewN ?_ _|refine blk_drew ?_|refine blk_alloc ?_ _)); exact BK630.out⟩,⟨by repeat (first|(with_reducible first|exact HB.out|apply below_alloc|apply pw_below_drewN|apply below_drew1|refine below_set ?_ GE625.out|refine below_set ?_ GE626.out|refine below_set ?_ GE630.out)|exact HB.out)⟩⟩
 case round =>
  clear H'
  try clear c1
  try clear p2
  try clear c8
  try clear c9
  try clear c10
  try clear c11
  try clear hcz10_0
  try clear hcz12_0
  try clear hfz10_0
  try clear hfz12_0
  obtain ⟨x11_1,x631000_1,u631000,rfl,HA,HK1,HO_631000,BK625,BK626,BK630,HB⟩:=hrel
  cases gk with
  | zero => exact absurd HA.out (by simp [impl_ownYard.l0])
  | succ k1 =>
   have H:=HA.out
   clear HA
   simp only [impl_ownYard.l0] at H
   by_cases c13 : x11_1 < (l0_0.length : Int)
   ·rw [if_pos c13] at H
    have c13b0 : decide (x11_1 < (l0_0.length : Int)) = true:=decide_eq_true c13
    clear c13
    by_cases c14 : 0 ≤ x11_1
    ·rw [if_pos c14] at H
     have c14b0 : decide (0 ≤ x11_1) = true:=decide_eq_true c14
     clear c14
     by_cases c15 : x11_1 < (l0_0.length : Int)
     ·rw [if_pos c15] at H
      have c15b0 : decide (x11_1 < (l0_0.length : Int)) = true:=decide_eq_true c15
      clear c15
      replace H:=Option.bind_eq_some_iff.mp H
      obtain ⟨t632,A160,H⟩:=H
      replace H : (if x631000_1.length < 5864062014805 then (impl_ownYard.l0 k1 l0_0 (l0_0.length : Int) (wrap64 (x11_1 + 1)) (x631000_1 ++ [t632])) else (none)) = some r:=H
      have A16:=Aside0.mk A160
      clear A160
      by_cases c17 : x631000_1.length < 5864062014805
      ·rw [if_pos c17] at H
       have LMc17:=Aside0.mk c17
       clear c17
       obtain ⟨y635,hy635⟩ : ∃ y_ : List (List Int),y_ = (x631000_1 ++ [t632]):=⟨_,rfl⟩
       replace H : (impl_ownYard.l0 k1 l0_0 (l0_0.length : Int) (wrap64 (x11_1 + 1)) y635) = some r:=by first|(rw [hy635]; with_reducible exact H)|(have H2_:=(Option.bind_some _ _).symm.trans H; rw [hy635]; with_reducible exact H2_)|(have H2_:=(Option.bind_some _ _).symm.trans H; with_reducible exact H2_)|with_reducible exact H|(rw [hy635]; exact H)|exact H
       have Ny635:=Aside0.mk hy635
       clear hy635
       have H':=Aside0.mk H
       clear H
       have p631 : 0 ≤ (x11_1 : Int):=of_decide_eq_true (by first|(with_reducible assumption)|assumption)
       have q631 : x11_1 < (l0_0.length : Int):=of_decide_eq_true (by first|(with_reducible assumption)|assumption)
       obtain ⟨ad631,A631_0,c631_0,e631,hx631_0,hl631_0,hi631_0⟩:=at_L2 HR0_0.out x11_1 p631 q631
       cases e631
       replace hx631_0:=(HB.out.cell (World.block_lt_of_cell? w _ hx631_0)).trans hx631_0
       have HR631_0:=Aside0.mk hi631_0
       have HC631_0:=Aside0.mk hl631_0
       clear hi631_0 hl631_0
       replace p631:=eq_true p631
       replace q631:=eq_true q631
       try go_wp2
       have n0_:=Aside0.mk (Kd.S_drew HO_631000.out)
       have n1_:=Aside0.mk (blk_drew BK625.out)
       have n2_:=Aside0.mk (blk_drew BK626.out)
       have n3_:=Aside0.mk (blk_drew BK630.out)
       have n4_:=Aside0.mk (below_drew1 HB.out)
       clear HO_631000
       clear BK625
       clear BK626
       clear BK630
       clear HB
       have HO_631000:=n0_
       have BK625:=n1_
       have BK626:=n2_
       have BK630:=n3_
       have HB:=n4_
       clear n0_ n1_ n2_ n3_ n4_
       refine start_ (n:=8) (S:=fun w' => w'.cell? ⟨gb630,0,none⟩ = some (u631000)) (ds:=[7]) #[false,false,false,false,false,false,false,false] (by kernel_rfl) rfl rfl ((blk_cell BK630.out 0).trans rfl) (fun hHeld => ?_); refine with_tabW impl_ownYard.tab5 impl_ownYard.bits5 (fun HT_ HW_ => ?_)
       generalize wr.drew = w18 at HO_631000 BK625 BK626 BK630 HB hHeld ⊢
       refine pure_ (i:=0) (N:=some 15) (v:=?_) (a':=?_) #[true,false,false,false,false,false,false,false] rfl rfl (any_of HT_.out (by kernel_rfl)) (fun _ _ _ h => h) (Or.inl ⟨by rfl,?_⟩) ?_ ?_
       rotate_left
       ·intro w'
        go_simp
        with_reducible rfl
       rotate_left
       ·simp only [Act.put,List.setIfInBounds_toArray,List.set_cons_zero,List.set_cons_succ,i64_w,i32_w]
        rfl
       refine pure_ (i:=2) (N:=some 17) (v:=?_) (a':=?_) #[true,false,true,false,false,false,false,false] rfl rfl (any_of HT_.out (by kernel_rfl)) (fun _ _ _ h => h) (Or.inl ⟨by rfl,?_⟩) ?_ ?_
       rotate_left
       ·intro w'
        go_simp
        with_reducible rfl
       rotate_left
       ·simp only [Act.put,List.setIfInBounds_toArray,List.set_cons_zero,List.set_cons_succ,i64_w,i32_w]
        rfl
       refine take_ (i:=1) (N:=some 16) (v:=?_) (a':=?_) #[true,true,true,false,false,false,false,false] rfl rfl (take_ofW HT_.out HW_.out (by kernel_rfl)) (fun _ _ _ h => h) (Or.inl ⟨by rfl,?_⟩) hHeld ?_ ?_
       rotate_left
       ·intro w' s0
        go_simp
        with_reducible rfl
       rotate_left
       ·simp only [Act.put,List.setIfInBounds_toArray,List.set_cons_zero,List.set_cons_succ,i64_w,i32_w]
        rfl
       refine one_ (i:=3) (N:=some 18) #[true,true,true,true,false,false,false,false] rfl rfl (one_of HT_.out (by kernel_rfl)) (by decide) (fun K hK => ?_)
       refine goes_ Try.func121 (by kernel_rfl) rfl #[.slice A631_0 (rd_L2 l0_0 x11_1).length c631_0] (by rfl) rfl rfl (by (try simp only [List.map_toArray,List.map_cons,List.map_nil]); first|done|rfl|(simp only [List.length_drop,List.length_take]; rfl)) ?_
       with_reducible refine (slices_Clone_int_int.calls _ _ (rd_L2 l0_0 x11_1) t632 _ ?side1 ?side2 A16.out).mono ?_
       (case side1 => repeat (first|exact (Kd.C_below HR631_0.out HB.out)|(with_reducible refine Kd.C_alloc ?_ _)|(with_reducible refine Kd.C_drewN ?_ _)|(with_reducible refine Kd.C_drew ?_)))
       (case side2 => exact HC631_0.out)
       rintro e w19 ⟨v633,rfl,ho0,hb⟩
       refine ⟨_,rfl,?_⟩
       have n0_:=Aside0.mk (Kd.S_elder' (by (with_reducible repeat (first|apply Kd.S_alloc|apply Kd.S_drewN|apply Kd.S_drew)); exact HO_631000.out) (Kd.R_base ho0) hb)
       have n1_:=Aside0.mk (Kd.R_lower ho0 (below_size (by repeat (first|(with_reducible first|exact HB.out|apply below_alloc|apply pw_below_drewN|apply below_drew1|refine below_set ?_ GE625.out|refine below_set ?_ GE626.out|refine below_set ?_ GE630.out)|exact HB.out))))
       have n2_:=Aside0.mk (blk_below (g:=gb625) (o:=.cells #[.slice (some ad631) l0_0.length c0_0] 42 (0,0)) (by (with_reducible repeat (first|refine blk_drewN ?_ _|refine blk_drew ?_|refine blk_alloc ?_ _)); exact BK625.out) hb)
       have n3_:=Aside0.mk (blk_below (g:=gb626) (o:=.cells #[.slice none 0 0] 42 (0,0)) (by (with_reducible repeat (first|refine blk_drewN ?_ _|refine blk_drew ?_|refine blk_alloc ?_ _)); exact BK626.out) hb)
       have n4_:=Aside0.mk (blk_below (g:=gb630) (o:=.cells #[u631000] 42 (0,0)) (by (with_reducible repeat (first|refine blk_drewN ?_ _|refine blk_drew ?_|refine blk_alloc ?_ _)); exact BK630.out) hb)
       have n5_:=Aside0.mk (below_step (by repeat (first|(with_reducible first|exact HB.out|apply below_alloc|apply pw_below_drewN|apply below_drew1|refine below_set ?_ GE625.out|refine below_set ?_ GE626.out|refine below_set ?_ GE630.out)|exact HB.out)) hb)
       clear HO_631000
       clear BK625
       clear BK626
       clear BK630
       clear HB
       have HO_631000:=n0_
       have HO634:=n1_
       have BK625:=n2_
       have BK626:=n3_
       have BK630:=n4_
       have HB:=n5_
       clear n0_ n1_ n2_ n3_ n4_ n5_
       (try clear hb)
       (try clear hb2)
       (try clear hk)
       (try clear hi)
       (try clear ho0)
       obtain ⟨Ao21,co21,eo21⟩:=Kd.R_slice HO634.out
       (first|subst eo21|(injection eo21 with f1_ f2_ f3_; have f4_:=f1_.symm; have f5_:=f3_.symm; clear f1_ f2_ f3_; subst f4_; subst f5_))
       refine hK.out _ _ ((blk_cell BK630.out 0).trans rfl) (fun hHeld => ?_)
       clear hK K
       refine norm_ (a':=?_) ?_ ?_
       rotate_left
       ·show Act.put _ (some 18) _ = _
        simp only [Act.put,List.setIfInBounds_toArray,List.set_cons_zero,List.set_cons_succ,i64_w,i32_w]
        rfl
       refine one_ (i:=4) (N:=some 19) #[true,true,true,true,true,false,false,false] rfl rfl (one_of HT_.out (by kernel_rfl)) (by decide) (fun K hK => ?_)
       refine value_ (w1:=?_) (v:=?_) (by rfl) rfl ?_ ?_
       rotate_left 2
       ·go_simp
        constructor
        ·rfl
        ·rfl
       refine hK.out _ _ ((blk_cell (blk_alloc BK630.out _) 0).trans rfl) (fun hHeld => ?_)
       clear hK K
       refine norm_ (a':=?_) ?_ ?_
       rotate_left
       ·show Act.put _ (some 19) _ = _
        simp only [Act.put,List.setIfInBounds_toArray,List.set_cons_zero,List.set_cons_succ,i64_w,i32_w]
        rfl
       refine one_ (i:=5) (N:=some 20) #[true,true,true,true,true,true,false,false] rfl rfl (one_of HT_.out (by kernel_rfl)) (by decide) (fun K hK => ?_)
       refine Kd.S_append_step (Kd.slice 3 (Kd.int .i64)) (w0:=w) w.heap.size (by rfl) (.tmp 16) (.tmp 19) 38 24 (.slice none 0 0) 24 rfl Try.underlying38 info24 rfl (by decide) (by omega) u631000 x631000_1 t632 [.slice Ao21 t632.length co21] (fun _ => True) (fun k_ => some k_ = (.slice Ao21 t632.length co21 : Value).ownBlock) rfl rfl ?aP (fun k_ hk_ => ((Kd.R_mono (ok':=fun k_ => ((fun _ => True)) k_ ∧ some k_ ≠ (u631000 : Value).ownBlock) (Kd.R_apart' (HO634.out) (Kd.S_typed HO_631000.out) (by decide)) (fun k_ hk => ⟨trivial,hk.2⟩))).1 k_ hk_.symm) ?aF ?aO ?aB ?aS ?aL ?_
       (case aP => exact Kd.M_row (Kd.R_mono (Kd.R_tight rfl (Kd.R_mono (ok':=fun k_ => ((fun _ => True)) k_ ∧ some k_ ≠ (u631000 : Value).ownBlock) (Kd.R_apart' (HO634.out) (Kd.S_typed HO_631000.out) (by decide)) (fun k_ hk => ⟨trivial,hk.2⟩))) (fun _ h_ => h_)))
       (case aB => exact (by repeat (first|(with_reducible first|exact HB.out|apply below_alloc|apply pw_below_drewN|apply below_drew1|refine below_set ?_ GE625.out|refine below_set ?_ GE626.out|refine below_set ?_ GE630.out)|exact HB.out)))
       (case aF => exact (fun _ _ => trivial))
       (case aO => exact (by (with_reducible repeat (first|apply Kd.S_alloc|apply Kd.S_drewN|apply Kd.S_drew)); exact Kd.S_mono HO_631000.out (fun k_ hk => ⟨trivial,fun e_ => hk.2 e_⟩)))
       (case aS => exact (below_size (by repeat (first|(with_reducible first|exact HB.out|apply below_alloc|apply pw_below_drewN|apply below_drew1|refine below_set ?_ GE625.out|refine below_set ?_ GE626.out|refine below_set ?_ GE630.out)|exact HB.out))))
       (case aL => have:=LMc17.out; omega)
       intro v636 w20 ho hb hg hat
       rw [← Ny635.out] at ho
       have n0_:=Aside0.mk (blk_grown (g:=gb625) (o:=.cells #[.slice (some ad631) l0_0.length c0_0] 42 (0,0)) (by (with_reducible repeat (first|refine blk_drewN ?_ _|refine blk_drew ?_|refine blk_alloc ?_ _)); exact BK625.out) hg (Kd.S_ne HO_631000.out BK625.out (by decide)))
       have n1_:=Aside0.mk (blk_grown (g:=gb626) (o:=.cells #[.slice none 0 0] 42 (0,0)) (by (with_reducible repeat (first|refine blk_drewN ?_ _|refine blk_drew ?_|refine blk_alloc ?_ _)); exact BK626.out) hg (Kd.S_ne HO_631000.out BK626.out (by decide)))
       have n2_:=Aside0.mk (blk_grown (g:=gb630) (o:=.cells #[u631000] 42 (0,0)) (by (with_reducible repeat (first|refine blk_drewN ?_ _|refine blk_drew ?_|refine blk_alloc ?_ _)); exact BK630.out) hg (Kd.S_ne HO_631000.out BK630.out (by decide)))
       have n3_:=Aside0.mk (hb)
       have n4_:=Aside0.mk (ho)
       clear BK625
       clear BK626
       clear BK630
       clear HB
       clear HO_631000
       clear HO634
       have BK625:=n0_
       have BK626:=n1_
       have BK630:=n2_
       have HB:=n3_
       have HO637:=n4_
       clear n0_ n1_ n2_ n3_ n4_
       clear ho hb hg hat
       obtain ⟨Ao22,co22,eo22⟩:=Kd.S_slice HO637.out
       (first|subst eo22|(injection eo22 with f1_ f2_ f3_; have f4_:=f1_.symm; have f5_:=f3_.symm; clear f1_ f2_ f3_; subst f4_; subst f5_))
       refine hK.out _ _ ((blk_cell BK630.out 0).trans rfl) (fun hHeld => ?_)
       clear hK K
       refine norm_ (a':=?_) ?_ ?_
       rotate_left
       ·show Act.put _ (some 20) _ = _
        simp only [Act.put,List.setIfInBounds_toArray,List.set_cons_zero,List.set_cons_succ,i64_w,i32_w]
        rfl
       refine pure_ (i:=6) (N:=some 21) (v:=?_) (a':=?_) #[true,true,true,true,true,true,true,false] rfl rfl (any_of HT_.out (by kernel_rfl)) (fun _ _ _ h => h) (Or.inl ⟨by rfl,?_⟩) ?_ ?_
       rotate_left
       ·intro w'
        go_simp
        with_reducible rfl
       rotate_left
       ·simp only [Act.put,List.setIfInBounds_toArray,List.set_cons_zero,List.set_cons_succ,i64_w,i32_w]
        rfl
       refine last_ (i:=7) (N:=none) #[true,true,true,true,true,true,true,true] rfl rfl (one_of HT_.out (by kernel_rfl)) (by decide) (fun K hK => ?_)
       have hs23 : w20.cell? ⟨gb630,0,none⟩ = some (u631000):=(blk_cell BK630.out 0).trans rfl
       have hfs23:=blk_frozen BK630.out 0
       have hns23_0:=NB625_630.out
       have hns23_1:=NB626_630.out
       have hms23_0:=NB630_625.out
       have hms23_1:=NB630_626.out
       refine skip_ (w1:=?_) (by rfl) rfl ?_ ?_
       rotate_left
       ·go_simp
        rfl
       refine hK.out _ _ ?_
       clear hK K
       refine done_ (done_of HT_.out (by kernel_rfl)) ?_
       try go_wp2
       go_roundg k1
       case measure => have:=HK1.out; omega
       case rel => exact ⟨(wrap64 (x11_1 + 1)),(y635),(.slice Ao22 y635.length co22),(by first|rfl|(simp; done)|(simp [*]; done)),H',⟨by have:=HK1.out; omega⟩,⟨by (with_reducible repeat (first|apply Kd.S_alloc|apply Kd.S_drewN|apply Kd.S_drew)); exact Kd.S_mono (Kd.S_far (p:=⟨gb630,0,none⟩) (Kd.S_types HO637.out BK630.out (by decide)) (fun _ hk => hk.2) (.slice Ao22 y635.length co22)) (fun _ hk => trivial)⟩,⟨by (with_reducible repeat (first|refine blk_drewN ?_ _|refine blk_drew ?_|refine blk_alloc ?_ _)); refine blk_far ?_ NB625_630.out _; (with_reducible repeat (first|refine blk_drewN ?_ _|refine blk_drew ?_|refine blk_alloc ?_ _)); exact BK625.out⟩,⟨by (with_reducible repeat (first|refine blk_drewN ?_ _|refine blk_drew ?_|refine blk_alloc ?_ _)); refine blk_far ?_ NB626_630.out _; (with_reducible repeat (first|refine blk_drewN ?_ _|refine blk_drew ?_|refine blk_alloc ?_ _)); exact BK626.out⟩,⟨by (with_reducible repeat (first|refine blk_drewN ?_ _|refine blk_drew ?_|refine blk_alloc ?_ _)); refine blk_put (cs:=#[u631000]) ?_ 0 _ rfl; (with_reducible repeat (first|refine blk_drewN ?_ _|refine blk_drew ?_|refine blk_alloc ?_ _)); exact BK630.out⟩,⟨by repeat (first|(with_reducible first|exact HB.out|apply below_alloc|apply pw_below_drewN|apply below_drew1|refine below_set ?_ GE625.out|refine below_set ?_ GE626.out|refine below_set ?_ GE630.out)|exact HB.out)⟩⟩
      ·rw [if_neg c17] at H
       exact absurd H (by simp)
     ·rw [if_neg c15] at H
      exact absurd H (by simp)
    ·rw [if_neg c14] at H
     exact absurd H (by simp)
   ·rw [if_neg c13] at H
    have c13b0 : decide (x11_1 < (l0_0.length : Int)) = false:=decide_eq_false c13
    clear c13
    obtain rfl:=Option.some.inj H
    have hnb24:=NB630_625.out
    have hnc24:=NB625_630.out
    have hnb25:=NB630_626.out
    have hnc25:=NB626_630.out
    have hcz26_0 : wr.cell? ⟨gb630,0,none⟩ = some (u631000):=(blk_cell BK630.out 0).trans rfl
    have hfz26_0:=blk_frozen BK630.out 0
    obtain ⟨Ao27,co27,eo27⟩:=Kd.S_slice HO_631000.out
    subst eo27
    have hnb28:=NB626_625.out
    have hnc28:=NB625_626.out
    have hcz29_0 : wr.cell? ⟨gb626,0,none⟩ = some (.slice none 0 0):=(blk_cell BK626.out 0).trans rfl
    have hfz29_0:=blk_frozen BK626.out 0
    go_wp2
    refine bodyPost_ret (results_cell_row rfl _ _ gb626 42 #[.slice Ao27 x631000_1.length co27] (0,0) _ rfl (by (with_reducible repeat (first|refine blk_drewN ?_ _|refine blk_drew ?_|refine blk_alloc ?_ _)); refine blk_put (cs:=#[.slice none 0 0]) ?_ 0 _ rfl; (with_reducible repeat (first|refine blk_drewN ?_ _|refine blk_drew ?_|refine blk_alloc ?_ _)); exact BK626.out) Try.underlying42 rfl (by kernel_rfl)) rfl ?_
    exact ⟨_,by first|rfl|(simp [errW_none,errW_some] <;> rfl)|(simp [*,errW_none,errW_some] <;> rfl),by (with_reducible repeat (first|apply Kd.S_alloc|apply Kd.S_drewN|apply Kd.S_drew)); exact Kd.S_mono (Kd.S_far (p:=⟨gb626,0,none⟩) (Kd.S_types HO_631000.out BK626.out (by decide)) (fun _ hk => hk.2) (.slice Ao27 x631000_1.length co27)) (fun _ hk => trivial),by repeat (first|(with_reducible first|exact HB.out|apply below_alloc|apply pw_below_drewN|apply below_drew1|refine below_set ?_ GE625.out|refine below_set ?_ GE626.out|refine below_set ?_ GE630.out)|exact HB.out)⟩

/-! ### impl_topOf: function 119 -/
def impl_topOf.f (l0 : List Int) : Option (Int):=if (l0.length : Int) = 0 then (some 0) else (if 0 ≤ (wrap64 ((l0.length : Int) - 1)) then (if (wrap64 ((l0.length : Int) - 1)) < (l0.length : Int) then (some (rd l0 (wrap64 ((l0.length : Int) - 1)))) else (none)) else (none))
set_option maxHeartbeats 8000000 in
set_option maxRecDepth 100000 in
theorem impl_topOf.calls (A0 : Option Addr) (c0 : Nat) (l0 : List Int) (r : Int) (w : World) (hr0 : Kd.C (Kd.int .i64) w A0 l0.length l0) (hc0 : l0.length ≤ c0) (h : impl_topOf.f l0 = some r) :
  Calls Try.prog 119 #[.slice A0 l0.length c0] w fun e w' => e = .returned (.int .i64 r) ∧ Drawn0 w w':=by
 have HR0:=Aside0.mk hr0
 have HC0:=Aside0.mk hc0
 clear hr0 hc0
 have H : (if (l0.length : Int) = 0 then (some 0) else (if 0 ≤ (wrap64 ((l0.length : Int) - 1)) then (if (wrap64 ((l0.length : Int) - 1)) < (l0.length : Int) then (some (rd l0 (wrap64 ((l0.length : Int) - 1)))) else (none)) else (none))) = some r:=h
 clear h
 by_cases c2 : (l0.length : Int) = 0
 ·rw [if_pos c2] at H
  have c2b0 : ((l0.length : Int) == 0) = true:=beq_iff_eq.mpr c2
  have c2b1 : ((l0.length : Int) != 0) = false:=bne_eq_false_iff_eq.mpr c2
  clear c2
  obtain rfl:=Option.some.inj H
  go_enter Try.func119,Try.ntmps119
  go_wp2
  go_ret
  exact ⟨by first|rfl|(simp; done)|(simp [*]; done),by repeat (first|exact Drawn0.refl _|apply Drawn0.step)⟩
 ·rw [if_neg c2] at H
  have c2b0 : ((l0.length : Int) == 0) = false:=beq_eq_false_iff_ne.mpr c2
  have c2b1 : ((l0.length : Int) != 0) = true:=bne_iff_ne.mpr c2
  have c2b2 : ¬ (l0 = []):=fun h_ => c2 (by rw [h_]; rfl)
  obtain ⟨ji3,hji3⟩ : ∃ j_ : Int,(wrap64 ((l0.length : Int) - 1)) = j_:=⟨_,rfl⟩
  replace H : (if 0 ≤ (ji3) then (if (ji3) < (l0.length : Int) then (some (rd l0 (ji3))) else (none)) else (none)) = some r:=by first|(rw [hji3] at H; exact H)|(simp only [hji3] at H ⊢; exact H)
  have hji3w : (IntKind.i64.wrap ((l0.length : Int) - 1)) = ji3:=(i64_w _).trans hji3
  by_cases c4 : 0 ≤ (ji3)
  ·rw [if_pos c4] at H
   have c4b0 : decide (0 ≤ (ji3)) = true:=decide_eq_true c4
   clear c4
   by_cases c5 : (ji3) < (l0.length : Int)
   ·rw [if_pos c5] at H
    have c5b0 : decide ((ji3) < (l0.length : Int)) = true:=decide_eq_true c5
    clear c5
    obtain rfl:=Option.some.inj H
    have p677 : 0 ≤ ((ji3) : Int):=of_decide_eq_true (by first|(with_reducible assumption)|assumption)
    have q677 : (ji3) < (l0.length : Int):=of_decide_eq_true (by first|(with_reducible assumption)|assumption)
    obtain ⟨ad677,e677,hx677_0⟩:=Kd.at_int HR0.out (ji3) p677 q677
    cases e677
    replace p677:=eq_true p677
    replace q677:=eq_true q677
    go_enter Try.func119,Try.ntmps119
    go_wp2
    go_ret
    exact ⟨by first|rfl|(simp; done)|(simp only [← hji3] <;> (first|rfl|simp))|(simp [*]; done),by repeat (first|exact Drawn0.refl _|apply Drawn0.step)⟩
   ·rw [if_neg c5] at H
    exact absurd H (by simp)
  ·rw [if_neg c4] at H
   exact absurd H (by simp)

/-! ### impl_placeOf: function 120 -/
def impl_placeOf.l0 : Nat → Int → List (List Int) → Int → Int → Option (Int × Int)
 | 0,_,_,_,_ => none
 | k + 1,x1,x10,x11,x12 => if x12 < x11 then (if 0 ≤ x12 then (if x12 < (x10.length : Int) then ((slices_Index_int_int.f k (rd_L2 x10 x12) x1).bind fun t687 => (if t687 ≥ 0 then (some (x12,t687)) else (impl_placeOf.l0 k x1 x10 x11 (wrap64 (x12 + 1))))) else (none)) else (none)) else (some ((-1),(-1)))
def impl_placeOf.f (k : Nat) (l0_0 : List (List Int)) (a1 : Int) : Option (Int × Int):=impl_placeOf.l0 k a1 l0_0 (l0_0.length : Int) 0
theorem impl_placeOf.mono_l : ∀ k,(∀ y0 y1 y2 y3,LeO (impl_placeOf.l0 k y0 y1 y2 y3) (impl_placeOf.l0 (k + 1) y0 y1 y2 y3))
 | 0 => fun _ _ _ _ r h => by simp [impl_placeOf.l0] at h
 | k + 1 => by
  have ih0:=impl_placeOf.mono_l k
  ·intro y0 y1 y2 y3
   unfold impl_placeOf.l0
   repeat' first
   | (with_reducible exact ih0 _ _ _ _)
   | (with_reducible exact slices_Index_int_int.mono _ _ _)
   | (with_reducible exact LeO.refl _)
   | (with_reducible exact LeO.none _)
   | (with_reducible refine LeO.ite ?_ ?_)
   | (with_reducible refine LeO.bind ?_ (fun _ => ?_))
   | exact ih0 _ _ _ _
   | exact slices_Index_int_int.mono _ _ _
   | exact LeO.none _
   | refine LeO.ite ?_ ?_
   | refine LeO.bind ?_ (fun _ => ?_)
theorem impl_placeOf.mono : ∀ a0 a1 k,LeO (impl_placeOf.f k a0 a1) (impl_placeOf.f (k + 1) a0 a1):=by
 intro a0 a1 k
 have ih0:=impl_placeOf.mono_l k
 unfold impl_placeOf.f
 repeat' first
   | (with_reducible exact ih0 _ _ _ _)
   | (with_reducible exact slices_Index_int_int.mono _ _ _)
   | (with_reducible exact LeO.refl _)
   | (with_reducible exact LeO.none _)
   | (with_reducible refine LeO.ite ?_ ?_)
   | (with_reducible refine LeO.bind ?_ (fun _ => ?_))
   | exact ih0 _ _ _ _
   | exact slices_Index_int_int.mono _ _ _
   | exact LeO.none _
   | refine LeO.ite ?_ ?_
   | refine LeO.bind ?_ (fun _ => ?_)
set_option maxHeartbeats 8000000 in
set_option maxRecDepth 100000 in
theorem impl_placeOf.calls (k : Nat) (A0_0 : Option Addr) (c0_0 : Nat) (l0_0 : List (List Int)) (a1 : Int) (r1 : Int) (r2 : Int) (w : World) (hr0_0 : Kd.C (Kd.slice 3 (Kd.int .i64)) w A0_0 l0_0.length l0_0) (hc0_0 : l0_0.length ≤ c0_0) (h : impl_placeOf.f k l0_0 a1 = some (r1,r2)) :
  Calls Try.prog 120 #[.agg #[.slice A0_0 l0_0.length c0_0],.int .i64 a1] w fun e w' => e = .returned (.tuple #[.int .i64 r1,.int .i64 r2]) ∧ Below w.heap.size w w':=by
 have hu42:=Try.underlying42
 have HR0_0:=Aside0.mk hr0_0
 have HC0_0:=Aside0.mk hc0_0
 clear hr0_0 hc0_0
 have HB:=Aside0.mk (Below.refl w.heap.size w)
 have H : (impl_placeOf.l0 k a1 l0_0 (l0_0.length : Int) 0) = some (r1,r2):=h
 clear h
 have H':=Aside0.mk H
 clear H
 go_enter Try.func120,Try.ntmps120
 go_wp2_with (first|((with_reducible refine gate_dst (N:=2) rfl ?_); refine box_event ?hg (N:=2) ?hd (cs:=#[.slice A0_0 l0_0.length c0_0]) (t:=42) ?hr ?_; (case hd => rfl); (case hg => rfl); (case hr => first|(go_simp; done)|(go_simp; rfl)); intro gb685 hg w3 hbox hb; have n0_:=Aside0.mk (below_step (by repeat (first|(with_reducible first|exact HB.out|apply below_alloc|apply pw_below_drewN|apply below_drew1)|exact HB.out)) hb); have n1_:=Aside0.mk (hbox); have n2_:=Aside0.mk ((by rw [hg]; exact (below_size (by repeat (first|(with_reducible first|exact HB.out|apply below_alloc|apply pw_below_drewN|apply below_drew1)|exact HB.out))) : w.heap.size ≤ gb685)); have n3_:=Aside0.mk ((by rw [hg]; exact (below_size (by repeat (first|(with_reducible first|exact HB.out|apply below_alloc|apply pw_below_drewN|apply below_drew1)|exact HB.out))) : w.heap.size ≤ gb685)); clear HB; have HB:=n0_; have BK685:=n1_; have GW685:=n2_; have GE685:=n3_; clear n0_ n1_ n2_ n3_; clear hb hbox hg; have hcz4_0 : w3.cell? ⟨gb685,0,none⟩ = some (.slice A0_0 l0_0.length c0_0):=(blk_cell BK685.out 0).trans rfl; have hfz4_0:=blk_frozen BK685.out 0))
 go_loopg [12] k (fun kq v12 w' => ∃ (x12_1 : Int),v12 = .int .i64 x12_1 ∧ Aside0 (impl_placeOf.l0 kq a1 l0_0 (l0_0.length : Int) x12_1 = some (r1,r2)) ∧ Aside0 (kq ≤ k) ∧ Aside0 (w'.heap[gb685]? = some (.cells #[(.slice A0_0 l0_0.length c0_0)] 42 (0,0))) ∧ Aside0 (Below w.heap.size w w'))
 case atStart => exact ⟨(0),(by first|rfl|(simp; done)|(simp [*]; done)),H',⟨Nat.le_refl _⟩,⟨by (with_reducible repeat (first|refine blk_drewN ?_ _|refine blk_drew ?_|refine blk_alloc ?_ _)); exact BK685.out⟩,⟨by repeat (first|(with_reducible first|exact HB.out|apply below_alloc|apply pw_below_drewN|apply below_drew1|refine below_set ?_ GE685.out)|exact HB.out)⟩⟩
 case round =>
  clear H'
  try clear c1
  try clear p2
  try clear hcz4_0
  try clear hfz4_0
  obtain ⟨x12_1,rfl,HA,HK1,BK685,HB⟩:=hrel
  cases gk with
  | zero => exact absurd HA.out (by simp [impl_placeOf.l0])
  | succ k1 =>
   have H:=HA.out
   clear HA
   simp only [impl_placeOf.l0] at H
   by_cases c5 : x12_1 < (l0_0.length : Int)
   ·rw [if_pos c5] at H
    have c5b0 : decide (x12_1 < (l0_0.length : Int)) = true:=decide_eq_true c5
    clear c5
    by_cases c6 : 0 ≤ x12_1
    ·rw [if_pos c6] at H
     have c6b0 : decide (0 ≤ x12_1) = true:=decide_eq_true c6
     clear c6
     by_cases c7 : x12_1 < (l0_0.length : Int)
     ·rw [if_pos c7] at H
      have c7b0 : decide (x12_1 < (l0_0.length : Int)) = true:=decide_eq_true c7
      clear c7
      replace H:=Option.bind_eq_some_iff.mp H
      obtain ⟨t687,A80,H⟩:=H
      replace H : (if t687 ≥ 0 then (some (x12_1,t687)) else (impl_placeOf.l0 k1 a1 l0_0 (l0_0.length : Int) (wrap64 (x12_1 + 1)))) = some (r1,r2):=H
      have A8:=Aside0.mk A80
      clear A80
      by_cases c9 : t687 ≥ 0
      ·rw [if_pos c9] at H
       have c9b0 : decide (0 ≤ t687) = true:=decide_eq_true c9
       clear c9
       simp only [Option.some.injEq,Prod.mk.injEq] at H
       obtain ⟨rfl,rfl⟩:=H
       have p686 : 0 ≤ (x12_1 : Int):=of_decide_eq_true (by first|(with_reducible assumption)|assumption)
       have q686 : x12_1 < (l0_0.length : Int):=of_decide_eq_true (by first|(with_reducible assumption)|assumption)
       obtain ⟨ad686,A686_0,c686_0,e686,hx686_0,hl686_0,hi686_0⟩:=at_L2 HR0_0.out x12_1 p686 q686
       cases e686
       replace hx686_0:=(HB.out.cell (World.block_lt_of_cell? w _ hx686_0)).trans hx686_0
       have HR686_0:=Aside0.mk hi686_0
       have HC686_0:=Aside0.mk hl686_0
       clear hi686_0 hl686_0
       replace p686:=eq_true p686
       replace q686:=eq_true q686
       go_wp2_with (first|((with_reducible refine gate_callee (f:=164) rfl ?_); refine goesL_ (some 19) rfl rfl Try.func164 (by kernel_rfl) rfl #[.slice A686_0 (rd_L2 l0_0 x12_1).length c686_0,.int .i64 a1] rfl (by (try simp only [List.map_toArray,List.map_cons,List.map_nil]); first|done|rfl|(simp only [List.length_drop,List.length_take]; rfl)) ?_; (with_reducible refine (slices_Index_int_int.calls k1 _ _ (rd_L2 l0_0 x12_1) a1 t687 _ ?side1 ?side2 A8.out).mono ?_); (case side1 => repeat (first|exact (Kd.C_below HR686_0.out HB.out)|(with_reducible refine Kd.C_alloc ?_ _)|(with_reducible refine Kd.C_drewN ?_ _)|(with_reducible refine Kd.C_drew ?_))); (case side2 => exact HC686_0.out); rintro e w' ⟨rfl,⟨nd,rfl⟩⟩; refine ⟨_,rfl,?_⟩))
       go_ret2
       exact ⟨by first|rfl|(simp [errW_none,errW_some] <;> rfl)|(simp [*,errW_none,errW_some] <;> rfl),by repeat (first|(with_reducible first|exact HB.out|apply below_alloc|apply pw_below_drewN|apply below_drew1|refine below_set ?_ GE685.out)|exact HB.out)⟩
      ·rw [if_neg c9] at H
       have c9b0 : decide (0 ≤ t687) = false:=decide_eq_false c9
       clear c9
       have H':=Aside0.mk H
       clear H
       have p686 : 0 ≤ (x12_1 : Int):=of_decide_eq_true (by first|(with_reducible assumption)|assumption)
       have q686 : x12_1 < (l0_0.length : Int):=of_decide_eq_true (by first|(with_reducible assumption)|assumption)
       obtain ⟨ad686,A686_0,c686_0,e686,hx686_0,hl686_0,hi686_0⟩:=at_L2 HR0_0.out x12_1 p686 q686
       cases e686
       replace hx686_0:=(HB.out.cell (World.block_lt_of_cell? w _ hx686_0)).trans hx686_0
       have HR686_0:=Aside0.mk hi686_0
       have HC686_0:=Aside0.mk hl686_0
       clear hi686_0 hl686_0
       replace p686:=eq_true p686
       replace q686:=eq_true q686
       go_wp2_with (first|((with_reducible refine gate_callee (f:=164) rfl ?_); refine goesL_ (some 19) rfl rfl Try.func164 (by kernel_rfl) rfl #[.slice A686_0 (rd_L2 l0_0 x12_1).length c686_0,.int .i64 a1] rfl (by (try simp only [List.map_toArray,List.map_cons,List.map_nil]); first|done|rfl|(simp only [List.length_drop,List.length_take]; rfl)) ?_; (with_reducible refine (slices_Index_int_int.calls k1 _ _ (rd_L2 l0_0 x12_1) a1 t687 _ ?side1 ?side2 A8.out).mono ?_); (case side1 => repeat (first|exact (Kd.C_below HR686_0.out HB.out)|(with_reducible refine Kd.C_alloc ?_ _)|(with_reducible refine Kd.C_drewN ?_ _)|(with_reducible refine Kd.C_drew ?_))); (case side2 => exact HC686_0.out); rintro e w' ⟨rfl,⟨nd,rfl⟩⟩; refine ⟨_,rfl,?_⟩))
       go_roundg k1
       case measure => have:=HK1.out; omega
       case rel => exact ⟨(wrap64 (x12_1 + 1)),(by first|rfl|(simp; done)|(simp [*]; done)),H',⟨by have:=HK1.out; omega⟩,⟨by (with_reducible repeat (first|refine blk_drewN ?_ _|refine blk_drew ?_|refine blk_alloc ?_ _)); exact BK685.out⟩,⟨by repeat (first|(with_reducible first|exact HB.out|apply below_alloc|apply pw_below_drewN|apply below_drew1|refine below_set ?_ GE685.out)|exact HB.out)⟩⟩
     ·rw [if_neg c7] at H
      exact absurd H (by simp)
    ·rw [if_neg c6] at H
     exact absurd H (by simp)
   ·rw [if_neg c5] at H
    have c5b0 : decide (x12_1 < (l0_0.length : Int)) = false:=decide_eq_false c5
    clear c5
    simp only [Option.some.injEq,Prod.mk.injEq] at H
    obtain ⟨rfl,rfl⟩:=H
    go_wp2
    go_ret2
    exact ⟨by first|rfl|(simp [errW_none,errW_some] <;> rfl)|(simp [*,errW_none,errW_some] <;> rfl),by repeat (first|(with_reducible first|exact HB.out|apply below_alloc|apply pw_below_drewN|apply below_drew1|refine below_set ?_ GE685.out)|exact HB.out)⟩

/-! ### spec_l5Find: function 142 -/
mutual
def spec_l5Find.l0 : Nat → Int → Int → List (List Int) → Option (Int × Int)
 | 0,_,_,_ => none
 | k + 1,x1,x6,x780000 => if x6 < (x780000.length : Int) then (spec_l5Find.l1 k x1 x6 0 x780000) else (some ((-1),(-1)))
def spec_l5Find.l1 : Nat → Int → Int → Int → List (List Int) → Option (Int × Int)
 | 0,_,_,_,_ => none
 | k + 1,x1,x6,x7,x780000 => if 0 ≤ x6 then (if x6 < (x780000.length : Int) then (if x7 < ((rd_L2 x780000 x6).length : Int) then (if 0 ≤ x7 then (if (rd (rd_L2 x780000 x6) x7) = x1 then (some (x6,x7)) else (spec_l5Find.l1 k x1 x6 (wrap64 (x7 + 1)) x780000)) else (none)) else (spec_l5Find.l0 k x1 (wrap64 (x6 + 1)) x780000)) else (none)) else (none)
end
def spec_l5Find.f (k : Nat) (l0_0 : List (List Int)) (a1 : Int) : Option (Int × Int):=spec_l5Find.l0 k a1 0 l0_0
theorem spec_l5Find.mono_l : ∀ k,(∀ y0 y1 y2,LeO (spec_l5Find.l0 k y0 y1 y2) (spec_l5Find.l0 (k + 1) y0 y1 y2)) ∧ (∀ y0 y1 y2 y3,LeO (spec_l5Find.l1 k y0 y1 y2 y3) (spec_l5Find.l1 (k + 1) y0 y1 y2 y3))
 | 0 => ⟨fun _ _ _ r h => by simp [spec_l5Find.l0] at h,fun _ _ _ _ r h => by simp [spec_l5Find.l1] at h⟩
 | k + 1 => by
  obtain ⟨ih0,ih1⟩:=spec_l5Find.mono_l k
  refine ⟨?_,?_⟩
  ·intro y0 y1 y2
   unfold spec_l5Find.l0
   repeat' first
   | (with_reducible exact ih0 _ _ _)
   | (with_reducible exact ih1 _ _ _ _)
   | (with_reducible exact LeO.refl _)
   | (with_reducible exact LeO.none _)
   | (with_reducible refine LeO.ite ?_ ?_)
   | (with_reducible refine LeO.bind ?_ (fun _ => ?_))
   | exact ih0 _ _ _
   | exact ih1 _ _ _ _
   | exact LeO.none _
   | refine LeO.ite ?_ ?_
   | refine LeO.bind ?_ (fun _ => ?_)
  ·intro y0 y1 y2 y3
   unfold spec_l5Find.l1
   repeat' first
   | (with_reducible exact ih0 _ _ _)
   | (with_reducible exact ih1 _ _ _ _)
   | (with_reducible exact LeO.refl _)
   | (with_reducible exact LeO.none _)
   | (with_reducible refine LeO.ite ?_ ?_)
   | (with_reducible refine LeO.bind ?_ (fun _ => ?_))
   | exact ih0 _ _ _
   | exact ih1 _ _ _ _
   | exact LeO.none _
   | refine LeO.ite ?_ ?_
   | refine LeO.bind ?_ (fun _ => ?_)
theorem spec_l5Find.mono : ∀ a0 a1 k,LeO (spec_l5Find.f k a0 a1) (spec_l5Find.f (k + 1) a0 a1):=by
 intro a0 a1 k
 obtain ⟨ih0,ih1⟩:=spec_l5Find.mono_l k
 unfold spec_l5Find.f
 repeat' first
   | (with_reducible exact ih0 _ _ _)
   | (with_reducible exact ih1 _ _ _ _)
   | (with_reducible exact LeO.refl _)
   | (with_reducible exact LeO.none _)
   | (with_reducible refine LeO.ite ?_ ?_)
   | (with_reducible refine LeO.bind ?_ (fun _ => ?_))
   | exact ih0 _ _ _
   | exact ih1 _ _ _ _
   | exact LeO.none _
   | refine LeO.ite ?_ ?_
   | refine LeO.bind ?_ (fun _ => ?_)
set_option maxHeartbeats 8000000 in
set_option maxRecDepth 100000 in
theorem spec_l5Find.calls (k : Nat) (A0_0 : Option Addr) (c0_0 : Nat) (l0_0 : List (List Int)) (a1 : Int) (r1 : Int) (r2 : Int) (w : World) (hr0_0 : Kd.C (Kd.slice 3 (Kd.int .i64)) w A0_0 l0_0.length l0_0) (hc0_0 : l0_0.length ≤ c0_0) (h : spec_l5Find.f k l0_0 a1 = some (r1,r2)) :
  Calls Try.prog 142 #[.agg #[.slice A0_0 l0_0.length c0_0],.int .i64 a1] w fun e w' => e = .returned (.tuple #[.int .i64 r1,.int .i64 r2]) ∧ Below w.heap.size w w':=by
 have hu42:=Try.underlying42
 have HR0_0:=Aside0.mk hr0_0
 have HC0_0:=Aside0.mk hc0_0
 clear hr0_0 hc0_0
 have HB:=Aside0.mk (Below.refl w.heap.size w)
 have H : (spec_l5Find.l0 k a1 0 l0_0) = some (r1,r2):=h
 clear h
 have H':=Aside0.mk H
 clear H
 go_enter Try.func142,Try.ntmps142
 go_wp2_with (first|((with_reducible refine gate_dst (N:=2) rfl ?_); refine box_event ?hg (N:=2) ?hd (cs:=#[.slice A0_0 l0_0.length c0_0]) (t:=42) ?hr ?_; (case hd => rfl); (case hg => rfl); (case hr => first|(go_simp; done)|(go_simp; rfl)); intro gb779 hg w3 hbox hb; have n0_:=Aside0.mk (below_step (by repeat (first|(with_reducible first|exact HB.out|apply below_alloc|apply pw_below_drewN|apply below_drew1)|exact HB.out)) hb); have n1_:=Aside0.mk (hbox); have n2_:=Aside0.mk ((by rw [hg]; exact (below_size (by repeat (first|(with_reducible first|exact HB.out|apply below_alloc|apply pw_below_drewN|apply below_drew1)|exact HB.out))) : w.heap.size ≤ gb779)); have n3_:=Aside0.mk ((by rw [hg]; exact (below_size (by repeat (first|(with_reducible first|exact HB.out|apply below_alloc|apply pw_below_drewN|apply below_drew1)|exact HB.out))) : w.heap.size ≤ gb779)); clear HB; have HB:=n0_; have BK779:=n1_; have GW779:=n2_; have GE779:=n3_; clear n0_ n1_ n2_ n3_; clear hb hbox hg))
 go_loopg [6] k (fun kq v6 w' => ∃ (x6_1 : Int),v6 = .int .i64 x6_1 ∧ Aside0 (spec_l5Find.l0 kq a1 x6_1 l0_0 = some (r1,r2)) ∧ Aside0 (kq ≤ k) ∧ Aside0 (w'.heap[gb779]? = some (.cells #[(.slice A0_0 l0_0.length c0_0)] 42 (0,0))) ∧ Aside0 (Below w.heap.size w w'))
 case atStart => exact ⟨(0),(by first|rfl|(simp; done)|(simp [*]; done)),H',⟨Nat.le_refl _⟩,⟨by (with_reducible repeat (first|refine blk_drewN ?_ _|refine blk_drew ?_|refine blk_alloc ?_ _)); exact BK779.out⟩,⟨by repeat (first|(with_reducible first|exact HB.out|apply below_alloc|apply pw_below_drewN|apply below_drew1|refine below_set ?_ GE779.out)|exact HB.out)⟩⟩
 case round =>
  clear H'
  try clear c1
  try clear p2
  obtain ⟨x6_1,rfl,HA,HK1,BK779,HB⟩:=hrel
  cases gk with
  | zero => exact absurd HA.out (by simp [spec_l5Find.l0])
  | succ k1 =>
   have H:=HA.out
   clear HA
   simp only [spec_l5Find.l0] at H
   by_cases c4 : x6_1 < (l0_0.length : Int)
   ·rw [if_pos c4] at H
    have c4b0 : decide (x6_1 < (l0_0.length : Int)) = true:=decide_eq_true c4
    clear c4
    have H':=Aside0.mk H
    clear H
    have hcz5_0 : wr.cell? ⟨gb779,0,none⟩ = some (.slice A0_0 l0_0.length c0_0):=(blk_cell BK779.out 0).trans rfl
    have hfz5_0:=blk_frozen BK779.out 0
    go_wp2
    go_loopg [7] k1 (fun kq v7 w' => ∃ (x7_2 : Int),v7 = .int .i64 x7_2 ∧ Aside0 (spec_l5Find.l1 kq a1 x6_1 x7_2 l0_0 = some (r1,r2)) ∧ Aside0 (kq ≤ k1) ∧ Aside0 (w'.heap[gb779]? = some (.cells #[(.slice A0_0 l0_0.length c0_0)] 42 (0,0))) ∧ Aside0 (Below w.heap.size w w'))
    case atStart => exact ⟨(0),(by first|rfl|(simp; done)|(simp [*]; done)),H',⟨Nat.le_refl _⟩,⟨by (with_reducible repeat (first|refine blk_drewN ?_ _|refine blk_drew ?_|refine blk_alloc ?_ _)); exact BK779.out⟩,⟨by repeat (first|(with_reducible first|exact HB.out|apply below_alloc|apply pw_below_drewN|apply below_drew1|refine below_set ?_ GE779.out)|exact HB.out)⟩⟩
    case round =>
     clear H'
     try clear c1
     try clear p2
     try clear c4
     try clear c4b0
     try clear hcz5_0
     try clear hfz5_0
     try clear p2
     obtain ⟨x7_2,rfl,HA,HK2,BK779,HB⟩:=hrel
     cases gk with
     | zero => exact absurd HA.out (by simp [spec_l5Find.l1])
     | succ k2 =>
      have H:=HA.out
      clear HA
      simp only [spec_l5Find.l1] at H
      by_cases c6 : 0 ≤ x6_1
      ·rw [if_pos c6] at H
       have c6b0 : decide (0 ≤ x6_1) = true:=decide_eq_true c6
       clear c6
       by_cases c7 : x6_1 < (l0_0.length : Int)
       ·rw [if_pos c7] at H
        have c7b0 : decide (x6_1 < (l0_0.length : Int)) = true:=decide_eq_true c7
        clear c7
        by_cases c8 : x7_2 < ((rd_L2 l0_0 x6_1).length : Int)
        ·rw [if_pos c8] at H
         have c8b0 : decide (x7_2 < ((rd_L2 l0_0 x6_1).length : Int)) = true:=decide_eq_true c8
         clear c8
         by_cases c9 : 0 ≤ x7_2
         ·rw [if_pos c9] at H
          have c9b0 : decide (0 ≤ x7_2) = true:=decide_eq_true c9
          clear c9
          by_cases c10 : (rd (rd_L2 l0_0 x6_1) x7_2) = a1
          ·rw [if_pos c10] at H
           have c10b0 : ((rd (rd_L2 l0_0 x6_1) x7_2) == a1) = true:=beq_iff_eq.mpr c10
           have c10b1 : ((rd (rd_L2 l0_0 x6_1) x7_2) != a1) = false:=bne_eq_false_iff_eq.mpr c10
           clear c10
           simp only [Option.some.injEq,Prod.mk.injEq] at H
           obtain ⟨rfl,rfl⟩:=H
           have hcz11_0 : wr.cell? ⟨gb779,0,none⟩ = some (.slice A0_0 l0_0.length c0_0):=(blk_cell BK779.out 0).trans rfl
           have hfz11_0:=blk_frozen BK779.out 0
           have p780 : 0 ≤ (x6_1 : Int):=of_decide_eq_true (by first|(with_reducible assumption)|assumption)
           have q780 : x6_1 < (l0_0.length : Int):=of_decide_eq_true (by first|(with_reducible assumption)|assumption)
           obtain ⟨ad780,A780_0,c780_0,e780,hx780_0,hl780_0,hi780_0⟩:=at_L2 HR0_0.out x6_1 p780 q780
           cases e780
           replace hx780_0:=(HB.out.cell (World.block_lt_of_cell? w _ hx780_0)).trans hx780_0
           have HR780_0:=Aside0.mk hi780_0
           have HC780_0:=Aside0.mk hl780_0
           clear hi780_0 hl780_0
           replace p780:=eq_true p780
           replace q780:=eq_true q780
           have p781 : 0 ≤ (x6_1 : Int):=of_decide_eq_true (by first|(with_reducible assumption)|assumption)
           have q781 : x6_1 < (l0_0.length : Int):=of_decide_eq_true (by first|(with_reducible assumption)|assumption)
           obtain ⟨ad781,A781_0,c781_0,e781,hx781_0,hl781_0,hi781_0⟩:=at_L2 HR0_0.out x6_1 p781 q781
           obtain rfl : ad780 = ad781:=(by injection e781)
           replace hx781_0:=(HB.out.cell (World.block_lt_of_cell? w _ hx781_0)).trans hx781_0
           have HR781_0:=Aside0.mk hi781_0
           have HC781_0:=Aside0.mk hl781_0
           clear hi781_0 hl781_0
           replace p781:=eq_true p781
           replace q781:=eq_true q781
           have ea_:=Option.some.inj (hx780_0.symm.trans hx781_0)
           injection ea_ with ea_ en_ ec_
           subst ea_
           subst ec_
           clear en_
           have p782 : 0 ≤ (x7_2 : Int):=of_decide_eq_true (by first|(with_reducible assumption)|assumption)
           have q782 : x7_2 < ((rd_L2 l0_0 x6_1).length : Int):=of_decide_eq_true (by first|(with_reducible assumption)|assumption)
           obtain ⟨ad782,e782,hx782_0⟩:=Kd.at_int HR781_0.out x7_2 p782 q782
           cases e782
           replace hx782_0:=(HB.out.cell (World.block_lt_of_cell? w _ hx782_0)).trans hx782_0
           replace p782:=eq_true p782
           replace q782:=eq_true q782
           go_wp2
           go_ret2
           exact ⟨by first|rfl|(simp [errW_none,errW_some] <;> rfl)|(simp [*,errW_none,errW_some] <;> rfl),by repeat (first|(with_reducible first|exact HB.out|apply below_alloc|apply pw_below_drewN|apply below_drew1|refine below_set ?_ GE779.out)|exact HB.out)⟩
          ·rw [if_neg c10] at H
           have c10b0 : ((rd (rd_L2 l0_0 x6_1) x7_2) == a1) = false:=beq_eq_false_iff_ne.mpr c10
           have c10b1 : ((rd (rd_L2 l0_0 x6_1) x7_2) != a1) = true:=bne_iff_ne.mpr c10
           have H':=Aside0.mk H
           clear H
           have hcz12_0 : wr.cell? ⟨gb779,0,none⟩ = some (.slice A0_0 l0_0.length c0_0):=(blk_cell BK779.out 0).trans rfl
           have hfz12_0:=blk_frozen BK779.out 0
           have p780 : 0 ≤ (x6_1 : Int):=of_decide_eq_true (by first|(with_reducible assumption)|assumption)
           have q780 : x6_1 < (l0_0.length : Int):=of_decide_eq_true (by first|(with_reducible assumption)|assumption)
           obtain ⟨ad780,A780_0,c780_0,e780,hx780_0,hl780_0,hi780_0⟩:=at_L2 HR0_0.out x6_1 p780 q780
           cases e780
           replace hx780_0:=(HB.out.cell (World.block_lt_of_cell? w _ hx780_0)).trans hx780_0
           have HR780_0:=Aside0.mk hi780_0
           have HC780_0:=Aside0.mk hl780_0
           clear hi780_0 hl780_0
           replace p780:=eq_true p780
           replace q780:=eq_true q780
           have p781 : 0 ≤ (x6_1 : Int):=of_decide_eq_true (by first|(with_reducible assumption)|assumption)
           have q781 : x6_1 < (l0_0.length : Int):=of_decide_eq_true (by first|(with_reducible assumption)|assumption)
           obtain ⟨ad781,A781_0,c781_0,e781,hx781_0,hl781_0,hi781_0⟩:=at_L2 HR0_0.out x6_1 p781 q781
           obtain rfl : ad780 = ad781:=(by injection e781)
           replace hx781_0:=(HB.out.cell (World.block_lt_of_cell? w _ hx781_0)).trans hx781_0
           have HR781_0:=Aside0.mk hi781_0
           have HC781_0:=Aside0.mk hl781_0
           clear hi781_0 hl781_0
           replace p781:=eq_true p781
           replace q781:=eq_true q781
           have ea_:=Option.some.inj (hx780_0.symm.trans hx781_0)
           injection ea_ with ea_ en_ ec_
           subst ea_
           subst ec_
           clear en_
           have p782 : 0 ≤ (x7_2 : Int):=of_decide_eq_true (by first|(with_reducible assumption)|assumption)
           have q782 : x7_2 < ((rd_L2 l0_0 x6_1).length : Int):=of_decide_eq_true (by first|(with_reducible assumption)|assumption)
           obtain ⟨ad782,e782,hx782_0⟩:=Kd.at_int HR781_0.out x7_2 p782 q782
           cases e782
           replace hx782_0:=(HB.out.cell (World.block_lt_of_cell? w _ hx782_0)).trans hx782_0
           replace p782:=eq_true p782
           replace q782:=eq_true q782
           go_wp2
           go_roundg k2
           case measure => have:=HK1.out; have:=HK2.out; omega
           case rel => exact ⟨(wrap64 (x7_2 + 1)),(by first|rfl|(simp; done)|(simp [*]; done)),H',⟨by have:=HK1.out; have:=HK2.out; omega⟩,⟨by (with_reducible repeat (first|refine blk_drewN ?_ _|refine blk_drew ?_|refine blk_alloc ?_ _)); exact BK779.out⟩,⟨by repeat (first|(with_reducible first|exact HB.out|apply below_alloc|apply pw_below_drewN|apply below_drew1|refine below_set ?_ GE779.out)|exact HB.out)⟩⟩
         ·rw [if_neg c9] at H
          exact absurd H (by simp)
        ·rw [if_neg c8] at H
         have c8b0 : decide (x7_2 < ((rd_L2 l0_0 x6_1).length : Int)) = false:=decide_eq_false c8
         clear c8
         have H':=Aside0.mk H
         clear H
         have hcz13_0 : wr.cell? ⟨gb779,0,none⟩ = some (.slice A0_0 l0_0.length c0_0):=(blk_cell BK779.out 0).trans rfl
         have hfz13_0:=blk_frozen BK779.out 0
         have p780 : 0 ≤ (x6_1 : Int):=of_decide_eq_true (by first|(with_reducible assumption)|assumption)
         have q780 : x6_1 < (l0_0.length : Int):=of_decide_eq_true (by first|(with_reducible assumption)|assumption)
         obtain ⟨ad780,A780_0,c780_0,e780,hx780_0,hl780_0,hi780_0⟩:=at_L2 HR0_0.out x6_1 p780 q780
         cases e780
         replace hx780_0:=(HB.out.cell (World.block_lt_of_cell? w _ hx780_0)).trans hx780_0
         have HR780_0:=Aside0.mk hi780_0
         have HC780_0:=Aside0.mk hl780_0
         clear hi780_0 hl780_0
         replace p780:=eq_true p780
         replace q780:=eq_true q780
         go_wp2
         go_roundg k2
         case measure => have:=HK1.out; have:=HK2.out; omega
         case rel => exact ⟨(wrap64 (x6_1 + 1)),(by first|rfl|(simp; done)|(simp [*]; done)),H',⟨by have:=HK1.out; have:=HK2.out; omega⟩,⟨by (with_reducible repeat (first|refine blk_drewN ?_ _|refine blk_drew ?_|refine blk_alloc ?_ _)); exact BK779.out⟩,⟨by repeat (first|(with_reducible first|exact HB.out|apply below_alloc|apply pw_below_drewN|apply below_drew1|refine below_set ?_ GE779.out)|exact HB.out)⟩⟩
       ·rw [if_neg c7] at H
        exact absurd H (by simp)
      ·rw [if_neg c6] at H
       exact absurd H (by simp)
   ·rw [if_neg c4] at H
    have c4b0 : decide (x6_1 < (l0_0.length : Int)) = false:=decide_eq_false c4
    clear c4
    simp only [Option.some.injEq,Prod.mk.injEq] at H
    obtain ⟨rfl,rfl⟩:=H
    have hcz14_0 : wr.cell? ⟨gb779,0,none⟩ = some (.slice A0_0 l0_0.length c0_0):=(blk_cell BK779.out 0).trans rfl
    have hfz14_0:=blk_frozen BK779.out 0
    go_wp2
    go_ret2
    exact ⟨by first|rfl|(simp [errW_none,errW_some] <;> rfl)|(simp [*,errW_none,errW_some] <;> rfl),by repeat (first|(with_reducible first|exact HB.out|apply below_alloc|apply pw_below_drewN|apply below_drew1|refine below_set ?_ GE779.out)|exact HB.out)⟩

end Go.Proofs.Ytlldonokjgoajaa.X
