-- Written by a program of ours (wip/bin/xprint.py,over the kit's print.py) out of the translation. Not trusted: Lean checks it.
import Derived.Test.YtlldonokjgoajaaX0
import Derived.Test.YtlldonokjgoajaaFbWays
import Derived.Test.YtlldonokjgoajaaGl3Good
namespace Go.Proofs.Ytlldonokjgoajaa.X
open Go.RowKit Go.Proofs.YtlldonokjgoajaaW.PrintWords Go.Proofs.YtlldonokjgoajaaW.PrintLast Go.Proofs.YtlldonokjgoajaaW.PrintMore
attribute [local go_sem] max2_int min2_int max_two min_two max_three min_three max_four min_four   -- for this text's walks alone
set_option linter.unusedVariables false
set_option linter.unusedSimpArgs false

/-! ### spec_BestLoading: function 20 -/
mutual
def spec_BestLoading.j0 : Nat → Int → Int → Bool → List Int → List Int → Option (Int × Int × Bool)
 | 0,_,_,_,_,_ => none
 | k + 1,x1,x2,x26,x321000,x321001 => if x26 = true then (some (0,0,false)) else (spec_BestLoading.l0 k x1 x2 (-1) 0 0 x321000 x321001)
def spec_BestLoading.l0 : Nat → Int → Int → Int → Int → Int → List Int → List Int → Option (Int × Int × Bool)
 | 0,_,_,_,_,_,_,_ => none
 | k + 1,x1,x2,x9,x10,x11,x321000,x321001 => if x11 < (x321000.length : Int) then (if 0 ≤ x11 then (if (rd x321000 x11) = x1 then ((spec_l3Next.f k x321000 x321001 x11 x2).bind fun t324 => ((spec_l3Days.f k x321000 x321001 x11 t324).bind fun t325 => (if x9 < 0 then (spec_BestLoading.l0 k x1 x2 x11 t325 (wrap64 (x11 + 1)) x321000 x321001) else (if t325 < x10 then (spec_BestLoading.l0 k x1 x2 x11 t325 (wrap64 (x11 + 1)) x321000 x321001) else (spec_BestLoading.l0 k x1 x2 x9 x10 (wrap64 (x11 + 1)) x321000 x321001))))) else (spec_BestLoading.l0 k x1 x2 x9 x10 (wrap64 (x11 + 1)) x321000 x321001)) else (none)) else (if x9 < 0 then (some (0,0,false)) else (some (x9,x10,true)))
end
def spec_BestLoading.f (k : Nat) (l0_0 : List Int) (l0_1 : List Int) (a1 : Int) (a2 : Int) : Option (Int × Int × Bool):=(spec_l3Good.f k l0_0 l0_1).bind fun t321 => (if t321 = true then (if a1 = a2 then (spec_BestLoading.j0 k a1 a2 true l0_0 l0_1) else ((spec_l3Next.f k l0_0 l0_1 0 a2).bind fun t322 => (spec_BestLoading.j0 k a1 a2 (decide (t322 < 0)) l0_0 l0_1))) else (spec_BestLoading.j0 k a1 a2 true l0_0 l0_1))
theorem spec_BestLoading.mono_l : ∀ k,(∀ y0 y1 y2 y3 y4,LeO (spec_BestLoading.j0 k y0 y1 y2 y3 y4) (spec_BestLoading.j0 (k + 1) y0 y1 y2 y3 y4)) ∧ (∀ y0 y1 y2 y3 y4 y5 y6,LeO (spec_BestLoading.l0 k y0 y1 y2 y3 y4 y5 y6) (spec_BestLoading.l0 (k + 1) y0 y1 y2 y3 y4 y5 y6))
 | 0 => ⟨fun _ _ _ _ _ r h => by simp [spec_BestLoading.j0] at h,fun _ _ _ _ _ _ _ r h => by simp [spec_BestLoading.l0] at h⟩
 | k + 1 => by
  obtain ⟨ih0,ih1⟩:=spec_BestLoading.mono_l k
  refine ⟨?_,?_⟩
  ·intro y0 y1 y2 y3 y4
   unfold spec_BestLoading.j0
   repeat' first
   | (with_reducible exact ih0 _ _ _ _ _)
   | (with_reducible exact ih1 _ _ _ _ _ _ _)
   | (with_reducible exact spec_l3Days.mono _ _ _ _ _)
   | (with_reducible exact spec_l3Good.mono _ _ _)
   | (with_reducible exact spec_l3Next.mono _ _ _ _ _)
   | (with_reducible exact LeO.refl _)
   | (with_reducible exact LeO.none _)
   | (with_reducible refine LeO.ite ?_ ?_)
   | (with_reducible refine LeO.bind ?_ (fun _ => ?_))
   | exact ih0 _ _ _ _ _
   | exact ih1 _ _ _ _ _ _ _
   | exact spec_l3Days.mono _ _ _ _ _
   | exact spec_l3Good.mono _ _ _
   | exact spec_l3Next.mono _ _ _ _ _
   | exact LeO.none _
   | refine LeO.ite ?_ ?_
   | refine LeO.bind ?_ (fun _ => ?_)
  ·intro y0 y1 y2 y3 y4 y5 y6
   unfold spec_BestLoading.l0
   repeat' first
   | (with_reducible exact ih0 _ _ _ _ _)
   | (with_reducible exact ih1 _ _ _ _ _ _ _)
   | (with_reducible exact spec_l3Days.mono _ _ _ _ _)
   | (with_reducible exact spec_l3Good.mono _ _ _)
   | (with_reducible exact spec_l3Next.mono _ _ _ _ _)
   | (with_reducible exact LeO.refl _)
   | (with_reducible exact LeO.none _)
   | (with_reducible refine LeO.ite ?_ ?_)
   | (with_reducible refine LeO.bind ?_ (fun _ => ?_))
   | exact ih0 _ _ _ _ _
   | exact ih1 _ _ _ _ _ _ _
   | exact spec_l3Days.mono _ _ _ _ _
   | exact spec_l3Good.mono _ _ _
   | exact spec_l3Next.mono _ _ _ _ _
   | exact LeO.none _
   | refine LeO.ite ?_ ?_
   | refine LeO.bind ?_ (fun _ => ?_)
theorem spec_BestLoading.mono : ∀ a0 a1 a2 a3 k,LeO (spec_BestLoading.f k a0 a1 a2 a3) (spec_BestLoading.f (k + 1) a0 a1 a2 a3):=by
 intro a0 a1 a2 a3 k
 obtain ⟨ih0,ih1⟩:=spec_BestLoading.mono_l k
 unfold spec_BestLoading.f
 repeat' first
   | (with_reducible exact ih0 _ _ _ _ _)
   | (with_reducible exact ih1 _ _ _ _ _ _ _)
   | (with_reducible exact spec_l3Days.mono _ _ _ _ _)
   | (with_reducible exact spec_l3Good.mono _ _ _)
   | (with_reducible exact spec_l3Next.mono _ _ _ _ _)
   | (with_reducible exact LeO.refl _)
   | (with_reducible exact LeO.none _)
   | (with_reducible refine LeO.ite ?_ ?_)
   | (with_reducible refine LeO.bind ?_ (fun _ => ?_))
   | exact ih0 _ _ _ _ _
   | exact ih1 _ _ _ _ _ _ _
   | exact spec_l3Days.mono _ _ _ _ _
   | exact spec_l3Good.mono _ _ _
   | exact spec_l3Next.mono _ _ _ _ _
   | exact LeO.none _
   | refine LeO.ite ?_ ?_
   | refine LeO.bind ?_ (fun _ => ?_)
def spec_BestLoading.T8 : Bool × List (List Nat × List Nat):=(true,[([],[]),([],[]),([],[]),([],[]),([],[]),([2,3,4],[2,3,4]),([0,1,5,5],[0,1,5]),([6,6,0,1,2,3,4,5,6],[6])])
def spec_BestLoading.B8 : List Nat:=[0,0,0,0,0,28,63,127]
theorem spec_BestLoading.tab8 : rtab .any (opsOf Try.f20 8) = spec_BestLoading.T8:=by kernel_rfl
theorem spec_BestLoading.bits8 : waitsOk spec_BestLoading.T8.2 spec_BestLoading.B8 = true:=by kernel_rfl
set_option maxHeartbeats 8000000 in
set_option maxRecDepth 100000 in
theorem spec_BestLoading.calls (k : Nat) (A0_0 : Option Addr) (c0_0 : Nat) (l0_0 : List Int) (A0_1 : Option Addr) (c0_1 : Nat) (l0_1 : List Int) (a1 : Int) (a2 : Int) (r1 : Int) (r2 : Int) (r3 : Bool) (w : World) (hr0_0 : Kd.C (Kd.int .i64) w A0_0 l0_0.length l0_0) (hc0_0 : l0_0.length ≤ c0_0) (hr0_1 : Kd.C (Kd.int .i64) w A0_1 l0_1.length l0_1) (hc0_1 : l0_1.length ≤ c0_1) (h : spec_BestLoading.f k l0_0 l0_1 a1 a2 = some (r1,r2,r3)) :
  Calls Try.prog 20 #[.agg #[.slice A0_0 l0_0.length c0_0,.slice A0_1 l0_1.length c0_1],.int .i64 a1,.int .i64 a2] w fun e w' => e = .returned (.tuple #[.int .i64 r1,.int .i64 r2,.bool r3]) ∧ Below w.heap.size w w':=by
 have hu26:=Try.underlying26
 have HR0_0:=Aside0.mk hr0_0
 have HC0_0:=Aside0.mk hc0_0
 clear hr0_0 hc0_0
 have HR0_1:=Aside0.mk hr0_1
 have HC0_1:=Aside0.mk hc0_1
 clear hr0_1 hc0_1
 have HB:=Aside0.mk (Below.refl w.heap.size w)
 have H : ((spec_l3Good.f k l0_0 l0_1).bind fun t321 => (if t321 = true then (if a1 = a2 then (spec_BestLoading.j0 k a1 a2 true l0_0 l0_1) else ((spec_l3Next.f k l0_0 l0_1 0 a2).bind fun t322 => (spec_BestLoading.j0 k a1 a2 (decide (t322 < 0)) l0_0 l0_1))) else (spec_BestLoading.j0 k a1 a2 true l0_0 l0_1))) = some (r1,r2,r3):=h
 clear h
 have HC4:=Aside0.mk H
 clear H
 go_enter Try.func20,Try.ntmps20
 go_upto_region 1 with (first|((with_reducible refine gate_dst (N:=3) rfl ?_); refine box_event ?hg (N:=3) ?hd (cs:=#[.slice A0_0 l0_0.length c0_0,.slice A0_1 l0_1.length c0_1]) (t:=26) ?hr ?_; (case hd => rfl); (case hg => rfl); (case hr => first|(go_simp; done)|(go_simp; rfl)); intro gb320 hg w5 hbox hb; have n0_:=Aside0.mk (below_step (by repeat (first|(with_reducible first|exact HB.out|apply below_alloc|apply pw_below_drewN|apply below_drew1)|exact HB.out)) hb); have n1_:=Aside0.mk (hbox); have n2_:=Aside0.mk ((by rw [hg]; exact (below_size (by repeat (first|(with_reducible first|exact HB.out|apply below_alloc|apply pw_below_drewN|apply below_drew1)|exact HB.out))) : w.heap.size ≤ gb320)); have n3_:=Aside0.mk ((by rw [hg]; exact (below_size (by repeat (first|(with_reducible first|exact HB.out|apply below_alloc|apply pw_below_drewN|apply below_drew1)|exact HB.out))) : w.heap.size ≤ gb320)); clear HB; have HB:=n0_; have BK320:=n1_; have GW320:=n2_; have GE320:=n3_; clear n0_ n1_ n2_ n3_; clear hb hbox hg))
 (try simp only [Act.put,List.setIfInBounds_toArray,List.set_cons_zero,List.set_cons_succ])
 go_cut [26] (fun v26 wc => ∃ (kq : Nat) (x26_3 : Bool),v26 = .bool x26_3 ∧ Aside0 (spec_BestLoading.j0 kq a1 a2 x26_3 l0_0 l0_1 = some (r1,r2,r3)) ∧ Aside0 (kq ≤ k) ∧ Aside0 (wc.heap[gb320]? = some (.cells #[(.slice A0_0 l0_0.length c0_0),(.slice A0_1 l0_1.length c0_1)] 26 (0,0))) ∧ Aside0 (Below w.heap.size w wc))
 case first =>
  have H:=HC4.out
  clear HC4
  replace H:=Option.bind_eq_some_iff.mp H
  obtain ⟨t321,A60,H⟩:=H
  replace H : (if t321 = true then (if a1 = a2 then (spec_BestLoading.j0 k a1 a2 true l0_0 l0_1) else ((spec_l3Next.f k l0_0 l0_1 0 a2).bind fun t322 => (spec_BestLoading.j0 k a1 a2 (decide (t322 < 0)) l0_0 l0_1))) else (spec_BestLoading.j0 k a1 a2 true l0_0 l0_1)) = some (r1,r2,r3):=H
  have A6:=Aside0.mk A60
  clear A60
  by_cases c7 : t321 = true
  ·subst c7
   have H1 : (if a1 = a2 then (spec_BestLoading.j0 k a1 a2 true l0_0 l0_1) else ((spec_l3Next.f k l0_0 l0_1 0 a2).bind fun t322 => (spec_BestLoading.j0 k a1 a2 (decide (t322 < 0)) l0_0 l0_1))) = some (r1,r2,r3):=by rw [if_pos rfl] at H; exact H
   clear H
   have H:=H1
   clear H1
   by_cases c8 : a1 = a2
   ·rw [if_pos c8] at H
    have c8b0 : (a1 == a2) = true:=beq_iff_eq.mpr c8
    have c8b1 : (a1 != a2) = false:=bne_eq_false_iff_eq.mpr c8
    clear c8
    (first|rw [c8b0]|(simp only [i64_w,i32_w]; rw [c8b0])|skip)
    have H':=Aside0.mk H
    clear H
    have hcz9_0 : w5.cell? ⟨gb320,0,none⟩ = some (.slice A0_0 l0_0.length c0_0):=(blk_cell BK320.out 0).trans rfl
    have hcz9_1 : w5.cell? ⟨gb320,1,none⟩ = some (.slice A0_1 l0_1.length c0_1):=(blk_cell BK320.out 1).trans rfl
    have hfz9_0:=blk_frozen BK320.out 0
    have hfz9_1:=blk_frozen BK320.out 1
    go_wp2_with (first|((with_reducible refine gate_callee (f:=99) rfl ?_); refine goesL_ (some 14) rfl rfl Try.func99 (by kernel_rfl) rfl #[.agg #[.slice A0_0 l0_0.length c0_0,.slice A0_1 l0_1.length c0_1]] rfl (by (try simp only [List.map_toArray,List.map_cons,List.map_nil]); first|done|rfl|(simp only [List.length_drop,List.length_take]; rfl)) ?_; (with_reducible refine (spec_l3Good.calls k _ _ l0_0 _ _ l0_1 true _ ?side1 ?side2 ?side3 ?side4 A6.out).mono ?_); (case side1 => repeat (first|exact (Kd.C_below HR0_0.out HB.out)|(with_reducible refine Kd.C_alloc ?_ _)|(with_reducible refine Kd.C_drewN ?_ _)|(with_reducible refine Kd.C_drew ?_))); (case side2 => exact HC0_0.out); (case side3 => repeat (first|exact (Kd.C_below HR0_1.out HB.out)|(with_reducible refine Kd.C_alloc ?_ _)|(with_reducible refine Kd.C_drewN ?_ _)|(with_reducible refine Kd.C_drew ?_))); (case side4 => exact HC0_1.out); rintro e w10 ⟨rfl,hb⟩; refine ⟨_,rfl,?_⟩; have n0_:=Aside0.mk (blk_below (g:=gb320) (o:=.cells #[.slice A0_0 l0_0.length c0_0,.slice A0_1 l0_1.length c0_1] 26 (0,0)) (by (with_reducible repeat (first|refine blk_drewN ?_ _|refine blk_drew ?_|refine blk_alloc ?_ _)); exact BK320.out) hb); have n1_:=Aside0.mk (below_step (by repeat (first|(with_reducible first|exact HB.out|apply below_alloc|apply pw_below_drewN|apply below_drew1|refine below_set ?_ GE320.out)|exact HB.out)) hb); clear BK320; clear HB; have BK320:=n0_; have HB:=n1_; clear n0_ n1_; (try clear hb); (try clear hb2); (try clear hk); (try clear hi)))
    go_meet
    case rel => exact ⟨_,(true),(by first|rfl|(simp; done)|(simp [*]; done)),H',⟨by first|omega|exact Nat.le_refl _⟩,⟨by (with_reducible repeat (first|refine blk_drewN ?_ _|refine blk_drew ?_|refine blk_alloc ?_ _)); exact BK320.out⟩,⟨by repeat (first|(with_reducible first|exact HB.out|apply below_alloc|apply pw_below_drewN|apply below_drew1|refine below_set ?_ GE320.out)|exact HB.out)⟩⟩
   ·rw [if_neg c8] at H
    have c8b0 : (a1 == a2) = false:=beq_eq_false_iff_ne.mpr c8
    have c8b1 : (a1 != a2) = true:=bne_iff_ne.mpr c8
    (first|rw [c8b0]|(simp only [i64_w,i32_w]; rw [c8b0])|skip)
    replace H:=Option.bind_eq_some_iff.mp H
    obtain ⟨t322,A110,H⟩:=H
    replace H : (spec_BestLoading.j0 k a1 a2 (decide (t322 < 0)) l0_0 l0_1) = some (r1,r2,r3):=H
    have A11:=Aside0.mk A110
    clear A110
    have H':=Aside0.mk H
    clear H
    have hcz12_0 : w5.cell? ⟨gb320,0,none⟩ = some (.slice A0_0 l0_0.length c0_0):=(blk_cell BK320.out 0).trans rfl
    have hcz12_1 : w5.cell? ⟨gb320,1,none⟩ = some (.slice A0_1 l0_1.length c0_1):=(blk_cell BK320.out 1).trans rfl
    have hfz12_0:=blk_frozen BK320.out 0
    have hfz12_1:=blk_frozen BK320.out 1
    go_wp2_with (first|((with_reducible refine gate_callee (f:=99) rfl ?_); refine goesL_ (some 14) rfl rfl Try.func99 (by kernel_rfl) rfl #[.agg #[.slice A0_0 l0_0.length c0_0,.slice A0_1 l0_1.length c0_1]] rfl (by (try simp only [List.map_toArray,List.map_cons,List.map_nil]); first|done|rfl|(simp only [List.length_drop,List.length_take]; rfl)) ?_; (with_reducible refine (spec_l3Good.calls k _ _ l0_0 _ _ l0_1 true _ ?side1 ?side2 ?side3 ?side4 A6.out).mono ?_); (case side1 => repeat (first|exact (Kd.C_below HR0_0.out HB.out)|(with_reducible refine Kd.C_alloc ?_ _)|(with_reducible refine Kd.C_drewN ?_ _)|(with_reducible refine Kd.C_drew ?_))); (case side2 => exact HC0_0.out); (case side3 => repeat (first|exact (Kd.C_below HR0_1.out HB.out)|(with_reducible refine Kd.C_alloc ?_ _)|(with_reducible refine Kd.C_drewN ?_ _)|(with_reducible refine Kd.C_drew ?_))); (case side4 => exact HC0_1.out); rintro e w13 ⟨rfl,hb⟩; refine ⟨_,rfl,?_⟩; have n0_:=Aside0.mk (blk_below (g:=gb320) (o:=.cells #[.slice A0_0 l0_0.length c0_0,.slice A0_1 l0_1.length c0_1] 26 (0,0)) (by (with_reducible repeat (first|refine blk_drewN ?_ _|refine blk_drew ?_|refine blk_alloc ?_ _)); exact BK320.out) hb); have n1_:=Aside0.mk (below_step (by repeat (first|(with_reducible first|exact HB.out|apply below_alloc|apply pw_below_drewN|apply below_drew1|refine below_set ?_ GE320.out)|exact HB.out)) hb); clear BK320; clear HB; have BK320:=n0_; have HB:=n1_; clear n0_ n1_; (try clear hb); (try clear hb2); (try clear hk); (try clear hi); have hcz14_0 : w13.cell? ⟨gb320,0,none⟩ = some (.slice A0_0 l0_0.length c0_0):=(blk_cell BK320.out 0).trans rfl; have hcz14_1 : w13.cell? ⟨gb320,1,none⟩ = some (.slice A0_1 l0_1.length c0_1):=(blk_cell BK320.out 1).trans rfl; have hfz14_0:=blk_frozen BK320.out 0; have hfz14_1:=blk_frozen BK320.out 1)|(go_at_call 100; (with_reducible refine (spec_l3Next.calls k _ _ l0_0 _ _ l0_1 0 a2 t322 _ ?side1 ?side2 ?side3 ?side4 A11.out).mono ?_); (case side1 => repeat (first|exact (Kd.C_below HR0_0.out HB.out)|(with_reducible refine Kd.C_alloc ?_ _)|(with_reducible refine Kd.C_drewN ?_ _)|(with_reducible refine Kd.C_drew ?_))); (case side2 => exact HC0_0.out); (case side3 => repeat (first|exact (Kd.C_below HR0_1.out HB.out)|(with_reducible refine Kd.C_alloc ?_ _)|(with_reducible refine Kd.C_drewN ?_ _)|(with_reducible refine Kd.C_drew ?_))); (case side4 => exact HC0_1.out); rintro e w15 ⟨rfl,hb⟩; have n0_:=Aside0.mk (blk_below (g:=gb320) (o:=.cells #[.slice A0_0 l0_0.length c0_0,.slice A0_1 l0_1.length c0_1] 26 (0,0)) (by (with_reducible repeat (first|refine blk_drewN ?_ _|refine blk_drew ?_|refine blk_alloc ?_ _)); exact BK320.out) hb); have n1_:=Aside0.mk (below_step (by repeat (first|(with_reducible first|exact HB.out|apply below_alloc|apply pw_below_drewN|apply below_drew1|refine below_set ?_ GE320.out)|exact HB.out)) hb); clear BK320; clear HB; have BK320:=n0_; have HB:=n1_; clear n0_ n1_; (try clear hb); (try clear hb2); (try clear hk); (try clear hi)))
    go_meet
    case rel => exact ⟨_,(decide (t322 < 0)),(by first|rfl|(simp; done)|(simp [*]; done)),H',⟨by first|omega|exact Nat.le_refl _⟩,⟨by (with_reducible repeat (first|refine blk_drewN ?_ _|refine blk_drew ?_|refine blk_alloc ?_ _)); exact BK320.out⟩,⟨by repeat (first|(with_reducible first|exact HB.out|apply below_alloc|apply pw_below_drewN|apply below_drew1|refine below_set ?_ GE320.out)|exact HB.out)⟩⟩
  ·replace c7:=Bool.eq_false_iff.mpr c7
   subst c7
   have H1 : (spec_BestLoading.j0 k a1 a2 true l0_0 l0_1) = some (r1,r2,r3):=by rw [if_neg (show ¬ (false = true) by decide)] at H; exact H
   clear H
   have H:=H1
   clear H1
   have H':=Aside0.mk H
   clear H
   have hcz16_0 : w5.cell? ⟨gb320,0,none⟩ = some (.slice A0_0 l0_0.length c0_0):=(blk_cell BK320.out 0).trans rfl
   have hcz16_1 : w5.cell? ⟨gb320,1,none⟩ = some (.slice A0_1 l0_1.length c0_1):=(blk_cell BK320.out 1).trans rfl
   have hfz16_0:=blk_frozen BK320.out 0
   have hfz16_1:=blk_frozen BK320.out 1
   go_wp2_with (first|((with_reducible refine gate_callee (f:=99) rfl ?_); refine goesL_ (some 14) rfl rfl Try.func99 (by kernel_rfl) rfl #[.agg #[.slice A0_0 l0_0.length c0_0,.slice A0_1 l0_1.length c0_1]] rfl (by (try simp only [List.map_toArray,List.map_cons,List.map_nil]); first|done|rfl|(simp only [List.length_drop,List.length_take]; rfl)) ?_; (with_reducible refine (spec_l3Good.calls k _ _ l0_0 _ _ l0_1 false _ ?side1 ?side2 ?side3 ?side4 A6.out).mono ?_); (case side1 => repeat (first|exact (Kd.C_below HR0_0.out HB.out)|(with_reducible refine Kd.C_alloc ?_ _)|(with_reducible refine Kd.C_drewN ?_ _)|(with_reducible refine Kd.C_drew ?_))); (case side2 => exact HC0_0.out); (case side3 => repeat (first|exact (Kd.C_below HR0_1.out HB.out)|(with_reducible refine Kd.C_alloc ?_ _)|(with_reducible refine Kd.C_drewN ?_ _)|(with_reducible refine Kd.C_drew ?_))); (case side4 => exact HC0_1.out); rintro e w17 ⟨rfl,hb⟩; refine ⟨_,rfl,?_⟩; have n0_:=Aside0.mk (blk_below (g:=gb320) (o:=.cells #[.slice A0_0 l0_0.length c0_0,.slice A0_1 l0_1.length c0_1] 26 (0,0)) (by (with_reducible repeat (first|refine blk_drewN ?_ _|refine blk_drew ?_|refine blk_alloc ?_ _)); exact BK320.out) hb); have n1_:=Aside0.mk (below_step (by repeat (first|(with_reducible first|exact HB.out|apply below_alloc|apply pw_below_drewN|apply below_drew1|refine below_set ?_ GE320.out)|exact HB.out)) hb); clear BK320; clear HB; have BK320:=n0_; have HB:=n1_; clear n0_ n1_; (try clear hb); (try clear hb2); (try clear hk); (try clear hi)))
   go_meet
   case rel => exact ⟨_,(true),(by first|rfl|(simp; done)|(simp [*]; done)),H',⟨by first|omega|exact Nat.le_refl _⟩,⟨by (with_reducible repeat (first|refine blk_drewN ?_ _|refine blk_drew ?_|refine blk_alloc ?_ _)); exact BK320.out⟩,⟨by repeat (first|(with_reducible first|exact HB.out|apply below_alloc|apply pw_below_drewN|apply below_drew1|refine below_set ?_ GE320.out)|exact HB.out)⟩⟩
 case rest =>
  clear HC4
  try clear c2
  try clear p2
  try clear c7
  try clear c8
  try clear c8b0
  try clear c8b1
  try clear c9
  try clear hcz12_0
  try clear hcz12_1
  try clear hcz14_0
  try clear hcz14_1
  try clear hcz16_0
  try clear hcz16_1
  try clear hcz9_0
  try clear hcz9_1
  try clear hfz12_0
  try clear hfz12_1
  try clear hfz14_0
  try clear hfz14_1
  try clear hfz16_0
  try clear hfz16_1
  try clear hfz9_0
  try clear hfz9_1
  obtain ⟨kq,x26_3,rfl,HA,HJ3,BK320,HB⟩:=hcut
  cases kq with
  | zero => exact absurd HA.out (by simp [spec_BestLoading.j0])
  | succ kj3 =>
   have H:=HA.out
   clear HA
   simp only [spec_BestLoading.j0] at H
   by_cases c18 : x26_3 = true
   ·subst c18
    have H1 : (some (0,0,false)) = some (r1,r2,r3):=by rw [if_pos rfl] at H; exact H
    clear H
    have H:=H1
    clear H1
    simp only [Option.some.injEq,Prod.mk.injEq] at H
    obtain ⟨rfl,rfl,rfl⟩:=H
    go_wp2
    go_ret3
    exact ⟨by first|rfl|(simp [errW_none,errW_some] <;> rfl)|(simp [*,errW_none,errW_some] <;> rfl),by repeat (first|(with_reducible first|exact HB.out|apply below_alloc|apply pw_below_drewN|apply below_drew1|refine below_set ?_ GE320.out)|exact HB.out)⟩
   ·replace c18:=Bool.eq_false_iff.mpr c18
    subst c18
    have H1 : (spec_BestLoading.l0 kj3 a1 a2 (-1) 0 0 l0_0 l0_1) = some (r1,r2,r3):=by rw [if_neg (show ¬ (false = true) by decide)] at H; exact H
    clear H
    have H:=H1
    clear H1
    have H':=Aside0.mk H
    clear H
    go_wp2
    go_loopg [9,10,11] kj3 (fun kq v9 v10 v11 w' => ∃ (x9_2 : Int) (x10_2 : Int) (x11_2 : Int),v9 = .int .i64 x9_2 ∧ v10 = .int .i64 x10_2 ∧ v11 = .int .i64 x11_2 ∧ Aside0 (spec_BestLoading.l0 kq a1 a2 x9_2 x10_2 x11_2 l0_0 l0_1 = some (r1,r2,r3)) ∧ Aside0 (kq ≤ kj3) ∧ Aside0 (w'.heap[gb320]? = some (.cells #[(.slice A0_0 l0_0.length c0_0),(.slice A0_1 l0_1.length c0_1)] 26 (0,0))) ∧ Aside0 (Below w.heap.size w w'))
    case atStart => exact ⟨((-1)),(0),(0),(by first|rfl|(simp; done)|(simp [*]; done)),(by first|rfl|(simp; done)|(simp [*]; done)),(by first|rfl|(simp; done)|(simp [*]; done)),H',⟨Nat.le_refl _⟩,⟨by (with_reducible repeat (first|refine blk_drewN ?_ _|refine blk_drew ?_|refine blk_alloc ?_ _)); exact BK320.out⟩,⟨by repeat (first|(with_reducible first|exact HB.out|apply below_alloc|apply pw_below_drewN|apply below_drew1|refine below_set ?_ GE320.out)|exact HB.out)⟩⟩
    case round =>
     clear H'
     try clear c1
     try clear c2
     try clear p2
     try clear c7
     try clear c8
     try clear c8b0
     try clear c8b1
     try clear c9
     try clear c18
     try clear hcz12_0
     try clear hcz12_1
     try clear hcz14_0
     try clear hcz14_1
     try clear hcz16_0
     try clear hcz16_1
     try clear hcz9_0
     try clear hcz9_1
     try clear hfz12_0
     try clear hfz12_1
     try clear hfz14_0
     try clear hfz14_1
     try clear hfz16_0
     try clear hfz16_1
     try clear hfz9_0
     try clear hfz9_1
     try clear p2
     obtain ⟨x9_2,x10_2,x11_2,rfl,rfl,rfl,HA,HK2,BK320,HB⟩:=hrel
     cases gk with
     | zero => exact absurd HA.out (by simp [spec_BestLoading.l0])
     | succ k2 =>
      have H:=HA.out
      clear HA
      simp only [spec_BestLoading.l0] at H
      by_cases c19 : x11_2 < (l0_0.length : Int)
      ·rw [if_pos c19] at H
       have c19b0 : decide (x11_2 < (l0_0.length : Int)) = true:=decide_eq_true c19
       clear c19
       by_cases c20 : 0 ≤ x11_2
       ·rw [if_pos c20] at H
        have c20b0 : decide (0 ≤ x11_2) = true:=decide_eq_true c20
        clear c20
        by_cases c21 : (rd l0_0 x11_2) = a1
        ·rw [if_pos c21] at H
         have c21b0 : ((rd l0_0 x11_2) == a1) = true:=beq_iff_eq.mpr c21
         have c21b1 : ((rd l0_0 x11_2) != a1) = false:=bne_eq_false_iff_eq.mpr c21
         clear c21
         replace H:=Option.bind_eq_some_iff.mp H
         obtain ⟨t324,A220,H⟩:=H
         replace H : ((spec_l3Days.f k2 l0_0 l0_1 x11_2 t324).bind fun t325 => (if x9_2 < 0 then (spec_BestLoading.l0 k2 a1 a2 x11_2 t325 (wrap64 (x11_2 + 1)) l0_0 l0_1) else (if t325 < x10_2 then (spec_BestLoading.l0 k2 a1 a2 x11_2 t325 (wrap64 (x11_2 + 1)) l0_0 l0_1) else (spec_BestLoading.l0 k2 a1 a2 x9_2 x10_2 (wrap64 (x11_2 + 1)) l0_0 l0_1)))) = some (r1,r2,r3):=H
         have A22:=Aside0.mk A220
         clear A220
         replace H:=Option.bind_eq_some_iff.mp H
         obtain ⟨t325,A230,H⟩:=H
         replace H : (if x9_2 < 0 then (spec_BestLoading.l0 k2 a1 a2 x11_2 t325 (wrap64 (x11_2 + 1)) l0_0 l0_1) else (if t325 < x10_2 then (spec_BestLoading.l0 k2 a1 a2 x11_2 t325 (wrap64 (x11_2 + 1)) l0_0 l0_1) else (spec_BestLoading.l0 k2 a1 a2 x9_2 x10_2 (wrap64 (x11_2 + 1)) l0_0 l0_1))) = some (r1,r2,r3):=H
         have A23:=Aside0.mk A230
         clear A230
         by_cases c24 : x9_2 < 0
         ·rw [if_pos c24] at H
          have c24b0 : decide (x9_2 < 0) = true:=decide_eq_true c24
          clear c24
          have H':=Aside0.mk H
          clear H
          have hcz25_0 : wr.cell? ⟨gb320,0,none⟩ = some (.slice A0_0 l0_0.length c0_0):=(blk_cell BK320.out 0).trans rfl
          have hcz25_1 : wr.cell? ⟨gb320,1,none⟩ = some (.slice A0_1 l0_1.length c0_1):=(blk_cell BK320.out 1).trans rfl
          have hfz25_0:=blk_frozen BK320.out 0
          have hfz25_1:=blk_frozen BK320.out 1
          have p323 : 0 ≤ (x11_2 : Int):=of_decide_eq_true (by first|(with_reducible assumption)|assumption)
          have q323 : x11_2 < (l0_0.length : Int):=of_decide_eq_true (by first|(with_reducible assumption)|assumption)
          obtain ⟨ad323,e323,hx323_0⟩:=Kd.at_int HR0_0.out x11_2 p323 q323
          cases e323
          replace hx323_0:=(HB.out.cell (World.block_lt_of_cell? w _ hx323_0)).trans hx323_0
          replace p323:=eq_true p323
          replace q323:=eq_true q323
          try go_wp2
          have n0_:=Aside0.mk (blk_drew BK320.out)
          have n1_:=Aside0.mk (below_drew1 HB.out)
          clear BK320
          clear HB
          have BK320:=n0_
          have HB:=n1_
          clear n0_ n1_
          refine start_ (n:=8) (S:=fun w' => w'.cell? ⟨gb320,0,none⟩ = some (.slice (some ad323) l0_0.length c0_0) ∧ w'.cell? ⟨gb320,1,none⟩ = some (.slice A0_1 l0_1.length c0_1)) (ds:=[]) #[false,false,false,false,false,false,false,false] (by kernel_rfl) rfl rfl ⟨(blk_cell BK320.out 0).trans rfl,(blk_cell BK320.out 1).trans rfl⟩ (fun hHeld => ?_); refine with_tabW spec_BestLoading.tab8 spec_BestLoading.bits8 (fun HT_ HW_ => ?_)
          generalize wr.drew = w26 at BK320 HB hHeld ⊢
          refine pure_ (i:=1) (N:=some 42) (v:=?_) (a':=?_) #[false,true,false,false,false,false,false,false] rfl rfl (any_of HT_.out (by kernel_rfl)) (fun _ _ _ h => h) (Or.inl ⟨by rfl,?_⟩) ?_ ?_
          rotate_left
          ·intro w'
           go_simp
           with_reducible rfl
          rotate_left
          ·simp only [Act.put,List.setIfInBounds_toArray,List.set_cons_zero,List.set_cons_succ,i64_w,i32_w]
           rfl
          refine pure_ (i:=3) (N:=some 44) (v:=?_) (a':=?_) #[false,true,false,true,false,false,false,false] rfl rfl (any_of HT_.out (by kernel_rfl)) (fun _ _ _ h => h) (Or.inl ⟨by rfl,?_⟩) ?_ ?_
          rotate_left
          ·intro w'
           go_simp
           with_reducible rfl
          rotate_left
          ·simp only [Act.put,List.setIfInBounds_toArray,List.set_cons_zero,List.set_cons_succ,i64_w,i32_w]
           rfl
          refine pure_ (i:=4) (N:=some 45) (v:=?_) (a':=?_) #[false,true,false,true,true,false,false,false] rfl rfl (any_of HT_.out (by kernel_rfl)) (fun _ _ _ h => h) (Or.inl ⟨by rfl,?_⟩) ?_ ?_
          rotate_left
          ·intro w'
           go_simp
           with_reducible rfl
          rotate_left
          ·simp only [Act.put,List.setIfInBounds_toArray,List.set_cons_zero,List.set_cons_succ,i64_w,i32_w]
           rfl
          refine take_ (i:=0) (N:=some 41) (v:=?_) (a':=?_) #[true,true,false,true,true,false,false,false] rfl rfl (take_ofW HT_.out HW_.out (by kernel_rfl)) (fun _ _ _ h => h) (Or.inl ⟨by rfl,?_⟩) hHeld ?_ ?_
          rotate_left
          ·rintro w' ⟨s0,s1⟩
           go_simp
           with_reducible rfl
          rotate_left
          ·simp only [Act.put,List.setIfInBounds_toArray,List.set_cons_zero,List.set_cons_succ,i64_w,i32_w]
           rfl
          refine take_ (i:=2) (N:=some 43) (v:=?_) (a':=?_) #[true,true,true,true,true,false,false,false] rfl rfl (take_ofW HT_.out HW_.out (by kernel_rfl)) (fun _ _ _ h => h) (Or.inl ⟨by rfl,?_⟩) hHeld ?_ ?_
          rotate_left
          ·rintro w' ⟨s0,s1⟩
           go_simp
           with_reducible rfl
          rotate_left
          ·simp only [Act.put,List.setIfInBounds_toArray,List.set_cons_zero,List.set_cons_succ,i64_w,i32_w]
           rfl
          refine one_ (i:=5) (N:=some 46) #[true,true,true,true,true,true,false,false] rfl rfl (one_of HT_.out (by kernel_rfl)) (by decide) (fun K hK => ?_)
          refine goes_ Try.func100 (by kernel_rfl) rfl #[.agg #[.slice (some ad323) l0_0.length c0_0,.slice A0_1 l0_1.length c0_1],.int .i64 x11_2,.int .i64 a2] (by rfl) rfl rfl (by (try simp only [List.map_toArray,List.map_cons,List.map_nil]); first|done|rfl|(simp only [List.length_drop,List.length_take]; rfl)) ?_
          with_reducible refine (spec_l3Next.calls k2 _ _ l0_0 _ _ l0_1 x11_2 a2 t324 _ ?side1 ?side2 ?side3 ?side4 A22.out).mono ?_
          (case side1 => repeat (first|exact (Kd.C_below HR0_0.out HB.out)|(with_reducible refine Kd.C_alloc ?_ _)|(with_reducible refine Kd.C_drewN ?_ _)|(with_reducible refine Kd.C_drew ?_)))
          (case side2 => exact HC0_0.out)
          (case side3 => repeat (first|exact (Kd.C_below HR0_1.out HB.out)|(with_reducible refine Kd.C_alloc ?_ _)|(with_reducible refine Kd.C_drewN ?_ _)|(with_reducible refine Kd.C_drew ?_)))
          (case side4 => exact HC0_1.out)
          rintro e w27 ⟨rfl,hb⟩
          refine ⟨_,rfl,?_⟩
          have n0_:=Aside0.mk (blk_below (g:=gb320) (o:=.cells #[.slice (some ad323) l0_0.length c0_0,.slice A0_1 l0_1.length c0_1] 26 (0,0)) (by (with_reducible repeat (first|refine blk_drewN ?_ _|refine blk_drew ?_|refine blk_alloc ?_ _)); exact BK320.out) hb)
          have n1_:=Aside0.mk (below_step (by repeat (first|(with_reducible first|exact HB.out|apply below_alloc|apply pw_below_drewN|apply below_drew1|refine below_set ?_ GE320.out)|exact HB.out)) hb)
          clear BK320
          clear HB
          have BK320:=n0_
          have HB:=n1_
          clear n0_ n1_
          (try clear hb)
          (try clear hb2)
          (try clear hk)
          (try clear hi)
          refine hK.out _ _ ⟨(blk_cell BK320.out 0).trans rfl,(blk_cell BK320.out 1).trans rfl⟩ (fun hHeld => ?_)
          clear hK K
          refine norm_ (a':=?_) ?_ ?_
          rotate_left
          ·show Act.put _ (some 46) _ = _
           simp only [Act.put,List.setIfInBounds_toArray,List.set_cons_zero,List.set_cons_succ,i64_w,i32_w]
           rfl
          refine one_ (i:=6) (N:=some 47) #[true,true,true,true,true,true,true,false] rfl rfl (one_of HT_.out (by kernel_rfl)) (by decide) (fun K hK => ?_)
          refine goes_ Try.func95 (by kernel_rfl) rfl #[.agg #[.slice (some ad323) l0_0.length c0_0,.slice A0_1 l0_1.length c0_1],.int .i64 x11_2,.int .i64 t324] (by rfl) rfl rfl (by (try simp only [List.map_toArray,List.map_cons,List.map_nil]); first|done|rfl|(simp only [List.length_drop,List.length_take]; rfl)) ?_
          with_reducible refine (spec_l3Days.calls k2 _ _ l0_0 _ _ l0_1 x11_2 t324 t325 _ ?side1 ?side2 ?side3 ?side4 A23.out).mono ?_
          (case side1 => repeat (first|exact (Kd.C_below HR0_0.out HB.out)|(with_reducible refine Kd.C_alloc ?_ _)|(with_reducible refine Kd.C_drewN ?_ _)|(with_reducible refine Kd.C_drew ?_)))
          (case side2 => exact HC0_0.out)
          (case side3 => repeat (first|exact (Kd.C_below HR0_1.out HB.out)|(with_reducible refine Kd.C_alloc ?_ _)|(with_reducible refine Kd.C_drewN ?_ _)|(with_reducible refine Kd.C_drew ?_)))
          (case side4 => exact HC0_1.out)
          rintro e w28 ⟨rfl,hb⟩
          refine ⟨_,rfl,?_⟩
          have n0_:=Aside0.mk (blk_below (g:=gb320) (o:=.cells #[.slice (some ad323) l0_0.length c0_0,.slice A0_1 l0_1.length c0_1] 26 (0,0)) (by (with_reducible repeat (first|refine blk_drewN ?_ _|refine blk_drew ?_|refine blk_alloc ?_ _)); exact BK320.out) hb)
          have n1_:=Aside0.mk (below_step (by repeat (first|(with_reducible first|exact HB.out|apply below_alloc|apply pw_below_drewN|apply below_drew1|refine below_set ?_ GE320.out)|exact HB.out)) hb)
          clear BK320
          clear HB
          have BK320:=n0_
          have HB:=n1_
          clear n0_ n1_
          (try clear hb)
          (try clear hb2)
          (try clear hk)
          (try clear hi)
          refine hK.out _ _ ⟨(blk_cell BK320.out 0).trans rfl,(blk_cell BK320.out 1).trans rfl⟩ (fun hHeld => ?_)
          clear hK K
          refine norm_ (a':=?_) ?_ ?_
          rotate_left
          ·show Act.put _ (some 47) _ = _
           simp only [Act.put,List.setIfInBounds_toArray,List.set_cons_zero,List.set_cons_succ,i64_w,i32_w]
           rfl
          refine pure_ (i:=7) (N:=some 12) (v:=?_) (a':=?_) #[true,true,true,true,true,true,true,true] rfl rfl (any_of HT_.out (by kernel_rfl)) (fun _ _ _ h => h) (Or.inl ⟨by rfl,?_⟩) ?_ ?_
          rotate_left
          ·intro w'
           go_simp
           with_reducible rfl
          rotate_left
          ·simp only [Act.put,List.setIfInBounds_toArray,List.set_cons_zero,List.set_cons_succ,i64_w,i32_w]
           rfl
          refine done_ (done_of HT_.out (by kernel_rfl)) ?_
          try go_wp2
          go_roundg k2
          case measure => have:=HJ3.out; have:=HK2.out; omega
          case rel => exact ⟨(x11_2),(t325),(wrap64 (x11_2 + 1)),(by first|rfl|(simp; done)|(simp [*]; done)),(by first|rfl|(simp; done)|(simp [*]; done)),(by first|rfl|(simp; done)|(simp [*]; done)),H',⟨by have:=HJ3.out; have:=HK2.out; omega⟩,⟨by (with_reducible repeat (first|refine blk_drewN ?_ _|refine blk_drew ?_|refine blk_alloc ?_ _)); exact BK320.out⟩,⟨by repeat (first|(with_reducible first|exact HB.out|apply below_alloc|apply pw_below_drewN|apply below_drew1|refine below_set ?_ GE320.out)|exact HB.out)⟩⟩
         ·rw [if_neg c24] at H
          have c24b0 : decide (x9_2 < 0) = false:=decide_eq_false c24
          clear c24
          by_cases c29 : t325 < x10_2
          ·rw [if_pos c29] at H
           have c29b0 : decide (t325 < x10_2) = true:=decide_eq_true c29
           clear c29
           have H':=Aside0.mk H
           clear H
           have hcz30_0 : wr.cell? ⟨gb320,0,none⟩ = some (.slice A0_0 l0_0.length c0_0):=(blk_cell BK320.out 0).trans rfl
           have hcz30_1 : wr.cell? ⟨gb320,1,none⟩ = some (.slice A0_1 l0_1.length c0_1):=(blk_cell BK320.out 1).trans rfl
           have hfz30_0:=blk_frozen BK320.out 0
           have hfz30_1:=blk_frozen BK320.out 1
           have p323 : 0 ≤ (x11_2 : Int):=of_decide_eq_true (by first|(with_reducible assumption)|assumption)
           have q323 : x11_2 < (l0_0.length : Int):=of_decide_eq_true (by first|(with_reducible assumption)|assumption)
           obtain ⟨ad323,e323,hx323_0⟩:=Kd.at_int HR0_0.out x11_2 p323 q323
           cases e323
           replace hx323_0:=(HB.out.cell (World.block_lt_of_cell? w _ hx323_0)).trans hx323_0
           replace p323:=eq_true p323
           replace q323:=eq_true q323
           try go_wp2
           have n0_:=Aside0.mk (blk_drew BK320.out)
           have n1_:=Aside0.mk (below_drew1 HB.out)
           clear BK320
           clear HB
           have BK320:=n0_
           have HB:=n1_
           clear n0_ n1_
           refine start_ (n:=8) (S:=fun w' => w'.cell? ⟨gb320,0,none⟩ = some (.slice (some ad323) l0_0.length c0_0) ∧ w'.cell? ⟨gb320,1,none⟩ = some (.slice A0_1 l0_1.length c0_1)) (ds:=[]) #[false,false,false,false,false,false,false,false] (by kernel_rfl) rfl rfl ⟨(blk_cell BK320.out 0).trans rfl,(blk_cell BK320.out 1).trans rfl⟩ (fun hHeld => ?_); refine with_tabW spec_BestLoading.tab8 spec_BestLoading.bits8 (fun HT_ HW_ => ?_)
           generalize wr.drew = w31 at BK320 HB hHeld ⊢
           refine pure_ (i:=1) (N:=some 42) (v:=?_) (a':=?_) #[false,true,false,false,false,false,false,false] rfl rfl (any_of HT_.out (by kernel_rfl)) (fun _ _ _ h => h) (Or.inl ⟨by rfl,?_⟩) ?_ ?_
           rotate_left
           ·intro w'
            go_simp
            with_reducible rfl
           rotate_left
           ·simp only [Act.put,List.setIfInBounds_toArray,List.set_cons_zero,List.set_cons_succ,i64_w,i32_w]
            rfl
           refine pure_ (i:=3) (N:=some 44) (v:=?_) (a':=?_) #[false,true,false,true,false,false,false,false] rfl rfl (any_of HT_.out (by kernel_rfl)) (fun _ _ _ h => h) (Or.inl ⟨by rfl,?_⟩) ?_ ?_
           rotate_left
           ·intro w'
            go_simp
            with_reducible rfl
           rotate_left
           ·simp only [Act.put,List.setIfInBounds_toArray,List.set_cons_zero,List.set_cons_succ,i64_w,i32_w]
            rfl
           refine pure_ (i:=4) (N:=some 45) (v:=?_) (a':=?_) #[false,true,false,true,true,false,false,false] rfl rfl (any_of HT_.out (by kernel_rfl)) (fun _ _ _ h => h) (Or.inl ⟨by rfl,?_⟩) ?_ ?_
           rotate_left
           ·intro w'
            go_simp
            with_reducible rfl
           rotate_left
           ·simp only [Act.put,List.setIfInBounds_toArray,List.set_cons_zero,List.set_cons_succ,i64_w,i32_w]
            rfl
           refine take_ (i:=0) (N:=some 41) (v:=?_) (a':=?_) #[true,true,false,true,true,false,false,false] rfl rfl (take_ofW HT_.out HW_.out (by kernel_rfl)) (fun _ _ _ h => h) (Or.inl ⟨by rfl,?_⟩) hHeld ?_ ?_
           rotate_left
           ·rintro w' ⟨s0,s1⟩
            go_simp
            with_reducible rfl
           rotate_left
           ·simp only [Act.put,List.setIfInBounds_toArray,List.set_cons_zero,List.set_cons_succ,i64_w,i32_w]
            rfl
           refine take_ (i:=2) (N:=some 43) (v:=?_) (a':=?_) #[true,true,true,true,true,false,false,false] rfl rfl (take_ofW HT_.out HW_.out (by kernel_rfl)) (fun _ _ _ h => h) (Or.inl ⟨by rfl,?_⟩) hHeld ?_ ?_
           rotate_left
           ·rintro w' ⟨s0,s1⟩
            go_simp
            with_reducible rfl
           rotate_left
           ·simp only [Act.put,List.setIfInBounds_toArray,List.set_cons_zero,List.set_cons_succ,i64_w,i32_w]
            rfl
           refine one_ (i:=5) (N:=some 46) #[true,true,true,true,true,true,false,false] rfl rfl (one_of HT_.out (by kernel_rfl)) (by decide) (fun K hK => ?_)
           refine goes_ Try.func100 (by kernel_rfl) rfl #[.agg #[.slice (some ad323) l0_0.length c0_0,.slice A0_1 l0_1.length c0_1],.int .i64 x11_2,.int .i64 a2] (by rfl) rfl rfl (by (try simp only [List.map_toArray,List.map_cons,List.map_nil]); first|done|rfl|(simp only [List.length_drop,List.length_take]; rfl)) ?_
           with_reducible refine (spec_l3Next.calls k2 _ _ l0_0 _ _ l0_1 x11_2 a2 t324 _ ?side1 ?side2 ?side3 ?side4 A22.out).mono ?_
           (case side1 => repeat (first|exact (Kd.C_below HR0_0.out HB.out)|(with_reducible refine Kd.C_alloc ?_ _)|(with_reducible refine Kd.C_drewN ?_ _)|(with_reducible refine Kd.C_drew ?_)))
           (case side2 => exact HC0_0.out)
           (case side3 => repeat (first|exact (Kd.C_below HR0_1.out HB.out)|(with_reducible refine Kd.C_alloc ?_ _)|(with_reducible refine Kd.C_drewN ?_ _)|(with_reducible refine Kd.C_drew ?_)))
           (case side4 => exact HC0_1.out)
           rintro e w32 ⟨rfl,hb⟩
           refine ⟨_,rfl,?_⟩
           have n0_:=Aside0.mk (blk_below (g:=gb320) (o:=.cells #[.slice (some ad323) l0_0.length c0_0,.slice A0_1 l0_1.length c0_1] 26 (0,0)) (by (with_reducible repeat (first|refine blk_drewN ?_ _|refine blk_drew ?_|refine blk_alloc ?_ _)); exact BK320.out) hb)
           have n1_:=Aside0.mk (below_step (by repeat (first|(with_reducible first|exact HB.out|apply below_alloc|apply pw_below_drewN|apply below_drew1|refine below_set ?_ GE320.out)|exact HB.out)) hb)
           clear BK320
           clear HB
           have BK320:=n0_
           have HB:=n1_
           clear n0_ n1_
           (try clear hb)
           (try clear hb2)
           (try clear hk)
           (try clear hi)
           refine hK.out _ _ ⟨(blk_cell BK320.out 0).trans rfl,(blk_cell BK320.out 1).trans rfl⟩ (fun hHeld => ?_)
           clear hK K
           refine norm_ (a':=?_) ?_ ?_
           rotate_left
           ·show Act.put _ (some 46) _ = _
            simp only [Act.put,List.setIfInBounds_toArray,List.set_cons_zero,List.set_cons_succ,i64_w,i32_w]
            rfl
           refine one_ (i:=6) (N:=some 47) #[true,true,true,true,true,true,true,false] rfl rfl (one_of HT_.out (by kernel_rfl)) (by decide) (fun K hK => ?_)
           refine goes_ Try.func95 (by kernel_rfl) rfl #[.agg #[.slice (some ad323) l0_0.length c0_0,.slice A0_1 l0_1.length c0_1],.int .i64 x11_2,.int .i64 t324] (by rfl) rfl rfl (by (try simp only [List.map_toArray,List.map_cons,List.map_nil]); first|done|rfl|(simp only [List.length_drop,List.length_take]; rfl)) ?_
           with_reducible refine (spec_l3Days.calls k2 _ _ l0_0 _ _ l0_1 x11_2 t324 t325 _ ?side1 ?side2 ?side3 ?side4 A23.out).mono ?_
           (case side1 => repeat (first|exact (Kd.C_below HR0_0.out HB.out)|(with_reducible refine Kd.C_alloc ?_ _)|(with_reducible refine Kd.C_drewN ?_ _)|(with_reducible refine Kd.C_drew ?_)))
           (case side2 => exact HC0_0.out)
           (case side3 => repeat (first|exact (Kd.C_below HR0_1.out HB.out)|(with_reducible refine Kd.C_alloc ?_ _)|(with_reducible refine Kd.C_drewN ?_ _)|(with_reducible refine Kd.C_drew ?_)))
           (case side4 => exact HC0_1.out)
           rintro e w33 ⟨rfl,hb⟩
           refine ⟨_,rfl,?_⟩
           have n0_:=Aside0.mk (blk_below (g:=gb320) (o:=.cells #[.slice (some ad323) l0_0.length c0_0,.slice A0_1 l0_1.length c0_1] 26 (0,0)) (by (with_reducible repeat (first|refine blk_drewN ?_ _|refine blk_drew ?_|refine blk_alloc ?_ _)); exact BK320.out) hb)
           have n1_:=Aside0.mk (below_step (by repeat (first|(with_reducible first|exact HB.out|apply below_alloc|apply pw_below_drewN|apply below_drew1|refine below_set ?_ GE320.out)|exact HB.out)) hb)
           clear BK320
           clear HB
           have BK320:=n0_
           have HB:=n1_
           clear n0_ n1_
           (try clear hb)
           (try clear hb2)
           (try clear hk)
           (try clear hi)
           refine hK.out _ _ ⟨(blk_cell BK320.out 0).trans rfl,(blk_cell BK320.out 1).trans rfl⟩ (fun hHeld => ?_)
           clear hK K
           refine norm_ (a':=?_) ?_ ?_
           rotate_left
           ·show Act.put _ (some 47) _ = _
            simp only [Act.put,List.setIfInBounds_toArray,List.set_cons_zero,List.set_cons_succ,i64_w,i32_w]
            rfl
           refine pure_ (i:=7) (N:=some 12) (v:=?_) (a':=?_) #[true,true,true,true,true,true,true,true] rfl rfl (any_of HT_.out (by kernel_rfl)) (fun _ _ _ h => h) (Or.inl ⟨by rfl,?_⟩) ?_ ?_
           rotate_left
           ·intro w'
            go_simp
            with_reducible rfl
           rotate_left
           ·simp only [Act.put,List.setIfInBounds_toArray,List.set_cons_zero,List.set_cons_succ,i64_w,i32_w]
            rfl
           refine done_ (done_of HT_.out (by kernel_rfl)) ?_
           try go_wp2
           go_roundg k2
           case measure => have:=HJ3.out; have:=HK2.out; omega
           case rel => exact ⟨(x11_2),(t325),(wrap64 (x11_2 + 1)),(by first|rfl|(simp; done)|(simp [*]; done)),(by first|rfl|(simp; done)|(simp [*]; done)),(by first|rfl|(simp; done)|(simp [*]; done)),H',⟨by have:=HJ3.out; have:=HK2.out; omega⟩,⟨by (with_reducible repeat (first|refine blk_drewN ?_ _|refine blk_drew ?_|refine blk_alloc ?_ _)); exact BK320.out⟩,⟨by repeat (first|(with_reducible first|exact HB.out|apply below_alloc|apply pw_below_drewN|apply below_drew1|refine below_set ?_ GE320.out)|exact HB.out)⟩⟩
          ·rw [if_neg c29] at H
           have c29b0 : decide (t325 < x10_2) = false:=decide_eq_false c29
           clear c29
           have H':=Aside0.mk H
           clear H
           have hcz34_0 : wr.cell? ⟨gb320,0,none⟩ = some (.slice A0_0 l0_0.length c0_0):=(blk_cell BK320.out 0).trans rfl
           have hcz34_1 : wr.cell? ⟨gb320,1,none⟩ = some (.slice A0_1 l0_1.length c0_1):=(blk_cell BK320.out 1).trans rfl
           have hfz34_0:=blk_frozen BK320.out 0
           have hfz34_1:=blk_frozen BK320.out 1
           have p323 : 0 ≤ (x11_2 : Int):=of_decide_eq_true (by first|(with_reducible assumption)|assumption)
           have q323 : x11_2 < (l0_0.length : Int):=of_decide_eq_true (by first|(with_reducible assumption)|assumption)
           obtain ⟨ad323,e323,hx323_0⟩:=Kd.at_int HR0_0.out x11_2 p323 q323
           cases e323
           replace hx323_0:=(HB.out.cell (World.block_lt_of_cell? w _ hx323_0)).trans hx323_0
           replace p323:=eq_true p323
           replace q323:=eq_true q323
           try go_wp2
           have n0_:=Aside0.mk (blk_drew BK320.out)
           have n1_:=Aside0.mk (below_drew1 HB.out)
           clear BK320
           clear HB
           have BK320:=n0_
           have HB:=n1_
           clear n0_ n1_
           refine start_ (n:=8) (S:=fun w' => w'.cell? ⟨gb320,0,none⟩ = some (.slice (some ad323) l0_0.length c0_0) ∧ w'.cell? ⟨gb320,1,none⟩ = some (.slice A0_1 l0_1.length c0_1)) (ds:=[]) #[false,false,false,false,false,false,false,false] (by kernel_rfl) rfl rfl ⟨(blk_cell BK320.out 0).trans rfl,(blk_cell BK320.out 1).trans rfl⟩ (fun hHeld => ?_); refine with_tabW spec_BestLoading.tab8 spec_BestLoading.bits8 (fun HT_ HW_ => ?_)
           generalize wr.drew = w35 at BK320 HB hHeld ⊢
           refine pure_ (i:=1) (N:=some 42) (v:=?_) (a':=?_) #[false,true,false,false,false,false,false,false] rfl rfl (any_of HT_.out (by kernel_rfl)) (fun _ _ _ h => h) (Or.inl ⟨by rfl,?_⟩) ?_ ?_
           rotate_left
           ·intro w'
            go_simp
            with_reducible rfl
           rotate_left
           ·simp only [Act.put,List.setIfInBounds_toArray,List.set_cons_zero,List.set_cons_succ,i64_w,i32_w]
            rfl
           refine pure_ (i:=3) (N:=some 44) (v:=?_) (a':=?_) #[false,true,false,true,false,false,false,false] rfl rfl (any_of HT_.out (by kernel_rfl)) (fun _ _ _ h => h) (Or.inl ⟨by rfl,?_⟩) ?_ ?_
           rotate_left
           ·intro w'
            go_simp
            with_reducible rfl
           rotate_left
           ·simp only [Act.put,List.setIfInBounds_toArray,List.set_cons_zero,List.set_cons_succ,i64_w,i32_w]
            rfl
           refine pure_ (i:=4) (N:=some 45) (v:=?_) (a':=?_) #[false,true,false,true,true,false,false,false] rfl rfl (any_of HT_.out (by kernel_rfl)) (fun _ _ _ h => h) (Or.inl ⟨by rfl,?_⟩) ?_ ?_
           rotate_left
           ·intro w'
            go_simp
            with_reducible rfl
           rotate_left
           ·simp only [Act.put,List.setIfInBounds_toArray,List.set_cons_zero,List.set_cons_succ,i64_w,i32_w]
            rfl
           refine take_ (i:=0) (N:=some 41) (v:=?_) (a':=?_) #[true,true,false,true,true,false,false,false] rfl rfl (take_ofW HT_.out HW_.out (by kernel_rfl)) (fun _ _ _ h => h) (Or.inl ⟨by rfl,?_⟩) hHeld ?_ ?_
           rotate_left
           ·rintro w' ⟨s0,s1⟩
            go_simp
            with_reducible rfl
           rotate_left
           ·simp only [Act.put,List.setIfInBounds_toArray,List.set_cons_zero,List.set_cons_succ,i64_w,i32_w]
            rfl
           refine take_ (i:=2) (N:=some 43) (v:=?_) (a':=?_) #[true,true,true,true,true,false,false,false] rfl rfl (take_ofW HT_.out HW_.out (by kernel_rfl)) (fun _ _ _ h => h) (Or.inl ⟨by rfl,?_⟩) hHeld ?_ ?_
           rotate_left
           ·rintro w' ⟨s0,s1⟩
            go_simp
            with_reducible rfl
           rotate_left
           ·simp only [Act.put,List.setIfInBounds_toArray,List.set_cons_zero,List.set_cons_succ,i64_w,i32_w]
            rfl
           refine one_ (i:=5) (N:=some 46) #[true,true,true,true,true,true,false,false] rfl rfl (one_of HT_.out (by kernel_rfl)) (by decide) (fun K hK => ?_)
           refine goes_ Try.func100 (by kernel_rfl) rfl #[.agg #[.slice (some ad323) l0_0.length c0_0,.slice A0_1 l0_1.length c0_1],.int .i64 x11_2,.int .i64 a2] (by rfl) rfl rfl (by (try simp only [List.map_toArray,List.map_cons,List.map_nil]); first|done|rfl|(simp only [List.length_drop,List.length_take]; rfl)) ?_
           with_reducible refine (spec_l3Next.calls k2 _ _ l0_0 _ _ l0_1 x11_2 a2 t324 _ ?side1 ?side2 ?side3 ?side4 A22.out).mono ?_
           (case side1 => repeat (first|exact (Kd.C_below HR0_0.out HB.out)|(with_reducible refine Kd.C_alloc ?_ _)|(with_reducible refine Kd.C_drewN ?_ _)|(with_reducible refine Kd.C_drew ?_)))
           (case side2 => exact HC0_0.out)
           (case side3 => repeat (first|exact (Kd.C_below HR0_1.out HB.out)|(with_reducible refine Kd.C_alloc ?_ _)|(with_reducible refine Kd.C_drewN ?_ _)|(with_reducible refine Kd.C_drew ?_)))
           (case side4 => exact HC0_1.out)
           rintro e w36 ⟨rfl,hb⟩
           refine ⟨_,rfl,?_⟩
           have n0_:=Aside0.mk (blk_below (g:=gb320) (o:=.cells #[.slice (some ad323) l0_0.length c0_0,.slice A0_1 l0_1.length c0_1] 26 (0,0)) (by (with_reducible repeat (first|refine blk_drewN ?_ _|refine blk_drew ?_|refine blk_alloc ?_ _)); exact BK320.out) hb)
           have n1_:=Aside0.mk (below_step (by repeat (first|(with_reducible first|exact HB.out|apply below_alloc|apply pw_below_drewN|apply below_drew1|refine below_set ?_ GE320.out)|exact HB.out)) hb)
           clear BK320
           clear HB
           have BK320:=n0_
           have HB:=n1_
           clear n0_ n1_
           (try clear hb)
           (try clear hb2)
           (try clear hk)
           (try clear hi)
           refine hK.out _ _ ⟨(blk_cell BK320.out 0).trans rfl,(blk_cell BK320.out 1).trans rfl⟩ (fun hHeld => ?_)
           clear hK K
           refine norm_ (a':=?_) ?_ ?_
           rotate_left
           ·show Act.put _ (some 46) _ = _
            simp only [Act.put,List.setIfInBounds_toArray,List.set_cons_zero,List.set_cons_succ,i64_w,i32_w]
            rfl
           refine one_ (i:=6) (N:=some 47) #[true,true,true,true,true,true,true,false] rfl rfl (one_of HT_.out (by kernel_rfl)) (by decide) (fun K hK => ?_)
           refine goes_ Try.func95 (by kernel_rfl) rfl #[.agg #[.slice (some ad323) l0_0.length c0_0,.slice A0_1 l0_1.length c0_1],.int .i64 x11_2,.int .i64 t324] (by rfl) rfl rfl (by (try simp only [List.map_toArray,List.map_cons,List.map_nil]); first|done|rfl|(simp only [List.length_drop,List.length_take]; rfl)) ?_
           with_reducible refine (spec_l3Days.calls k2 _ _ l0_0 _ _ l0_1 x11_2 t324 t325 _ ?side1 ?side2 ?side3 ?side4 A23.out).mono ?_
           (case side1 => repeat (first|exact (Kd.C_below HR0_0.out HB.out)|(with_reducible refine Kd.C_alloc ?_ _)|(with_reducible refine Kd.C_drewN ?_ _)|(with_reducible refine Kd.C_drew ?_)))
           (case side2 => exact HC0_0.out)
           (case side3 => repeat (first|exact (Kd.C_below HR0_1.out HB.out)|(with_reducible refine Kd.C_alloc ?_ _)|(with_reducible refine Kd.C_drewN ?_ _)|(with_reducible refine Kd.C_drew ?_)))
           (case side4 => exact HC0_1.out)
           rintro e w37 ⟨rfl,hb⟩
           refine ⟨_,rfl,?_⟩
           have n0_:=Aside0.mk (blk_below (g:=gb320) (o:=.cells #[.slice (some ad323) l0_0.length c0_0,.slice A0_1 l0_1.length c0_1] 26 (0,0)) (by (with_reducible repeat (first|refine blk_drewN ?_ _|refine blk_drew ?_|refine blk_alloc ?_ _)); exact BK320.out) hb)
           have n1_:=Aside0.mk (below_step (by repeat (first|(with_reducible first|exact HB.out|apply below_alloc|apply pw_below_drewN|apply below_drew1|refine below_set ?_ GE320.out)|exact HB.out)) hb)
           clear BK320
           clear HB
           have BK320:=n0_
           have HB:=n1_
           clear n0_ n1_
           (try clear hb)
           (try clear hb2)
           (try clear hk)
           (try clear hi)
           refine hK.out _ _ ⟨(blk_cell BK320.out 0).trans rfl,(blk_cell BK320.out 1).trans rfl⟩ (fun hHeld => ?_)
           clear hK K
           refine norm_ (a':=?_) ?_ ?_
           rotate_left
           ·show Act.put _ (some 47) _ = _
            simp only [Act.put,List.setIfInBounds_toArray,List.set_cons_zero,List.set_cons_succ,i64_w,i32_w]
            rfl
           refine pure_ (i:=7) (N:=some 12) (v:=?_) (a':=?_) #[true,true,true,true,true,true,true,true] rfl rfl (any_of HT_.out (by kernel_rfl)) (fun _ _ _ h => h) (Or.inl ⟨by rfl,?_⟩) ?_ ?_
           rotate_left
           ·intro w'
            go_simp
            with_reducible rfl
           rotate_left
           ·simp only [Act.put,List.setIfInBounds_toArray,List.set_cons_zero,List.set_cons_succ,i64_w,i32_w]
            rfl
           refine done_ (done_of HT_.out (by kernel_rfl)) ?_
           try go_wp2
           go_roundg k2
           case measure => have:=HJ3.out; have:=HK2.out; omega
           case rel => exact ⟨(x9_2),(x10_2),(wrap64 (x11_2 + 1)),(by first|rfl|(simp; done)|(simp [*]; done)),(by first|rfl|(simp; done)|(simp [*]; done)),(by first|rfl|(simp; done)|(simp [*]; done)),H',⟨by have:=HJ3.out; have:=HK2.out; omega⟩,⟨by (with_reducible repeat (first|refine blk_drewN ?_ _|refine blk_drew ?_|refine blk_alloc ?_ _)); exact BK320.out⟩,⟨by repeat (first|(with_reducible first|exact HB.out|apply below_alloc|apply pw_below_drewN|apply below_drew1|refine below_set ?_ GE320.out)|exact HB.out)⟩⟩
        ·rw [if_neg c21] at H
         have c21b0 : ((rd l0_0 x11_2) == a1) = false:=beq_eq_false_iff_ne.mpr c21
         have c21b1 : ((rd l0_0 x11_2) != a1) = true:=bne_iff_ne.mpr c21
         have H':=Aside0.mk H
         clear H
         have hcz38_0 : wr.cell? ⟨gb320,0,none⟩ = some (.slice A0_0 l0_0.length c0_0):=(blk_cell BK320.out 0).trans rfl
         have hcz38_1 : wr.cell? ⟨gb320,1,none⟩ = some (.slice A0_1 l0_1.length c0_1):=(blk_cell BK320.out 1).trans rfl
         have hfz38_0:=blk_frozen BK320.out 0
         have hfz38_1:=blk_frozen BK320.out 1
         have p323 : 0 ≤ (x11_2 : Int):=of_decide_eq_true (by first|(with_reducible assumption)|assumption)
         have q323 : x11_2 < (l0_0.length : Int):=of_decide_eq_true (by first|(with_reducible assumption)|assumption)
         obtain ⟨ad323,e323,hx323_0⟩:=Kd.at_int HR0_0.out x11_2 p323 q323
         cases e323
         replace hx323_0:=(HB.out.cell (World.block_lt_of_cell? w _ hx323_0)).trans hx323_0
         replace p323:=eq_true p323
         replace q323:=eq_true q323
         go_wp2
         go_roundg k2
         case measure => have:=HJ3.out; have:=HK2.out; omega
         case rel => exact ⟨(x9_2),(x10_2),(wrap64 (x11_2 + 1)),(by first|rfl|(simp; done)|(simp [*]; done)),(by first|rfl|(simp; done)|(simp [*]; done)),(by first|rfl|(simp; done)|(simp [*]; done)),H',⟨by have:=HJ3.out; have:=HK2.out; omega⟩,⟨by (with_reducible repeat (first|refine blk_drewN ?_ _|refine blk_drew ?_|refine blk_alloc ?_ _)); exact BK320.out⟩,⟨by repeat (first|(with_reducible first|exact HB.out|apply below_alloc|apply pw_below_drewN|apply below_drew1|refine below_set ?_ GE320.out)|exact HB.out)⟩⟩
       ·rw [if_neg c20] at H
        exact absurd H (by simp)
      ·rw [if_neg c19] at H
       have c19b0 : decide (x11_2 < (l0_0.length : Int)) = false:=decide_eq_false c19
       clear c19
       by_cases c39 : x9_2 < 0
       ·rw [if_pos c39] at H
        have c39b0 : decide (x9_2 < 0) = true:=decide_eq_true c39
        clear c39
        simp only [Option.some.injEq,Prod.mk.injEq] at H
        obtain ⟨rfl,rfl,rfl⟩:=H
        have hcz40_0 : wr.cell? ⟨gb320,0,none⟩ = some (.slice A0_0 l0_0.length c0_0):=(blk_cell BK320.out 0).trans rfl
        have hcz40_1 : wr.cell? ⟨gb320,1,none⟩ = some (.slice A0_1 l0_1.length c0_1):=(blk_cell BK320.out 1).trans rfl
        have hfz40_0:=blk_frozen BK320.out 0
        have hfz40_1:=blk_frozen BK320.out 1
        go_wp2
        go_ret3
        exact ⟨by first|rfl|(simp [errW_none,errW_some] <;> rfl)|(simp [*,errW_none,errW_some] <;> rfl),by repeat (first|(with_reducible first|exact HB.out|apply below_alloc|apply pw_below_drewN|apply below_drew1|refine below_set ?_ GE320.out)|exact HB.out)⟩
       ·rw [if_neg c39] at H
        have c39b0 : decide (x9_2 < 0) = false:=decide_eq_false c39
        clear c39
        simp only [Option.some.injEq,Prod.mk.injEq] at H
        obtain ⟨rfl,rfl,rfl⟩:=H
        have hcz41_0 : wr.cell? ⟨gb320,0,none⟩ = some (.slice A0_0 l0_0.length c0_0):=(blk_cell BK320.out 0).trans rfl
        have hcz41_1 : wr.cell? ⟨gb320,1,none⟩ = some (.slice A0_1 l0_1.length c0_1):=(blk_cell BK320.out 1).trans rfl
        have hfz41_0:=blk_frozen BK320.out 0
        have hfz41_1:=blk_frozen BK320.out 1
        go_wp2
        go_ret3
        exact ⟨by first|rfl|(simp [errW_none,errW_some] <;> rfl)|(simp [*,errW_none,errW_some] <;> rfl),by repeat (first|(with_reducible first|exact HB.out|apply below_alloc|apply pw_below_drewN|apply below_drew1|refine below_set ?_ GE320.out)|exact HB.out)⟩

end Go.Proofs.Ytlldonokjgoajaa.X
