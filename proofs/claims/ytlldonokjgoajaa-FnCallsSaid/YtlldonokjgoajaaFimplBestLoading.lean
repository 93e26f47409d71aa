-- Written by a program of ours (wip/bin/xprint.py,over the kit's print.py) out of the translation. Not trusted: Lean checks it.
import Derived.Test.YtlldonokjgoajaaX0
import Derived.Test.YtlldonokjgoajaaFbWays
import Derived.Test.YtlldonokjgoajaaGIsValidRotation
namespace Go.Proofs.Ytlldonokjgoajaa.X
open Go.RowKit Go.Proofs.YtlldonokjgoajaaW.PrintWords Go.Proofs.YtlldonokjgoajaaW.PrintLast Go.Proofs.YtlldonokjgoajaaW.PrintMore
attribute [local go_sem] max2_int min2_int max_two min_two max_three min_three max_four min_four   -- for this text's walks alone
set_option linter.unusedVariables false
set_option linter.unusedSimpArgs false

/-! ### impl_BestLoading: function 19 -/
mutual
def impl_BestLoading.j0 : Nat → Int → Int → Bool → List Int → List Int → Option (Int × Int × Bool)
 | 0,_,_,_,_,_ => none
 | k + 1,x1,x2,x22,x314000,x314001 => if x22 = true then (some (0,0,false)) else (impl_BestLoading.l0 k x1 x2 (-1) 0 x314000 (x314000.length : Int) 0 x314000 x314001)
def impl_BestLoading.l0 : Nat → Int → Int → Int → Int → List Int → Int → Int → List Int → List Int → Option (Int × Int × Bool)
 | 0,_,_,_,_,_,_,_,_,_ => none
 | k + 1,x1,x2,x9,x10,x24,x25,x26,x314000,x314001 => if x26 < x25 then (if 0 ≤ x26 then (if x26 < (x24.length : Int) then ((impl_nextCall.f k x314000 x314001 x26 x2).bind fun t316 => (if (rd x24 x26) = x1 then (impl_BestLoading.j2 k x1 x2 x9 x10 x26 t316 x24 x25 x26 (decide (t316 < 0)) x314000 x314001) else (impl_BestLoading.j2 k x1 x2 x9 x10 x26 t316 x24 x25 x26 true x314000 x314001))) else (none)) else (none)) else (if x9 < 0 then (some (0,0,false)) else (some (x9,x10,true)))
def impl_BestLoading.j2 : Nat → Int → Int → Int → Int → Int → Int → List Int → Int → Int → Bool → List Int → List Int → Option (Int × Int × Bool)
 | 0,_,_,_,_,_,_,_,_,_,_,_,_ => none
 | k + 1,x1,x2,x9,x10,x11,x13,x24,x25,x26,x41,x314000,x314001 => if x41 = true then (impl_BestLoading.l0 k x1 x2 x9 x10 x24 x25 (wrap64 (x26 + 1)) x314000 x314001) else ((impl_daysBetween.f k x314000 x314001 x11 x13).bind fun t317 => (if x9 < 0 then (impl_BestLoading.l0 k x1 x2 x11 t317 x24 x25 (wrap64 (x26 + 1)) x314000 x314001) else (if t317 < x10 then (impl_BestLoading.l0 k x1 x2 x11 t317 x24 x25 (wrap64 (x26 + 1)) x314000 x314001) else (impl_BestLoading.l0 k x1 x2 x9 x10 x24 x25 (wrap64 (x26 + 1)) x314000 x314001))))
end
def impl_BestLoading.f (k : Nat) (l0_0 : List Int) (l0_1 : List Int) (a1 : Int) (a2 : Int) : Option (Int × Int × Bool):=(impl_IsValidRotation.f k l0_0 l0_1).bind fun t314 => (if t314 = true then (impl_BestLoading.j0 k a1 a2 (a1 == a2) l0_0 l0_1) else (impl_BestLoading.j0 k a1 a2 true l0_0 l0_1))
theorem impl_BestLoading.mono_l : ∀ k,(∀ y0 y1 y2 y3 y4,LeO (impl_BestLoading.j0 k y0 y1 y2 y3 y4) (impl_BestLoading.j0 (k + 1) y0 y1 y2 y3 y4)) ∧ (∀ y0 y1 y2 y3 y4 y5 y6 y7 y8,LeO (impl_BestLoading.l0 k y0 y1 y2 y3 y4 y5 y6 y7 y8) (impl_BestLoading.l0 (k + 1) y0 y1 y2 y3 y4 y5 y6 y7 y8)) ∧ (∀ y0 y1 y2 y3 y4 y5 y6 y7 y8 y9 y10 y11,LeO (impl_BestLoading.j2 k y0 y1 y2 y3 y4 y5 y6 y7 y8 y9 y10 y11) (impl_BestLoading.j2 (k + 1) y0 y1 y2 y3 y4 y5 y6 y7 y8 y9 y10 y11))
 | 0 => ⟨fun _ _ _ _ _ r h => by simp [impl_BestLoading.j0] at h,fun _ _ _ _ _ _ _ _ _ r h => by simp [impl_BestLoading.l0] at h,fun _ _ _ _ _ _ _ _ _ _ _ _ r h => by simp [impl_BestLoading.j2] at h⟩
 | k + 1 => by
  obtain ⟨ih0,ih1,ih2⟩:=impl_BestLoading.mono_l k
  refine ⟨?_,?_,?_⟩
  ·intro y0 y1 y2 y3 y4
   unfold impl_BestLoading.j0
   repeat' first
   | (with_reducible exact ih0 _ _ _ _ _)
   | (with_reducible exact ih1 _ _ _ _ _ _ _ _ _)
   | (with_reducible exact ih2 _ _ _ _ _ _ _ _ _ _ _ _)
   | (with_reducible exact impl_IsValidRotation.mono _ _ _)
   | (with_reducible exact impl_daysBetween.mono _ _ _ _ _)
   | (with_reducible exact impl_nextCall.mono _ _ _ _ _)
   | (with_reducible exact LeO.refl _)
   | (with_reducible exact LeO.none _)
   | (with_reducible refine LeO.ite ?_ ?_)
   | (with_reducible refine LeO.bind ?_ (fun _ => ?_))
   | exact ih0 _ _ _ _ _
   | exact ih1 _ _ _ _ _ _ _ _ _
   | exact ih2 _ _ _ _ _ _ _ _ _ _ _ _
   | exact impl_IsValidRotation.mono _ _ _
   | exact impl_daysBetween.mono _ _ _ _ _
   | exact impl_nextCall.mono _ _ _ _ _
   | exact LeO.none _
   | refine LeO.ite ?_ ?_
   | refine LeO.bind ?_ (fun _ => ?_)
  ·intro y0 y1 y2 y3 y4 y5 y6 y7 y8
   unfold impl_BestLoading.l0
   repeat' first
   | (with_reducible exact ih0 _ _ _ _ _)
   | (with_reducible exact ih1 _ _ _ _ _ _ _ _ _)
   | (with_reducible exact ih2 _ _ _ _ _ _ _ _ _ _ _ _)
   | (with_reducible exact impl_IsValidRotation.mono _ _ _)
   | (with_reducible exact impl_daysBetween.mono _ _ _ _ _)
   | (with_reducible exact impl_nextCall.mono _ _ _ _ _)
   | (with_reducible exact LeO.refl _)
   | (with_reducible exact LeO.none _)
   | (with_reducible refine LeO.ite ?_ ?_)
   | (with_reducible refine LeO.bind ?_ (fun _ => ?_))
   | exact ih0 _ _ _ _ _
   | exact ih1 _ _ _ _ _ _ _ _ _
   | exact ih2 _ _ _ _ _ _ _ _ _ _ _ _
   | exact impl_IsValidRotation.mono _ _ _
   | exact impl_daysBetween.mono _ _ _ _ _
   | exact impl_nextCall.mono _ _ _ _ _
   | exact LeO.none _
   | refine LeO.ite ?_ ?_
   | refine LeO.bind ?_ (fun _ => ?_)
  ·intro y0 y1 y2 y3 y4 y5 y6 y7 y8 y9 y10 y11
   unfold impl_BestLoading.j2
   repeat' first
   | (with_reducible exact ih0 _ _ _ _ _)
   | (with_reducible exact ih1 _ _ _ _ _ _ _ _ _)
   | (with_reducible exact ih2 _ _ _ _ _ _ _ _ _ _ _ _)
   | (with_reducible exact impl_IsValidRotation.mono _ _ _)
   | (with_reducible exact impl_daysBetween.mono _ _ _ _ _)
   | (with_reducible exact impl_nextCall.mono _ _ _ _ _)
   | (with_reducible exact LeO.refl _)
   | (with_reducible exact LeO.none _)
   | (with_reducible refine LeO.ite ?_ ?_)
   | (with_reducible refine LeO.bind ?_ (fun _ => ?_))
   | exact ih0 _ _ _ _ _
   | exact ih1 _ _ _ _ _ _ _ _ _
   | exact ih2 _ _ _ _ _ _ _ _ _ _ _ _
   | exact impl_IsValidRotation.mono _ _ _
   | exact impl_daysBetween.mono _ _ _ _ _
   | exact impl_nextCall.mono _ _ _ _ _
   | exact LeO.none _
   | refine LeO.ite ?_ ?_
   | refine LeO.bind ?_ (fun _ => ?_)
theorem impl_BestLoading.mono : ∀ a0 a1 a2 a3 k,LeO (impl_BestLoading.f k a0 a1 a2 a3) (impl_BestLoading.f (k + 1) a0 a1 a2 a3):=by
 intro a0 a1 a2 a3 k
 obtain ⟨ih0,ih1,ih2⟩:=impl_BestLoading.mono_l k
 unfold impl_BestLoading.f
 repeat' first
   | (with_reducible exact ih0 _ _ _ _ _)
   | (with_reducible exact ih1 _ _ _ _ _ _ _ _ _)
   | (with_reducible exact ih2 _ _ _ _ _ _ _ _ _ _ _ _)
   | (with_reducible exact impl_IsValidRotation.mono _ _ _)
   | (with_reducible exact impl_daysBetween.mono _ _ _ _ _)
   | (with_reducible exact impl_nextCall.mono _ _ _ _ _)
   | (with_reducible exact LeO.refl _)
   | (with_reducible exact LeO.none _)
   | (with_reducible refine LeO.ite ?_ ?_)
   | (with_reducible refine LeO.bind ?_ (fun _ => ?_))
   | exact ih0 _ _ _ _ _
   | exact ih1 _ _ _ _ _ _ _ _ _
   | exact ih2 _ _ _ _ _ _ _ _ _ _ _ _
   | exact impl_IsValidRotation.mono _ _ _
   | exact impl_daysBetween.mono _ _ _ _ _
   | exact impl_nextCall.mono _ _ _ _ _
   | exact LeO.none _
   | refine LeO.ite ?_ ?_
   | refine LeO.bind ?_ (fun _ => ?_)
set_option maxHeartbeats 8000000 in
set_option maxRecDepth 100000 in
theorem impl_BestLoading.calls (k : Nat) (A0_0 : Option Addr) (c0_0 : Nat) (l0_0 : List Int) (A0_1 : Option Addr) (c0_1 : Nat) (l0_1 : List Int) (a1 : Int) (a2 : Int) (r1 : Int) (r2 : Int) (r3 : Bool) (w : World) (hr0_0 : Kd.C (Kd.int .i64) w A0_0 l0_0.length l0_0) (hc0_0 : l0_0.length ≤ c0_0) (hr0_1 : Kd.C (Kd.int .i64) w A0_1 l0_1.length l0_1) (hc0_1 : l0_1.length ≤ c0_1) (h : impl_BestLoading.f k l0_0 l0_1 a1 a2 = some (r1,r2,r3)) :
  Calls Try.prog 19 #[.agg #[.slice A0_0 l0_0.length c0_0,.slice A0_1 l0_1.length c0_1],.int .i64 a1,.int .i64 a2] w fun e w' => e = .returned (.tuple #[.int .i64 r1,.int .i64 r2,.bool r3]) ∧ Below w.heap.size w w':=by
 have hu26:=Try.underlying26
 have HR0_0:=Aside0.mk hr0_0
 have HC0_0:=Aside0.mk hc0_0
 clear hr0_0 hc0_0
 have HR0_1:=Aside0.mk hr0_1
 have HC0_1:=Aside0.mk hc0_1
 clear hr0_1 hc0_1
 have HB:=Aside0.mk (Below.refl w.heap.size w)
 have H : ((impl_IsValidRotation.f k l0_0 l0_1).bind fun t314 => (if t314 = true then (impl_BestLoading.j0 k a1 a2 (a1 == a2) l0_0 l0_1) else (impl_BestLoading.j0 k a1 a2 true l0_0 l0_1))) = some (r1,r2,r3):=h
 clear h
 have HC4:=Aside0.mk H
 clear H
 go_enter Try.func19,Try.ntmps19
 go_upto_region 1 with (first|((with_reducible refine gate_dst (N:=3) rfl ?_); refine box_event ?hg (N:=3) ?hd (cs:=#[.slice A0_0 l0_0.length c0_0,.slice A0_1 l0_1.length c0_1]) (t:=26) ?hr ?_; (case hd => rfl); (case hg => rfl); (case hr => first|(go_simp; done)|(go_simp; rfl)); intro gb313 hg w5 hbox hb; have n0_:=Aside0.mk (below_step (by repeat (first|(with_reducible first|exact HB.out|apply below_alloc|apply pw_below_drewN|apply below_drew1)|exact HB.out)) hb); have n1_:=Aside0.mk (hbox); have n2_:=Aside0.mk ((by rw [hg]; exact (below_size (by repeat (first|(with_reducible first|exact HB.out|apply below_alloc|apply pw_below_drewN|apply below_drew1)|exact HB.out))) : w.heap.size ≤ gb313)); have n3_:=Aside0.mk ((by rw [hg]; exact (below_size (by repeat (first|(with_reducible first|exact HB.out|apply below_alloc|apply pw_below_drewN|apply below_drew1)|exact HB.out))) : w.heap.size ≤ gb313)); clear HB; have HB:=n0_; have BK313:=n1_; have GW313:=n2_; have GE313:=n3_; clear n0_ n1_ n2_ n3_; clear hb hbox hg))
 (try simp only [Act.put,List.setIfInBounds_toArray,List.set_cons_zero,List.set_cons_succ])
 go_cut [22] (fun v22 wc => ∃ (kq : Nat) (x22_3 : Bool),v22 = .bool x22_3 ∧ Aside0 (impl_BestLoading.j0 kq a1 a2 x22_3 l0_0 l0_1 = some (r1,r2,r3)) ∧ Aside0 (kq ≤ k) ∧ Aside0 (wc.heap[gb313]? = some (.cells #[(.slice A0_0 l0_0.length c0_0),(.slice A0_1 l0_1.length c0_1)] 26 (0,0))) ∧ Aside0 (Below w.heap.size w wc))
 case first =>
  have H:=HC4.out
  clear HC4
  replace H:=Option.bind_eq_some_iff.mp H
  obtain ⟨t314,A60,H⟩:=H
  replace H : (if t314 = true then (impl_BestLoading.j0 k a1 a2 (a1 == a2) l0_0 l0_1) else (impl_BestLoading.j0 k a1 a2 true l0_0 l0_1)) = some (r1,r2,r3):=H
  have A6:=Aside0.mk A60
  clear A60
  by_cases c7 : t314 = true
  ·subst c7
   have H1 : (impl_BestLoading.j0 k a1 a2 (a1 == a2) l0_0 l0_1) = some (r1,r2,r3):=by rw [if_pos rfl] at H; exact H
   clear H
   have H:=H1
   clear H1
   have H':=Aside0.mk H
   clear H
   have hcz8_0 : w5.cell? ⟨gb313,0,none⟩ = some (.slice A0_0 l0_0.length c0_0):=(blk_cell BK313.out 0).trans rfl
   have hcz8_1 : w5.cell? ⟨gb313,1,none⟩ = some (.slice A0_1 l0_1.length c0_1):=(blk_cell BK313.out 1).trans rfl
   have hfz8_0:=blk_frozen BK313.out 0
   have hfz8_1:=blk_frozen BK313.out 1
   go_wp2_with (first|((with_reducible refine gate_callee (f:=96) rfl ?_); refine goesL_ (some 16) rfl rfl Try.func96 (by kernel_rfl) rfl #[.agg #[.slice A0_0 l0_0.length c0_0,.slice A0_1 l0_1.length c0_1]] rfl (by (try simp only [List.map_toArray,List.map_cons,List.map_nil]); first|done|rfl|(simp only [List.length_drop,List.length_take]; rfl)) ?_; (with_reducible refine (impl_IsValidRotation.calls k _ _ l0_0 _ _ l0_1 true _ ?side1 ?side2 ?side3 ?side4 A6.out).mono ?_); (case side1 => repeat (first|exact (Kd.C_below HR0_0.out HB.out)|(with_reducible refine Kd.C_alloc ?_ _)|(with_reducible refine Kd.C_drewN ?_ _)|(with_reducible refine Kd.C_drew ?_))); (case side2 => exact HC0_0.out); (case side3 => repeat (first|exact (Kd.C_below HR0_1.out HB.out)|(with_reducible refine Kd.C_alloc ?_ _)|(with_reducible refine Kd.C_drewN ?_ _)|(with_reducible refine Kd.C_drew ?_))); (case side4 => exact HC0_1.out); rintro e w9 ⟨rfl,hb⟩; refine ⟨_,rfl,?_⟩; have n0_:=Aside0.mk (blk_below (g:=gb313) (o:=.cells #[.slice A0_0 l0_0.length c0_0,.slice A0_1 l0_1.length c0_1] 26 (0,0)) (by (with_reducible repeat (first|refine blk_drewN ?_ _|refine blk_drew ?_|refine blk_alloc ?_ _)); exact BK313.out) hb); have n1_:=Aside0.mk (below_step (by repeat (first|(with_reducible first|exact HB.out|apply below_alloc|apply pw_below_drewN|apply below_drew1|refine below_set ?_ GE313.out)|exact HB.out)) hb); clear BK313; clear HB; have BK313:=n0_; have HB:=n1_; clear n0_ n1_; (try clear hb); (try clear hb2); (try clear hk); (try clear hi)))
   go_meet
   case rel => exact ⟨_,((a1 == a2)),(by first|rfl|(simp; done)|(simp [*]; done)),H',⟨by first|omega|exact Nat.le_refl _⟩,⟨by (with_reducible repeat (first|refine blk_drewN ?_ _|refine blk_drew ?_|refine blk_alloc ?_ _)); exact BK313.out⟩,⟨by repeat (first|(with_reducible first|exact HB.out|apply below_alloc|apply pw_below_drewN|apply below_drew1|refine below_set ?_ GE313.out)|exact HB.out)⟩⟩
  ·replace c7:=Bool.eq_false_iff.mpr c7
   subst c7
   have H1 : (impl_BestLoading.j0 k a1 a2 true l0_0 l0_1) = some (r1,r2,r3):=by rw [if_neg (show ¬ (false = true) by decide)] at H; exact H
   clear H
   have H:=H1
   clear H1
   have H':=Aside0.mk H
   clear H
   have hcz10_0 : w5.cell? ⟨gb313,0,none⟩ = some (.slice A0_0 l0_0.length c0_0):=(blk_cell BK313.out 0).trans rfl
   have hcz10_1 : w5.cell? ⟨gb313,1,none⟩ = some (.slice A0_1 l0_1.length c0_1):=(blk_cell BK313.out 1).trans rfl
   have hfz10_0:=blk_frozen BK313.out 0
   have hfz10_1:=blk_frozen BK313.out 1
   go_wp2_with (first|((with_reducible refine gate_callee (f:=96) rfl ?_); refine goesL_ (some 16) rfl rfl Try.func96 (by kernel_rfl) rfl #[.agg #[.slice A0_0 l0_0.length c0_0,.slice A0_1 l0_1.length c0_1]] rfl (by (try simp only [List.map_toArray,List.map_cons,List.map_nil]); first|done|rfl|(simp only [List.length_drop,List.length_take]; rfl)) ?_; (with_reducible refine (impl_IsValidRotation.calls k _ _ l0_0 _ _ l0_1 false _ ?side1 ?side2 ?side3 ?side4 A6.out).mono ?_); (case side1 => repeat (first|exact (Kd.C_below HR0_0.out HB.out)|(with_reducible refine Kd.C_alloc ?_ _)|(with_reducible refine Kd.C_drewN ?_ _)|(with_reducible refine Kd.C_drew ?_))); (case side2 => exact HC0_0.out); (case side3 => repeat (first|exact (Kd.C_below HR0_1.out HB.out)|(with_reducible refine Kd.C_alloc ?_ _)|(with_reducible refine Kd.C_drewN ?_ _)|(with_reducible refine Kd.C_drew ?_))); (case side4 => exact HC0_1.out); rintro e w11 ⟨rfl,hb⟩; refine ⟨_,rfl,?_⟩; have n0_:=Aside0.mk (blk_below (g:=gb313) (o:=.cells #[.slice A0_0 l0_0.length c0_0,.slice A0_1 l0_1.length c0_1] 26 (0,0)) (by (with_reducible repeat (first|refine blk_drewN ?_ _|refine blk_drew ?_|refine blk_alloc ?_ _)); exact BK313.out) hb); have n1_:=Aside0.mk (below_step (by repeat (first|(with_reducible first|exact HB.out|apply below_alloc|apply pw_below_drewN|apply below_drew1|refine below_set ?_ GE313.out)|exact HB.out)) hb); clear BK313; clear HB; have BK313:=n0_; have HB:=n1_; clear n0_ n1_; (try clear hb); (try clear hb2); (try clear hk); (try clear hi)))
   go_meet
   case rel => exact ⟨_,(true),(by first|rfl|(simp; done)|(simp [*]; done)),H',⟨by first|omega|exact Nat.le_refl _⟩,⟨by (with_reducible repeat (first|refine blk_drewN ?_ _|refine blk_drew ?_|refine blk_alloc ?_ _)); exact BK313.out⟩,⟨by repeat (first|(with_reducible first|exact HB.out|apply below_alloc|apply pw_below_drewN|apply below_drew1|refine below_set ?_ GE313.out)|exact HB.out)⟩⟩
 case rest =>
  clear HC4
  try clear c1
  try clear p2
  try clear c7
  try clear c9
  try clear hcz10_0
  try clear hcz10_1
  try clear hcz8_0
  try clear hcz8_1
  try clear hfz10_0
  try clear hfz10_1
  try clear hfz8_0
  try clear hfz8_1
  obtain ⟨kq,x22_3,rfl,HA,HJ3,BK313,HB⟩:=hcut
  cases kq with
  | zero => exact absurd HA.out (by simp [impl_BestLoading.j0])
  | succ kj3 =>
   have H:=HA.out
   clear HA
   simp only [impl_BestLoading.j0] at H
   by_cases c12 : x22_3 = true
   ·subst c12
    have H1 : (some (0,0,false)) = some (r1,r2,r3):=by rw [if_pos rfl] at H; exact H
    clear H
    have H:=H1
    clear H1
    simp only [Option.some.injEq,Prod.mk.injEq] at H
    obtain ⟨rfl,rfl,rfl⟩:=H
    go_wp2
    go_ret3
    exact ⟨by first|rfl|(simp [errW_none,errW_some] <;> rfl)|(simp [*,errW_none,errW_some] <;> rfl),by repeat (first|(with_reducible first|exact HB.out|apply below_alloc|apply pw_below_drewN|apply below_drew1|refine below_set ?_ GE313.out)|exact HB.out)⟩
   ·replace c12:=Bool.eq_false_iff.mpr c12
    subst c12
    have H1 : (impl_BestLoading.l0 kj3 a1 a2 (-1) 0 l0_0 (l0_0.length : Int) 0 l0_0 l0_1) = some (r1,r2,r3):=by rw [if_neg (show ¬ (false = true) by decide)] at H; exact H
    clear H
    have H:=H1
    clear H1
    have H':=Aside0.mk H
    clear H
    have hcz13_0 : wc.cell? ⟨gb313,0,none⟩ = some (.slice A0_0 l0_0.length c0_0):=(blk_cell BK313.out 0).trans rfl
    have hcz13_1 : wc.cell? ⟨gb313,1,none⟩ = some (.slice A0_1 l0_1.length c0_1):=(blk_cell BK313.out 1).trans rfl
    have hfz13_0:=blk_frozen BK313.out 0
    have hfz13_1:=blk_frozen BK313.out 1
    go_wp2
    go_loopg [9,10,26] kj3 (fun kq v9 v10 v26 w' => ∃ (x9_2 : Int) (x10_2 : Int) (x26_2 : Int),v9 = .int .i64 x9_2 ∧ v10 = .int .i64 x10_2 ∧ v26 = .int .i64 x26_2 ∧ Aside0 (impl_BestLoading.l0 kq a1 a2 x9_2 x10_2 l0_0 (l0_0.length : Int) x26_2 l0_0 l0_1 = some (r1,r2,r3)) ∧ Aside0 (kq ≤ kj3) ∧ Aside0 (w'.heap[gb313]? = some (.cells #[(.slice A0_0 l0_0.length c0_0),(.slice A0_1 l0_1.length c0_1)] 26 (0,0))) ∧ Aside0 (Below w.heap.size w w'))
    case atStart => exact ⟨((-1)),(0),(0),(by first|rfl|(simp; done)|(simp [*]; done)),(by first|rfl|(simp; done)|(simp [*]; done)),(by first|rfl|(simp; done)|(simp [*]; done)),H',⟨Nat.le_refl _⟩,⟨by (with_reducible repeat (first|refine blk_drewN ?_ _|refine blk_drew ?_|refine blk_alloc ?_ _)); exact BK313.out⟩,⟨by repeat (first|(with_reducible first|exact HB.out|apply below_alloc|apply pw_below_drewN|apply below_drew1|refine below_set ?_ GE313.out)|exact HB.out)⟩⟩
    case round =>
     clear H'
     try clear c1
     try clear p2
     try clear c7
     try clear c9
     try clear c12
     try clear hcz10_0
     try clear hcz10_1
     try clear hcz13_0
     try clear hcz13_1
     try clear hcz8_0
     try clear hcz8_1
     try clear hfz10_0
     try clear hfz10_1
     try clear hfz13_0
     try clear hfz13_1
     try clear hfz8_0
     try clear hfz8_1
     try clear p2
     obtain ⟨x9_2,x10_2,x26_2,rfl,rfl,rfl,HA,HK2,BK313,HB⟩:=hrel
     cases gk with
     | zero => exact absurd HA.out (by simp [impl_BestLoading.l0])
     | succ k2 =>
      have H:=HA.out
      clear HA
      simp only [impl_BestLoading.l0] at H
      by_cases c14 : x26_2 < (l0_0.length : Int)
      ·rw [if_pos c14] at H
       have c14b0 : decide (x26_2 < (l0_0.length : Int)) = true:=decide_eq_true c14
       clear c14
       by_cases c15 : 0 ≤ x26_2
       ·rw [if_pos c15] at H
        have c15b0 : decide (0 ≤ x26_2) = true:=decide_eq_true c15
        clear c15
        by_cases c16 : x26_2 < (l0_0.length : Int)
        ·rw [if_pos c16] at H
         have c16b0 : decide (x26_2 < (l0_0.length : Int)) = true:=decide_eq_true c16
         clear c16
         replace H:=Option.bind_eq_some_iff.mp H
         obtain ⟨t316,A170,H⟩:=H
         replace H : (if (rd l0_0 x26_2) = a1 then (impl_BestLoading.j2 k2 a1 a2 x9_2 x10_2 x26_2 t316 l0_0 (l0_0.length : Int) x26_2 (decide (t316 < 0)) l0_0 l0_1) else (impl_BestLoading.j2 k2 a1 a2 x9_2 x10_2 x26_2 t316 l0_0 (l0_0.length : Int) x26_2 true l0_0 l0_1)) = some (r1,r2,r3):=H
         have A17:=Aside0.mk A170
         clear A170
         have HC18:=Aside0.mk H
         clear H
         have p315 : 0 ≤ (x26_2 : Int):=of_decide_eq_true (by first|(with_reducible assumption)|assumption)
         have q315 : x26_2 < (l0_0.length : Int):=of_decide_eq_true (by first|(with_reducible assumption)|assumption)
         obtain ⟨ad315,e315,hx315_0⟩:=Kd.at_int HR0_0.out x26_2 p315 q315
         cases e315
         replace hx315_0:=(HB.out.cell (World.block_lt_of_cell? w _ hx315_0)).trans hx315_0
         replace p315:=eq_true p315
         replace q315:=eq_true q315
         have hcz19_0 : wr.cell? ⟨gb313,0,none⟩ = some (.slice (some ad315) l0_0.length c0_0):=(blk_cell BK313.out 0).trans rfl
         have hcz19_1 : wr.cell? ⟨gb313,1,none⟩ = some (.slice A0_1 l0_1.length c0_1):=(blk_cell BK313.out 1).trans rfl
         have hfz19_0:=blk_frozen BK313.out 0
         have hfz19_1:=blk_frozen BK313.out 1
         go_upto_region 8 with (first|((with_reducible refine gate_callee (f:=98) rfl ?_); refine goesL_ (some 34) rfl rfl Try.func98 (by kernel_rfl) rfl #[.agg #[.slice (some ad315) l0_0.length c0_0,.slice A0_1 l0_1.length c0_1],.int .i64 x26_2,.int .i64 a2] rfl (by (try simp only [List.map_toArray,List.map_cons,List.map_nil]); first|done|rfl|(simp only [List.length_drop,List.length_take]; rfl)) ?_; (with_reducible refine (impl_nextCall.calls k2 _ _ l0_0 _ _ l0_1 x26_2 a2 t316 _ ?side1 ?side2 ?side3 ?side4 A17.out).mono ?_); (case side1 => repeat (first|exact (Kd.C_below HR0_0.out HB.out)|(with_reducible refine Kd.C_alloc ?_ _)|(with_reducible refine Kd.C_drewN ?_ _)|(with_reducible refine Kd.C_drew ?_))); (case side2 => exact HC0_0.out); (case side3 => repeat (first|exact (Kd.C_below HR0_1.out HB.out)|(with_reducible refine Kd.C_alloc ?_ _)|(with_reducible refine Kd.C_drewN ?_ _)|(with_reducible refine Kd.C_drew ?_))); (case side4 => exact HC0_1.out); rintro e w20 ⟨rfl,hb⟩; refine ⟨_,rfl,?_⟩; have n0_:=Aside0.mk (blk_below (g:=gb313) (o:=.cells #[.slice (some ad315) l0_0.length c0_0,.slice A0_1 l0_1.length c0_1] 26 (0,0)) (by (with_reducible repeat (first|refine blk_drewN ?_ _|refine blk_drew ?_|refine blk_alloc ?_ _)); exact BK313.out) hb); have n1_:=Aside0.mk (below_step (by repeat (first|(with_reducible first|exact HB.out|apply below_alloc|apply pw_below_drewN|apply below_drew1|refine below_set ?_ GE313.out)|exact HB.out)) hb); clear BK313; clear HB; have BK313:=n0_; have HB:=n1_; clear n0_ n1_; (try clear hb); (try clear hb2); (try clear hk); (try clear hi)))
         (try simp only [Act.put,List.setIfInBounds_toArray,List.set_cons_zero,List.set_cons_succ])
         go_cut [41] (fun v41 wc => ∃ (kq : Nat) (x41_17 : Bool),v41 = .bool x41_17 ∧ Aside0 (impl_BestLoading.j2 kq a1 a2 x9_2 x10_2 x26_2 t316 l0_0 (l0_0.length : Int) x26_2 x41_17 l0_0 l0_1 = some (r1,r2,r3)) ∧ Aside0 (kq ≤ k2) ∧ Aside0 (wc.heap[gb313]? = some (.cells #[(.slice (some ad315) l0_0.length c0_0),(.slice A0_1 l0_1.length c0_1)] 26 (0,0))) ∧ Aside0 (Below w.heap.size w wc))
         case first =>
          have H:=HC18.out
          clear HC18
          by_cases c21 : (rd l0_0 x26_2) = a1
          ·rw [if_pos c21] at H
           have c21b0 : ((rd l0_0 x26_2) == a1) = true:=beq_iff_eq.mpr c21
           have c21b1 : ((rd l0_0 x26_2) != a1) = false:=bne_eq_false_iff_eq.mpr c21
           clear c21
           (first|rw [c21b0]|(simp only [i64_w,i32_w]; rw [c21b0])|skip)
           have H':=Aside0.mk H
           clear H
           go_wp2
           go_meet
           case rel => exact ⟨_,(decide (t316 < 0)),(by first|rfl|(simp; done)|(simp [*]; done)),H',⟨by have:=HJ3.out; have:=HK2.out; first|omega|exact Nat.le_refl _⟩,⟨by (with_reducible repeat (first|refine blk_drewN ?_ _|refine blk_drew ?_|refine blk_alloc ?_ _)); exact BK313.out⟩,⟨by repeat (first|(with_reducible first|exact HB.out|apply below_alloc|apply pw_below_drewN|apply below_drew1|refine below_set ?_ GE313.out)|exact HB.out)⟩⟩
          ·rw [if_neg c21] at H
           have c21b0 : ((rd l0_0 x26_2) == a1) = false:=beq_eq_false_iff_ne.mpr c21
           have c21b1 : ((rd l0_0 x26_2) != a1) = true:=bne_iff_ne.mpr c21
           (first|rw [c21b0]|(simp only [i64_w,i32_w]; rw [c21b0])|skip)
           have H':=Aside0.mk H
           clear H
           go_wp2
           go_meet
           case rel => exact ⟨_,(true),(by first|rfl|(simp; done)|(simp [*]; done)),H',⟨by have:=HJ3.out; have:=HK2.out; first|omega|exact Nat.le_refl _⟩,⟨by (with_reducible repeat (first|refine blk_drewN ?_ _|refine blk_drew ?_|refine blk_alloc ?_ _)); exact BK313.out⟩,⟨by repeat (first|(with_reducible first|exact HB.out|apply below_alloc|apply pw_below_drewN|apply below_drew1|refine below_set ?_ GE313.out)|exact HB.out)⟩⟩
         case rest =>
          clear HC18
          try clear c1
          try clear c2
          try clear p2
          try clear p3
          try clear q3
          try clear hx3
          try clear c7
          try clear c9
          try clear c12
          try clear c14
          try clear c14b0
          try clear c15
          try clear c15b0
          try clear c16
          try clear c16b0
          try clear c19
          try clear c21
          try clear c21b0
          try clear c21b1
          try clear hcz10_0
          try clear hcz10_1
          try clear hcz13_0
          try clear hcz13_1
          try clear hcz19_0
          try clear hcz19_1
          try clear hcz8_0
          try clear hcz8_1
          try clear hfz10_0
          try clear hfz10_1
          try clear hfz13_0
          try clear hfz13_1
          try clear hfz19_0
          try clear hfz19_1
          try clear hfz8_0
          try clear hfz8_1
          try clear hx315_0
          try clear p2
          try clear p315
          try clear q315
          obtain ⟨kq,x41_17,rfl,HA,HJ17,BK313,HB⟩:=hcut
          cases kq with
          | zero => exact absurd HA.out (by simp [impl_BestLoading.j2])
          | succ kj17 =>
           have H:=HA.out
           clear HA
           simp only [impl_BestLoading.j2] at H
           by_cases c22 : x41_17 = true
           ·subst c22
            have H1 : (impl_BestLoading.l0 kj17 a1 a2 x9_2 x10_2 l0_0 (l0_0.length : Int) (wrap64 (x26_2 + 1)) l0_0 l0_1) = some (r1,r2,r3):=by rw [if_pos rfl] at H; exact H
            clear H
            have H:=H1
            clear H1
            have H':=Aside0.mk H
            clear H
            go_wp2
            go_roundg kj17
            case measure => have:=HJ3.out; have:=HK2.out; have:=HJ17.out; omega
            case rel => exact ⟨(x9_2),(x10_2),(wrap64 (x26_2 + 1)),(by first|rfl|(simp; done)|(simp [*]; done)),(by first|rfl|(simp; done)|(simp [*]; done)),(by first|rfl|(simp; done)|(simp [*]; done)),H',⟨by have:=HJ3.out; have:=HK2.out; have:=HJ17.out; omega⟩,⟨by (with_reducible repeat (first|refine blk_drewN ?_ _|refine blk_drew ?_|refine blk_alloc ?_ _)); exact BK313.out⟩,⟨by repeat (first|(with_reducible first|exact HB.out|apply below_alloc|apply pw_below_drewN|apply below_drew1|refine below_set ?_ GE313.out)|exact HB.out)⟩⟩
           ·replace c22:=Bool.eq_false_iff.mpr c22
            subst c22
            have H1 : ((impl_daysBetween.f kj17 l0_0 l0_1 x26_2 t316).bind fun t317 => (if x9_2 < 0 then (impl_BestLoading.l0 kj17 a1 a2 x26_2 t317 l0_0 (l0_0.length : Int) (wrap64 (x26_2 + 1)) l0_0 l0_1) else (if t317 < x10_2 then (impl_BestLoading.l0 kj17 a1 a2 x26_2 t317 l0_0 (l0_0.length : Int) (wrap64 (x26_2 + 1)) l0_0 l0_1) else (impl_BestLoading.l0 kj17 a1 a2 x9_2 x10_2 l0_0 (l0_0.length : Int) (wrap64 (x26_2 + 1)) l0_0 l0_1)))) = some (r1,r2,r3):=by rw [if_neg (show ¬ (false = true) by decide)] at H; exact H
            clear H
            have H:=H1
            clear H1
            replace H:=Option.bind_eq_some_iff.mp H
            obtain ⟨t317,A230,H⟩:=H
            replace H : (if x9_2 < 0 then (impl_BestLoading.l0 kj17 a1 a2 x26_2 t317 l0_0 (l0_0.length : Int) (wrap64 (x26_2 + 1)) l0_0 l0_1) else (if t317 < x10_2 then (impl_BestLoading.l0 kj17 a1 a2 x26_2 t317 l0_0 (l0_0.length : Int) (wrap64 (x26_2 + 1)) l0_0 l0_1) else (impl_BestLoading.l0 kj17 a1 a2 x9_2 x10_2 l0_0 (l0_0.length : Int) (wrap64 (x26_2 + 1)) l0_0 l0_1))) = some (r1,r2,r3):=H
            have A23:=Aside0.mk A230
            clear A230
            by_cases c24 : x9_2 < 0
            ·rw [if_pos c24] at H
             have c24b0 : decide (x9_2 < 0) = true:=decide_eq_true c24
             clear c24
             have H':=Aside0.mk H
             clear H
             have hcz25_0 : wc.cell? ⟨gb313,0,none⟩ = some (.slice (some ad315) l0_0.length c0_0):=(blk_cell BK313.out 0).trans rfl
             have hcz25_1 : wc.cell? ⟨gb313,1,none⟩ = some (.slice A0_1 l0_1.length c0_1):=(blk_cell BK313.out 1).trans rfl
             have hfz25_0:=blk_frozen BK313.out 0
             have hfz25_1:=blk_frozen BK313.out 1
             go_wp2_with (first|((with_reducible refine gate_callee (f:=93) rfl ?_); refine goesL_ (some 45) rfl rfl Try.func93 (by kernel_rfl) rfl #[.agg #[.slice (some ad315) l0_0.length c0_0,.slice A0_1 l0_1.length c0_1],.int .i64 x26_2,.int .i64 t316] rfl (by (try simp only [List.map_toArray,List.map_cons,List.map_nil]); first|done|rfl|(simp only [List.length_drop,List.length_take]; rfl)) ?_; (with_reducible refine (impl_daysBetween.calls kj17 _ _ l0_0 _ _ l0_1 x26_2 t316 t317 _ ?side1 ?side2 ?side3 ?side4 A23.out).mono ?_); (case side1 => repeat (first|exact (Kd.C_below HR0_0.out HB.out)|(with_reducible refine Kd.C_alloc ?_ _)|(with_reducible refine Kd.C_drewN ?_ _)|(with_reducible refine Kd.C_drew ?_))); (case side2 => exact HC0_0.out); (case side3 => repeat (first|exact (Kd.C_below HR0_1.out HB.out)|(with_reducible refine Kd.C_alloc ?_ _)|(with_reducible refine Kd.C_drewN ?_ _)|(with_reducible refine Kd.C_drew ?_))); (case side4 => exact HC0_1.out); rintro e w26 ⟨rfl,hb⟩; refine ⟨_,rfl,?_⟩; have n0_:=Aside0.mk (blk_below (g:=gb313) (o:=.cells #[.slice (some ad315) l0_0.length c0_0,.slice A0_1 l0_1.length c0_1] 26 (0,0)) (by (with_reducible repeat (first|refine blk_drewN ?_ _|refine blk_drew ?_|refine blk_alloc ?_ _)); exact BK313.out) hb); have n1_:=Aside0.mk (below_step (by repeat (first|(with_reducible first|exact HB.out|apply below_alloc|apply pw_below_drewN|apply below_drew1|refine below_set ?_ GE313.out)|exact HB.out)) hb); clear BK313; clear HB; have BK313:=n0_; have HB:=n1_; clear n0_ n1_; (try clear hb); (try clear hb2); (try clear hk); (try clear hi)))
             go_roundg kj17
             case measure => have:=HJ3.out; have:=HK2.out; have:=HJ17.out; omega
             case rel => exact ⟨(x26_2),(t317),(wrap64 (x26_2 + 1)),(by first|rfl|(simp; done)|(simp [*]; done)),(by first|rfl|(simp; done)|(simp [*]; done)),(by first|rfl|(simp; done)|(simp [*]; done)),H',⟨by have:=HJ3.out; have:=HK2.out; have:=HJ17.out; omega⟩,⟨by (with_reducible repeat (first|refine blk_drewN ?_ _|refine blk_drew ?_|refine blk_alloc ?_ _)); exact BK313.out⟩,⟨by repeat (first|(with_reducible first|exact HB.out|apply below_alloc|apply pw_below_drewN|apply below_drew1|refine below_set ?_ GE313.out)|exact HB.out)⟩⟩
            ·rw [if_neg c24] at H
             have c24b0 : decide (x9_2 < 0) = false:=decide_eq_false c24
             clear c24
             by_cases c27 : t317 < x10_2
             ·rw [if_pos c27] at H
              have c27b0 : decide (t317 < x10_2) = true:=decide_eq_true c27
              clear c27
              have H':=Aside0.mk H
              clear H
              have hcz28_0 : wc.cell? ⟨gb313,0,none⟩ = some (.slice (some ad315) l0_0.length c0_0):=(blk_cell BK313.out 0).trans rfl
              have hcz28_1 : wc.cell? ⟨gb313,1,none⟩ = some (.slice A0_1 l0_1.length c0_1):=(blk_cell BK313.out 1).trans rfl
              have hfz28_0:=blk_frozen BK313.out 0
              have hfz28_1:=blk_frozen BK313.out 1
              go_wp2_with (first|((with_reducible refine gate_callee (f:=93) rfl ?_); refine goesL_ (some 45) rfl rfl Try.func93 (by kernel_rfl) rfl #[.agg #[.slice (some ad315) l0_0.length c0_0,.slice A0_1 l0_1.length c0_1],.int .i64 x26_2,.int .i64 t316] rfl (by (try simp only [List.map_toArray,List.map_cons,List.map_nil]); first|done|rfl|(simp only [List.length_drop,List.length_take]; rfl)) ?_; (with_reducible refine (impl_daysBetween.calls kj17 _ _ l0_0 _ _ l0_1 x26_2 t316 t317 _ ?side1 ?side2 ?side3 ?side4 A23.out).mono ?_); (case side1 => repeat (first|exact (Kd.C_below HR0_0.out HB.out)|(with_reducible refine Kd.C_alloc ?_ _)|(with_reducible refine Kd.C_drewN ?_ _)|(with_reducible refine Kd.C_drew ?_))); (case side2 => exact HC0_0.out); (case side3 => repeat (first|exact (Kd.C_below HR0_1.out HB.out)|(with_reducible refine Kd.C_alloc ?_ _)|(with_reducible refine Kd.C_drewN ?_ _)|(with_reducible refine Kd.C_drew ?_))); (case side4 => exact HC0_1.out); rintro e w29 ⟨rfl,hb⟩; refine ⟨_,rfl,?_⟩; have n0_:=Aside0.mk (blk_below (g:=gb313) (o:=.cells #[.slice (some ad315) l0_0.length c0_0,.slice A0_1 l0_1.length c0_1] 26 (0,0)) (by (with_reducible repeat (first|refine blk_drewN ?_ _|refine blk_drew ?_|refine blk_alloc ?_ _)); exact BK313.out) hb); have n1_:=Aside0.mk (below_step (by repeat (first|(with_reducible first|exact HB.out|apply below_alloc|apply pw_below_drewN|apply below_drew1|refine below_set ?_ GE313.out)|exact HB.out)) hb); clear BK313; clear HB; have BK313:=n0_; have HB:=n1_; clear n0_ n1_; (try clear hb); (try clear hb2); (try clear hk); (try clear hi)))
              go_roundg kj17
              case measure => have:=HJ3.out; have:=HK2.out; have:=HJ17.out; omega
              case rel => exact ⟨(x26_2),(t317),(wrap64 (x26_2 + 1)),(by first|rfl|(simp; done)|(simp [*]; done)),(by first|rfl|(simp; done)|(simp [*]; done)),(by first|rfl|(simp; done)|(simp [*]; done)),H',⟨by have:=HJ3.out; have:=HK2.out; have:=HJ17.out; omega⟩,⟨by (with_reducible repeat (first|refine blk_drewN ?_ _|refine blk_drew ?_|refine blk_alloc ?_ _)); exact BK313.out⟩,⟨by repeat (first|(with_reducible first|exact HB.out|apply below_alloc|apply pw_below_drewN|apply below_drew1|refine below_set ?_ GE313.out)|exact HB.out)⟩⟩
             ·rw [if_neg c27] at H
              have c27b0 : decide (t317 < x10_2) = false:=decide_eq_false c27
              clear c27
              have H':=Aside0.mk H
              clear H
              have hcz30_0 : wc.cell? ⟨gb313,0,none⟩ = some (.slice (some ad315) l0_0.length c0_0):=(blk_cell BK313.out 0).trans rfl
              have hcz30_1 : wc.cell? ⟨gb313,1,none⟩ = some (.slice A0_1 l0_1.length c0_1):=(blk_cell BK313.out 1).trans rfl
              have hfz30_0:=blk_frozen BK313.out 0
              have hfz30_1:=blk_frozen BK313.out 1
              go_wp2_with (first|((with_reducible refine gate_callee (f:=93) rfl ?_); refine goesL_ (some 45) rfl rfl Try.func93 (by kernel_rfl) rfl #[.agg #[.slice (some ad315) l0_0.length c0_0,.slice A0_1 l0_1.length c0_1],.int .i64 x26_2,.int .i64 t316] rfl (by (try simp only [List.map_toArray,List.map_cons,List.map_nil]); first|done|rfl|(simp only [List.length_drop,List.length_take]; rfl)) ?_; (with_reducible refine (impl_daysBetween.calls kj17 _ _ l0_0 _ _ l0_1 x26_2 t316 t317 _ ?side1 ?side2 ?side3 ?side4 A23.out).mono ?_); (case side1 => repeat (first|exact (Kd.C_below HR0_0.out HB.out)|(with_reducible refine Kd.C_alloc ?_ _)|(with_reducible refine Kd.C_drewN ?_ _)|(with_reducible refine Kd.C_drew ?_))); (case side2 => exact HC0_0.out); (case side3 => repeat (first|exact (Kd.C_below HR0_1.out HB.out)|(with_reducible refine Kd.C_alloc ?_ _)|(with_reducible refine Kd.C_drewN ?_ _)|(with_reducible refine Kd.C_drew ?_))); (case side4 => exact HC0_1.out); rintro e w31 ⟨rfl,hb⟩; refine ⟨_,rfl,?_⟩; have n0_:=Aside0.mk (blk_below (g:=gb313) (o:=.cells #[.slice (some ad315) l0_0.length c0_0,.slice A0_1 l0_1.length c0_1] 26 (0,0)) (by (with_reducible repeat (first|refine blk_drewN ?_ _|refine blk_drew ?_|refine blk_alloc ?_ _)); exact BK313.out) hb); have n1_:=Aside0.mk (below_step (by repeat (first|(with_reducible first|exact HB.out|apply below_alloc|apply pw_below_drewN|apply below_drew1|refine below_set ?_ GE313.out)|exact HB.out)) hb); clear BK313; clear HB; have BK313:=n0_; have HB:=n1_; clear n0_ n1_; (try clear hb); (try clear hb2); (try clear hk); (try clear hi)))
              go_roundg kj17
              case measure => have:=HJ3.out; have:=HK2.out; have:=HJ17.out; omega
              case rel => exact ⟨(x9_2),(x10_2),(wrap64 (x26_2 + 1)),(by first|rfl|(simp; done)|(simp [*]; done)),(by first|rfl|(simp; done)|(simp [*]; done)),(by first|rfl|(simp; done)|(simp [*]; done)),H',⟨by have:=HJ3.out; have:=HK2.out; have:=HJ17.out; omega⟩,⟨by (with_reducible repeat (first|refine blk_drewN ?_ _|refine blk_drew ?_|refine blk_alloc ?_ _)); exact BK313.out⟩,⟨by repeat (first|(with_reducible first|exact HB.out|apply below_alloc|apply pw_below_drewN|apply below_drew1|refine below_set ?_ GE313.out)|exact HB.out)⟩⟩
        ·rw [if_neg c16] at H
         exact absurd H (by simp)
       ·rw [if_neg c15] at H
        exact absurd H (by simp)
      ·rw [if_neg c14] at H
       have c14b0 : decide (x26_2 < (l0_0.length : Int)) = false:=decide_eq_false c14
       clear c14
       by_cases c32 : x9_2 < 0
       ·rw [if_pos c32] at H
        have c32b0 : decide (x9_2 < 0) = true:=decide_eq_true c32
        clear c32
        simp only [Option.some.injEq,Prod.mk.injEq] at H
        obtain ⟨rfl,rfl,rfl⟩:=H
        go_wp2
        go_ret3
        exact ⟨by first|rfl|(simp [errW_none,errW_some] <;> rfl)|(simp [*,errW_none,errW_some] <;> rfl),by repeat (first|(with_reducible first|exact HB.out|apply below_alloc|apply pw_below_drewN|apply below_drew1|refine below_set ?_ GE313.out)|exact HB.out)⟩
       ·rw [if_neg c32] at H
        have c32b0 : decide (x9_2 < 0) = false:=decide_eq_false c32
        clear c32
        simp only [Option.some.injEq,Prod.mk.injEq] at H
        obtain ⟨rfl,rfl,rfl⟩:=H
        go_wp2
        go_ret3
        exact ⟨by first|rfl|(simp [errW_none,errW_some] <;> rfl)|(simp [*,errW_none,errW_some] <;> rfl),by repeat (first|(with_reducible first|exact HB.out|apply below_alloc|apply pw_below_drewN|apply below_drew1|refine below_set ?_ GE313.out)|exact HB.out)⟩

end Go.Proofs.Ytlldonokjgoajaa.X
