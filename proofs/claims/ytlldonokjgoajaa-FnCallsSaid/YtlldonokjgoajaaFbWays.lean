-- Written by a program of ours (wip/bin/xprint.py,over the kit's print.py) out of the translation. Not trusted: Lean checks it.
import Derived.Test.YtlldonokjgoajaaX0
namespace Go.Proofs.Ytlldonokjgoajaa.X
open Go.RowKit Go.Proofs.YtlldonokjgoajaaW.PrintWords Go.Proofs.YtlldonokjgoajaaW.PrintLast Go.Proofs.YtlldonokjgoajaaW.PrintMore
attribute [local go_sem] max2_int min2_int max_two min_two max_three min_three max_four min_four   -- for this text's walks alone
set_option linter.unusedVariables false
set_option linter.unusedSimpArgs false

/-! ### impl_daysBetween: function 93 -/
def impl_daysBetween.l0 : Nat → Int → Int → Int → List Int → List Int → Option (Int)
 | 0,_,_,_,_,_ => none
 | k + 1,x1,x2,x7,x275000,x275001 => if x1 = x2 then (some x7) else (if 0 ≤ x1 then (if x1 < (x275001.length : Int) then (if (x275000.length : Int) = 0 then (none) else (impl_daysBetween.l0 k (Int.tmod (wrap64 (x1 + 1)) (x275000.length : Int)) x2 (wrap64 (x7 + (rd x275001 x1))) x275000 x275001)) else (none)) else (none))
def impl_daysBetween.f (k : Nat) (l0_0 : List Int) (l0_1 : List Int) (a1 : Int) (a2 : Int) : Option (Int):=impl_daysBetween.l0 k a1 a2 0 l0_0 l0_1
theorem impl_daysBetween.mono_l : ∀ k,(∀ y0 y1 y2 y3 y4,LeO (impl_daysBetween.l0 k y0 y1 y2 y3 y4) (impl_daysBetween.l0 (k + 1) y0 y1 y2 y3 y4))
 | 0 => fun _ _ _ _ _ r h => by simp [impl_daysBetween.l0] at h
 | k + 1 => by
  have ih0:=impl_daysBetween.mono_l k
  ·intro y0 y1 y2 y3 y4
   unfold impl_daysBetween.l0
   repeat' first
   | (with_reducible exact ih0 _ _ _ _ _)
   | (with_reducible exact LeO.refl _)
   | (with_reducible exact LeO.none _)
   | (with_reducible refine LeO.ite ?_ ?_)
   | (with_reducible refine LeO.bind ?_ (fun _ => ?_))
   | exact ih0 _ _ _ _ _
   | exact LeO.none _
   | refine LeO.ite ?_ ?_
   | refine LeO.bind ?_ (fun _ => ?_)
theorem impl_daysBetween.mono : ∀ a0 a1 a2 a3 k,LeO (impl_daysBetween.f k a0 a1 a2 a3) (impl_daysBetween.f (k + 1) a0 a1 a2 a3):=by
 intro a0 a1 a2 a3 k
 have ih0:=impl_daysBetween.mono_l k
 unfold impl_daysBetween.f
 repeat' first
   | (with_reducible exact ih0 _ _ _ _ _)
   | (with_reducible exact LeO.refl _)
   | (with_reducible exact LeO.none _)
   | (with_reducible refine LeO.ite ?_ ?_)
   | (with_reducible refine LeO.bind ?_ (fun _ => ?_))
   | exact ih0 _ _ _ _ _
   | exact LeO.none _
   | refine LeO.ite ?_ ?_
   | refine LeO.bind ?_ (fun _ => ?_)
set_option maxHeartbeats 8000000 in
set_option maxRecDepth 100000 in
theorem impl_daysBetween.calls (k : Nat) (A0_0 : Option Addr) (c0_0 : Nat) (l0_0 : List Int) (A0_1 : Option Addr) (c0_1 : Nat) (l0_1 : List Int) (a1 : Int) (a2 : Int) (r : Int) (w : World) (hr0_0 : Kd.C (Kd.int .i64) w A0_0 l0_0.length l0_0) (hc0_0 : l0_0.length ≤ c0_0) (hr0_1 : Kd.C (Kd.int .i64) w A0_1 l0_1.length l0_1) (hc0_1 : l0_1.length ≤ c0_1) (h : impl_daysBetween.f k l0_0 l0_1 a1 a2 = some r) :
  Calls Try.prog 93 #[.agg #[.slice A0_0 l0_0.length c0_0,.slice A0_1 l0_1.length c0_1],.int .i64 a1,.int .i64 a2] w fun e w' => e = .returned (.int .i64 r) ∧ Below w.heap.size w w':=by
 have hu26:=Try.underlying26
 have HR0_0:=Aside0.mk hr0_0
 have HC0_0:=Aside0.mk hc0_0
 clear hr0_0 hc0_0
 have HR0_1:=Aside0.mk hr0_1
 have HC0_1:=Aside0.mk hc0_1
 clear hr0_1 hc0_1
 have HB:=Aside0.mk (Below.refl w.heap.size w)
 have H : (impl_daysBetween.l0 k a1 a2 0 l0_0 l0_1) = some r:=h
 clear h
 have H':=Aside0.mk H
 clear H
 go_enter Try.func93,Try.ntmps93
 go_wp2_with (first|((with_reducible refine gate_dst (N:=3) rfl ?_); refine box_event ?hg (N:=3) ?hd (cs:=#[.slice A0_0 l0_0.length c0_0,.slice A0_1 l0_1.length c0_1]) (t:=26) ?hr ?_; (case hd => rfl); (case hg => rfl); (case hr => first|(go_simp; done)|(go_simp; rfl)); intro gb274 hg w4 hbox hb; have n0_:=Aside0.mk (below_step (by repeat (first|(with_reducible first|exact HB.out|apply below_alloc|apply pw_below_drewN|apply below_drew1)|exact HB.out)) hb); have n1_:=Aside0.mk (hbox); have n2_:=Aside0.mk ((by rw [hg]; exact (below_size (by repeat (first|(with_reducible first|exact HB.out|apply below_alloc|apply pw_below_drewN|apply below_drew1)|exact HB.out))) : w.heap.size ≤ gb274)); have n3_:=Aside0.mk ((by rw [hg]; exact (below_size (by repeat (first|(with_reducible first|exact HB.out|apply below_alloc|apply pw_below_drewN|apply below_drew1)|exact HB.out))) : w.heap.size ≤ gb274)); clear HB; have HB:=n0_; have BK274:=n1_; have GW274:=n2_; have GE274:=n3_; clear n0_ n1_ n2_ n3_; clear hb hbox hg))
 go_loopg [1,7] k (fun kq v1 v7 w' => ∃ (x1_1 : Int) (x7_1 : Int),v1 = .int .i64 x1_1 ∧ v7 = .int .i64 x7_1 ∧ Aside0 (impl_daysBetween.l0 kq x1_1 a2 x7_1 l0_0 l0_1 = some r) ∧ Aside0 (kq ≤ k) ∧ Aside0 (w'.heap[gb274]? = some (.cells #[(.slice A0_0 l0_0.length c0_0),(.slice A0_1 l0_1.length c0_1)] 26 (0,0))) ∧ Aside0 (Below w.heap.size w w'))
 case atStart => exact ⟨(a1),(0),(by first|rfl|(simp; done)|(simp [*]; done)),(by first|rfl|(simp; done)|(simp [*]; done)),H',⟨Nat.le_refl _⟩,⟨by (with_reducible repeat (first|refine blk_drewN ?_ _|refine blk_drew ?_|refine blk_alloc ?_ _)); exact BK274.out⟩,⟨by repeat (first|(with_reducible first|exact HB.out|apply below_alloc|apply pw_below_drewN|apply below_drew1|refine below_set ?_ GE274.out)|exact HB.out)⟩⟩
 case round =>
  clear H'
  try clear p2
  obtain ⟨x1_1,x7_1,rfl,rfl,HA,HK1,BK274,HB⟩:=hrel
  cases gk with
  | zero => exact absurd HA.out (by simp [impl_daysBetween.l0])
  | succ k1 =>
   have H:=HA.out
   clear HA
   simp only [impl_daysBetween.l0] at H
   by_cases c5 : x1_1 = a2
   ·rw [if_pos c5] at H
    have c5b0 : (x1_1 == a2) = true:=beq_iff_eq.mpr c5
    have c5b1 : (x1_1 != a2) = false:=bne_eq_false_iff_eq.mpr c5
    clear c5
    obtain rfl:=Option.some.inj H
    go_wp2
    go_ret
    exact ⟨by first|rfl|(simp [errW_none,errW_some] <;> rfl)|(simp [*,errW_none,errW_some] <;> rfl),by repeat (first|(with_reducible first|exact HB.out|apply below_alloc|apply pw_below_drewN|apply below_drew1|refine below_set ?_ GE274.out)|exact HB.out)⟩
   ·rw [if_neg c5] at H
    have c5b0 : (x1_1 == a2) = false:=beq_eq_false_iff_ne.mpr c5
    have c5b1 : (x1_1 != a2) = true:=bne_iff_ne.mpr c5
    by_cases c6 : 0 ≤ x1_1
    ·rw [if_pos c6] at H
     have c6b0 : decide (0 ≤ x1_1) = true:=decide_eq_true c6
     clear c6
     by_cases c7 : x1_1 < (l0_1.length : Int)
     ·rw [if_pos c7] at H
      have c7b0 : decide (x1_1 < (l0_1.length : Int)) = true:=decide_eq_true c7
      clear c7
      by_cases c8 : (l0_0.length : Int) = 0
      ·rw [if_pos c8] at H
       exact absurd H (by simp)
      ·rw [if_neg c8] at H
       have c8b0 : ((l0_0.length : Int) == 0) = false:=beq_eq_false_iff_ne.mpr c8
       have c8b1 : ((l0_0.length : Int) != 0) = true:=bne_iff_ne.mpr c8
       have c8b2 : ¬ (l0_0 = []):=fun h_ => c8 (by rw [h_]; rfl)
       have H':=Aside0.mk H
       clear H
       have hcz9_0 : wr.cell? ⟨gb274,0,none⟩ = some (.slice A0_0 l0_0.length c0_0):=(blk_cell BK274.out 0).trans rfl
       have hcz9_1 : wr.cell? ⟨gb274,1,none⟩ = some (.slice A0_1 l0_1.length c0_1):=(blk_cell BK274.out 1).trans rfl
       have hfz9_0:=blk_frozen BK274.out 0
       have hfz9_1:=blk_frozen BK274.out 1
       have p275 : 0 ≤ (x1_1 : Int):=of_decide_eq_true (by first|(with_reducible assumption)|assumption)
       have q275 : x1_1 < (l0_1.length : Int):=of_decide_eq_true (by first|(with_reducible assumption)|assumption)
       obtain ⟨ad275,e275,hx275_0⟩:=Kd.at_int HR0_1.out x1_1 p275 q275
       cases e275
       replace hx275_0:=(HB.out.cell (World.block_lt_of_cell? w _ hx275_0)).trans hx275_0
       replace p275:=eq_true p275
       replace q275:=eq_true q275
       go_wp2
       go_roundg k1
       case measure => have:=HK1.out; omega
       case rel => exact ⟨(Int.tmod (wrap64 (x1_1 + 1)) (l0_0.length : Int)),(wrap64 (x7_1 + (rd l0_1 x1_1))),(by first|rfl|(simp; done)|(simp [*]; done)),(by first|rfl|(simp; done)|(simp [*]; done)),H',⟨by have:=HK1.out; omega⟩,⟨by (with_reducible repeat (first|refine blk_drewN ?_ _|refine blk_drew ?_|refine blk_alloc ?_ _)); exact BK274.out⟩,⟨by repeat (first|(with_reducible first|exact HB.out|apply below_alloc|apply pw_below_drewN|apply below_drew1|refine below_set ?_ GE274.out)|exact HB.out)⟩⟩
     ·rw [if_neg c7] at H
      exact absurd H (by simp)
    ·rw [if_neg c6] at H
     exact absurd H (by simp)

/-! ### spec_l3Days: function 95 -/
def spec_l3Days.l0 : Nat → Int → Int → Int → List Int → List Int → Option (Int)
 | 0,_,_,_,_,_ => none
 | k + 1,x1,x2,x7,x286000,x286001 => if x1 = x2 then (some x7) else (if 0 ≤ x1 then (if x1 < (x286001.length : Int) then (if (x286001.length : Int) = 0 then (none) else (spec_l3Days.l0 k (Int.tmod (wrap64 (x1 + 1)) (x286001.length : Int)) x2 (wrap64 (x7 + (rd x286001 x1))) x286000 x286001)) else (none)) else (none))
def spec_l3Days.f (k : Nat) (l0_0 : List Int) (l0_1 : List Int) (a1 : Int) (a2 : Int) : Option (Int):=spec_l3Days.l0 k a1 a2 0 l0_0 l0_1
theorem spec_l3Days.mono_l : ∀ k,(∀ y0 y1 y2 y3 y4,LeO (spec_l3Days.l0 k y0 y1 y2 y3 y4) (spec_l3Days.l0 (k + 1) y0 y1 y2 y3 y4))
 | 0 => fun _ _ _ _ _ r h => by simp [spec_l3Days.l0] at h
 | k + 1 => by
  have ih0:=spec_l3Days.mono_l k
  ·intro y0 y1 y2 y3 y4
   unfold spec_l3Days.l0
   repeat' first
   | (with_reducible exact ih0 _ _ _ _ _)
   | (with_reducible exact LeO.refl _)
   | (with_reducible exact LeO.none _)
   | (with_reducible refine LeO.ite ?_ ?_)
   | (with_reducible refine LeO.bind ?_ (fun _ => ?_))
   | exact ih0 _ _ _ _ _
   | exact LeO.none _
   | refine LeO.ite ?_ ?_
   | refine LeO.bind ?_ (fun _ => ?_)
theorem spec_l3Days.mono : ∀ a0 a1 a2 a3 k,LeO (spec_l3Days.f k a0 a1 a2 a3) (spec_l3Days.f (k + 1) a0 a1 a2 a3):=by
 intro a0 a1 a2 a3 k
 have ih0:=spec_l3Days.mono_l k
 unfold spec_l3Days.f
 repeat' first
   | (with_reducible exact ih0 _ _ _ _ _)
   | (with_reducible exact LeO.refl _)
   | (with_reducible exact LeO.none _)
   | (with_reducible refine LeO.ite ?_ ?_)
   | (with_reducible refine LeO.bind ?_ (fun _ => ?_))
   | exact ih0 _ _ _ _ _
   | exact LeO.none _
   | refine LeO.ite ?_ ?_
   | refine LeO.bind ?_ (fun _ => ?_)
set_option maxHeartbeats 8000000 in
set_option maxRecDepth 100000 in
theorem spec_l3Days.calls (k : Nat) (A0_0 : Option Addr) (c0_0 : Nat) (l0_0 : List Int) (A0_1 : Option Addr) (c0_1 : Nat) (l0_1 : List Int) (a1 : Int) (a2 : Int) (r : Int) (w : World) (hr0_0 : Kd.C (Kd.int .i64) w A0_0 l0_0.length l0_0) (hc0_0 : l0_0.length ≤ c0_0) (hr0_1 : Kd.C (Kd.int .i64) w A0_1 l0_1.length l0_1) (hc0_1 : l0_1.length ≤ c0_1) (h : spec_l3Days.f k l0_0 l0_1 a1 a2 = some r) :
  Calls Try.prog 95 #[.agg #[.slice A0_0 l0_0.length c0_0,.slice A0_1 l0_1.length c0_1],.int .i64 a1,.int .i64 a2] w fun e w' => e = .returned (.int .i64 r) ∧ Below w.heap.size w w':=by
 have hu26:=Try.underlying26
 have HR0_0:=Aside0.mk hr0_0
 have HC0_0:=Aside0.mk hc0_0
 clear hr0_0 hc0_0
 have HR0_1:=Aside0.mk hr0_1
 have HC0_1:=Aside0.mk hc0_1
 clear hr0_1 hc0_1
 have HB:=Aside0.mk (Below.refl w.heap.size w)
 have H : (spec_l3Days.l0 k a1 a2 0 l0_0 l0_1) = some r:=h
 clear h
 have H':=Aside0.mk H
 clear H
 go_enter Try.func95,Try.ntmps95
 go_wp2_with (first|((with_reducible refine gate_dst (N:=3) rfl ?_); refine box_event ?hg (N:=3) ?hd (cs:=#[.slice A0_0 l0_0.length c0_0,.slice A0_1 l0_1.length c0_1]) (t:=26) ?hr ?_; (case hd => rfl); (case hg => rfl); (case hr => first|(go_simp; done)|(go_simp; rfl)); intro gb285 hg w4 hbox hb; have n0_:=Aside0.mk (below_step (by repeat (first|(with_reducible first|exact HB.out|apply below_alloc|apply pw_below_drewN|apply below_drew1)|exact HB.out)) hb); have n1_:=Aside0.mk (hbox); have n2_:=Aside0.mk ((by rw [hg]; exact (below_size (by repeat (first|(with_reducible first|exact HB.out|apply below_alloc|apply pw_below_drewN|apply below_drew1)|exact HB.out))) : w.heap.size ≤ gb285)); have n3_:=Aside0.mk ((by rw [hg]; exact (below_size (by repeat (first|(with_reducible first|exact HB.out|apply below_alloc|apply pw_below_drewN|apply below_drew1)|exact HB.out))) : w.heap.size ≤ gb285)); clear HB; have HB:=n0_; have BK285:=n1_; have GW285:=n2_; have GE285:=n3_; clear n0_ n1_ n2_ n3_; clear hb hbox hg))
 go_loopg [1,7] k (fun kq v1 v7 w' => ∃ (x1_1 : Int) (x7_1 : Int),v1 = .int .i64 x1_1 ∧ v7 = .int .i64 x7_1 ∧ Aside0 (spec_l3Days.l0 kq x1_1 a2 x7_1 l0_0 l0_1 = some r) ∧ Aside0 (kq ≤ k) ∧ Aside0 (w'.heap[gb285]? = some (.cells #[(.slice A0_0 l0_0.length c0_0),(.slice A0_1 l0_1.length c0_1)] 26 (0,0))) ∧ Aside0 (Below w.heap.size w w'))
 case atStart => exact ⟨(a1),(0),(by first|rfl|(simp; done)|(simp [*]; done)),(by first|rfl|(simp; done)|(simp [*]; done)),H',⟨Nat.le_refl _⟩,⟨by (with_reducible repeat (first|refine blk_drewN ?_ _|refine blk_drew ?_|refine blk_alloc ?_ _)); exact BK285.out⟩,⟨by repeat (first|(with_reducible first|exact HB.out|apply below_alloc|apply pw_below_drewN|apply below_drew1|refine below_set ?_ GE285.out)|exact HB.out)⟩⟩
 case round =>
  clear H'
  try clear p2
  obtain ⟨x1_1,x7_1,rfl,rfl,HA,HK1,BK285,HB⟩:=hrel
  cases gk with
  | zero => exact absurd HA.out (by simp [spec_l3Days.l0])
  | succ k1 =>
   have H:=HA.out
   clear HA
   simp only [spec_l3Days.l0] at H
   by_cases c5 : x1_1 = a2
   ·rw [if_pos c5] at H
    have c5b0 : (x1_1 == a2) = true:=beq_iff_eq.mpr c5
    have c5b1 : (x1_1 != a2) = false:=bne_eq_false_iff_eq.mpr c5
    clear c5
    obtain rfl:=Option.some.inj H
    go_wp2
    go_ret
    exact ⟨by first|rfl|(simp [errW_none,errW_some] <;> rfl)|(simp [*,errW_none,errW_some] <;> rfl),by repeat (first|(with_reducible first|exact HB.out|apply below_alloc|apply pw_below_drewN|apply below_drew1|refine below_set ?_ GE285.out)|exact HB.out)⟩
   ·rw [if_neg c5] at H
    have c5b0 : (x1_1 == a2) = false:=beq_eq_false_iff_ne.mpr c5
    have c5b1 : (x1_1 != a2) = true:=bne_iff_ne.mpr c5
    by_cases c6 : 0 ≤ x1_1
    ·rw [if_pos c6] at H
     have c6b0 : decide (0 ≤ x1_1) = true:=decide_eq_true c6
     clear c6
     by_cases c7 : x1_1 < (l0_1.length : Int)
     ·rw [if_pos c7] at H
      have c7b0 : decide (x1_1 < (l0_1.length : Int)) = true:=decide_eq_true c7
      clear c7
      by_cases c8 : (l0_1.length : Int) = 0
      ·rw [if_pos c8] at H
       exact absurd H (by simp)
      ·rw [if_neg c8] at H
       have c8b0 : ((l0_1.length : Int) == 0) = false:=beq_eq_false_iff_ne.mpr c8
       have c8b1 : ((l0_1.length : Int) != 0) = true:=bne_iff_ne.mpr c8
       have c8b2 : ¬ (l0_1 = []):=fun h_ => c8 (by rw [h_]; rfl)
       have H':=Aside0.mk H
       clear H
       have hcz9_0 : wr.cell? ⟨gb285,0,none⟩ = some (.slice A0_0 l0_0.length c0_0):=(blk_cell BK285.out 0).trans rfl
       have hcz9_1 : wr.cell? ⟨gb285,1,none⟩ = some (.slice A0_1 l0_1.length c0_1):=(blk_cell BK285.out 1).trans rfl
       have hfz9_0:=blk_frozen BK285.out 0
       have hfz9_1:=blk_frozen BK285.out 1
       have p286 : 0 ≤ (x1_1 : Int):=of_decide_eq_true (by first|(with_reducible assumption)|assumption)
       have q286 : x1_1 < (l0_1.length : Int):=of_decide_eq_true (by first|(with_reducible assumption)|assumption)
       obtain ⟨ad286,e286,hx286_0⟩:=Kd.at_int HR0_1.out x1_1 p286 q286
       cases e286
       replace hx286_0:=(HB.out.cell (World.block_lt_of_cell? w _ hx286_0)).trans hx286_0
       replace p286:=eq_true p286
       replace q286:=eq_true q286
       go_wp2
       go_roundg k1
       case measure => have:=HK1.out; omega
       case rel => exact ⟨(Int.tmod (wrap64 (x1_1 + 1)) (l0_1.length : Int)),(wrap64 (x7_1 + (rd l0_1 x1_1))),(by first|rfl|(simp; done)|(simp [*]; done)),(by first|rfl|(simp; done)|(simp [*]; done)),H',⟨by have:=HK1.out; omega⟩,⟨by (with_reducible repeat (first|refine blk_drewN ?_ _|refine blk_drew ?_|refine blk_alloc ?_ _)); exact BK285.out⟩,⟨by repeat (first|(with_reducible first|exact HB.out|apply below_alloc|apply pw_below_drewN|apply below_drew1|refine below_set ?_ GE285.out)|exact HB.out)⟩⟩
     ·rw [if_neg c7] at H
      exact absurd H (by simp)
    ·rw [if_neg c6] at H
     exact absurd H (by simp)

/-! ### impl_nextCall: function 98 -/
def impl_nextCall.l0 : Nat → Int → Int → Int → Int → Int → List Int → List Int → Option (Int)
 | 0,_,_,_,_,_,_,_ => none
 | k + 1,x1,x2,x7,x12,x13,x312000,x312001 => if x13 < x12 then (if x7 = 0 then (none) else (if 0 ≤ (Int.tmod (wrap64 (x1 + x13)) x7) then (if (Int.tmod (wrap64 (x1 + x13)) x7) < (x312000.length : Int) then (if (rd x312000 (Int.tmod (wrap64 (x1 + x13)) x7)) = x2 then (some (Int.tmod (wrap64 (x1 + x13)) x7)) else (impl_nextCall.l0 k x1 x2 x7 x12 (wrap64 (x13 + 1)) x312000 x312001)) else (none)) else (none))) else (some (-1))
def impl_nextCall.f (k : Nat) (l0_0 : List Int) (l0_1 : List Int) (a1 : Int) (a2 : Int) : Option (Int):=impl_nextCall.l0 k a1 a2 (l0_0.length : Int) (l0_0.length : Int) 0 l0_0 l0_1
theorem impl_nextCall.mono_l : ∀ k,(∀ y0 y1 y2 y3 y4 y5 y6,LeO (impl_nextCall.l0 k y0 y1 y2 y3 y4 y5 y6) (impl_nextCall.l0 (k + 1) y0 y1 y2 y3 y4 y5 y6))
 | 0 => fun _ _ _ _ _ _ _ r h => by simp [impl_nextCall.l0] at h
 | k + 1 => by
  have ih0:=impl_nextCall.mono_l k
  ·intro y0 y1 y2 y3 y4 y5 y6
   unfold impl_nextCall.l0
   repeat' first
   | (with_reducible exact ih0 _ _ _ _ _ _ _)
   | (with_reducible exact LeO.refl _)
   | (with_reducible exact LeO.none _)
   | (with_reducible refine LeO.ite ?_ ?_)
   | (with_reducible refine LeO.bind ?_ (fun _ => ?_))
   | exact ih0 _ _ _ _ _ _ _
   | exact LeO.none _
   | refine LeO.ite ?_ ?_
   | refine LeO.bind ?_ (fun _ => ?_)
theorem impl_nextCall.mono : ∀ a0 a1 a2 a3 k,LeO (impl_nextCall.f k a0 a1 a2 a3) (impl_nextCall.f (k + 1) a0 a1 a2 a3):=by
 intro a0 a1 a2 a3 k
 have ih0:=impl_nextCall.mono_l k
 unfold impl_nextCall.f
 repeat' first
   | (with_reducible exact ih0 _ _ _ _ _ _ _)
   | (with_reducible exact LeO.refl _)
   | (with_reducible exact LeO.none _)
   | (with_reducible refine LeO.ite ?_ ?_)
   | (with_reducible refine LeO.bind ?_ (fun _ => ?_))
   | exact ih0 _ _ _ _ _ _ _
   | exact LeO.none _
   | refine LeO.ite ?_ ?_
   | refine LeO.bind ?_ (fun _ => ?_)
set_option maxHeartbeats 8000000 in
set_option maxRecDepth 100000 in
theorem impl_nextCall.calls (k : Nat) (A0_0 : Option Addr) (c0_0 : Nat) (l0_0 : List Int) (A0_1 : Option Addr) (c0_1 : Nat) (l0_1 : List Int) (a1 : Int) (a2 : Int) (r : Int) (w : World) (hr0_0 : Kd.C (Kd.int .i64) w A0_0 l0_0.length l0_0) (hc0_0 : l0_0.length ≤ c0_0) (hr0_1 : Kd.C (Kd.int .i64) w A0_1 l0_1.length l0_1) (hc0_1 : l0_1.length ≤ c0_1) (h : impl_nextCall.f k l0_0 l0_1 a1 a2 = some r) :
  Calls Try.prog 98 #[.agg #[.slice A0_0 l0_0.length c0_0,.slice A0_1 l0_1.length c0_1],.int .i64 a1,.int .i64 a2] w fun e w' => e = .returned (.int .i64 r) ∧ Below w.heap.size w w':=by
 have hu26:=Try.underlying26
 have HR0_0:=Aside0.mk hr0_0
 have HC0_0:=Aside0.mk hc0_0
 clear hr0_0 hc0_0
 have HR0_1:=Aside0.mk hr0_1
 have HC0_1:=Aside0.mk hc0_1
 clear hr0_1 hc0_1
 have HB:=Aside0.mk (Below.refl w.heap.size w)
 have H : (impl_nextCall.l0 k a1 a2 (l0_0.length : Int) (l0_0.length : Int) 0 l0_0 l0_1) = some r:=h
 clear h
 have H':=Aside0.mk H
 clear H
 go_enter Try.func98,Try.ntmps98
 go_wp2_with (first|((with_reducible refine gate_dst (N:=3) rfl ?_); refine box_event ?hg (N:=3) ?hd (cs:=#[.slice A0_0 l0_0.length c0_0,.slice A0_1 l0_1.length c0_1]) (t:=26) ?hr ?_; (case hd => rfl); (case hg => rfl); (case hr => first|(go_simp; done)|(go_simp; rfl)); intro gb311 hg w4 hbox hb; have n0_:=Aside0.mk (below_step (by repeat (first|(with_reducible first|exact HB.out|apply below_alloc|apply pw_below_drewN|apply below_drew1)|exact HB.out)) hb); have n1_:=Aside0.mk (hbox); have n2_:=Aside0.mk ((by rw [hg]; exact (below_size (by repeat (first|(with_reducible first|exact HB.out|apply below_alloc|apply pw_below_drewN|apply below_drew1)|exact HB.out))) : w.heap.size ≤ gb311)); have n3_:=Aside0.mk ((by rw [hg]; exact (below_size (by repeat (first|(with_reducible first|exact HB.out|apply below_alloc|apply pw_below_drewN|apply below_drew1)|exact HB.out))) : w.heap.size ≤ gb311)); clear HB; have HB:=n0_; have BK311:=n1_; have GW311:=n2_; have GE311:=n3_; clear n0_ n1_ n2_ n3_; clear hb hbox hg; have hcz5_0 : w4.cell? ⟨gb311,0,none⟩ = some (.slice A0_0 l0_0.length c0_0):=(blk_cell BK311.out 0).trans rfl; have hcz5_1 : w4.cell? ⟨gb311,1,none⟩ = some (.slice A0_1 l0_1.length c0_1):=(blk_cell BK311.out 1).trans rfl; have hfz5_0:=blk_frozen BK311.out 0; have hfz5_1:=blk_frozen BK311.out 1))
 repeat (go_quiet (first|((with_reducible refine gate_dst (N:=3) rfl ?_); refine box_event ?hg (N:=3) ?hd (cs:=#[.slice A0_0 l0_0.length c0_0,.slice A0_1 l0_1.length c0_1]) (t:=26) ?hr ?_; (case hd => rfl); (case hg => rfl); (case hr => first|(go_simp; done)|(go_simp; rfl)); intro gb311 hg w4 hbox hb; have n0_:=Aside0.mk (below_step (by repeat (first|(with_reducible first|exact HB.out|apply below_alloc|apply pw_below_drewN|apply below_drew1)|exact HB.out)) hb); have n1_:=Aside0.mk (hbox); have n2_:=Aside0.mk ((by rw [hg]; exact (below_size (by repeat (first|(with_reducible first|exact HB.out|apply below_alloc|apply pw_below_drewN|apply below_drew1)|exact HB.out))) : w.heap.size ≤ gb311)); have n3_:=Aside0.mk ((by rw [hg]; exact (below_size (by repeat (first|(with_reducible first|exact HB.out|apply below_alloc|apply pw_below_drewN|apply below_drew1)|exact HB.out))) : w.heap.size ≤ gb311)); clear HB; have HB:=n0_; have BK311:=n1_; have GW311:=n2_; have GE311:=n3_; clear n0_ n1_ n2_ n3_; clear hb hbox hg; have hcz5_0 : w4.cell? ⟨gb311,0,none⟩ = some (.slice A0_0 l0_0.length c0_0):=(blk_cell BK311.out 0).trans rfl; have hcz5_1 : w4.cell? ⟨gb311,1,none⟩ = some (.slice A0_1 l0_1.length c0_1):=(blk_cell BK311.out 1).trans rfl; have hfz5_0:=blk_frozen BK311.out 0; have hfz5_1:=blk_frozen BK311.out 1)); try go_wp2_with (first|((with_reducible refine gate_dst (N:=3) rfl ?_); refine box_event ?hg (N:=3) ?hd (cs:=#[.slice A0_0 l0_0.length c0_0,.slice A0_1 l0_1.length c0_1]) (t:=26) ?hr ?_; (case hd => rfl); (case hg => rfl); (case hr => first|(go_simp; done)|(go_simp; rfl)); intro gb311 hg w4 hbox hb; have n0_:=Aside0.mk (below_step (by repeat (first|(with_reducible first|exact HB.out|apply below_alloc|apply pw_below_drewN|apply below_drew1)|exact HB.out)) hb); have n1_:=Aside0.mk (hbox); have n2_:=Aside0.mk ((by rw [hg]; exact (below_size (by repeat (first|(with_reducible first|exact HB.out|apply below_alloc|apply pw_below_drewN|apply below_drew1)|exact HB.out))) : w.heap.size ≤ gb311)); have n3_:=Aside0.mk ((by rw [hg]; exact (below_size (by repeat (first|(with_reducible first|exact HB.out|apply below_alloc|apply pw_below_drewN|apply below_drew1)|exact HB.out))) : w.heap.size ≤ gb311)); clear HB; have HB:=n0_; have BK311:=n1_; have GW311:=n2_; have GE311:=n3_; clear n0_ n1_ n2_ n3_; clear hb hbox hg; have hcz5_0 : w4.cell? ⟨gb311,0,none⟩ = some (.slice A0_0 l0_0.length c0_0):=(blk_cell BK311.out 0).trans rfl; have hcz5_1 : w4.cell? ⟨gb311,1,none⟩ = some (.slice A0_1 l0_1.length c0_1):=(blk_cell BK311.out 1).trans rfl; have hfz5_0:=blk_frozen BK311.out 0; have hfz5_1:=blk_frozen BK311.out 1)))
 go_loopg [13] k (fun kq v13 w' => ∃ (x13_1 : Int),v13 = .int .i64 x13_1 ∧ Aside0 (impl_nextCall.l0 kq a1 a2 (l0_0.length : Int) (l0_0.length : Int) x13_1 l0_0 l0_1 = some r) ∧ Aside0 (kq ≤ k) ∧ Aside0 (w'.heap[gb311]? = some (.cells #[(.slice A0_0 l0_0.length c0_0),(.slice A0_1 l0_1.length c0_1)] 26 (0,0))) ∧ Aside0 (Below w.heap.size w w'))
 case atStart => exact ⟨(0),(by first|rfl|(simp; done)|(simp [*]; done)),H',⟨Nat.le_refl _⟩,⟨by (with_reducible repeat (first|refine blk_drewN ?_ _|refine blk_drew ?_|refine blk_alloc ?_ _)); exact BK311.out⟩,⟨by repeat (first|(with_reducible first|exact HB.out|apply below_alloc|apply pw_below_drewN|apply below_drew1|refine below_set ?_ GE311.out)|exact HB.out)⟩⟩
 case round =>
  clear H'
  try clear p2
  try clear hcz5_0
  try clear hcz5_1
  try clear hfz5_0
  try clear hfz5_1
  obtain ⟨x13_1,rfl,HA,HK1,BK311,HB⟩:=hrel
  cases gk with
  | zero => exact absurd HA.out (by simp [impl_nextCall.l0])
  | succ k1 =>
   have H:=HA.out
   clear HA
   simp only [impl_nextCall.l0] at H
   by_cases c6 : x13_1 < (l0_0.length : Int)
   ·rw [if_pos c6] at H
    have c6b0 : decide (x13_1 < (l0_0.length : Int)) = true:=decide_eq_true c6
    clear c6
    by_cases c7 : (l0_0.length : Int) = 0
    ·rw [if_pos c7] at H
     exact absurd H (by simp)
    ·rw [if_neg c7] at H
     have c7b0 : ((l0_0.length : Int) == 0) = false:=beq_eq_false_iff_ne.mpr c7
     have c7b1 : ((l0_0.length : Int) != 0) = true:=bne_iff_ne.mpr c7
     have c7b2 : ¬ (l0_0 = []):=fun h_ => c7 (by rw [h_]; rfl)
     obtain ⟨ji8,hji8⟩ : ∃ j_ : Int,(Int.tmod (wrap64 (a1 + x13_1)) (l0_0.length : Int)) = j_:=⟨_,rfl⟩
     replace H : (if 0 ≤ (ji8) then (if (ji8) < (l0_0.length : Int) then (if (rd l0_0 (ji8)) = a2 then (some ji8) else (impl_nextCall.l0 k1 a1 a2 (l0_0.length : Int) (l0_0.length : Int) (wrap64 (x13_1 + 1)) l0_0 l0_1)) else (none)) else (none)) = some r:=by first|(rw [hji8] at H; exact H)|(simp only [hji8] at H ⊢; exact H)
     by_cases c9 : 0 ≤ (ji8)
     ·rw [if_pos c9] at H
      have c9b0 : decide (0 ≤ (ji8)) = true:=decide_eq_true c9
      clear c9
      by_cases c10 : (ji8) < (l0_0.length : Int)
      ·rw [if_pos c10] at H
       have c10b0 : decide ((ji8) < (l0_0.length : Int)) = true:=decide_eq_true c10
       clear c10
       by_cases c11 : (rd l0_0 (ji8)) = a2
       ·rw [if_pos c11] at H
        have c11b0 : ((rd l0_0 (ji8)) == a2) = true:=beq_iff_eq.mpr c11
        have c11b1 : ((rd l0_0 (ji8)) != a2) = false:=bne_eq_false_iff_eq.mpr c11
        clear c11
        obtain rfl:=Option.some.inj H
        have hcz12_0 : wr.cell? ⟨gb311,0,none⟩ = some (.slice A0_0 l0_0.length c0_0):=(blk_cell BK311.out 0).trans rfl
        have hcz12_1 : wr.cell? ⟨gb311,1,none⟩ = some (.slice A0_1 l0_1.length c0_1):=(blk_cell BK311.out 1).trans rfl
        have hfz12_0:=blk_frozen BK311.out 0
        have hfz12_1:=blk_frozen BK311.out 1
        have p312 : 0 ≤ ((ji8) : Int):=of_decide_eq_true (by first|(with_reducible assumption)|assumption)
        have q312 : (ji8) < (l0_0.length : Int):=of_decide_eq_true (by first|(with_reducible assumption)|assumption)
        obtain ⟨ad312,e312,hx312_0⟩:=Kd.at_int HR0_0.out (ji8) p312 q312
        cases e312
        replace hx312_0:=(HB.out.cell (World.block_lt_of_cell? w _ hx312_0)).trans hx312_0
        replace p312:=eq_true p312
        replace q312:=eq_true q312
        go_wp2
        repeat (go_quiet (fail); try go_wp2)
        go_ret
        exact ⟨by first|rfl|(simp [errW_none,errW_some] <;> rfl)|(simp only [← hji8]; first|rfl|(simp [errW_none,errW_some] <;> rfl))|(simp [*,errW_none,errW_some] <;> rfl),by repeat (first|(with_reducible first|exact HB.out|apply below_alloc|apply pw_below_drewN|apply below_drew1|refine below_set ?_ GE311.out)|exact HB.out)⟩
       ·rw [if_neg c11] at H
        have c11b0 : ((rd l0_0 (ji8)) == a2) = false:=beq_eq_false_iff_ne.mpr c11
        have c11b1 : ((rd l0_0 (ji8)) != a2) = true:=bne_iff_ne.mpr c11
        have H':=Aside0.mk H
        clear H
        have hcz13_0 : wr.cell? ⟨gb311,0,none⟩ = some (.slice A0_0 l0_0.length c0_0):=(blk_cell BK311.out 0).trans rfl
        have hcz13_1 : wr.cell? ⟨gb311,1,none⟩ = some (.slice A0_1 l0_1.length c0_1):=(blk_cell BK311.out 1).trans rfl
        have hfz13_0:=blk_frozen BK311.out 0
        have hfz13_1:=blk_frozen BK311.out 1
        have p312 : 0 ≤ ((ji8) : Int):=of_decide_eq_true (by first|(with_reducible assumption)|assumption)
        have q312 : (ji8) < (l0_0.length : Int):=of_decide_eq_true (by first|(with_reducible assumption)|assumption)
        obtain ⟨ad312,e312,hx312_0⟩:=Kd.at_int HR0_0.out (ji8) p312 q312
        cases e312
        replace hx312_0:=(HB.out.cell (World.block_lt_of_cell? w _ hx312_0)).trans hx312_0
        replace p312:=eq_true p312
        replace q312:=eq_true q312
        go_wp2
        repeat (go_quiet (fail); try go_wp2)
        go_roundg k1
        case measure => have:=HK1.out; omega
        case rel => exact ⟨(wrap64 (x13_1 + 1)),(by first|rfl|(simp; done)|(simp [*]; done)),H',⟨by have:=HK1.out; omega⟩,⟨by (with_reducible repeat (first|refine blk_drewN ?_ _|refine blk_drew ?_|refine blk_alloc ?_ _)); exact BK311.out⟩,⟨by repeat (first|(with_reducible first|exact HB.out|apply below_alloc|apply pw_below_drewN|apply below_drew1|refine below_set ?_ GE311.out)|exact HB.out)⟩⟩
      ·rw [if_neg c10] at H
       exact absurd H (by simp)
     ·rw [if_neg c9] at H
      exact absurd H (by simp)
   ·rw [if_neg c6] at H
    have c6b0 : decide (x13_1 < (l0_0.length : Int)) = false:=decide_eq_false c6
    clear c6
    obtain rfl:=Option.some.inj H
    go_wp2
    repeat (go_quiet (fail); try go_wp2)
    go_ret
    exact ⟨by first|rfl|(simp [errW_none,errW_some] <;> rfl)|(simp [*,errW_none,errW_some] <;> rfl),by repeat (first|(with_reducible first|exact HB.out|apply below_alloc|apply pw_below_drewN|apply below_drew1|refine below_set ?_ GE311.out)|exact HB.out)⟩

/-! ### spec_l3Next: function 100 -/
def spec_l3Next.l0 : Nat → Int → Int → Int → List Int → List Int → Option (Int)
 | 0,_,_,_,_,_ => none
 | k + 1,x1,x2,x7,x319000,x319001 => if x7 < (x319000.length : Int) then (if (x319000.length : Int) = 0 then (none) else (if 0 ≤ (Int.tmod (wrap64 (x1 + x7)) (x319000.length : Int)) then (if (Int.tmod (wrap64 (x1 + x7)) (x319000.length : Int)) < (x319000.length : Int) then (if (rd x319000 (Int.tmod (wrap64 (x1 + x7)) (x319000.length : Int))) = x2 then (some (Int.tmod (wrap64 (x1 + x7)) (x319000.length : Int))) else (spec_l3Next.l0 k x1 x2 (wrap64 (x7 + 1)) x319000 x319001)) else (none)) else (none))) else (some (-1))
def spec_l3Next.f (k : Nat) (l0_0 : List Int) (l0_1 : List Int) (a1 : Int) (a2 : Int) : Option (Int):=spec_l3Next.l0 k a1 a2 0 l0_0 l0_1
theorem spec_l3Next.mono_l : ∀ k,(∀ y0 y1 y2 y3 y4,LeO (spec_l3Next.l0 k y0 y1 y2 y3 y4) (spec_l3Next.l0 (k + 1) y0 y1 y2 y3 y4))
 | 0 => fun _ _ _ _ _ r h => by simp [spec_l3Next.l0] at h
 | k + 1 => by
  have ih0:=spec_l3Next.mono_l k
  ·intro y0 y1 y2 y3 y4
   unfold spec_l3Next.l0
   repeat' first
   | (with_reducible exact ih0 _ _ _ _ _)
   | (with_reducible exact LeO.refl _)
   | (with_reducible exact LeO.none _)
   | (with_reducible refine LeO.ite ?_ ?_)
   | (with_reducible refine LeO.bind ?_ (fun _ => ?_))
   | exact ih0 _ _ _ _ _
   | exact LeO.none _
   | refine LeO.ite ?_ ?_
   | refine LeO.bind ?_ (fun _ => ?_)
theorem spec_l3Next.mono : ∀ a0 a1 a2 a3 k,LeO (spec_l3Next.f k a0 a1 a2 a3) (spec_l3Next.f (k + 1) a0 a1 a2 a3):=by
 intro a0 a1 a2 a3 k
 have ih0:=spec_l3Next.mono_l k
 unfold spec_l3Next.f
 repeat' first
   | (with_reducible exact ih0 _ _ _ _ _)
   | (with_reducible exact LeO.refl _)
   | (with_reducible exact LeO.none _)
   | (with_reducible refine LeO.ite ?_ ?_)
   | (with_reducible refine LeO.bind ?_ (fun _ => ?_))
   | exact ih0 _ _ _ _ _
   | exact LeO.none _
   | refine LeO.ite ?_ ?_
   | refine LeO.bind ?_ (fun _ => ?_)
set_option maxHeartbeats 8000000 in
set_option maxRecDepth 100000 in
theorem spec_l3Next.calls (k : Nat) (A0_0 : Option Addr) (c0_0 : Nat) (l0_0 : List Int) (A0_1 : Option Addr) (c0_1 : Nat) (l0_1 : List Int) (a1 : Int) (a2 : Int) (r : Int) (w : World) (hr0_0 : Kd.C (Kd.int .i64) w A0_0 l0_0.length l0_0) (hc0_0 : l0_0.length ≤ c0_0) (hr0_1 : Kd.C (Kd.int .i64) w A0_1 l0_1.length l0_1) (hc0_1 : l0_1.length ≤ c0_1) (h : spec_l3Next.f k l0_0 l0_1 a1 a2 = some r) :
  Calls Try.prog 100 #[.agg #[.slice A0_0 l0_0.length c0_0,.slice A0_1 l0_1.length c0_1],.int .i64 a1,.int .i64 a2] w fun e w' => e = .returned (.int .i64 r) ∧ Below w.heap.size w w':=by
 have hu26:=Try.underlying26
 have HR0_0:=Aside0.mk hr0_0
 have HC0_0:=Aside0.mk hc0_0
 clear hr0_0 hc0_0
 have HR0_1:=Aside0.mk hr0_1
 have HC0_1:=Aside0.mk hc0_1
 clear hr0_1 hc0_1
 have HB:=Aside0.mk (Below.refl w.heap.size w)
 have H : (spec_l3Next.l0 k a1 a2 0 l0_0 l0_1) = some r:=h
 clear h
 have H':=Aside0.mk H
 clear H
 go_enter Try.func100,Try.ntmps100
 go_wp2_with (first|((with_reducible refine gate_dst (N:=3) rfl ?_); refine box_event ?hg (N:=3) ?hd (cs:=#[.slice A0_0 l0_0.length c0_0,.slice A0_1 l0_1.length c0_1]) (t:=26) ?hr ?_; (case hd => rfl); (case hg => rfl); (case hr => first|(go_simp; done)|(go_simp; rfl)); intro gb318 hg w4 hbox hb; have n0_:=Aside0.mk (below_step (by repeat (first|(with_reducible first|exact HB.out|apply below_alloc|apply pw_below_drewN|apply below_drew1)|exact HB.out)) hb); have n1_:=Aside0.mk (hbox); have n2_:=Aside0.mk ((by rw [hg]; exact (below_size (by repeat (first|(with_reducible first|exact HB.out|apply below_alloc|apply pw_below_drewN|apply below_drew1)|exact HB.out))) : w.heap.size ≤ gb318)); have n3_:=Aside0.mk ((by rw [hg]; exact (below_size (by repeat (first|(with_reducible first|exact HB.out|apply below_alloc|apply pw_below_drewN|apply below_drew1)|exact HB.out))) : w.heap.size ≤ gb318)); clear HB; have HB:=n0_; have BK318:=n1_; have GW318:=n2_; have GE318:=n3_; clear n0_ n1_ n2_ n3_; clear hb hbox hg))
 go_loopg [7] k (fun kq v7 w' => ∃ (x7_1 : Int),v7 = .int .i64 x7_1 ∧ Aside0 (spec_l3Next.l0 kq a1 a2 x7_1 l0_0 l0_1 = some r) ∧ Aside0 (kq ≤ k) ∧ Aside0 (w'.heap[gb318]? = some (.cells #[(.slice A0_0 l0_0.length c0_0),(.slice A0_1 l0_1.length c0_1)] 26 (0,0))) ∧ Aside0 (Below w.heap.size w w'))
 case atStart => exact ⟨(0),(by first|rfl|(simp; done)|(simp [*]; done)),H',⟨Nat.le_refl _⟩,⟨by (with_reducible repeat (first|refine blk_drewN ?_ _|refine blk_drew ?_|refine blk_alloc ?_ _)); exact BK318.out⟩,⟨by repeat (first|(with_reducible first|exact HB.out|apply below_alloc|apply pw_below_drewN|apply below_drew1|refine below_set ?_ GE318.out)|exact HB.out)⟩⟩
 case round =>
  clear H'
  try clear c1
  try clear p2
  obtain ⟨x7_1,rfl,HA,HK1,BK318,HB⟩:=hrel
  cases gk with
  | zero => exact absurd HA.out (by simp [spec_l3Next.l0])
  | succ k1 =>
   have H:=HA.out
   clear HA
   simp only [spec_l3Next.l0] at H
   by_cases c5 : x7_1 < (l0_0.length : Int)
   ·rw [if_pos c5] at H
    have c5b0 : decide (x7_1 < (l0_0.length : Int)) = true:=decide_eq_true c5
    clear c5
    by_cases c6 : (l0_0.length : Int) = 0
    ·rw [if_pos c6] at H
     exact absurd H (by simp)
    ·rw [if_neg c6] at H
     have c6b0 : ((l0_0.length : Int) == 0) = false:=beq_eq_false_iff_ne.mpr c6
     have c6b1 : ((l0_0.length : Int) != 0) = true:=bne_iff_ne.mpr c6
     have c6b2 : ¬ (l0_0 = []):=fun h_ => c6 (by rw [h_]; rfl)
     obtain ⟨ji7,hji7⟩ : ∃ j_ : Int,(Int.tmod (wrap64 (a1 + x7_1)) (l0_0.length : Int)) = j_:=⟨_,rfl⟩
     replace H : (if 0 ≤ (ji7) then (if (ji7) < (l0_0.length : Int) then (if (rd l0_0 (ji7)) = a2 then (some ji7) else (spec_l3Next.l0 k1 a1 a2 (wrap64 (x7_1 + 1)) l0_0 l0_1)) else (none)) else (none)) = some r:=by first|(rw [hji7] at H; exact H)|(simp only [hji7] at H ⊢; exact H)
     by_cases c8 : 0 ≤ (ji7)
     ·rw [if_pos c8] at H
      have c8b0 : decide (0 ≤ (ji7)) = true:=decide_eq_true c8
      clear c8
      by_cases c9 : (ji7) < (l0_0.length : Int)
      ·rw [if_pos c9] at H
       have c9b0 : decide ((ji7) < (l0_0.length : Int)) = true:=decide_eq_true c9
       clear c9
       by_cases c10 : (rd l0_0 (ji7)) = a2
       ·rw [if_pos c10] at H
        have c10b0 : ((rd l0_0 (ji7)) == a2) = true:=beq_iff_eq.mpr c10
        have c10b1 : ((rd l0_0 (ji7)) != a2) = false:=bne_eq_false_iff_eq.mpr c10
        clear c10
        obtain rfl:=Option.some.inj H
        have hcz11_0 : wr.cell? ⟨gb318,0,none⟩ = some (.slice A0_0 l0_0.length c0_0):=(blk_cell BK318.out 0).trans rfl
        have hcz11_1 : wr.cell? ⟨gb318,1,none⟩ = some (.slice A0_1 l0_1.length c0_1):=(blk_cell BK318.out 1).trans rfl
        have hfz11_0:=blk_frozen BK318.out 0
        have hfz11_1:=blk_frozen BK318.out 1
        have p319 : 0 ≤ ((ji7) : Int):=of_decide_eq_true (by first|(with_reducible assumption)|assumption)
        have q319 : (ji7) < (l0_0.length : Int):=of_decide_eq_true (by first|(with_reducible assumption)|assumption)
        obtain ⟨ad319,e319,hx319_0⟩:=Kd.at_int HR0_0.out (ji7) p319 q319
        cases e319
        replace hx319_0:=(HB.out.cell (World.block_lt_of_cell? w _ hx319_0)).trans hx319_0
        replace p319:=eq_true p319
        replace q319:=eq_true q319
        go_wp2
        go_ret
        exact ⟨by first|rfl|(simp [errW_none,errW_some] <;> rfl)|(simp only [← hji7]; first|rfl|(simp [errW_none,errW_some] <;> rfl))|(simp [*,errW_none,errW_some] <;> rfl),by repeat (first|(with_reducible first|exact HB.out|apply below_alloc|apply pw_below_drewN|apply below_drew1|refine below_set ?_ GE318.out)|exact HB.out)⟩
       ·rw [if_neg c10] at H
        have c10b0 : ((rd l0_0 (ji7)) == a2) = false:=beq_eq_false_iff_ne.mpr c10
        have c10b1 : ((rd l0_0 (ji7)) != a2) = true:=bne_iff_ne.mpr c10
        have H':=Aside0.mk H
        clear H
        have hcz12_0 : wr.cell? ⟨gb318,0,none⟩ = some (.slice A0_0 l0_0.length c0_0):=(blk_cell BK318.out 0).trans rfl
        have hcz12_1 : wr.cell? ⟨gb318,1,none⟩ = some (.slice A0_1 l0_1.length c0_1):=(blk_cell BK318.out 1).trans rfl
        have hfz12_0:=blk_frozen BK318.out 0
        have hfz12_1:=blk_frozen BK318.out 1
        have p319 : 0 ≤ ((ji7) : Int):=of_decide_eq_true (by first|(with_reducible assumption)|assumption)
        have q319 : (ji7) < (l0_0.length : Int):=of_decide_eq_true (by first|(with_reducible assumption)|assumption)
        obtain ⟨ad319,e319,hx319_0⟩:=Kd.at_int HR0_0.out (ji7) p319 q319
        cases e319
        replace hx319_0:=(HB.out.cell (World.block_lt_of_cell? w _ hx319_0)).trans hx319_0
        replace p319:=eq_true p319
        replace q319:=eq_true q319
        go_wp2
        go_roundg k1
        case measure => have:=HK1.out; omega
        case rel => exact ⟨(wrap64 (x7_1 + 1)),(by first|rfl|(simp; done)|(simp [*]; done)),H',⟨by have:=HK1.out; omega⟩,⟨by (with_reducible repeat (first|refine blk_drewN ?_ _|refine blk_drew ?_|refine blk_alloc ?_ _)); exact BK318.out⟩,⟨by repeat (first|(with_reducible first|exact HB.out|apply below_alloc|apply pw_below_drewN|apply below_drew1|refine below_set ?_ GE318.out)|exact HB.out)⟩⟩
      ·rw [if_neg c9] at H
       exact absurd H (by simp)
     ·rw [if_neg c8] at H
      exact absurd H (by simp)
   ·rw [if_neg c5] at H
    have c5b0 : decide (x7_1 < (l0_0.length : Int)) = false:=decide_eq_false c5
    clear c5
    obtain rfl:=Option.some.inj H
    have hcz13_0 : wr.cell? ⟨gb318,0,none⟩ = some (.slice A0_0 l0_0.length c0_0):=(blk_cell BK318.out 0).trans rfl
    have hcz13_1 : wr.cell? ⟨gb318,1,none⟩ = some (.slice A0_1 l0_1.length c0_1):=(blk_cell BK318.out 1).trans rfl
    have hfz13_0:=blk_frozen BK318.out 0
    have hfz13_1:=blk_frozen BK318.out 1
    go_wp2
    go_ret
    exact ⟨by first|rfl|(simp [errW_none,errW_some] <;> rfl)|(simp [*,errW_none,errW_some] <;> rfl),by repeat (first|(with_reducible first|exact HB.out|apply below_alloc|apply pw_below_drewN|apply below_drew1|refine below_set ?_ GE318.out)|exact HB.out)⟩

end Go.Proofs.Ytlldonokjgoajaa.X
