-- Written by a program of ours (wip/bin/xprint.py,over the kit's print.py) out of the translation. Not trusted: Lean checks it.
import Derived.Test.YtlldonokjgoajaaX0
import Derived.Test.YtlldonokjgoajaaGIsValidYard
namespace Go.Proofs.Ytlldonokjgoajaa.X
open Go.RowKit Go.Proofs.YtlldonokjgoajaaW.PrintWords Go.Proofs.YtlldonokjgoajaaW.PrintLast Go.Proofs.YtlldonokjgoajaaW.PrintMore
attribute [local go_sem] max2_int min2_int max_two min_two max_three min_three max_four min_four   -- for this text's walks alone
set_option linter.unusedVariables false
set_option linter.unusedSimpArgs false

/-! ### impl_FreePlaces: function 46 -/
def impl_FreePlaces.l0 : Nat → Int → List (List Int) → Int → Int → Option (Int × Bool)
 | 0,_,_,_,_ => none
 | k + 1,x4,x11,x12,x13 => if x13 < x12 then (if 0 ≤ x13 then (if x13 < (x11.length : Int) then (impl_FreePlaces.l0 k (wrap64 (x4 + (wrap64 (4 - ((rd_L2 x11 x13).length : Int))))) x11 x12 (wrap64 (x13 + 1))) else (none)) else (none)) else (some (x4,true))
def impl_FreePlaces.f (k : Nat) (l0_0 : List (List Int)) : Option (Int × Bool):=(impl_IsValidYard.f l0_0).bind fun t724 => (if t724 = true then (impl_FreePlaces.l0 k 0 l0_0 (l0_0.length : Int) 0) else (some (0,false)))
theorem impl_FreePlaces.mono_l : ∀ k,(∀ y0 y1 y2 y3,LeO (impl_FreePlaces.l0 k y0 y1 y2 y3) (impl_FreePlaces.l0 (k + 1) y0 y1 y2 y3))
 | 0 => fun _ _ _ _ r h => by simp [impl_FreePlaces.l0] at h
 | k + 1 => by
  have ih0:=impl_FreePlaces.mono_l k
  ·intro y0 y1 y2 y3
   unfold impl_FreePlaces.l0
   repeat' first
   | (with_reducible exact ih0 _ _ _ _)
   | (with_reducible exact LeO.refl _)
   | (with_reducible exact LeO.none _)
   | (with_reducible refine LeO.ite ?_ ?_)
   | (with_reducible refine LeO.bind ?_ (fun _ => ?_))
   | exact ih0 _ _ _ _
   | exact LeO.none _
   | refine LeO.ite ?_ ?_
   | refine LeO.bind ?_ (fun _ => ?_)
theorem impl_FreePlaces.mono : ∀ a0 k,LeO (impl_FreePlaces.f k a0) (impl_FreePlaces.f (k + 1) a0):=by
 intro a0 k
 have ih0:=impl_FreePlaces.mono_l k
 unfold impl_FreePlaces.f
 repeat' first
   | (with_reducible exact ih0 _ _ _ _)
   | (with_reducible exact LeO.refl _)
   | (with_reducible exact LeO.none _)
   | (with_reducible refine LeO.ite ?_ ?_)
   | (with_reducible refine LeO.bind ?_ (fun _ => ?_))
   | exact ih0 _ _ _ _
   | exact LeO.none _
   | refine LeO.ite ?_ ?_
   | refine LeO.bind ?_ (fun _ => ?_)
set_option maxHeartbeats 8000000 in
set_option maxRecDepth 100000 in
theorem impl_FreePlaces.calls (k : Nat) (A0_0 : Option Addr) (c0_0 : Nat) (l0_0 : List (List Int)) (r1 : Int) (r2 : Bool) (w : World) (hr0_0 : Kd.C (Kd.slice 3 (Kd.int .i64)) w A0_0 l0_0.length l0_0) (hc0_0 : l0_0.length ≤ c0_0) (h : impl_FreePlaces.f k l0_0 = some (r1,r2)) :
  Calls Try.prog 46 #[.agg #[.slice A0_0 l0_0.length c0_0]] w fun e w' => e = .returned (.tuple #[.int .i64 r1,.bool r2]) ∧ Below w.heap.size w w':=by
 have hu42:=Try.underlying42
 have HR0_0:=Aside0.mk hr0_0
 have HC0_0:=Aside0.mk hc0_0
 clear hr0_0 hc0_0
 have HB:=Aside0.mk (Below.refl w.heap.size w)
 have H : ((impl_IsValidYard.f l0_0).bind fun t724 => (if t724 = true then (impl_FreePlaces.l0 k 0 l0_0 (l0_0.length : Int) 0) else (some (0,false)))) = some (r1,r2):=h
 clear h
 replace H:=Option.bind_eq_some_iff.mp H
 obtain ⟨t724,A20,H⟩:=H
 replace H : (if t724 = true then (impl_FreePlaces.l0 k 0 l0_0 (l0_0.length : Int) 0) else (some (0,false))) = some (r1,r2):=H
 have A2:=Aside0.mk A20
 clear A20
 by_cases c3 : t724 = true
 ·subst c3
  have H1 : (impl_FreePlaces.l0 k 0 l0_0 (l0_0.length : Int) 0) = some (r1,r2):=by rw [if_pos rfl] at H; exact H
  clear H
  have H:=H1
  clear H1
  have H':=Aside0.mk H
  clear H
  go_enter Try.func46,Try.ntmps46
  go_wp2_with (first|((with_reducible refine gate_dst (N:=1) rfl ?_); refine box_event ?hg (N:=1) ?hd (cs:=#[.slice A0_0 l0_0.length c0_0]) (t:=42) ?hr ?_; (case hd => rfl); (case hg => rfl); (case hr => first|(go_simp; done)|(go_simp; rfl)); intro gb723 hg w4 hbox hb; have n0_:=Aside0.mk (below_step (by repeat (first|(with_reducible first|exact HB.out|apply below_alloc|apply pw_below_drewN|apply below_drew1)|exact HB.out)) hb); have n1_:=Aside0.mk (hbox); have n2_:=Aside0.mk ((by rw [hg]; exact (below_size (by repeat (first|(with_reducible first|exact HB.out|apply below_alloc|apply pw_below_drewN|apply below_drew1)|exact HB.out))) : w.heap.size ≤ gb723)); have n3_:=Aside0.mk ((by rw [hg]; exact (below_size (by repeat (first|(with_reducible first|exact HB.out|apply below_alloc|apply pw_below_drewN|apply below_drew1)|exact HB.out))) : w.heap.size ≤ gb723)); clear HB; have HB:=n0_; have BK723:=n1_; have GW723:=n2_; have GE723:=n3_; clear n0_ n1_ n2_ n3_; clear hb hbox hg; have hcz5_0 : w4.cell? ⟨gb723,0,none⟩ = some (.slice A0_0 l0_0.length c0_0):=(blk_cell BK723.out 0).trans rfl; have hfz5_0:=blk_frozen BK723.out 0)|((with_reducible refine gate_callee (f:=40) rfl ?_); refine goesL_ (some 8) rfl rfl Try.func40 (by kernel_rfl) rfl #[.agg #[.slice A0_0 l0_0.length c0_0]] rfl (by (try simp only [List.map_toArray,List.map_cons,List.map_nil]); first|done|rfl|(simp only [List.length_drop,List.length_take]; rfl)) ?_; (with_reducible refine (impl_IsValidYard.calls _ _ l0_0 true _ ?side1 ?side2 A2.out).mono ?_); (case side1 => repeat (first|exact (Kd.C_below HR0_0.out HB.out)|(with_reducible refine Kd.C_alloc ?_ _)|(with_reducible refine Kd.C_drewN ?_ _)|(with_reducible refine Kd.C_drew ?_))); (case side2 => exact HC0_0.out); rintro e w6 ⟨rfl,hb⟩; refine ⟨_,rfl,?_⟩; have n0_:=Aside0.mk (blk_below (g:=gb723) (o:=.cells #[.slice A0_0 l0_0.length c0_0] 42 (0,0)) (by (with_reducible repeat (first|refine blk_drewN ?_ _|refine blk_drew ?_|refine blk_alloc ?_ _)); exact BK723.out) hb); have n1_:=Aside0.mk (below_step (by repeat (first|(with_reducible first|exact HB.out|apply below_alloc|apply pw_below_drewN|apply below_drew1|refine below_set ?_ GE723.out)|exact HB.out)) hb); clear BK723; clear HB; have BK723:=n0_; have HB:=n1_; clear n0_ n1_; (try clear hb); (try clear hb2); (try clear hk); (try clear hi); have hcz7_0 : w6.cell? ⟨gb723,0,none⟩ = some (.slice A0_0 l0_0.length c0_0):=(blk_cell BK723.out 0).trans rfl; have hfz7_0:=blk_frozen BK723.out 0))
  go_loopg [4,13] k (fun kq v4 v13 w' => ∃ (x4_1 : Int) (x13_1 : Int),v4 = .int .i64 x4_1 ∧ v13 = .int .i64 x13_1 ∧ Aside0 (impl_FreePlaces.l0 kq x4_1 l0_0 (l0_0.length : Int) x13_1 = some (r1,r2)) ∧ Aside0 (kq ≤ k) ∧ Aside0 (w'.heap[gb723]? = some (.cells #[(.slice A0_0 l0_0.length c0_0)] 42 (0,0))) ∧ Aside0 (Below w.heap.size w w'))
  case atStart => exact ⟨(0),(0),(by first|rfl|(simp; done)|(simp [*]; done)),(by first|rfl|(simp; done)|(simp [*]; done)),H',⟨Nat.le_refl _⟩,⟨by (with_reducible repeat (first|refine blk_drewN ?_ _|refine blk_drew ?_|refine blk_alloc ?_ _)); exact BK723.out⟩,⟨by repeat (first|(with_reducible first|exact HB.out|apply below_alloc|apply pw_below_drewN|apply below_drew1|refine below_set ?_ GE723.out)|exact HB.out)⟩⟩
  case round =>
   clear H'
   try clear p2
   try clear c3
   try clear c4
   try clear hcz5_0
   try clear hcz7_0
   try clear hfz5_0
   try clear hfz7_0
   obtain ⟨x4_1,x13_1,rfl,rfl,HA,HK1,BK723,HB⟩:=hrel
   cases gk with
   | zero => exact absurd HA.out (by simp [impl_FreePlaces.l0])
   | succ k1 =>
    have H:=HA.out
    clear HA
    simp only [impl_FreePlaces.l0] at H
    by_cases c8 : x13_1 < (l0_0.length : Int)
    ·rw [if_pos c8] at H
     have c8b0 : decide (x13_1 < (l0_0.length : Int)) = true:=decide_eq_true c8
     clear c8
     by_cases c9 : 0 ≤ x13_1
     ·rw [if_pos c9] at H
      have c9b0 : decide (0 ≤ x13_1) = true:=decide_eq_true c9
      clear c9
      by_cases c10 : x13_1 < (l0_0.length : Int)
      ·rw [if_pos c10] at H
       have c10b0 : decide (x13_1 < (l0_0.length : Int)) = true:=decide_eq_true c10
       clear c10
       have H':=Aside0.mk H
       clear H
       have p725 : 0 ≤ (x13_1 : Int):=of_decide_eq_true (by first|(with_reducible assumption)|assumption)
       have q725 : x13_1 < (l0_0.length : Int):=of_decide_eq_true (by first|(with_reducible assumption)|assumption)
       obtain ⟨ad725,A725_0,c725_0,e725,hx725_0,hl725_0,hi725_0⟩:=at_L2 HR0_0.out x13_1 p725 q725
       cases e725
       replace hx725_0:=(HB.out.cell (World.block_lt_of_cell? w _ hx725_0)).trans hx725_0
       have HR725_0:=Aside0.mk hi725_0
       have HC725_0:=Aside0.mk hl725_0
       clear hi725_0 hl725_0
       replace p725:=eq_true p725
       replace q725:=eq_true q725
       go_wp2
       go_roundg k1
       case measure => have:=HK1.out; omega
       case rel => exact ⟨(wrap64 (x4_1 + (wrap64 (4 - ((rd_L2 l0_0 x13_1).length : Int))))),(wrap64 (x13_1 + 1)),(by first|rfl|(simp; done)|(simp [*]; done)),(by first|rfl|(simp; done)|(simp [*]; done)),H',⟨by have:=HK1.out; omega⟩,⟨by (with_reducible repeat (first|refine blk_drewN ?_ _|refine blk_drew ?_|refine blk_alloc ?_ _)); exact BK723.out⟩,⟨by repeat (first|(with_reducible first|exact HB.out|apply below_alloc|apply pw_below_drewN|apply below_drew1|refine below_set ?_ GE723.out)|exact HB.out)⟩⟩
      ·rw [if_neg c10] at H
       exact absurd H (by simp)
     ·rw [if_neg c9] at H
      exact absurd H (by simp)
    ·rw [if_neg c8] at H
     have c8b0 : decide (x13_1 < (l0_0.length : Int)) = false:=decide_eq_false c8
     clear c8
     simp only [Option.some.injEq,Prod.mk.injEq] at H
     obtain ⟨rfl,rfl⟩:=H
     go_wp2
     go_ret2
     exact ⟨by first|rfl|(simp [errW_none,errW_some] <;> rfl)|(simp [*,errW_none,errW_some] <;> rfl),by repeat (first|(with_reducible first|exact HB.out|apply below_alloc|apply pw_below_drewN|apply below_drew1|refine below_set ?_ GE723.out)|exact HB.out)⟩
 ·replace c3:=Bool.eq_false_iff.mpr c3
  subst c3
  have H1 : (some (0,false)) = some (r1,r2):=by rw [if_neg (show ¬ (false = true) by decide)] at H; exact H
  clear H
  have H:=H1
  clear H1
  simp only [Option.some.injEq,Prod.mk.injEq] at H
  obtain ⟨rfl,rfl⟩:=H
  go_enter Try.func46,Try.ntmps46
  go_wp2_with (first|((with_reducible refine gate_dst (N:=1) rfl ?_); refine box_event ?hg (N:=1) ?hd (cs:=#[.slice A0_0 l0_0.length c0_0]) (t:=42) ?hr ?_; (case hd => rfl); (case hg => rfl); (case hr => first|(go_simp; done)|(go_simp; rfl)); intro gb723 hg w11 hbox hb; have n0_:=Aside0.mk (below_step (by repeat (first|(with_reducible first|exact HB.out|apply below_alloc|apply pw_below_drewN|apply below_drew1)|exact HB.out)) hb); have n1_:=Aside0.mk (hbox); have n2_:=Aside0.mk ((by rw [hg]; exact (below_size (by repeat (first|(with_reducible first|exact HB.out|apply below_alloc|apply pw_below_drewN|apply below_drew1)|exact HB.out))) : w.heap.size ≤ gb723)); have n3_:=Aside0.mk ((by rw [hg]; exact (below_size (by repeat (first|(with_reducible first|exact HB.out|apply below_alloc|apply pw_below_drewN|apply below_drew1)|exact HB.out))) : w.heap.size ≤ gb723)); clear HB; have HB:=n0_; have BK723:=n1_; have GW723:=n2_; have GE723:=n3_; clear n0_ n1_ n2_ n3_; clear hb hbox hg; have hcz12_0 : w11.cell? ⟨gb723,0,none⟩ = some (.slice A0_0 l0_0.length c0_0):=(blk_cell BK723.out 0).trans rfl; have hfz12_0:=blk_frozen BK723.out 0)|((with_reducible refine gate_callee (f:=40) rfl ?_); refine goesL_ (some 8) rfl rfl Try.func40 (by kernel_rfl) rfl #[.agg #[.slice A0_0 l0_0.length c0_0]] rfl (by (try simp only [List.map_toArray,List.map_cons,List.map_nil]); first|done|rfl|(simp only [List.length_drop,List.length_take]; rfl)) ?_; (with_reducible refine (impl_IsValidYard.calls _ _ l0_0 false _ ?side1 ?side2 A2.out).mono ?_); (case side1 => repeat (first|exact (Kd.C_below HR0_0.out HB.out)|(with_reducible refine Kd.C_alloc ?_ _)|(with_reducible refine Kd.C_drewN ?_ _)|(with_reducible refine Kd.C_drew ?_))); (case side2 => exact HC0_0.out); rintro e w13 ⟨rfl,hb⟩; refine ⟨_,rfl,?_⟩; have n0_:=Aside0.mk (blk_below (g:=gb723) (o:=.cells #[.slice A0_0 l0_0.length c0_0] 42 (0,0)) (by (with_reducible repeat (first|refine blk_drewN ?_ _|refine blk_drew ?_|refine blk_alloc ?_ _)); exact BK723.out) hb); have n1_:=Aside0.mk (below_step (by repeat (first|(with_reducible first|exact HB.out|apply below_alloc|apply pw_below_drewN|apply below_drew1|refine below_set ?_ GE723.out)|exact HB.out)) hb); clear BK723; clear HB; have BK723:=n0_; have HB:=n1_; clear n0_ n1_; (try clear hb); (try clear hb2); (try clear hk); (try clear hi)))
  go_ret2
  exact ⟨by first|rfl|(simp [errW_none,errW_some] <;> rfl)|(simp [*,errW_none,errW_some] <;> rfl),by repeat (first|(with_reducible first|exact HB.out|apply below_alloc|apply pw_below_drewN|apply below_drew1|refine below_set ?_ GE723.out)|exact HB.out)⟩

end Go.Proofs.Ytlldonokjgoajaa.X
