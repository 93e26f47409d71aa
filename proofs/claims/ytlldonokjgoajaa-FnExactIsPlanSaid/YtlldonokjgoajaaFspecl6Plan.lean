-- Written by a program of ours (wip/bin/xprint.py,over the kit's print.py) out of the translation. Not trusted: Lean checks it.
import Derived.Test.YtlldonokjgoajaaX0
import Derived.Test.YtlldonokjgoajaaFbYard
import Derived.Test.YtlldonokjgoajaaGl6Step
namespace Go.Proofs.Ytlldonokjgoajaa.X
open Go.RowKit Go.Proofs.YtlldonokjgoajaaW.PrintWords Go.Proofs.YtlldonokjgoajaaW.PrintLast Go.Proofs.YtlldonokjgoajaaW.PrintMore
def lba29 : Nat → Nat → List Bool
 | 0,_ => []
 | n+1,m => (m%2==1) :: lba29 n (m/2)
def ba29 (n m : Nat) : Array Bool := ⟨lba29 n m⟩
attribute [local go_sem] max2_int min2_int max_two min_two max_three min_three max_four min_four   -- for this text's walks alone
set_option linter.unusedVariables false
set_option linter.unusedSimpArgs false

/-! ### spec_l6Plan: function 124 -/
mutual
def spec_l6Plan.l0 : Nat → List Int → List (S138) → Int → Int → List (List Int) → Option (Bool)
 | 0,_,_,_,_,_ => none
 | k + 1,x1,x2,x7,x8,x816000 => if x8 < (x2.length : Int) then (if x7 = (x1.length : Int) then (some false) else (if 0 ≤ x7 then (if x7 < (x1.length : Int) then ((spec_l5Find.f k x816000 (rd x1 x7)).bind fun bt817 => (if 0 ≤ x8 then ((spec_l5Find.f k x816000 ((rd_T138 x2 x8).f0)).bind fun bt820 => ((spec_l6Step.f k x816000 ((rd_T138 x2 x8).f0) ((rd_T138 x2 x8).f1)).bind fun bt823 => (if bt823.2 = true then (if bt820.1 = bt817.1 then (if ((rd_T138 x2 x8).f1) = (-1) then (spec_l6Plan.j1 k x1 x2 x7 x8 (((rd_T138 x2 x8).f0) != (rd x1 x7)) bt823.1) else (spec_l6Plan.j1 k x1 x2 x7 x8 false bt823.1)) else (spec_l6Plan.j1 k x1 x2 x7 x8 true bt823.1)) else (spec_l6Plan.j1 k x1 x2 x7 x8 true bt823.1)))) else (none))) else (none)) else (none))) else (some (x7 == (x1.length : Int)))
def spec_l6Plan.j1 : Nat → List Int → List (S138) → Int → Int → Bool → List (List Int) → Option (Bool)
 | 0,_,_,_,_,_,_ => none
 | k + 1,x1,x2,x7,x8,x79,x828000 => if x79 = true then (some false) else (if 0 ≤ x8 then (if x8 < (x2.length : Int) then (if ((rd_T138 x2 x8).f1) = (-1) then (spec_l6Plan.l0 k x1 x2 (wrap64 (x7 + 1)) (wrap64 (x8 + 1)) x828000) else (spec_l6Plan.l0 k x1 x2 x7 (wrap64 (x8 + 1)) x828000)) else (none)) else (none))
end
def spec_l6Plan.f (k : Nat) (l0_0 : List (List Int)) (l1 : List Int) (l2 : List (S138)) : Option (Bool):=spec_l6Plan.l0 k l1 l2 0 0 l0_0
theorem spec_l6Plan.mono_l : ∀ k,(∀ y0 y1 y2 y3 y4,LeO (spec_l6Plan.l0 k y0 y1 y2 y3 y4) (spec_l6Plan.l0 (k + 1) y0 y1 y2 y3 y4)) ∧ (∀ y0 y1 y2 y3 y4 y5,LeO (spec_l6Plan.j1 k y0 y1 y2 y3 y4 y5) (spec_l6Plan.j1 (k + 1) y0 y1 y2 y3 y4 y5))
 | 0 => ⟨fun _ _ _ _ _ r h => by simp [spec_l6Plan.l0] at h,fun _ _ _ _ _ _ r h => by simp [spec_l6Plan.j1] at h⟩
 | k + 1 => by
  obtain ⟨ih0,ih1⟩:=spec_l6Plan.mono_l k
  refine ⟨?_,?_⟩
  ·intro y0 y1 y2 y3 y4
   unfold spec_l6Plan.l0
   repeat' first
   | (with_reducible exact ih0 _ _ _ _ _)
   | (with_reducible exact ih1 _ _ _ _ _ _)
   | (with_reducible exact spec_l5Find.mono _ _ _)
   | (with_reducible exact spec_l6Step.mono _ _ _ _)
   | (with_reducible exact LeO.refl _)
   | (with_reducible exact LeO.none _)
   | (with_reducible refine LeO.ite ?_ ?_)
   | (with_reducible refine LeO.bind ?_ (fun _ => ?_))
   | exact ih0 _ _ _ _ _
   | exact ih1 _ _ _ _ _ _
   | exact spec_l5Find.mono _ _ _
   | exact spec_l6Step.mono _ _ _ _
   | exact LeO.none _
   | refine LeO.ite ?_ ?_
   | refine LeO.bind ?_ (fun _ => ?_)
  ·intro y0 y1 y2 y3 y4 y5
   unfold spec_l6Plan.j1
   repeat' first
   | (with_reducible exact ih0 _ _ _ _ _)
   | (with_reducible exact ih1 _ _ _ _ _ _)
   | (with_reducible exact spec_l5Find.mono _ _ _)
   | (with_reducible exact spec_l6Step.mono _ _ _ _)
   | (with_reducible exact LeO.refl _)
   | (with_reducible exact LeO.none _)
   | (with_reducible refine LeO.ite ?_ ?_)
   | (with_reducible refine LeO.bind ?_ (fun _ => ?_))
   | exact ih0 _ _ _ _ _
   | exact ih1 _ _ _ _ _ _
   | exact spec_l5Find.mono _ _ _
   | exact spec_l6Step.mono _ _ _ _
   | exact LeO.none _
   | refine LeO.ite ?_ ?_
   | refine LeO.bind ?_ (fun _ => ?_)
theorem spec_l6Plan.mono : ∀ a0 a1 a2 k,LeO (spec_l6Plan.f k a0 a1 a2) (spec_l6Plan.f (k + 1) a0 a1 a2):=by
 intro a0 a1 a2 k
 obtain ⟨ih0,ih1⟩:=spec_l6Plan.mono_l k
 unfold spec_l6Plan.f
 repeat' first
   | (with_reducible exact ih0 _ _ _ _ _)
   | (with_reducible exact ih1 _ _ _ _ _ _)
   | (with_reducible exact spec_l5Find.mono _ _ _)
   | (with_reducible exact spec_l6Step.mono _ _ _ _)
   | (with_reducible exact LeO.refl _)
   | (with_reducible exact LeO.none _)
   | (with_reducible refine LeO.ite ?_ ?_)
   | (with_reducible refine LeO.bind ?_ (fun _ => ?_))
   | exact ih0 _ _ _ _ _
   | exact ih1 _ _ _ _ _ _
   | exact spec_l5Find.mono _ _ _
   | exact spec_l6Step.mono _ _ _ _
   | exact LeO.none _
   | refine LeO.ite ?_ ?_
   | refine LeO.bind ?_ (fun _ => ?_)
def spec_l6Plan.T7 : Bool × List (List Nat × List Nat):=(true,[([],[]),([],[]),([],[]),([1,2],[1,2]),([3],[3]),([0,4],[0,4]),([5],[5]),([6],[6]),([6],[6]),([7,5,0,1,2,3,4,5,6,7],[7]),([8,9,0,1,2,3,4,5,6,7,8,9],[8])])
def spec_l6Plan.B7 : List Nat:=[0,0,0,6,14,31,63,127,127,255,1023]
theorem spec_l6Plan.tab7 : rtab .any (opsOf Try.f124 7) = spec_l6Plan.T7:=by kernel_rfl
theorem spec_l6Plan.bits7 : waitsOk spec_l6Plan.T7.2 spec_l6Plan.B7 = true:=by kernel_rfl
def spec_l6Plan.T8 : Bool × List (List Nat × List Nat):=(true,[([],[]),([],[]),([],[]),([1,2],[1,2]),([3],[3]),([4],[4]),([0,5],[0,5]),([6],[6]),([7],[7]),([7],[7]),([8,6,0,1,2,3,4,5,6,7,8],[8]),([9,10,0,1,2,3,4,5,6,7,8,9,10],[9])])
def spec_l6Plan.B8 : List Nat:=[0,0,0,6,14,30,63,127,255,255,511,2047]
theorem spec_l6Plan.tab8 : rtab .any (opsOf Try.f124 8) = spec_l6Plan.T8:=by kernel_rfl
theorem spec_l6Plan.bits8 : waitsOk spec_l6Plan.T8.2 spec_l6Plan.B8 = true:=by kernel_rfl
def spec_l6Plan.T9 : Bool × List (List Nat × List Nat):=(true,[([],[]),([],[]),([],[]),([1,2],[1,2]),([3],[3]),([0,4],[0,4]),([5],[5]),([6],[6]),([6],[6]),([],[]),([9,7,5,0,1,2,3,4,5,6,7,9],[7,9]),([8,10,0,1,2,3,4,5,6,7,8,9,10],[8])])
def spec_l6Plan.B9 : List Nat:=[0,0,0,6,14,31,63,127,127,0,767,2047]
theorem spec_l6Plan.tab9 : rtab .any (opsOf Try.f124 9) = spec_l6Plan.T9:=by kernel_rfl
theorem spec_l6Plan.bits9 : waitsOk spec_l6Plan.T9.2 spec_l6Plan.B9 = true:=by kernel_rfl
def spec_l6Plan.T10 : Bool × List (List Nat × List Nat):=(true,[([],[]),([0],[0]),([1],[1]),([2],[2]),([2],[2]),([3,4,2],[2,3,4]),([2,5],[2,5]),([6,2],[6]),([7],[7]),([7],[7]),([8,9,7],[7,8,9]),([10,7],[7,10]),([11,7],[7,11]),([12,7],[7,12]),([13,7,7],[7,13]),([14],[14]),([14],[14]),([15,16,14],[14,15,16]),([17,14],[14,17]),([18,14],[14,18]),([14],[14]),([14],[14]),([20,21,14],[14,20,21]),([22,14],[14,22]),([19,23,14],[14,19,23]),([14,24,7],[7,14,24]),([7,25],[7,25])])
def spec_l6Plan.B10 : List Nat:=[0,1,3,7,7,31,63,127,255,255,1023,2047,4095,8191,16383,32767,32767,131071,262143,524287,32767,32767,3178495,7372799,16777215,33554431,67108863]
theorem spec_l6Plan.tab10 : rtab .any (opsOf Try.f124 10) = spec_l6Plan.T10:=by kernel_rfl
theorem spec_l6Plan.bits10 : waitsOk spec_l6Plan.T10.2 spec_l6Plan.B10 = true:=by kernel_rfl
set_option maxHeartbeats 8000000 in
set_option maxRecDepth 100000 in
theorem spec_l6Plan.calls (k : Nat) (P0_0_ : Nat → Prop) (A0_0 : Option Addr) (c0_0 : Nat) (l0_0 : List (List Int)) (A1 : Option Addr) (c1 : Nat) (l1 : List Int) (A2 : Option Addr) (c2 : Nat) (l2 : List (S138)) (r : Bool) (w : World) (hs0_0 : Kd.V (Kd.slice 3 (Kd.int .i64)) 24 w w.heap.size (fun k_ => P0_0_ k_) (.slice A0_0 l0_0.length c0_0) l0_0) (hr1 : Kd.C (Kd.int .i64) w A1 l1.length l1) (hc1 : l1.length ≤ c1) (hr2 : Kd.C k138 w A2 l2.length l2) (hc2 : l2.length ≤ c2) (h : spec_l6Plan.f k l0_0 l1 l2 = some r) :
  Calls Try.prog 124 #[.agg #[.slice A0_0 l0_0.length c0_0],.slice A1 l1.length c1,.slice A2 l2.length c2] w fun e w' => e = .returned (.bool r) ∧ Below w.heap.size w w':=by
 have hu42:=Try.underlying42
 have hu138:=Try.underlying138
 have HO0_0:=Aside0.mk (show Kd.V (Kd.slice 3 (Kd.int .i64)) 24 w w.heap.size (fun k_ => (P0_0_ k_ ∨ w.heap.size ≤ k_)) (.slice A0_0 l0_0.length c0_0) l0_0 from Kd.V_mono hs0_0 (fun k_ hk => .inl hk))
 have HR1:=Aside0.mk hr1
 have HC1:=Aside0.mk hc1
 clear hr1 hc1
 have HR2:=Aside0.mk hr2
 have HC2:=Aside0.mk hc2
 clear hr2 hc2
 have HB:=Aside0.mk (Below.refl w.heap.size w)
 have H : (spec_l6Plan.l0 k l1 l2 0 0 l0_0) = some r:=h
 clear h
 have H':=Aside0.mk H
 clear H
 go_enter Try.func124,Try.ntmps124
 go_wp2_with (first|((with_reducible refine gate_dst (N:=3) rfl ?_); refine box_event ?hg (N:=3) ?hd (cs:=#[.slice A0_0 l0_0.length c0_0]) (t:=42) ?hr ?_; (case hd => rfl); (case hg => rfl); (case hr => first|(go_simp; done)|(go_simp; rfl)); intro gb815 hg w4 hbox hb; have n0_:=Aside0.mk (Kd.V_below (Kd.V_elderB (by (with_reducible repeat (first|apply Kd.V_alloc|apply Kd.V_drewN|apply Kd.V_drew)); exact HO0_0.out) gb815 (Nat.le_of_eq hg.symm)) hb); have n1_:=Aside0.mk (below_step (by repeat (first|(with_reducible first|exact HB.out|apply below_alloc|apply pw_below_drewN|apply below_drew1)|exact HB.out)) hb); have n2_:=Aside0.mk (hbox); have n3_:=Aside0.mk ((by rw [hg]; exact (below_size (by repeat (first|(with_reducible first|exact HB.out|apply below_alloc|apply pw_below_drewN|apply below_drew1)|exact HB.out))) : w.heap.size ≤ gb815)); have n4_:=Aside0.mk ((by rw [hg]; exact (below_size (by repeat (first|(with_reducible first|exact HB.out|apply below_alloc|apply pw_below_drewN|apply below_drew1)|exact HB.out))) : w.heap.size ≤ gb815)); clear HO0_0; clear HB; have HO0_0:=n0_; have HB:=n1_; have BK815:=n2_; have GW815:=n3_; have GE815:=n4_; clear n0_ n1_ n2_ n3_ n4_; clear hb hbox hg))
 go_loopg [7,8] k (fun kq v7 v8 w' => ∃ (x7_1 : Int) (x8_1 : Int) (x816000_1 : List (List Int)) (u816000 : Value),v7 = .int .i64 x7_1 ∧ v8 = .int .i64 x8_1 ∧ Aside0 (spec_l6Plan.l0 kq l1 l2 x7_1 x8_1 x816000_1 = some r) ∧ Aside0 (kq ≤ k) ∧ Aside0 (Kd.V (Kd.slice 3 (Kd.int .i64)) 24 w' w.heap.size (fun k_ => (P0_0_ k_ ∨ w.heap.size ≤ k_) ∧ k_ ≠ gb815) u816000 x816000_1) ∧ Aside0 (w'.heap[gb815]? = some (.cells #[u816000] 42 (0,0))) ∧ Aside0 (Below w.heap.size w w'))
 case atStart => exact ⟨(0),(0),(l0_0),(.slice A0_0 l0_0.length c0_0),(by first|rfl|(simp; done)|(simp [*]; done)),(by first|rfl|(simp; done)|(simp [*]; done)),H',⟨Nat.le_refl _⟩,⟨by (with_reducible repeat (first|apply Kd.V_alloc|apply Kd.V_drewN|apply Kd.V_drew)); exact HO0_0.out⟩,⟨by (with_reducible repeat (first|refine blk_drewN ?_ _|refine blk_drew ?_|refine blk_alloc ?_ _)); exact BK815.out⟩,⟨by repeat (first|(with_reducible first|exact HB.out|apply below_alloc|apply pw_below_drewN|apply below_drew1|refine below_set ?_ GE815.out)|exact HB.out)⟩⟩
 case round =>
  clear H'
  try clear c1
  try clear c2
  try clear p2
  obtain ⟨x7_1,x8_1,x816000_1,u816000,rfl,rfl,HA,HK1,HO_816000,BK815,HB⟩:=hrel
  cases gk with
  | zero => exact absurd HA.out (by simp [spec_l6Plan.l0])
  | succ k1 =>
   have H:=HA.out
   clear HA
   simp only [spec_l6Plan.l0] at H
   by_cases c5 : x8_1 < (l2.length : Int)
   ·rw [if_pos c5] at H
    have c5b0 : decide (x8_1 < (l2.length : Int)) = true:=decide_eq_true c5
    clear c5
    by_cases c6 : x7_1 = (l1.length : Int)
    ·rw [if_pos c6] at H
     have c6b0 : (x7_1 == (l1.length : Int)) = true:=beq_iff_eq.mpr c6
     have c6b1 : (x7_1 != (l1.length : Int)) = false:=bne_eq_false_iff_eq.mpr c6
     clear c6
     obtain rfl:=Option.some.inj H
     go_wp2
     go_ret
     exact ⟨by first|rfl|(simp [errW_none,errW_some] <;> rfl)|(simp [*,errW_none,errW_some] <;> rfl),by repeat (first|(with_reducible first|exact HB.out|apply below_alloc|apply pw_below_drewN|apply below_drew1|refine below_set ?_ GE815.out)|exact HB.out)⟩
    ·rw [if_neg c6] at H
     have c6b0 : (x7_1 == (l1.length : Int)) = false:=beq_eq_false_iff_ne.mpr c6
     have c6b1 : (x7_1 != (l1.length : Int)) = true:=bne_iff_ne.mpr c6
     by_cases c7 : 0 ≤ x7_1
     ·rw [if_pos c7] at H
      have c7b0 : decide (0 ≤ x7_1) = true:=decide_eq_true c7
      clear c7
      by_cases c8 : x7_1 < (l1.length : Int)
      ·rw [if_pos c8] at H
       have c8b0 : decide (x7_1 < (l1.length : Int)) = true:=decide_eq_true c8
       clear c8
       replace H:=Option.bind_eq_some_iff.mp H
       obtain ⟨⟨t817,t818⟩,A90,H⟩:=H
       replace H : (if 0 ≤ x8_1 then ((spec_l5Find.f k1 x816000_1 ((rd_T138 l2 x8_1).f0)).bind fun bt820 => ((spec_l6Step.f k1 x816000_1 ((rd_T138 l2 x8_1).f0) ((rd_T138 l2 x8_1).f1)).bind fun bt823 => (if bt823.2 = true then (if bt820.1 = t817 then (if ((rd_T138 l2 x8_1).f1) = (-1) then (spec_l6Plan.j1 k1 l1 l2 x7_1 x8_1 (((rd_T138 l2 x8_1).f0) != (rd l1 x7_1)) bt823.1) else (spec_l6Plan.j1 k1 l1 l2 x7_1 x8_1 false bt823.1)) else (spec_l6Plan.j1 k1 l1 l2 x7_1 x8_1 true bt823.1)) else (spec_l6Plan.j1 k1 l1 l2 x7_1 x8_1 true bt823.1)))) else (none)) = some r:=H
       have A9:=Aside0.mk A90
       clear A90
       by_cases c10 : 0 ≤ x8_1
       ·rw [if_pos c10] at H
        have c10b0 : decide (0 ≤ x8_1) = true:=decide_eq_true c10
        clear c10
        replace H:=Option.bind_eq_some_iff.mp H
        obtain ⟨⟨t820,t821⟩,A110,H⟩:=H
        replace H : ((spec_l6Step.f k1 x816000_1 ((rd_T138 l2 x8_1).f0) ((rd_T138 l2 x8_1).f1)).bind fun bt823 => (if bt823.2 = true then (if t820 = t817 then (if ((rd_T138 l2 x8_1).f1) = (-1) then (spec_l6Plan.j1 k1 l1 l2 x7_1 x8_1 (((rd_T138 l2 x8_1).f0) != (rd l1 x7_1)) bt823.1) else (spec_l6Plan.j1 k1 l1 l2 x7_1 x8_1 false bt823.1)) else (spec_l6Plan.j1 k1 l1 l2 x7_1 x8_1 true bt823.1)) else (spec_l6Plan.j1 k1 l1 l2 x7_1 x8_1 true bt823.1))) = some r:=H
        have A11:=Aside0.mk A110
        clear A110
        replace H:=Option.bind_eq_some_iff.mp H
        obtain ⟨⟨t823,t826⟩,A120,H⟩:=H
        replace H : (if t826 = true then (if t820 = t817 then (if ((rd_T138 l2 x8_1).f1) = (-1) then (spec_l6Plan.j1 k1 l1 l2 x7_1 x8_1 (((rd_T138 l2 x8_1).f0) != (rd l1 x7_1)) t823) else (spec_l6Plan.j1 k1 l1 l2 x7_1 x8_1 false t823)) else (spec_l6Plan.j1 k1 l1 l2 x7_1 x8_1 true t823)) else (spec_l6Plan.j1 k1 l1 l2 x7_1 x8_1 true t823)) = some r:=H
        have A12:=Aside0.mk A120
        clear A120
        have HC13:=Aside0.mk H
        clear H
        try go_wp2
        have n0_:=Aside0.mk (Kd.V_drew HO_816000.out)
        have n1_:=Aside0.mk (blk_drew BK815.out)
        have n2_:=Aside0.mk (below_drew1 HB.out)
        clear HO_816000
        clear BK815
        clear HB
        have HO_816000:=n0_
        have BK815:=n1_
        have HB:=n2_
        clear n0_ n1_ n2_
        have p816 : 0 ≤ (x7_1 : Int):=of_decide_eq_true (by first|(with_reducible assumption)|assumption)
        have q816 : x7_1 < (l1.length : Int):=of_decide_eq_true (by first|(with_reducible assumption)|assumption)
        obtain ⟨ad816,e816,hx816_0⟩:=Kd.at_int HR1.out x7_1 p816 q816
        have hw816_0:=hx816_0
        cases e816
        replace hx816_0:=(HB.out.cell (World.block_lt_of_cell? w _ hx816_0)).trans hx816_0
        replace p816:=eq_true p816
        replace q816:=eq_true q816
        obtain ⟨Ao15,co15,eo15⟩:=Kd.V_slice HO_816000.out
        (first|subst eo15|(injection eo15 with f1_ f2_ f3_; have f4_:=f1_.symm; have f5_:=f3_.symm; clear f1_ f2_ f3_; subst f4_; subst f5_))
        refine start_ (n:=11) (S:=fun w' => w'.cell? ⟨gb815,0,none⟩ = some (.slice Ao15 x816000_1.length co15) ∧ w'.cell? (ad816.add (x7_1).toNat) = some (.int .i64 (rd l1 x7_1))) (ds:=[]) (ba29 11 0) (by kernel_rfl) rfl rfl ⟨(blk_cell BK815.out 0).trans rfl,((HB.out.cell (World.block_lt_of_cell? w _ hw816_0)).trans hw816_0)⟩ (fun hHeld => ?_); refine with_tabW spec_l6Plan.tab7 spec_l6Plan.bits7 (fun HT_ HW_ => ?_)
        generalize wr.drew = w14 at HO_816000 BK815 HB hx816_0 hHeld ⊢
        refine pure_ (i:=1) (N:=some 27) (v:=?_) (a':=?_) (ba29 11 2) rfl rfl (any_of HT_.out (by kernel_rfl)) (fun _ _ _ h => h) (Or.inl ⟨by rfl,?_⟩) ?_ ?_
        rotate_left
        ·intro w'
         go_simp
         with_reducible rfl
        rotate_left
        ·simp only [Act.put,List.setIfInBounds_toArray,List.set_cons_zero,List.set_cons_succ,i64_w,i32_w]
         rfl
        refine pure_ (i:=2) (N:=some 28) (v:=?_) (a':=?_) (ba29 11 6) rfl rfl (any_of HT_.out (by kernel_rfl)) (fun _ _ _ h => h) (Or.inl ⟨by rfl,?_⟩) ?_ ?_
        rotate_left
        ·intro w'
         go_simp
         with_reducible rfl
        rotate_left
        ·simp only [Act.put,List.setIfInBounds_toArray,List.set_cons_zero,List.set_cons_succ,i64_w,i32_w]
         rfl
        refine pure_ (i:=3) (N:=some 29) (v:=?_) (a':=?_) (ba29 11 14) rfl rfl (any_of HT_.out (by kernel_rfl)) (fun _ _ _ h => h) (Or.inl ⟨by rfl,?_⟩) ?_ ?_
        rotate_left
        ·intro w'
         go_simp
         with_reducible rfl
        rotate_left
        ·simp only [Act.put,List.setIfInBounds_toArray,List.set_cons_zero,List.set_cons_succ,i64_w,i32_w]
         rfl
        refine take_ (i:=0) (N:=some 26) (v:=?_) (a':=?_) (ba29 11 15) rfl rfl (take_ofW HT_.out HW_.out (by kernel_rfl)) (fun _ _ _ h => h) (Or.inl ⟨by rfl,?_⟩) hHeld ?_ ?_
        rotate_left
        ·rintro w' ⟨s0,s1⟩
         go_simp
         with_reducible rfl
        rotate_left
        ·simp only [Act.put,List.setIfInBounds_toArray,List.set_cons_zero,List.set_cons_succ,i64_w,i32_w]
         rfl
        refine take_ (i:=4) (N:=some 30) (v:=?_) (a':=?_) (ba29 11 31) rfl rfl (take_ofW HT_.out HW_.out (by kernel_rfl)) (fun _ _ _ h => h) (Or.inl ⟨by rfl,?_⟩) hHeld ?_ ?_
        rotate_left
        ·rintro w' ⟨s0,s1⟩
         go_simp
         with_reducible rfl
        rotate_left
        ·simp only [Act.put,List.setIfInBounds_toArray,List.set_cons_zero,List.set_cons_succ,i64_w,i32_w]
         rfl
        refine one_ (i:=5) (N:=some 31) (ba29 11 63) rfl rfl (one_of HT_.out (by kernel_rfl)) (by decide) (fun K hK => ?_)
        refine goes_ Try.func142 (by kernel_rfl) rfl #[.agg #[.slice Ao15 x816000_1.length co15],.int .i64 (rd l1 x7_1)] (by rfl) rfl rfl (by (try simp only [List.map_toArray,List.map_cons,List.map_nil]); first|done|rfl|(simp only [List.length_drop,List.length_take]; rfl)) ?_
        with_reducible refine (spec_l5Find.calls k1 _ _ x816000_1 (rd l1 x7_1) t817 t818 _ ?side1 ?side2 A9.out).mono ?_
        (case side1 => repeat (first|exact (Kd.V_reads' HO_816000.out).2.2|(with_reducible refine Kd.C_alloc ?_ _)|(with_reducible refine Kd.C_drewN ?_ _)|(with_reducible refine Kd.C_drew ?_)))
        (case side2 => exact (Kd.V_reads' HO_816000.out).2.1)
        rintro e w16 ⟨rfl,hb⟩
        refine ⟨_,rfl,?_⟩
        have n0_:=Aside0.mk (Kd.V_below (by (with_reducible repeat (first|apply Kd.V_alloc|apply Kd.V_drewN|apply Kd.V_drew)); exact HO_816000.out) hb)
        have n1_:=Aside0.mk (blk_below (g:=gb815) (o:=.cells #[.slice Ao15 x816000_1.length co15] 42 (0,0)) (by (with_reducible repeat (first|refine blk_drewN ?_ _|refine blk_drew ?_|refine blk_alloc ?_ _)); exact BK815.out) hb)
        have n2_:=Aside0.mk (below_step (by repeat (first|(with_reducible first|exact HB.out|apply below_alloc|apply pw_below_drewN|apply below_drew1|refine below_set ?_ GE815.out)|exact HB.out)) hb)
        clear HO_816000
        clear BK815
        clear HB
        have HO_816000:=n0_
        have BK815:=n1_
        have HB:=n2_
        clear n0_ n1_ n2_
        (try clear hb)
        (try clear hb2)
        (try clear hk)
        (try clear hi)
        refine hK.out _ _ ⟨(blk_cell BK815.out 0).trans rfl,((HB.out.cell (World.block_lt_of_cell? w _ hw816_0)).trans hw816_0)⟩ (fun hHeld => ?_)
        clear hK K
        refine norm_ (a':=?_) ?_ ?_
        rotate_left
        ·show Act.put _ (some 31) _ = _
         simp only [Act.put,List.setIfInBounds_toArray,List.set_cons_zero,List.set_cons_succ,i64_w,i32_w]
         rfl
        refine pure_ (i:=6) (N:=some 25) (v:=?_) (a':=?_) (ba29 11 127) rfl rfl (any_of HT_.out (by kernel_rfl)) (fun _ _ _ h => h) (Or.inl ⟨by rfl,?_⟩) ?_ ?_
        rotate_left
        ·intro w'
         go_simp
         with_reducible rfl
        rotate_left
        ·simp only [Act.put,List.setIfInBounds_toArray,List.set_cons_zero,List.set_cons_succ,i64_w,i32_w]
         rfl
        refine pure_ (i:=7) (N:=some 32) (v:=?_) (a':=?_) (ba29 11 255) rfl rfl (any_of HT_.out (by kernel_rfl)) (fun _ _ _ h => h) (Or.inl ⟨by rfl,?_⟩) ?_ ?_
        rotate_left
        ·intro w'
         go_simp
         with_reducible rfl
        rotate_left
        ·simp only [Act.put,List.setIfInBounds_toArray,List.set_cons_zero,List.set_cons_succ,i64_w,i32_w]
         rfl
        refine pure_ (i:=8) (N:=some 33) (v:=?_) (a':=?_) (ba29 11 511) rfl rfl (any_of HT_.out (by kernel_rfl)) (fun _ _ _ h => h) (Or.inl ⟨by rfl,?_⟩) ?_ ?_
        rotate_left
        ·intro w'
         go_simp
         with_reducible rfl
        rotate_left
        ·simp only [Act.put,List.setIfInBounds_toArray,List.set_cons_zero,List.set_cons_succ,i64_w,i32_w]
         rfl
        refine pure_ (i:=9) (N:=some 9) (v:=?_) (a':=?_) (ba29 11 1023) rfl rfl (any_of HT_.out (by kernel_rfl)) (fun _ _ _ h => h) (Or.inl ⟨by rfl,?_⟩) ?_ ?_
        rotate_left
        ·intro w'
         go_simp
         with_reducible rfl
        rotate_left
        ·simp only [Act.put,List.setIfInBounds_toArray,List.set_cons_zero,List.set_cons_succ,i64_w,i32_w]
         rfl
        refine pure_ (i:=10) (N:=some 10) (v:=?_) (a':=?_) (ba29 11 2047) rfl rfl (any_of HT_.out (by kernel_rfl)) (fun _ _ _ h => h) (Or.inl ⟨by rfl,?_⟩) ?_ ?_
        rotate_left
        ·intro w'
         go_simp
         with_reducible rfl
        rotate_left
        ·simp only [Act.put,List.setIfInBounds_toArray,List.set_cons_zero,List.set_cons_succ,i64_w,i32_w]
         rfl
        refine done_ (done_of HT_.out (by kernel_rfl)) ?_
        try go_wp2
        have n0_:=Aside0.mk (Kd.V_drew HO_816000.out)
        have n1_:=Aside0.mk (blk_drew BK815.out)
        have n2_:=Aside0.mk (below_drew1 HB.out)
        clear HO_816000
        clear BK815
        clear HB
        have HO_816000:=n0_
        have BK815:=n1_
        have HB:=n2_
        clear n0_ n1_ n2_
        have p819 : 0 ≤ (x8_1 : Int):=of_decide_eq_true (by first|(with_reducible assumption)|assumption)
        have q819 : x8_1 < (l2.length : Int):=of_decide_eq_true (by first|(with_reducible assumption)|assumption)
        obtain ⟨ad819,e819,hx819_0,hx819_1⟩:=at_T138 HR2.out x8_1 p819 q819
        have hw819_1:=hx819_1
        have hw819_0:=hx819_0
        cases e819
        replace hx819_0:=(HB.out.cell (World.block_lt_of_cell? w _ hx819_0)).trans hx819_0
        replace hx819_1:=(HB.out.cell (World.block_lt_of_cell? w _ hx819_1)).trans hx819_1
        replace p819:=eq_true p819
        replace q819:=eq_true q819
        refine start_ (n:=12) (S:=fun w' => w'.cell? ⟨gb815,0,none⟩ = some (.slice Ao15 x816000_1.length co15) ∧ w'.cell? (ad819.add ((x8_1).toNat * 2)) = some (.int .i64 ((rd_T138 l2 x8_1).f0)) ∧ w'.cell? ⟨(ad819.add ((x8_1).toNat * 2)).block,(ad819.add ((x8_1).toNat * 2)).off + 1,none⟩ = some (.int .i64 ((rd_T138 l2 x8_1).f1))) (ds:=[]) (ba29 12 0) (by kernel_rfl) rfl rfl ⟨(blk_cell BK815.out 0).trans rfl,((HB.out.cell (World.block_lt_of_cell? w _ hw819_0)).trans hw819_0),((HB.out.cell (World.block_lt_of_cell? w _ hw819_1)).trans hw819_1)⟩ (fun hHeld => ?_); refine with_tabW spec_l6Plan.tab8 spec_l6Plan.bits8 (fun HT_ HW_ => ?_)
        generalize w16.drew = w17 at HO_816000 BK815 HB hx819_0 hx819_1 hHeld ⊢
        refine pure_ (i:=1) (N:=some 36) (v:=?_) (a':=?_) (ba29 12 2) rfl rfl (any_of HT_.out (by kernel_rfl)) (fun _ _ _ h => h) (Or.inl ⟨by rfl,?_⟩) ?_ ?_
        rotate_left
        ·intro w'
         go_simp
         with_reducible rfl
        rotate_left
        ·simp only [Act.put,List.setIfInBounds_toArray,List.set_cons_zero,List.set_cons_succ,i64_w,i32_w]
         rfl
        refine pure_ (i:=2) (N:=some 37) (v:=?_) (a':=?_) (ba29 12 6) rfl rfl (any_of HT_.out (by kernel_rfl)) (fun _ _ _ h => h) (Or.inl ⟨by rfl,?_⟩) ?_ ?_
        rotate_left
        ·intro w'
         go_simp
         with_reducible rfl
        rotate_left
        ·simp only [Act.put,List.setIfInBounds_toArray,List.set_cons_zero,List.set_cons_succ,i64_w,i32_w]
         rfl
        refine pure_ (i:=3) (N:=some 38) (v:=?_) (a':=?_) (ba29 12 14) rfl rfl (any_of HT_.out (by kernel_rfl)) (fun _ _ _ h => h) (Or.inl ⟨by rfl,?_⟩) ?_ ?_
        rotate_left
        ·intro w'
         go_simp
         with_reducible rfl
        rotate_left
        ·simp only [Act.put,List.setIfInBounds_toArray,List.set_cons_zero,List.set_cons_succ,i64_w,i32_w]
         rfl
        refine pure_ (i:=4) (N:=some 39) (v:=?_) (a':=?_) (ba29 12 30) rfl rfl (any_of HT_.out (by kernel_rfl)) (fun _ _ _ h => h) (Or.inl ⟨by rfl,?_⟩) ?_ ?_
        rotate_left
        ·intro w'
         go_simp
         with_reducible rfl
        rotate_left
        ·simp only [Act.put,List.setIfInBounds_toArray,List.set_cons_zero,List.set_cons_succ,i64_w,i32_w]
         rfl
        refine take_ (i:=0) (N:=some 35) (v:=?_) (a':=?_) (ba29 12 31) rfl rfl (take_ofW HT_.out HW_.out (by kernel_rfl)) (fun _ _ _ h => h) (Or.inl ⟨by rfl,?_⟩) hHeld ?_ ?_
        rotate_left
        ·rintro w' ⟨s0,s1,s2⟩
         go_simp
         with_reducible rfl
        rotate_left
        ·simp only [Act.put,List.setIfInBounds_toArray,List.set_cons_zero,List.set_cons_succ,i64_w,i32_w]
         rfl
        refine take_ (i:=5) (N:=some 40) (v:=?_) (a':=?_) (ba29 12 63) rfl rfl (take_ofW HT_.out HW_.out (by kernel_rfl)) (fun _ _ _ h => h) (Or.inl ⟨by rfl,?_⟩) hHeld ?_ ?_
        rotate_left
        ·rintro w' ⟨s0,s1,s2⟩
         go_simp
         with_reducible rfl
        rotate_left
        ·simp only [Act.put,List.setIfInBounds_toArray,List.set_cons_zero,List.set_cons_succ,i64_w,i32_w]
         rfl
        refine one_ (i:=6) (N:=some 41) (ba29 12 127) rfl rfl (one_of HT_.out (by kernel_rfl)) (by decide) (fun K hK => ?_)
        refine goes_ Try.func142 (by kernel_rfl) rfl #[.agg #[.slice Ao15 x816000_1.length co15],.int .i64 ((rd_T138 l2 x8_1).f0)] (by rfl) rfl rfl (by (try simp only [List.map_toArray,List.map_cons,List.map_nil]); first|done|rfl|(simp only [List.length_drop,List.length_take]; rfl)) ?_
        with_reducible refine (spec_l5Find.calls k1 _ _ x816000_1 ((rd_T138 l2 x8_1).f0) t820 t821 _ ?side1 ?side2 A11.out).mono ?_
        (case side1 => repeat (first|exact (Kd.V_reads' HO_816000.out).2.2|(with_reducible refine Kd.C_alloc ?_ _)|(with_reducible refine Kd.C_drewN ?_ _)|(with_reducible refine Kd.C_drew ?_)))
        (case side2 => exact (Kd.V_reads' HO_816000.out).2.1)
        rintro e w18 ⟨rfl,hb⟩
        refine ⟨_,rfl,?_⟩
        have n0_:=Aside0.mk (Kd.V_below (by (with_reducible repeat (first|apply Kd.V_alloc|apply Kd.V_drewN|apply Kd.V_drew)); exact HO_816000.out) hb)
        have n1_:=Aside0.mk (blk_below (g:=gb815) (o:=.cells #[.slice Ao15 x816000_1.length co15] 42 (0,0)) (by (with_reducible repeat (first|refine blk_drewN ?_ _|refine blk_drew ?_|refine blk_alloc ?_ _)); exact BK815.out) hb)
        have n2_:=Aside0.mk (below_step (by repeat (first|(with_reducible first|exact HB.out|apply below_alloc|apply pw_below_drewN|apply below_drew1|refine below_set ?_ GE815.out)|exact HB.out)) hb)
        clear HO_816000
        clear BK815
        clear HB
        have HO_816000:=n0_
        have BK815:=n1_
        have HB:=n2_
        clear n0_ n1_ n2_
        (try clear hb)
        (try clear hb2)
        (try clear hk)
        (try clear hi)
        refine hK.out _ _ ⟨(blk_cell BK815.out 0).trans rfl,((HB.out.cell (World.block_lt_of_cell? w _ hw819_0)).trans hw819_0),((HB.out.cell (World.block_lt_of_cell? w _ hw819_1)).trans hw819_1)⟩ (fun hHeld => ?_)
        clear hK K
        refine norm_ (a':=?_) ?_ ?_
        rotate_left
        ·show Act.put _ (some 41) _ = _
         simp only [Act.put,List.setIfInBounds_toArray,List.set_cons_zero,List.set_cons_succ,i64_w,i32_w]
         rfl
        refine pure_ (i:=7) (N:=some 34) (v:=?_) (a':=?_) (ba29 12 255) rfl rfl (any_of HT_.out (by kernel_rfl)) (fun _ _ _ h => h) (Or.inl ⟨by rfl,?_⟩) ?_ ?_
        rotate_left
        ·intro w'
         go_simp
         with_reducible rfl
        rotate_left
        ·simp only [Act.put,List.setIfInBounds_toArray,List.set_cons_zero,List.set_cons_succ,i64_w,i32_w]
         rfl
        refine pure_ (i:=8) (N:=some 42) (v:=?_) (a':=?_) (ba29 12 511) rfl rfl (any_of HT_.out (by kernel_rfl)) (fun _ _ _ h => h) (Or.inl ⟨by rfl,?_⟩) ?_ ?_
        rotate_left
        ·intro w'
         go_simp
         with_reducible rfl
        rotate_left
        ·simp only [Act.put,List.setIfInBounds_toArray,List.set_cons_zero,List.set_cons_succ,i64_w,i32_w]
         rfl
        refine pure_ (i:=9) (N:=some 43) (v:=?_) (a':=?_) (ba29 12 1023) rfl rfl (any_of HT_.out (by kernel_rfl)) (fun _ _ _ h => h) (Or.inl ⟨by rfl,?_⟩) ?_ ?_
        rotate_left
        ·intro w'
         go_simp
         with_reducible rfl
        rotate_left
        ·simp only [Act.put,List.setIfInBounds_toArray,List.set_cons_zero,List.set_cons_succ,i64_w,i32_w]
         rfl
        refine pure_ (i:=10) (N:=some 11) (v:=?_) (a':=?_) (ba29 12 2047) rfl rfl (any_of HT_.out (by kernel_rfl)) (fun _ _ _ h => h) (Or.inl ⟨by rfl,?_⟩) ?_ ?_
        rotate_left
        ·intro w'
         go_simp
         with_reducible rfl
        rotate_left
        ·simp only [Act.put,List.setIfInBounds_toArray,List.set_cons_zero,List.set_cons_succ,i64_w,i32_w]
         rfl
        refine pure_ (i:=11) (N:=some 12) (v:=?_) (a':=?_) (ba29 12 4095) rfl rfl (any_of HT_.out (by kernel_rfl)) (fun _ _ _ h => h) (Or.inl ⟨by rfl,?_⟩) ?_ ?_
        rotate_left
        ·intro w'
         go_simp
         with_reducible rfl
        rotate_left
        ·simp only [Act.put,List.setIfInBounds_toArray,List.set_cons_zero,List.set_cons_succ,i64_w,i32_w]
         rfl
        refine done_ (done_of HT_.out (by kernel_rfl)) ?_
        try go_wp2
        have n0_:=Aside0.mk (Kd.V_drew HO_816000.out)
        have n1_:=Aside0.mk (blk_drew BK815.out)
        have n2_:=Aside0.mk (below_drew1 HB.out)
        clear HO_816000
        clear BK815
        clear HB
        have HO_816000:=n0_
        have BK815:=n1_
        have HB:=n2_
        clear n0_ n1_ n2_
        have p822 : 0 ≤ (x8_1 : Int):=of_decide_eq_true (by first|(with_reducible assumption)|assumption)
        have q822 : x8_1 < (l2.length : Int):=of_decide_eq_true (by first|(with_reducible assumption)|assumption)
        obtain ⟨ad822,e822,hx822_0,hx822_1⟩:=at_T138 HR2.out x8_1 p822 q822
        have hw822_1:=hx822_1
        have hw822_0:=hx822_0
        obtain rfl : ad819 = ad822:=(by injection e822)
        replace hx822_0:=(HB.out.cell (World.block_lt_of_cell? w _ hx822_0)).trans hx822_0
        replace hx822_1:=(HB.out.cell (World.block_lt_of_cell? w _ hx822_1)).trans hx822_1
        replace p822:=eq_true p822
        replace q822:=eq_true q822
        refine start_ (n:=12) (S:=fun w' => w'.cell? ⟨gb815,0,none⟩ = some (.slice Ao15 x816000_1.length co15) ∧ w'.cell? (ad819.add ((x8_1).toNat * 2)) = some (.int .i64 ((rd_T138 l2 x8_1).f0)) ∧ w'.cell? ⟨(ad819.add ((x8_1).toNat * 2)).block,(ad819.add ((x8_1).toNat * 2)).off + 1,none⟩ = some (.int .i64 ((rd_T138 l2 x8_1).f1))) (ds:=[]) (ba29 12 0) (by kernel_rfl) rfl rfl ⟨(blk_cell BK815.out 0).trans rfl,((HB.out.cell (World.block_lt_of_cell? w _ hw822_0)).trans hw822_0),((HB.out.cell (World.block_lt_of_cell? w _ hw822_1)).trans hw822_1)⟩ (fun hHeld => ?_); refine with_tabW spec_l6Plan.tab9 spec_l6Plan.bits9 (fun HT_ HW_ => ?_)
        generalize w18.drew = w19 at HO_816000 BK815 HB hx822_0 hx822_1 hHeld ⊢
        refine pure_ (i:=1) (N:=some 46) (v:=?_) (a':=?_) (ba29 12 2) rfl rfl (any_of HT_.out (by kernel_rfl)) (fun _ _ _ h => h) (Or.inl ⟨by rfl,?_⟩) ?_ ?_
        rotate_left
        ·intro w'
         go_simp
         with_reducible rfl
        rotate_left
        ·simp only [Act.put,List.setIfInBounds_toArray,List.set_cons_zero,List.set_cons_succ,i64_w,i32_w]
         rfl
        refine pure_ (i:=2) (N:=some 47) (v:=?_) (a':=?_) (ba29 12 6) rfl rfl (any_of HT_.out (by kernel_rfl)) (fun _ _ _ h => h) (Or.inl ⟨by rfl,?_⟩) ?_ ?_
        rotate_left
        ·intro w'
         go_simp
         with_reducible rfl
        rotate_left
        ·simp only [Act.put,List.setIfInBounds_toArray,List.set_cons_zero,List.set_cons_succ,i64_w,i32_w]
         rfl
        refine pure_ (i:=3) (N:=some 48) (v:=?_) (a':=?_) (ba29 12 14) rfl rfl (any_of HT_.out (by kernel_rfl)) (fun _ _ _ h => h) (Or.inl ⟨by rfl,?_⟩) ?_ ?_
        rotate_left
        ·intro w'
         go_simp
         with_reducible rfl
        rotate_left
        ·simp only [Act.put,List.setIfInBounds_toArray,List.set_cons_zero,List.set_cons_succ,i64_w,i32_w]
         rfl
        refine take_ (i:=0) (N:=some 45) (v:=?_) (a':=?_) (ba29 12 15) rfl rfl (take_ofW HT_.out HW_.out (by kernel_rfl)) (fun _ _ _ h => h) (Or.inl ⟨by rfl,?_⟩) hHeld ?_ ?_
        rotate_left
        ·rintro w' ⟨s0,s1,s2⟩
         go_simp
         with_reducible rfl
        rotate_left
        ·simp only [Act.put,List.setIfInBounds_toArray,List.set_cons_zero,List.set_cons_succ,i64_w,i32_w]
         rfl
        refine take_ (i:=4) (N:=some 49) (v:=?_) (a':=?_) (ba29 12 31) rfl rfl (take_ofW HT_.out HW_.out (by kernel_rfl)) (fun _ _ _ h => h) (Or.inl ⟨by rfl,?_⟩) hHeld ?_ ?_
        rotate_left
        ·rintro w' ⟨s0,s1,s2⟩
         go_simp
         with_reducible rfl
        rotate_left
        ·simp only [Act.put,List.setIfInBounds_toArray,List.set_cons_zero,List.set_cons_succ,i64_w,i32_w]
         rfl
        refine join_ (σ:=Value × Nat) 2 (ba29 12 1023) (fun s_ => [(50,.tuple #[.agg #[s_.1],.bool t826]),(13,.pointer (some ⟨s_.2,0,none⟩)),(44,.tuple #[.agg #[s_.1],.bool t826]),(51,.agg #[s_.1]),(52,.bool t826)]) (fun s_ w' => (w'.cell? ⟨gb815,0,none⟩ = some (.slice Ao15 x816000_1.length co15) ∧ w'.cell? (ad819.add ((x8_1).toNat * 2)) = some (.int .i64 ((rd_T138 l2 x8_1).f0)) ∧ w'.cell? ⟨(ad819.add ((x8_1).toNat * 2)).block,(ad819.add ((x8_1).toNat * 2)).off + 1,none⟩ = some (.int .i64 ((rd_T138 l2 x8_1).f1))) ∧ (Kd.V (Kd.slice 3 (Kd.int .i64)) 24 w' w.heap.size (fun k_ => (P0_0_ k_ ∨ w.heap.size ≤ k_) ∧ k_ ≠ gb815 ∧ k_ ≠ s_.2) s_.1 t823) ∧ (Kd.V (Kd.slice 3 (Kd.int .i64)) 24 w' w.heap.size (fun k_ => (P0_0_ k_ ∨ w.heap.size ≤ k_) ∧ k_ ≠ gb815 ∧ k_ ≠ s_.2) (.slice Ao15 x816000_1.length co15) x816000_1) ∧ (w'.heap[gb815]? = some (.cells #[.slice Ao15 x816000_1.length co15] 42 (0,0))) ∧ (w'.heap[s_.2]? = some (.cells #[.slice none 0 0] 42 (0,0))) ∧ (w.heap.size ≤ s_.2) ∧ (w.heap.size ≤ s_.2) ∧ (gb815 ≠ s_.2) ∧ (s_.2 ≠ gb815) ∧ (Below w.heap.size w w')) ?_ ?_
        rotate_left
        ·intro hCont
         refine two_ (i:=5) (j:=9) (Ni:=some 50) (Nj:=some 13) (ba29 12 63) (ba29 12 543) rfl rfl rfl rfl (two_of HT_.out (by kernel_rfl)) (by decide) (by decide) (fun K hK => ?_) (fun K hK => ?_)
         ·skip
          refine goes_ Try.func169 (by kernel_rfl) rfl #[.agg #[.slice Ao15 x816000_1.length co15],.agg #[.int .i64 ((rd_T138 l2 x8_1).f0),.int .i64 ((rd_T138 l2 x8_1).f1)]] (by rfl) rfl rfl (by (try simp only [List.map_toArray,List.map_cons,List.map_nil]); first|done|rfl|(simp only [List.length_drop,List.length_take]; rfl)) ?_
          with_reducible refine (spec_l6Step.calls k1 (fun k_ => ((P0_0_ k_ ∨ w.heap.size ≤ k_) ∧ k_ ≠ gb815)) _ _ x816000_1 ((rd_T138 l2 x8_1).f0) ((rd_T138 l2 x8_1).f1) t823 t826 _ ?side1 A12.out).mono ?_
          (case side1 => exact HO_816000.out)
          rintro e w20 ⟨v824,rfl,ho0,hb⟩
          refine ⟨_,rfl,?_⟩
          have n0_:=Aside0.mk (Kd.V_below (by (with_reducible repeat (first|apply Kd.V_alloc|apply Kd.V_drewN|apply Kd.V_drew)); exact HO_816000.out) hb)
          have n1_:=Aside0.mk (Kd.V_lower (Kd.V_mono (ok':=fun k_ => (P0_0_ k_ ∨ w.heap.size ≤ k_) ∧ k_ ≠ gb815) ho0 (fun k_ hk_ => ⟨Or.elim hk_ (fun hs_ => hs_.1) (fun hn_ => (.inr (Nat.le_trans (below_size (by repeat (first|(with_reducible first|exact HB.out|apply below_alloc|apply pw_below_drewN|apply below_drew1|refine below_set ?_ GE815.out)|exact HB.out))) hn_))),Or.elim hk_ (fun hs_ => hs_.2) (fun hn_ => (Kd.freshB (g:=gb815) (o:=.cells #[.slice Ao15 x816000_1.length co15] 42 (0,0)) (by (with_reducible repeat (first|refine blk_drewN ?_ _|refine blk_drew ?_|refine blk_alloc ?_ _)); exact BK815.out) k_ hn_))⟩)) (below_size (by repeat (first|(with_reducible first|exact HB.out|apply below_alloc|apply pw_below_drewN|apply below_drew1|refine below_set ?_ GE815.out)|exact HB.out))))
          have n2_:=Aside0.mk (blk_below (g:=gb815) (o:=.cells #[.slice Ao15 x816000_1.length co15] 42 (0,0)) (by (with_reducible repeat (first|refine blk_drewN ?_ _|refine blk_drew ?_|refine blk_alloc ?_ _)); exact BK815.out) hb)
          have n3_:=Aside0.mk (below_step (by repeat (first|(with_reducible first|exact HB.out|apply below_alloc|apply pw_below_drewN|apply below_drew1|refine below_set ?_ GE815.out)|exact HB.out)) hb)
          clear HO_816000
          clear BK815
          clear HB
          have HO_816000:=n0_
          have HO825:=n1_
          have BK815:=n2_
          have HB:=n3_
          clear n0_ n1_ n2_ n3_
          (try clear hb)
          (try clear hb2)
          (try clear hk)
          (try clear hi)
          (try clear ho0)
          refine hK.out _ _ ⟨(blk_cell BK815.out 0).trans rfl,((HB.out.cell (World.block_lt_of_cell? w _ hw822_0)).trans hw822_0),((HB.out.cell (World.block_lt_of_cell? w _ hw822_1)).trans hw822_1)⟩ (fun hHeld => ?_)
          clear hK K
          refine norm_ (a':=?_) ?_ ?_
          rotate_left
          ·show Act.put _ (some 50) _ = _
           simp only [Act.put,List.setIfInBounds_toArray,List.set_cons_zero,List.set_cons_succ,i64_w,i32_w]
           rfl
          refine pure_ (i:=6) (N:=some 44) (v:=?_) (a':=?_) (ba29 12 127) rfl rfl (any_of HT_.out (by kernel_rfl)) (fun _ _ _ h => h) (Or.inl ⟨by rfl,?_⟩) ?_ ?_
          rotate_left
          ·intro w'
           go_simp
           with_reducible rfl
          rotate_left
          ·simp only [Act.put,List.setIfInBounds_toArray,List.set_cons_zero,List.set_cons_succ,i64_w,i32_w]
           rfl
          refine pure_ (i:=7) (N:=some 51) (v:=?_) (a':=?_) (ba29 12 255) rfl rfl (any_of HT_.out (by kernel_rfl)) (fun _ _ _ h => h) (Or.inl ⟨by rfl,?_⟩) ?_ ?_
          rotate_left
          ·intro w'
           go_simp
           with_reducible rfl
          rotate_left
          ·simp only [Act.put,List.setIfInBounds_toArray,List.set_cons_zero,List.set_cons_succ,i64_w,i32_w]
           rfl
          refine pure_ (i:=8) (N:=some 52) (v:=?_) (a':=?_) (ba29 12 511) rfl rfl (any_of HT_.out (by kernel_rfl)) (fun _ _ _ h => h) (Or.inl ⟨by rfl,?_⟩) ?_ ?_
          rotate_left
          ·intro w'
           go_simp
           with_reducible rfl
          rotate_left
          ·simp only [Act.put,List.setIfInBounds_toArray,List.set_cons_zero,List.set_cons_succ,i64_w,i32_w]
           rfl
          refine one_ (i:=9) (N:=some 13) (ba29 12 1023) rfl rfl (one_of HT_.out (by kernel_rfl)) (by decide) (fun K hK => ?_)
          refine box_step ?hg (N:=13) ?hd (cs:=#[.slice none 0 0]) (t:=42) ?hr ?_; (case hd => rfl); (case hg => rfl); (case hr => first|(go_simp; done)|(go_simp; rfl))
          intro gb827 hg w21 hbox hb
          have n0_:=Aside0.mk (Kd.V_below (Kd.V_elderB (by (with_reducible repeat (first|apply Kd.V_alloc|apply Kd.V_drewN|apply Kd.V_drew)); exact HO_816000.out) gb827 (Nat.le_of_eq hg.symm)) hb)
          have n1_:=Aside0.mk (Kd.V_below (Kd.V_elderB (by (with_reducible repeat (first|apply Kd.V_alloc|apply Kd.V_drewN|apply Kd.V_drew)); exact HO825.out) gb827 (Nat.le_of_eq hg.symm)) hb)
          have n2_:=Aside0.mk (blk_below (g:=gb815) (o:=.cells #[.slice Ao15 x816000_1.length co15] 42 (0,0)) (by (with_reducible repeat (first|refine blk_drewN ?_ _|refine blk_drew ?_|refine blk_alloc ?_ _)); exact BK815.out) hb)
          have n3_:=Aside0.mk (below_step (by repeat (first|(with_reducible first|exact HB.out|apply below_alloc|apply pw_below_drewN|apply below_drew1|refine below_set ?_ GE815.out)|exact HB.out)) hb)
          have n4_:=Aside0.mk (hbox)
          have n5_:=Aside0.mk ((by rw [hg]; exact (below_size (by repeat (first|(with_reducible first|exact HB.out|apply below_alloc|apply pw_below_drewN|apply below_drew1|refine below_set ?_ GE815.out)|exact HB.out))) : w.heap.size ≤ gb827))
          have n6_:=Aside0.mk ((by rw [hg]; exact (below_size (by repeat (first|(with_reducible first|exact HB.out|apply below_alloc|apply pw_below_drewN|apply below_drew1|refine below_set ?_ GE815.out)|exact HB.out))) : w.heap.size ≤ gb827))
          have n7_:=Aside0.mk ((by rw [hg]; exact Nat.ne_of_lt (blk_lt (g:=gb815) (o:=.cells #[.slice Ao15 x816000_1.length co15] 42 (0,0)) (by (with_reducible repeat (first|refine blk_drewN ?_ _|refine blk_drew ?_|refine blk_alloc ?_ _)); exact BK815.out)) : gb815 ≠ gb827))
          have n8_:=Aside0.mk ((by rw [hg]; exact Nat.ne_of_gt (blk_lt (g:=gb815) (o:=.cells #[.slice Ao15 x816000_1.length co15] 42 (0,0)) (by (with_reducible repeat (first|refine blk_drewN ?_ _|refine blk_drew ?_|refine blk_alloc ?_ _)); exact BK815.out)) : gb827 ≠ gb815))
          clear HO_816000
          clear HO825
          clear BK815
          clear HB
          have HO_816000:=n0_
          have HO825:=n1_
          have BK815:=n2_
          have HB:=n3_
          have BK827:=n4_
          have GW827:=n5_
          have GE827:=n6_
          have NB815_827:=n7_
          have NB827_815:=n8_
          clear n0_ n1_ n2_ n3_ n4_ n5_ n6_ n7_ n8_
          clear hb hbox hg
          refine hK.out _ _ ⟨(blk_cell BK815.out 0).trans rfl,((HB.out.cell (World.block_lt_of_cell? w _ hw822_0)).trans hw822_0),((HB.out.cell (World.block_lt_of_cell? w _ hw822_1)).trans hw822_1)⟩ (fun hHeld => ?_)
          clear hK K
          refine norm_ (a':=?_) ?_ ?_
          rotate_left
          ·show Act.put _ (some 13) _ = _
           simp only [Act.put,List.setIfInBounds_toArray,List.set_cons_zero,List.set_cons_succ,i64_w,i32_w]
           rfl
          exact norm_ (by simp only [putAll,Act.put,List.setIfInBounds_toArray,List.set_cons_zero,List.set_cons_succ]) (hCont (v824,gb827) _ ⟨hHeld,(by (with_reducible repeat (first|apply Kd.V_alloc|apply Kd.V_drewN|apply Kd.V_drew)); exact Kd.V_mono HO825.out (fun _ hk => ⟨hk.1.1,⟨hk.1.2,hk.2⟩⟩)),(by (with_reducible repeat (first|apply Kd.V_alloc|apply Kd.V_drewN|apply Kd.V_drew)); exact Kd.V_mono HO_816000.out (fun _ hk => ⟨hk.1.1,⟨hk.1.2,hk.2⟩⟩)),(by (with_reducible repeat (first|refine blk_drewN ?_ _|refine blk_drew ?_|refine blk_alloc ?_ _)); exact BK815.out),(by (with_reducible repeat (first|refine blk_drewN ?_ _|refine blk_drew ?_|refine blk_alloc ?_ _)); exact BK827.out),GW827.out,GE827.out,NB815_827.out,NB827_815.out,(by repeat (first|(with_reducible first|exact HB.out|apply below_alloc|apply pw_below_drewN|apply below_drew1|refine below_set ?_ GE815.out|refine below_set ?_ GE827.out)|exact HB.out))⟩)
         ·skip
          refine box_step ?hg (N:=13) ?hd (cs:=#[.slice none 0 0]) (t:=42) ?hr ?_; (case hd => rfl); (case hg => rfl); (case hr => first|(go_simp; done)|(go_simp; rfl))
          intro gb827 hg w20 hbox hb
          have n0_:=Aside0.mk (Kd.V_below (Kd.V_elderB (by (with_reducible repeat (first|apply Kd.V_alloc|apply Kd.V_drewN|apply Kd.V_drew)); exact HO_816000.out) gb827 (Nat.le_of_eq hg.symm)) hb)
          have n1_:=Aside0.mk (blk_below (g:=gb815) (o:=.cells #[.slice Ao15 x816000_1.length co15] 42 (0,0)) (by (with_reducible repeat (first|refine blk_drewN ?_ _|refine blk_drew ?_|refine blk_alloc ?_ _)); exact BK815.out) hb)
          have n2_:=Aside0.mk (below_step (by repeat (first|(with_reducible first|exact HB.out|apply below_alloc|apply pw_below_drewN|apply below_drew1|refine below_set ?_ GE815.out)|exact HB.out)) hb)
          have n3_:=Aside0.mk (hbox)
          have n4_:=Aside0.mk ((by rw [hg]; exact (below_size (by repeat (first|(with_reducible first|exact HB.out|apply below_alloc|apply pw_below_drewN|apply below_drew1|refine below_set ?_ GE815.out)|exact HB.out))) : w.heap.size ≤ gb827))
          have n5_:=Aside0.mk ((by rw [hg]; exact (below_size (by repeat (first|(with_reducible first|exact HB.out|apply below_alloc|apply pw_below_drewN|apply below_drew1|refine below_set ?_ GE815.out)|exact HB.out))) : w.heap.size ≤ gb827))
          have n6_:=Aside0.mk ((by rw [hg]; exact Nat.ne_of_lt (blk_lt (g:=gb815) (o:=.cells #[.slice Ao15 x816000_1.length co15] 42 (0,0)) (by (with_reducible repeat (first|refine blk_drewN ?_ _|refine blk_drew ?_|refine blk_alloc ?_ _)); exact BK815.out)) : gb815 ≠ gb827))
          have n7_:=Aside0.mk ((by rw [hg]; exact Nat.ne_of_gt (blk_lt (g:=gb815) (o:=.cells #[.slice Ao15 x816000_1.length co15] 42 (0,0)) (by (with_reducible repeat (first|refine blk_drewN ?_ _|refine blk_drew ?_|refine blk_alloc ?_ _)); exact BK815.out)) : gb827 ≠ gb815))
          clear HO_816000
          clear BK815
          clear HB
          have HO_816000:=n0_
          have BK815:=n1_
          have HB:=n2_
          have BK827:=n3_
          have GW827:=n4_
          have GE827:=n5_
          have NB815_827:=n6_
          have NB827_815:=n7_
          clear n0_ n1_ n2_ n3_ n4_ n5_ n6_ n7_
          clear hb hbox hg
          refine hK.out _ _ ⟨(blk_cell BK815.out 0).trans rfl,((HB.out.cell (World.block_lt_of_cell? w _ hw822_0)).trans hw822_0),((HB.out.cell (World.block_lt_of_cell? w _ hw822_1)).trans hw822_1)⟩ (fun hHeld => ?_)
          clear hK K
          refine norm_ (a':=?_) ?_ ?_
          rotate_left
          ·show Act.put _ (some 13) _ = _
           simp only [Act.put,List.setIfInBounds_toArray,List.set_cons_zero,List.set_cons_succ,i64_w,i32_w]
           rfl
          refine one_ (i:=5) (N:=some 50) (ba29 12 575) rfl rfl (one_of HT_.out (by kernel_rfl)) (by decide) (fun K hK => ?_)
          refine goes_ Try.func169 (by kernel_rfl) rfl #[.agg #[.slice Ao15 x816000_1.length co15],.agg #[.int .i64 ((rd_T138 l2 x8_1).f0),.int .i64 ((rd_T138 l2 x8_1).f1)]] (by rfl) rfl rfl (by (try simp only [List.map_toArray,List.map_cons,List.map_nil]); first|done|rfl|(simp only [List.length_drop,List.length_take]; rfl)) ?_
          with_reducible refine (spec_l6Step.calls k1 (fun k_ => (((P0_0_ k_ ∨ w.heap.size ≤ k_) ∧ k_ ≠ gb815) ∧ k_ ≠ gb827)) _ _ x816000_1 ((rd_T138 l2 x8_1).f0) ((rd_T138 l2 x8_1).f1) t823 t826 _ ?side1 A12.out).mono ?_
          (case side1 => exact HO_816000.out)
          rintro e w21 ⟨v824,rfl,ho0,hb⟩
          refine ⟨_,rfl,?_⟩
          have n0_:=Aside0.mk (Kd.V_below (by (with_reducible repeat (first|apply Kd.V_alloc|apply Kd.V_drewN|apply Kd.V_drew)); exact HO_816000.out) hb)
          have n1_:=Aside0.mk (Kd.V_lower (Kd.V_mono (ok':=fun k_ => (P0_0_ k_ ∨ w.heap.size ≤ k_) ∧ k_ ≠ gb815 ∧ k_ ≠ gb827) ho0 (fun k_ hk_ => ⟨Or.elim hk_ (fun hs_ => hs_.1.1) (fun hn_ => (.inr (Nat.le_trans (below_size (by repeat (first|(with_reducible first|exact HB.out|apply below_alloc|apply pw_below_drewN|apply below_drew1|refine below_set ?_ GE815.out|refine below_set ?_ GE827.out)|exact HB.out))) hn_))),Or.elim hk_ (fun hs_ => hs_.1.2) (fun hn_ => (Kd.freshB (g:=gb815) (o:=.cells #[.slice Ao15 x816000_1.length co15] 42 (0,0)) (by (with_reducible repeat (first|refine blk_drewN ?_ _|refine blk_drew ?_|refine blk_alloc ?_ _)); exact BK815.out) k_ hn_)),Or.elim hk_ (fun hs_ => hs_.2) (fun hn_ => (Kd.freshB (g:=gb827) (o:=.cells #[.slice none 0 0] 42 (0,0)) (by (with_reducible repeat (first|refine blk_drewN ?_ _|refine blk_drew ?_|refine blk_alloc ?_ _)); exact BK827.out) k_ hn_))⟩)) (below_size (by repeat (first|(with_reducible first|exact HB.out|apply below_alloc|apply pw_below_drewN|apply below_drew1|refine below_set ?_ GE815.out|refine below_set ?_ GE827.out)|exact HB.out))))
          have n2_:=Aside0.mk (blk_below (g:=gb815) (o:=.cells #[.slice Ao15 x816000_1.length co15] 42 (0,0)) (by (with_reducible repeat (first|refine blk_drewN ?_ _|refine blk_drew ?_|refine blk_alloc ?_ _)); exact BK815.out) hb)
          have n3_:=Aside0.mk (blk_below (g:=gb827) (o:=.cells #[.slice none 0 0] 42 (0,0)) (by (with_reducible repeat (first|refine blk_drewN ?_ _|refine blk_drew ?_|refine blk_alloc ?_ _)); exact BK827.out) hb)
          have n4_:=Aside0.mk (below_step (by repeat (first|(with_reducible first|exact HB.out|apply below_alloc|apply pw_below_drewN|apply below_drew1|refine below_set ?_ GE815.out|refine below_set ?_ GE827.out)|exact HB.out)) hb)
          clear HO_816000
          clear BK815
          clear BK827
          clear HB
          have HO_816000:=n0_
          have HO825:=n1_
          have BK815:=n2_
          have BK827:=n3_
          have HB:=n4_
          clear n0_ n1_ n2_ n3_ n4_
          (try clear hb)
          (try clear hb2)
          (try clear hk)
          (try clear hi)
          (try clear ho0)
          refine hK.out _ _ ⟨(blk_cell BK815.out 0).trans rfl,((HB.out.cell (World.block_lt_of_cell? w _ hw822_0)).trans hw822_0),((HB.out.cell (World.block_lt_of_cell? w _ hw822_1)).trans hw822_1)⟩ (fun hHeld => ?_)
          clear hK K
          refine norm_ (a':=?_) ?_ ?_
          rotate_left
          ·show Act.put _ (some 50) _ = _
           simp only [Act.put,List.setIfInBounds_toArray,List.set_cons_zero,List.set_cons_succ,i64_w,i32_w]
           rfl
          refine pure_ (i:=6) (N:=some 44) (v:=?_) (a':=?_) (ba29 12 639) rfl rfl (any_of HT_.out (by kernel_rfl)) (fun _ _ _ h => h) (Or.inl ⟨by rfl,?_⟩) ?_ ?_
          rotate_left
          ·intro w'
           go_simp
           with_reducible rfl
          rotate_left
          ·simp only [Act.put,List.setIfInBounds_toArray,List.set_cons_zero,List.set_cons_succ,i64_w,i32_w]
           rfl
          refine pure_ (i:=7) (N:=some 51) (v:=?_) (a':=?_) (ba29 12 767) rfl rfl (any_of HT_.out (by kernel_rfl)) (fun _ _ _ h => h) (Or.inl ⟨by rfl,?_⟩) ?_ ?_
          rotate_left
          ·intro w'
           go_simp
           with_reducible rfl
          rotate_left
          ·simp only [Act.put,List.setIfInBounds_toArray,List.set_cons_zero,List.set_cons_succ,i64_w,i32_w]
           rfl
          refine pure_ (i:=8) (N:=some 52) (v:=?_) (a':=?_) (ba29 12 1023) rfl rfl (any_of HT_.out (by kernel_rfl)) (fun _ _ _ h => h) (Or.inl ⟨by rfl,?_⟩) ?_ ?_
          rotate_left
          ·intro w'
           go_simp
           with_reducible rfl
          rotate_left
          ·simp only [Act.put,List.setIfInBounds_toArray,List.set_cons_zero,List.set_cons_succ,i64_w,i32_w]
           rfl
          exact norm_ (by simp only [putAll,Act.put,List.setIfInBounds_toArray,List.set_cons_zero,List.set_cons_succ]) (hCont (v824,gb827) _ ⟨hHeld,(by (with_reducible repeat (first|apply Kd.V_alloc|apply Kd.V_drewN|apply Kd.V_drew)); exact HO825.out),(by (with_reducible repeat (first|apply Kd.V_alloc|apply Kd.V_drewN|apply Kd.V_drew)); exact Kd.V_mono HO_816000.out (fun _ hk => ⟨hk.1.1,⟨hk.1.2,hk.2⟩⟩)),(by (with_reducible repeat (first|refine blk_drewN ?_ _|refine blk_drew ?_|refine blk_alloc ?_ _)); exact BK815.out),(by (with_reducible repeat (first|refine blk_drewN ?_ _|refine blk_drew ?_|refine blk_alloc ?_ _)); exact BK827.out),GW827.out,GE827.out,NB815_827.out,NB827_815.out,(by repeat (first|(with_reducible first|exact HB.out|apply below_alloc|apply pw_below_drewN|apply below_drew1|refine below_set ?_ GE815.out|refine below_set ?_ GE827.out)|exact HB.out))⟩)
        rintro ⟨v824,gb827⟩ w22 ⟨hS_,h0_,h1_,h2_,h3_,h4_,h5_,h6_,h7_,h8_⟩
        have n0_ : Aside0 (Kd.V (Kd.slice 3 (Kd.int .i64)) 24 w22 w.heap.size (fun k_ => (P0_0_ k_ ∨ w.heap.size ≤ k_) ∧ k_ ≠ gb815 ∧ k_ ≠ gb827) v824 t823):=⟨h0_⟩
        have n1_ : Aside0 (Kd.V (Kd.slice 3 (Kd.int .i64)) 24 w22 w.heap.size (fun k_ => (P0_0_ k_ ∨ w.heap.size ≤ k_) ∧ k_ ≠ gb815 ∧ k_ ≠ gb827) (.slice Ao15 x816000_1.length co15) x816000_1):=⟨h1_⟩
        have n2_ : Aside0 (w22.heap[gb815]? = some (.cells #[.slice Ao15 x816000_1.length co15] 42 (0,0))):=⟨h2_⟩
        have n3_ : Aside0 (w22.heap[gb827]? = some (.cells #[.slice none 0 0] 42 (0,0))):=⟨h3_⟩
        have n4_ : Aside0 (w.heap.size ≤ gb827):=⟨h4_⟩
        have n5_ : Aside0 (w.heap.size ≤ gb827):=⟨h5_⟩
        have n6_ : Aside0 (gb815 ≠ gb827):=⟨h6_⟩
        have n7_ : Aside0 (gb827 ≠ gb815):=⟨h7_⟩
        have n8_ : Aside0 (Below w.heap.size w w22):=⟨h8_⟩
        clear HO_816000
        clear BK815
        clear HB
        clear h0_ h1_ h2_ h3_ h4_ h5_ h6_ h7_ h8_
        have HO825:=n0_
        have HO_816000:=n1_
        have BK815:=n2_
        have BK827:=n3_
        have GW827:=n4_
        have GE827:=n5_
        have NB815_827:=n6_
        have NB827_815:=n7_
        have HB:=n8_
        clear n0_ n1_ n2_ n3_ n4_ n5_ n6_ n7_ n8_
        have hHeld : w22.cell? ⟨gb815,0,none⟩ = some (.slice Ao15 x816000_1.length co15) ∧ w22.cell? (ad819.add ((x8_1).toNat * 2)) = some (.int .i64 ((rd_T138 l2 x8_1).f0)) ∧ w22.cell? ⟨(ad819.add ((x8_1).toNat * 2)).block,(ad819.add ((x8_1).toNat * 2)).off + 1,none⟩ = some (.int .i64 ((rd_T138 l2 x8_1).f1)):=hS_
        obtain ⟨Ao23,co23,eo23⟩:=Kd.V_slice HO825.out
        (first|subst eo23|(injection eo23 with f1_ f2_ f3_; have f4_:=f1_.symm; have f5_:=f3_.symm; clear f1_ f2_ f3_; subst f4_; subst f5_))
        refine norm_ (a':=?_) ?_ ?_
        rotate_left
        ·simp only [putAll,Act.put,List.setIfInBounds_toArray,List.set_cons_zero,List.set_cons_succ]
         rfl
        refine one_ (i:=10) (N:=none) (ba29 12 2047) rfl rfl (one_of HT_.out (by kernel_rfl)) (by decide) (fun K hK => ?_)
        have hs24 : w22.cell? ⟨gb827,0,none⟩ = some (.slice none 0 0):=(blk_cell BK827.out 0).trans rfl
        have hfs24:=blk_frozen BK827.out 0
        have hns24_0:=NB815_827.out
        have hms24_0:=NB827_815.out
        refine skip_ (w1:=?_) (by rfl) rfl ?_ ?_
        rotate_left
        ·go_simp
         rfl
        refine hK.out _ _ ⟨((cell_far (p:=⟨gb827,_,none⟩) NB815_827.out _).trans (hHeld.1)),((cell_far (p:=⟨gb827,_,none⟩) (by first|exact Nat.ne_of_lt (Nat.lt_of_lt_of_le (by have:=World.block_lt_of_cell? _ _ hw822_0; first|rwa [add_block] at this|exact this) GW827.out)|(rw [add_block]; exact Nat.ne_of_lt (Nat.lt_of_lt_of_le (by have:=World.block_lt_of_cell? _ _ hw822_0; first|rwa [add_block] at this|exact this) GW827.out))|(show (Addr.add _ _).block ≠ _; rw [add_block]; exact Nat.ne_of_lt (Nat.lt_of_lt_of_le (by have:=World.block_lt_of_cell? _ _ hw822_0; first|rwa [add_block] at this|exact this) GW827.out))|(dsimp only; exact Nat.ne_of_lt (Nat.lt_of_lt_of_le (by have:=World.block_lt_of_cell? _ _ hw822_0; first|rwa [add_block] at this|exact this) GW827.out))) _).trans (hHeld.2.1)),((cell_far (p:=⟨gb827,_,none⟩) (by first|exact Nat.ne_of_lt (Nat.lt_of_lt_of_le (by have:=World.block_lt_of_cell? _ _ hw822_1; first|rwa [add_block] at this|exact this) GW827.out)|(rw [add_block]; exact Nat.ne_of_lt (Nat.lt_of_lt_of_le (by have:=World.block_lt_of_cell? _ _ hw822_1; first|rwa [add_block] at this|exact this) GW827.out))|(show (Addr.add _ _).block ≠ _; rw [add_block]; exact Nat.ne_of_lt (Nat.lt_of_lt_of_le (by have:=World.block_lt_of_cell? _ _ hw822_1; first|rwa [add_block] at this|exact this) GW827.out))|(dsimp only; exact Nat.ne_of_lt (Nat.lt_of_lt_of_le (by have:=World.block_lt_of_cell? _ _ hw822_1; first|rwa [add_block] at this|exact this) GW827.out))) _).trans (hHeld.2.2))⟩ (fun hHeld => ?_)
        clear hK K
        refine pure_ (i:=11) (N:=some 14) (v:=?_) (a':=?_) (ba29 12 4095) rfl rfl (any_of HT_.out (by kernel_rfl)) (fun _ _ _ h => h) (Or.inl ⟨by rfl,?_⟩) ?_ ?_
        rotate_left
        ·intro w'
         go_simp
         with_reducible rfl
        rotate_left
        ·simp only [Act.put,List.setIfInBounds_toArray,List.set_cons_zero,List.set_cons_succ,i64_w,i32_w]
         rfl
        refine done_ (done_of HT_.out (by kernel_rfl)) ?_
        go_upto_region 10 with (fail)
        go_cut [79] (fun v79 wc => ∃ (kq : Nat) (x79_12 : Bool),v79 = .bool x79_12 ∧ Aside0 (spec_l6Plan.j1 kq l1 l2 x7_1 x8_1 x79_12 t823 = some r) ∧ Aside0 (kq ≤ k1) ∧ Aside0 (Kd.V (Kd.slice 3 (Kd.int .i64)) 24 wc w.heap.size (fun k_ => (P0_0_ k_ ∨ w.heap.size ≤ k_) ∧ k_ ≠ gb815 ∧ k_ ≠ gb827) (.slice Ao15 x816000_1.length co15) x816000_1) ∧ Aside0 (Kd.V (Kd.slice 3 (Kd.int .i64)) 24 wc w.heap.size (fun k_ => (P0_0_ k_ ∨ w.heap.size ≤ k_) ∧ k_ ≠ gb815 ∧ k_ ≠ gb827) (.slice Ao23 t823.length co23) t823) ∧ Aside0 (wc.heap[gb815]? = some (.cells #[(.slice Ao15 x816000_1.length co15)] 42 (0,0))) ∧ Aside0 (wc.heap[gb827]? = some (.cells #[(.slice Ao23 t823.length co23)] 42 (0,0))) ∧ Aside0 (Below w.heap.size w wc))
        case first =>
         have H:=HC13.out
         clear HC13
         by_cases c25 : t826 = true
         ·subst c25
          have H1 : (if t820 = t817 then (if ((rd_T138 l2 x8_1).f1) = (-1) then (spec_l6Plan.j1 k1 l1 l2 x7_1 x8_1 (((rd_T138 l2 x8_1).f0) != (rd l1 x7_1)) t823) else (spec_l6Plan.j1 k1 l1 l2 x7_1 x8_1 false t823)) else (spec_l6Plan.j1 k1 l1 l2 x7_1 x8_1 true t823)) = some r:=by rw [if_pos rfl] at H; exact H
          clear H
          have H:=H1
          clear H1
          by_cases c26 : t820 = t817
          ·rw [if_pos c26] at H
           have c26b0 : (t820 == t817) = true:=beq_iff_eq.mpr c26
           have c26b1 : (t820 != t817) = false:=bne_eq_false_iff_eq.mpr c26
           clear c26
           (first|rw [c26b0]|(simp only [i64_w,i32_w]; rw [c26b0])|skip)
           by_cases c27 : ((rd_T138 l2 x8_1).f1) = (-1)
           ·rw [if_pos c27] at H
            have c27b0 : (((rd_T138 l2 x8_1).f1) == (-1)) = true:=beq_iff_eq.mpr c27
            have c27b1 : (((rd_T138 l2 x8_1).f1) != (-1)) = false:=bne_eq_false_iff_eq.mpr c27
            clear c27
            have H':=Aside0.mk H
            clear H
            try go_wp2
            have n0_ : Aside0 (Kd.V (Kd.slice 3 (Kd.int .i64)) 24 (w22.setCell ⟨gb827,0,none⟩ (.slice Ao23 t823.length co23)) w.heap.size (fun k_ => (P0_0_ k_ ∨ w.heap.size ≤ k_) ∧ k_ ≠ gb815 ∧ k_ ≠ gb827) (.slice Ao15 x816000_1.length co15) x816000_1):=⟨by (with_reducible repeat (first|apply Kd.V_alloc|apply Kd.V_drewN|apply Kd.V_drew)); exact Kd.V_mono (Kd.V_far (p:=⟨gb827,0,none⟩) (Kd.V_mono HO_816000.out (fun k_ hk => (⟨hk,hk.2.2⟩ : _ ∧ k_ ≠ gb827))) (fun _ hk => hk.2) (.slice Ao23 t823.length co23)) (fun _ hk => ⟨hk.1.1,⟨hk.1.2.1,hk.1.2.2⟩⟩)⟩
            have n1_ : Aside0 (Kd.V (Kd.slice 3 (Kd.int .i64)) 24 (w22.setCell ⟨gb827,0,none⟩ (.slice Ao23 t823.length co23)) w.heap.size (fun k_ => (P0_0_ k_ ∨ w.heap.size ≤ k_) ∧ k_ ≠ gb815 ∧ k_ ≠ gb827) (.slice Ao23 t823.length co23) t823):=⟨by (with_reducible repeat (first|apply Kd.V_alloc|apply Kd.V_drewN|apply Kd.V_drew)); exact Kd.V_mono (Kd.V_far (p:=⟨gb827,0,none⟩) (Kd.V_mono HO825.out (fun k_ hk => (⟨hk,hk.2.2⟩ : _ ∧ k_ ≠ gb827))) (fun _ hk => hk.2) (.slice Ao23 t823.length co23)) (fun _ hk => ⟨hk.1.1,⟨hk.1.2.1,hk.1.2.2⟩⟩)⟩
            have n2_ : Aside0 ((w22.setCell ⟨gb827,0,none⟩ (.slice Ao23 t823.length co23)).heap[gb815]? = some (.cells #[.slice Ao15 x816000_1.length co15] 42 (0,0))):=⟨by (with_reducible repeat (first|refine blk_drewN ?_ _|refine blk_drew ?_|refine blk_alloc ?_ _)); refine blk_far ?_ NB815_827.out _; (with_reducible repeat (first|refine blk_drewN ?_ _|refine blk_drew ?_|refine blk_alloc ?_ _)); exact BK815.out⟩
            have n3_ : Aside0 ((w22.setCell ⟨gb827,0,none⟩ (.slice Ao23 t823.length co23)).heap[gb827]? = some (.cells #[.slice Ao23 t823.length co23] 42 (0,0))):=⟨by (with_reducible repeat (first|refine blk_drewN ?_ _|refine blk_drew ?_|refine blk_alloc ?_ _)); refine blk_put (cs:=#[.slice none 0 0]) ?_ 0 _ rfl; (with_reducible repeat (first|refine blk_drewN ?_ _|refine blk_drew ?_|refine blk_alloc ?_ _)); exact BK827.out⟩
            have n4_ : Aside0 (Below w.heap.size w (w22.setCell ⟨gb827,0,none⟩ (.slice Ao23 t823.length co23))):=⟨by repeat (first|(with_reducible first|exact HB.out|apply below_alloc|apply pw_below_drewN|apply below_drew1|refine below_set ?_ GE815.out|refine below_set ?_ GE827.out)|exact HB.out)⟩
            (try clear HO_816000)
            (try clear HO825)
            (try clear BK815)
            (try clear BK827)
            (try clear HB)
            generalize (w22.setCell ⟨gb827,0,none⟩ (.slice Ao23 t823.length co23)) = w28 at n0_ n1_ n2_ n3_ n4_ ⊢
            have HO_816000:=n0_
            have HO825:=n1_
            have BK815:=n2_
            have BK827:=n3_
            have HB:=n4_
            clear n0_ n1_ n2_ n3_ n4_
            have n0_:=Aside0.mk (Kd.V_drew HO_816000.out)
            have n1_:=Aside0.mk (Kd.V_drew HO825.out)
            have n2_:=Aside0.mk (blk_drew BK815.out)
            have n3_:=Aside0.mk (blk_drew BK827.out)
            have n4_:=Aside0.mk (below_drew1 HB.out)
            clear HO_816000
            clear HO825
            clear BK815
            clear BK827
            clear HB
            have HO_816000:=n0_
            have HO825:=n1_
            have BK815:=n2_
            have BK827:=n3_
            have HB:=n4_
            clear n0_ n1_ n2_ n3_ n4_
            have p828 : 0 ≤ (x8_1 : Int):=of_decide_eq_true (by first|(with_reducible assumption)|assumption)
            have q828 : x8_1 < (l2.length : Int):=of_decide_eq_true (by first|(with_reducible assumption)|assumption)
            obtain ⟨ad828,e828,hx828_0,hx828_1⟩:=at_T138 HR2.out x8_1 p828 q828
            have hw828_1:=hx828_1
            have hw828_0:=hx828_0
            obtain rfl : ad819 = ad828:=(by injection e828)
            replace hx828_0:=(HB.out.cell (World.block_lt_of_cell? w _ hx828_0)).trans hx828_0
            replace hx828_1:=(HB.out.cell (World.block_lt_of_cell? w _ hx828_1)).trans hx828_1
            replace p828:=eq_true p828
            replace q828:=eq_true q828
            have p829 : 0 ≤ (x8_1 : Int):=of_decide_eq_true (by first|(with_reducible assumption)|assumption)
            have q829 : x8_1 < (l2.length : Int):=of_decide_eq_true (by first|(with_reducible assumption)|assumption)
            obtain ⟨ad829,e829,hx829_0,hx829_1⟩:=at_T138 HR2.out x8_1 p829 q829
            have hw829_1:=hx829_1
            have hw829_0:=hx829_0
            obtain rfl : ad819 = ad829:=(by injection e829)
            replace hx829_0:=(HB.out.cell (World.block_lt_of_cell? w _ hx829_0)).trans hx829_0
            replace hx829_1:=(HB.out.cell (World.block_lt_of_cell? w _ hx829_1)).trans hx829_1
            replace p829:=eq_true p829
            replace q829:=eq_true q829
            have p830 : 0 ≤ (x7_1 : Int):=of_decide_eq_true (by first|(with_reducible assumption)|assumption)
            have q830 : x7_1 < (l1.length : Int):=of_decide_eq_true (by first|(with_reducible assumption)|assumption)
            obtain ⟨ad830,e830,hx830_0⟩:=Kd.at_int HR1.out x7_1 p830 q830
            have hw830_0:=hx830_0
            obtain rfl : ad816 = ad830:=(by injection e830)
            replace hx830_0:=(HB.out.cell (World.block_lt_of_cell? w _ hx830_0)).trans hx830_0
            replace p830:=eq_true p830
            replace q830:=eq_true q830
            refine start_ (n:=27) (S:=fun w' => w'.cell? (ad819.add ((x8_1).toNat * 2)) = some (.int .i64 ((rd_T138 l2 x8_1).f0)) ∧ w'.cell? ⟨(ad819.add ((x8_1).toNat * 2)).block,(ad819.add ((x8_1).toNat * 2)).off + 1,none⟩ = some (.int .i64 ((rd_T138 l2 x8_1).f1)) ∧ w'.cell? (ad819.add ((x8_1).toNat * 2)) = some (.int .i64 ((rd_T138 l2 x8_1).f0)) ∧ w'.cell? ⟨(ad819.add ((x8_1).toNat * 2)).block,(ad819.add ((x8_1).toNat * 2)).off + 1,none⟩ = some (.int .i64 ((rd_T138 l2 x8_1).f1)) ∧ w'.cell? (ad816.add (x7_1).toNat) = some (.int .i64 (rd l1 x7_1))) (ds:=[]) (ba29 27 0) (by kernel_rfl) rfl rfl ⟨((HB.out.cell (World.block_lt_of_cell? w _ hw828_0)).trans hw828_0),((HB.out.cell (World.block_lt_of_cell? w _ hw828_1)).trans hw828_1),((HB.out.cell (World.block_lt_of_cell? w _ hw829_0)).trans hw829_0),((HB.out.cell (World.block_lt_of_cell? w _ hw829_1)).trans hw829_1),((HB.out.cell (World.block_lt_of_cell? w _ hw830_0)).trans hw830_0)⟩ (fun hHeld => ?_); refine with_tabW spec_l6Plan.tab10 spec_l6Plan.bits10 (fun HT_ HW_ => ?_)
            generalize w28.drew = w29 at HO_816000 HO825 BK815 BK827 HB hx828_0 hx828_1 hx829_0 hx829_1 hx830_0 hHeld ⊢
            refine pure_ (i:=0) (N:=some 53) (v:=?_) (a':=?_) (ba29 27 1) rfl rfl (any_of HT_.out (by kernel_rfl)) (fun _ _ _ h => h) (Or.inl ⟨by rfl,?_⟩) ?_ ?_
            rotate_left
            ·intro w'
             go_simp
             with_reducible rfl
            rotate_left
            ·simp only [Act.put,List.setIfInBounds_toArray,List.set_cons_zero,List.set_cons_succ,i64_w,i32_w]
             rfl
            refine pure_ (i:=1) (N:=some 54) (v:=?_) (a':=?_) (ba29 27 3) rfl rfl (any_of HT_.out (by kernel_rfl)) (fun _ _ _ h => h) (Or.inl ⟨by rfl,?_⟩) ?_ ?_
            rotate_left
            ·intro w'
             go_simp
             with_reducible rfl
            rotate_left
            ·simp only [Act.put,List.setIfInBounds_toArray,List.set_cons_zero,List.set_cons_succ,i64_w,i32_w]
             rfl
            refine pure_ (i:=2) (N:=some 55) (v:=?_) (a':=?_) (ba29 27 7) rfl rfl (any_of HT_.out (by kernel_rfl)) (fun _ _ _ h => h) (Or.inl ⟨by rfl,?_⟩) ?_ ?_
            rotate_left
            ·intro w'
             go_simp
             with_reducible rfl
            rotate_left
            ·simp only [Act.put,List.setIfInBounds_toArray,List.set_cons_zero,List.set_cons_succ,i64_w,i32_w]
             rfl
            refine pure_ (i:=3) (N:=some 56) (v:=?_) (a':=?_) (ba29 27 15) rfl rfl (any_of HT_.out (by kernel_rfl)) (fun _ _ _ h => h) (Or.inl ⟨by rfl,?_⟩) ?_ ?_
            rotate_left
            ·intro w'
             go_simp
             with_reducible rfl
            rotate_left
            ·simp only [Act.put,List.setIfInBounds_toArray,List.set_cons_zero,List.set_cons_succ,i64_w,i32_w]
             rfl
            refine pure_ (i:=4) (N:=some 57) (v:=?_) (a':=?_) (ba29 27 31) rfl rfl (any_of HT_.out (by kernel_rfl)) (fun _ _ _ h => h) (Or.inl ⟨by rfl,?_⟩) ?_ ?_
            rotate_left
            ·intro w'
             go_simp
             with_reducible rfl
            rotate_left
            ·simp only [Act.put,List.setIfInBounds_toArray,List.set_cons_zero,List.set_cons_succ,i64_w,i32_w]
             rfl
            refine pure_ (i:=5) (N:=some 58) (v:=?_) (a':=?_) (ba29 27 63) rfl rfl (any_of HT_.out (by kernel_rfl)) (fun _ _ _ h => h) (Or.inl ⟨by rfl,?_⟩) ?_ ?_
            rotate_left
            ·intro w'
             go_simp
             with_reducible rfl
            rotate_left
            ·simp only [Act.put,List.setIfInBounds_toArray,List.set_cons_zero,List.set_cons_succ,i64_w,i32_w]
             rfl
            refine pure_ (i:=6) (N:=some 59) (v:=?_) (a':=?_) (ba29 27 127) rfl rfl (any_of HT_.out (by kernel_rfl)) (fun _ _ _ h => h) (Or.inl ⟨by rfl,?_⟩) ?_ ?_
            rotate_left
            ·intro w'
             go_simp
             with_reducible rfl
            rotate_left
            ·simp only [Act.put,List.setIfInBounds_toArray,List.set_cons_zero,List.set_cons_succ,i64_w,i32_w]
             rfl
            refine pure_ (i:=7) (N:=some 60) (v:=?_) (a':=?_) (ba29 27 255) rfl rfl (any_of HT_.out (by kernel_rfl)) (fun _ _ _ h => h) (Or.inl ⟨by rfl,?_⟩) ?_ ?_
            rotate_left
            ·intro w'
             go_simp
             with_reducible rfl
            rotate_left
            ·simp only [Act.put,List.setIfInBounds_toArray,List.set_cons_zero,List.set_cons_succ,i64_w,i32_w]
             rfl
            refine pure_ (i:=8) (N:=some 61) (v:=?_) (a':=?_) (ba29 27 511) rfl rfl (any_of HT_.out (by kernel_rfl)) (fun _ _ _ h => h) (Or.inl ⟨by rfl,?_⟩) ?_ ?_
            rotate_left
            ·intro w'
             go_simp
             with_reducible rfl
            rotate_left
            ·simp only [Act.put,List.setIfInBounds_toArray,List.set_cons_zero,List.set_cons_succ,i64_w,i32_w]
             rfl
            refine pure_ (i:=9) (N:=some 62) (v:=?_) (a':=?_) (ba29 27 1023) rfl rfl (any_of HT_.out (by kernel_rfl)) (fun _ _ _ h => h) (Or.inl ⟨by rfl,?_⟩) ?_ ?_
            rotate_left
            ·intro w'
             go_simp
             with_reducible rfl
            rotate_left
            ·simp only [Act.put,List.setIfInBounds_toArray,List.set_cons_zero,List.set_cons_succ,i64_w,i32_w]
             rfl
            refine pure_ (i:=10) (N:=some 63) (v:=?_) (a':=?_) (ba29 27 2047) rfl rfl (any_of HT_.out (by kernel_rfl)) (fun _ _ _ h => h) (Or.inl ⟨by rfl,?_⟩) ?_ ?_
            rotate_left
            ·intro w'
             go_simp
             with_reducible rfl
            rotate_left
            ·simp only [Act.put,List.setIfInBounds_toArray,List.set_cons_zero,List.set_cons_succ,i64_w,i32_w]
             rfl
            refine pure_ (i:=11) (N:=some 64) (v:=?_) (a':=?_) (ba29 27 4095) rfl rfl (any_of HT_.out (by kernel_rfl)) (fun _ _ _ h => h) (Or.inl ⟨by rfl,?_⟩) ?_ ?_
            rotate_left
            ·intro w'
             go_simp
             with_reducible rfl
            rotate_left
            ·simp only [Act.put,List.setIfInBounds_toArray,List.set_cons_zero,List.set_cons_succ,i64_w,i32_w]
             rfl
            refine take_ (i:=12) (N:=some 65) (v:=?_) (a':=?_) (ba29 27 8191) rfl rfl (take_ofW HT_.out HW_.out (by kernel_rfl)) (fun _ _ _ h => h) (Or.inl ⟨by rfl,?_⟩) hHeld ?_ ?_
            rotate_left
            ·rintro w' ⟨s0,s1,s2,s3,s4⟩
             go_simp
             with_reducible rfl
            rotate_left
            ·simp only [Act.put,List.setIfInBounds_toArray,List.set_cons_zero,List.set_cons_succ,i64_w,i32_w]
             rfl
            refine pure_ (i:=13) (N:=some 66) (v:=?_) (a':=?_) (ba29 27 16383) rfl rfl (any_of HT_.out (by kernel_rfl)) (fun _ _ _ h => h) (Or.inl ⟨by rfl,?_⟩) ?_ ?_
            rotate_left
            ·intro w'
             go_simp
             with_reducible rfl
            rotate_left
            ·simp only [Act.put,List.setIfInBounds_toArray,List.set_cons_zero,List.set_cons_succ,i64_w,i32_w]
             rfl
            refine pure_ (i:=14) (N:=some 67) (v:=?_) (a':=?_) (ba29 27 32767) rfl rfl (any_of HT_.out (by kernel_rfl)) (fun _ _ _ h => h) (Or.inl ⟨by rfl,?_⟩) ?_ ?_
            rotate_left
            ·intro w'
             go_simp
             with_reducible rfl
            rotate_left
            ·simp only [Act.put,List.setIfInBounds_toArray,List.set_cons_zero,List.set_cons_succ,i64_w,i32_w]
             rfl
            refine pure_ (i:=15) (N:=some 68) (v:=?_) (a':=?_) (ba29 27 65535) rfl rfl (any_of HT_.out (by kernel_rfl)) (fun _ _ _ h => h) (Or.inl ⟨by rfl,?_⟩) ?_ ?_
            rotate_left
            ·intro w'
             go_simp
             with_reducible rfl
            rotate_left
            ·simp only [Act.put,List.setIfInBounds_toArray,List.set_cons_zero,List.set_cons_succ,i64_w,i32_w]
             rfl
            refine pure_ (i:=16) (N:=some 69) (v:=?_) (a':=?_) (ba29 27 131071) rfl rfl (any_of HT_.out (by kernel_rfl)) (fun _ _ _ h => h) (Or.inl ⟨by rfl,?_⟩) ?_ ?_
            rotate_left
            ·intro w'
             go_simp
             with_reducible rfl
            rotate_left
            ·simp only [Act.put,List.setIfInBounds_toArray,List.set_cons_zero,List.set_cons_succ,i64_w,i32_w]
             rfl
            refine pure_ (i:=17) (N:=some 70) (v:=?_) (a':=?_) (ba29 27 262143) rfl rfl (any_of HT_.out (by kernel_rfl)) (fun _ _ _ h => h) (Or.inl ⟨by rfl,?_⟩) ?_ ?_
            rotate_left
            ·intro w'
             go_simp
             with_reducible rfl
            rotate_left
            ·simp only [Act.put,List.setIfInBounds_toArray,List.set_cons_zero,List.set_cons_succ,i64_w,i32_w]
             rfl
            refine pure_ (i:=18) (N:=some 71) (v:=?_) (a':=?_) (ba29 27 524287) rfl rfl (any_of HT_.out (by kernel_rfl)) (fun _ _ _ h => h) (Or.inl ⟨by rfl,?_⟩) ?_ ?_
            rotate_left
            ·intro w'
             go_simp
             with_reducible rfl
            rotate_left
            ·simp only [Act.put,List.setIfInBounds_toArray,List.set_cons_zero,List.set_cons_succ,i64_w,i32_w]
             rfl
            refine pure_ (i:=20) (N:=some 73) (v:=?_) (a':=?_) (ba29 27 1572863) rfl rfl (any_of HT_.out (by kernel_rfl)) (fun _ _ _ h => h) (Or.inl ⟨by rfl,?_⟩) ?_ ?_
            rotate_left
            ·intro w'
             go_simp
             with_reducible rfl
            rotate_left
            ·simp only [Act.put,List.setIfInBounds_toArray,List.set_cons_zero,List.set_cons_succ,i64_w,i32_w]
             rfl
            refine pure_ (i:=21) (N:=some 74) (v:=?_) (a':=?_) (ba29 27 3670015) rfl rfl (any_of HT_.out (by kernel_rfl)) (fun _ _ _ h => h) (Or.inl ⟨by rfl,?_⟩) ?_ ?_
            rotate_left
            ·intro w'
             go_simp
             with_reducible rfl
            rotate_left
            ·simp only [Act.put,List.setIfInBounds_toArray,List.set_cons_zero,List.set_cons_succ,i64_w,i32_w]
             rfl
            refine pure_ (i:=22) (N:=some 75) (v:=?_) (a':=?_) (ba29 27 7864319) rfl rfl (any_of HT_.out (by kernel_rfl)) (fun _ _ _ h => h) (Or.inl ⟨by rfl,?_⟩) ?_ ?_
            rotate_left
            ·intro w'
             go_simp
             with_reducible rfl
            rotate_left
            ·simp only [Act.put,List.setIfInBounds_toArray,List.set_cons_zero,List.set_cons_succ,i64_w,i32_w]
             rfl
            refine take_ (i:=19) (N:=some 72) (v:=?_) (a':=?_) (ba29 27 8388607) rfl rfl (take_ofW HT_.out HW_.out (by kernel_rfl)) (fun _ _ _ h => h) (Or.inl ⟨by rfl,?_⟩) hHeld ?_ ?_
            rotate_left
            ·rintro w' ⟨s0,s1,s2,s3,s4⟩
             go_simp
             with_reducible rfl
            rotate_left
            ·simp only [Act.put,List.setIfInBounds_toArray,List.set_cons_zero,List.set_cons_succ,i64_w,i32_w]
             rfl
            refine take_ (i:=23) (N:=some 76) (v:=?_) (a':=?_) (ba29 27 16777215) rfl rfl (take_ofW HT_.out HW_.out (by kernel_rfl)) (fun _ _ _ h => h) (Or.inl ⟨by rfl,?_⟩) hHeld ?_ ?_
            rotate_left
            ·rintro w' ⟨s0,s1,s2,s3,s4⟩
             go_simp
             with_reducible rfl
            rotate_left
            ·simp only [Act.put,List.setIfInBounds_toArray,List.set_cons_zero,List.set_cons_succ,i64_w,i32_w]
             rfl
            refine pure_ (i:=24) (N:=some 77) (v:=?_) (a':=?_) (ba29 27 33554431) rfl rfl (any_of HT_.out (by kernel_rfl)) (fun _ _ _ h => h) (Or.inl ⟨by rfl,?_⟩) ?_ ?_
            rotate_left
            ·intro w'
             go_simp
             with_reducible rfl
            rotate_left
            ·simp only [Act.put,List.setIfInBounds_toArray,List.set_cons_zero,List.set_cons_succ,i64_w,i32_w]
             rfl
            refine pure_ (i:=25) (N:=some 78) (v:=?_) (a':=?_) (ba29 27 67108863) rfl rfl (any_of HT_.out (by kernel_rfl)) (fun _ _ _ h => h) (Or.inl ⟨by rfl,?_⟩) ?_ ?_
            rotate_left
            ·intro w'
             go_simp
             with_reducible rfl
            rotate_left
            ·simp only [Act.put,List.setIfInBounds_toArray,List.set_cons_zero,List.set_cons_succ,i64_w,i32_w]
             rfl
            refine pure_ (i:=26) (N:=some 79) (v:=?_) (a':=?_) (ba29 27 134217727) rfl rfl (any_of HT_.out (by kernel_rfl)) (fun _ _ _ h => h) (Or.inl ⟨by rfl,?_⟩) ?_ ?_
            rotate_left
            ·intro w'
             go_simp
             with_reducible rfl
            rotate_left
            ·simp only [Act.put,List.setIfInBounds_toArray,List.set_cons_zero,List.set_cons_succ,i64_w,i32_w]
             rfl
            refine done_ (done_of HT_.out (by kernel_rfl)) ?_
            try go_wp2
            go_meet
            case rel => exact ⟨_,((((rd_T138 l2 x8_1).f0) != (rd l1 x7_1))),(by first|rfl|(simp; done)|(simp [*]; done)),H',⟨by have:=HK1.out; first|omega|exact Nat.le_refl _⟩,⟨by (with_reducible repeat (first|apply Kd.V_alloc|apply Kd.V_drewN|apply Kd.V_drew)); exact HO_816000.out⟩,⟨by (with_reducible repeat (first|apply Kd.V_alloc|apply Kd.V_drewN|apply Kd.V_drew)); exact HO825.out⟩,⟨by (with_reducible repeat (first|refine blk_drewN ?_ _|refine blk_drew ?_|refine blk_alloc ?_ _)); exact BK815.out⟩,⟨by (with_reducible repeat (first|refine blk_drewN ?_ _|refine blk_drew ?_|refine blk_alloc ?_ _)); exact BK827.out⟩,⟨by repeat (first|(with_reducible first|exact HB.out|apply below_alloc|apply pw_below_drewN|apply below_drew1|refine below_set ?_ GE815.out|refine below_set ?_ GE827.out)|exact HB.out)⟩⟩
           ·rw [if_neg c27] at H
            have c27b0 : (((rd_T138 l2 x8_1).f1) == (-1)) = false:=beq_eq_false_iff_ne.mpr c27
            have c27b1 : (((rd_T138 l2 x8_1).f1) != (-1)) = true:=bne_iff_ne.mpr c27
            have H':=Aside0.mk H
            clear H
            try go_wp2
            have n0_ : Aside0 (Kd.V (Kd.slice 3 (Kd.int .i64)) 24 (w22.setCell ⟨gb827,0,none⟩ (.slice Ao23 t823.length co23)) w.heap.size (fun k_ => (P0_0_ k_ ∨ w.heap.size ≤ k_) ∧ k_ ≠ gb815 ∧ k_ ≠ gb827) (.slice Ao15 x816000_1.length co15) x816000_1):=⟨by (with_reducible repeat (first|apply Kd.V_alloc|apply Kd.V_drewN|apply Kd.V_drew)); exact Kd.V_mono (Kd.V_far (p:=⟨gb827,0,none⟩) (Kd.V_mono HO_816000.out (fun k_ hk => (⟨hk,hk.2.2⟩ : _ ∧ k_ ≠ gb827))) (fun _ hk => hk.2) (.slice Ao23 t823.length co23)) (fun _ hk => ⟨hk.1.1,⟨hk.1.2.1,hk.1.2.2⟩⟩)⟩
            have n1_ : Aside0 (Kd.V (Kd.slice 3 (Kd.int .i64)) 24 (w22.setCell ⟨gb827,0,none⟩ (.slice Ao23 t823.length co23)) w.heap.size (fun k_ => (P0_0_ k_ ∨ w.heap.size ≤ k_) ∧ k_ ≠ gb815 ∧ k_ ≠ gb827) (.slice Ao23 t823.length co23) t823):=⟨by (with_reducible repeat (first|apply Kd.V_alloc|apply Kd.V_drewN|apply Kd.V_drew)); exact Kd.V_mono (Kd.V_far (p:=⟨gb827,0,none⟩) (Kd.V_mono HO825.out (fun k_ hk => (⟨hk,hk.2.2⟩ : _ ∧ k_ ≠ gb827))) (fun _ hk => hk.2) (.slice Ao23 t823.length co23)) (fun _ hk => ⟨hk.1.1,⟨hk.1.2.1,hk.1.2.2⟩⟩)⟩
            have n2_ : Aside0 ((w22.setCell ⟨gb827,0,none⟩ (.slice Ao23 t823.length co23)).heap[gb815]? = some (.cells #[.slice Ao15 x816000_1.length co15] 42 (0,0))):=⟨by (with_reducible repeat (first|refine blk_drewN ?_ _|refine blk_drew ?_|refine blk_alloc ?_ _)); refine blk_far ?_ NB815_827.out _; (with_reducible repeat (first|refine blk_drewN ?_ _|refine blk_drew ?_|refine blk_alloc ?_ _)); exact BK815.out⟩
            have n3_ : Aside0 ((w22.setCell ⟨gb827,0,none⟩ (.slice Ao23 t823.length co23)).heap[gb827]? = some (.cells #[.slice Ao23 t823.length co23] 42 (0,0))):=⟨by (with_reducible repeat (first|refine blk_drewN ?_ _|refine blk_drew ?_|refine blk_alloc ?_ _)); refine blk_put (cs:=#[.slice none 0 0]) ?_ 0 _ rfl; (with_reducible repeat (first|refine blk_drewN ?_ _|refine blk_drew ?_|refine blk_alloc ?_ _)); exact BK827.out⟩
            have n4_ : Aside0 (Below w.heap.size w (w22.setCell ⟨gb827,0,none⟩ (.slice Ao23 t823.length co23))):=⟨by repeat (first|(with_reducible first|exact HB.out|apply below_alloc|apply pw_below_drewN|apply below_drew1|refine below_set ?_ GE815.out|refine below_set ?_ GE827.out)|exact HB.out)⟩
            (try clear HO_816000)
            (try clear HO825)
            (try clear BK815)
            (try clear BK827)
            (try clear HB)
            generalize (w22.setCell ⟨gb827,0,none⟩ (.slice Ao23 t823.length co23)) = w30 at n0_ n1_ n2_ n3_ n4_ ⊢
            have HO_816000:=n0_
            have HO825:=n1_
            have BK815:=n2_
            have BK827:=n3_
            have HB:=n4_
            clear n0_ n1_ n2_ n3_ n4_
            have n0_:=Aside0.mk (Kd.V_drew HO_816000.out)
            have n1_:=Aside0.mk (Kd.V_drew HO825.out)
            have n2_:=Aside0.mk (blk_drew BK815.out)
            have n3_:=Aside0.mk (blk_drew BK827.out)
            have n4_:=Aside0.mk (below_drew1 HB.out)
            clear HO_816000
            clear HO825
            clear BK815
            clear BK827
            clear HB
            have HO_816000:=n0_
            have HO825:=n1_
            have BK815:=n2_
            have BK827:=n3_
            have HB:=n4_
            clear n0_ n1_ n2_ n3_ n4_
            have p828 : 0 ≤ (x8_1 : Int):=of_decide_eq_true (by first|(with_reducible assumption)|assumption)
            have q828 : x8_1 < (l2.length : Int):=of_decide_eq_true (by first|(with_reducible assumption)|assumption)
            obtain ⟨ad828,e828,hx828_0,hx828_1⟩:=at_T138 HR2.out x8_1 p828 q828
            have hw828_1:=hx828_1
            have hw828_0:=hx828_0
            obtain rfl : ad819 = ad828:=(by injection e828)
            replace hx828_0:=(HB.out.cell (World.block_lt_of_cell? w _ hx828_0)).trans hx828_0
            replace hx828_1:=(HB.out.cell (World.block_lt_of_cell? w _ hx828_1)).trans hx828_1
            replace p828:=eq_true p828
            replace q828:=eq_true q828
            refine start_ (n:=27) (S:=fun w' => w'.cell? (ad819.add ((x8_1).toNat * 2)) = some (.int .i64 ((rd_T138 l2 x8_1).f0)) ∧ w'.cell? ⟨(ad819.add ((x8_1).toNat * 2)).block,(ad819.add ((x8_1).toNat * 2)).off + 1,none⟩ = some (.int .i64 ((rd_T138 l2 x8_1).f1))) (ds:=[]) (ba29 27 0) (by kernel_rfl) rfl rfl ⟨((HB.out.cell (World.block_lt_of_cell? w _ hw828_0)).trans hw828_0),((HB.out.cell (World.block_lt_of_cell? w _ hw828_1)).trans hw828_1)⟩ (fun hHeld => ?_); refine with_tabW spec_l6Plan.tab10 spec_l6Plan.bits10 (fun HT_ HW_ => ?_)
            generalize w30.drew = w31 at HO_816000 HO825 BK815 BK827 HB hx828_0 hx828_1 hHeld ⊢
            refine pure_ (i:=0) (N:=some 53) (v:=?_) (a':=?_) (ba29 27 1) rfl rfl (any_of HT_.out (by kernel_rfl)) (fun _ _ _ h => h) (Or.inl ⟨by rfl,?_⟩) ?_ ?_
            rotate_left
            ·intro w'
             go_simp
             with_reducible rfl
            rotate_left
            ·simp only [Act.put,List.setIfInBounds_toArray,List.set_cons_zero,List.set_cons_succ,i64_w,i32_w]
             rfl
            refine pure_ (i:=1) (N:=some 54) (v:=?_) (a':=?_) (ba29 27 3) rfl rfl (any_of HT_.out (by kernel_rfl)) (fun _ _ _ h => h) (Or.inl ⟨by rfl,?_⟩) ?_ ?_
            rotate_left
            ·intro w'
             go_simp
             with_reducible rfl
            rotate_left
            ·simp only [Act.put,List.setIfInBounds_toArray,List.set_cons_zero,List.set_cons_succ,i64_w,i32_w]
             rfl
            refine pure_ (i:=2) (N:=some 55) (v:=?_) (a':=?_) (ba29 27 7) rfl rfl (any_of HT_.out (by kernel_rfl)) (fun _ _ _ h => h) (Or.inl ⟨by rfl,?_⟩) ?_ ?_
            rotate_left
            ·intro w'
             go_simp
             with_reducible rfl
            rotate_left
            ·simp only [Act.put,List.setIfInBounds_toArray,List.set_cons_zero,List.set_cons_succ,i64_w,i32_w]
             rfl
            refine pure_ (i:=3) (N:=some 56) (v:=?_) (a':=?_) (ba29 27 15) rfl rfl (any_of HT_.out (by kernel_rfl)) (fun _ _ _ h => h) (Or.inl ⟨by rfl,?_⟩) ?_ ?_
            rotate_left
            ·intro w'
             go_simp
             with_reducible rfl
            rotate_left
            ·simp only [Act.put,List.setIfInBounds_toArray,List.set_cons_zero,List.set_cons_succ,i64_w,i32_w]
             rfl
            refine pure_ (i:=4) (N:=some 57) (v:=?_) (a':=?_) (ba29 27 31) rfl rfl (any_of HT_.out (by kernel_rfl)) (fun _ _ _ h => h) (Or.inl ⟨by rfl,?_⟩) ?_ ?_
            rotate_left
            ·intro w'
             go_simp
             with_reducible rfl
            rotate_left
            ·simp only [Act.put,List.setIfInBounds_toArray,List.set_cons_zero,List.set_cons_succ,i64_w,i32_w]
             rfl
            refine pure_ (i:=5) (N:=some 58) (v:=?_) (a':=?_) (ba29 27 63) rfl rfl (any_of HT_.out (by kernel_rfl)) (fun _ _ _ h => h) (Or.inl ⟨by rfl,?_⟩) ?_ ?_
            rotate_left
            ·intro w'
             go_simp
             with_reducible rfl
            rotate_left
            ·simp only [Act.put,List.setIfInBounds_toArray,List.set_cons_zero,List.set_cons_succ,i64_w,i32_w]
             rfl
            refine pure_ (i:=6) (N:=some 59) (v:=?_) (a':=?_) (ba29 27 127) rfl rfl (any_of HT_.out (by kernel_rfl)) (fun _ _ _ h => h) (Or.inl ⟨by rfl,?_⟩) ?_ ?_
            rotate_left
            ·intro w'
             go_simp
             with_reducible rfl
            rotate_left
            ·simp only [Act.put,List.setIfInBounds_toArray,List.set_cons_zero,List.set_cons_succ,i64_w,i32_w]
             rfl
            refine pure_ (i:=7) (N:=some 60) (v:=?_) (a':=?_) (ba29 27 255) rfl rfl (any_of HT_.out (by kernel_rfl)) (fun _ _ _ h => h) (Or.inl ⟨by rfl,?_⟩) ?_ ?_
            rotate_left
            ·intro w'
             go_simp
             with_reducible rfl
            rotate_left
            ·simp only [Act.put,List.setIfInBounds_toArray,List.set_cons_zero,List.set_cons_succ,i64_w,i32_w]
             rfl
            refine pure_ (i:=8) (N:=some 61) (v:=?_) (a':=?_) (ba29 27 511) rfl rfl (any_of HT_.out (by kernel_rfl)) (fun _ _ _ h => h) (Or.inl ⟨by rfl,?_⟩) ?_ ?_
            rotate_left
            ·intro w'
             go_simp
             with_reducible rfl
            rotate_left
            ·simp only [Act.put,List.setIfInBounds_toArray,List.set_cons_zero,List.set_cons_succ,i64_w,i32_w]
             rfl
            refine pure_ (i:=9) (N:=some 62) (v:=?_) (a':=?_) (ba29 27 1023) rfl rfl (any_of HT_.out (by kernel_rfl)) (fun _ _ _ h => h) (Or.inl ⟨by rfl,?_⟩) ?_ ?_
            rotate_left
            ·intro w'
             go_simp
             with_reducible rfl
            rotate_left
            ·simp only [Act.put,List.setIfInBounds_toArray,List.set_cons_zero,List.set_cons_succ,i64_w,i32_w]
             rfl
            refine pure_ (i:=10) (N:=some 63) (v:=?_) (a':=?_) (ba29 27 2047) rfl rfl (any_of HT_.out (by kernel_rfl)) (fun _ _ _ h => h) (Or.inl ⟨by rfl,?_⟩) ?_ ?_
            rotate_left
            ·intro w'
             go_simp
             with_reducible rfl
            rotate_left
            ·simp only [Act.put,List.setIfInBounds_toArray,List.set_cons_zero,List.set_cons_succ,i64_w,i32_w]
             rfl
            refine pure_ (i:=11) (N:=some 64) (v:=?_) (a':=?_) (ba29 27 4095) rfl rfl (any_of HT_.out (by kernel_rfl)) (fun _ _ _ h => h) (Or.inl ⟨by rfl,?_⟩) ?_ ?_
            rotate_left
            ·intro w'
             go_simp
             with_reducible rfl
            rotate_left
            ·simp only [Act.put,List.setIfInBounds_toArray,List.set_cons_zero,List.set_cons_succ,i64_w,i32_w]
             rfl
            refine take_ (i:=12) (N:=some 65) (v:=?_) (a':=?_) (ba29 27 8191) rfl rfl (take_ofW HT_.out HW_.out (by kernel_rfl)) (fun _ _ _ h => h) (Or.inl ⟨by rfl,?_⟩) hHeld ?_ ?_
            rotate_left
            ·rintro w' ⟨s0,s1⟩
             go_simp
             with_reducible rfl
            rotate_left
            ·simp only [Act.put,List.setIfInBounds_toArray,List.set_cons_zero,List.set_cons_succ,i64_w,i32_w]
             rfl
            refine pure_ (i:=13) (N:=some 66) (v:=?_) (a':=?_) (ba29 27 16383) rfl rfl (any_of HT_.out (by kernel_rfl)) (fun _ _ _ h => h) (Or.inl ⟨by rfl,?_⟩) ?_ ?_
            rotate_left
            ·intro w'
             go_simp
             with_reducible rfl
            rotate_left
            ·simp only [Act.put,List.setIfInBounds_toArray,List.set_cons_zero,List.set_cons_succ,i64_w,i32_w]
             rfl
            refine pure_ (i:=14) (N:=some 67) (v:=?_) (a':=?_) (ba29 27 32767) rfl rfl (any_of HT_.out (by kernel_rfl)) (fun _ _ _ h => h) (Or.inl ⟨by rfl,?_⟩) ?_ ?_
            rotate_left
            ·intro w'
             go_simp
             with_reducible rfl
            rotate_left
            ·simp only [Act.put,List.setIfInBounds_toArray,List.set_cons_zero,List.set_cons_succ,i64_w,i32_w]
             rfl
            refine pure_ (i:=15) (N:=some 68) (v:=undef) (a':=?_) (ba29 27 65535) rfl rfl (any_of HT_.out (by kernel_rfl)) (fun _ _ _ h => h) (Or.inr ⟨by rfl,rfl⟩) ?_ ?_
            rotate_left
            ·simp only [Act.put,List.setIfInBounds_toArray,List.set_cons_zero,List.set_cons_succ,i64_w,i32_w]
             rfl
            refine pure_ (i:=16) (N:=some 69) (v:=undef) (a':=?_) (ba29 27 131071) rfl rfl (any_of HT_.out (by kernel_rfl)) (fun _ _ _ h => h) (Or.inr ⟨by rfl,rfl⟩) ?_ ?_
            rotate_left
            ·simp only [Act.put,List.setIfInBounds_toArray,List.set_cons_zero,List.set_cons_succ,i64_w,i32_w]
             rfl
            refine pure_ (i:=17) (N:=some 70) (v:=undef) (a':=?_) (ba29 27 262143) rfl rfl (any_of HT_.out (by kernel_rfl)) (fun _ _ _ h => h) (Or.inr ⟨by rfl,rfl⟩) ?_ ?_
            rotate_left
            ·simp only [Act.put,List.setIfInBounds_toArray,List.set_cons_zero,List.set_cons_succ,i64_w,i32_w]
             rfl
            refine pure_ (i:=18) (N:=some 71) (v:=undef) (a':=?_) (ba29 27 524287) rfl rfl (any_of HT_.out (by kernel_rfl)) (fun _ _ _ h => h) (Or.inr ⟨by rfl,rfl⟩) ?_ ?_
            rotate_left
            ·simp only [Act.put,List.setIfInBounds_toArray,List.set_cons_zero,List.set_cons_succ,i64_w,i32_w]
             rfl
            refine pure_ (i:=19) (N:=some 72) (v:=undef) (a':=?_) (ba29 27 1048575) rfl rfl (any_of HT_.out (by kernel_rfl)) (fun _ _ _ h => h) (Or.inr ⟨by rfl,rfl⟩) ?_ ?_
            rotate_left
            ·simp only [Act.put,List.setIfInBounds_toArray,List.set_cons_zero,List.set_cons_succ,i64_w,i32_w]
             rfl
            refine pure_ (i:=20) (N:=some 73) (v:=undef) (a':=?_) (ba29 27 2097151) rfl rfl (any_of HT_.out (by kernel_rfl)) (fun _ _ _ h => h) (Or.inr ⟨by rfl,rfl⟩) ?_ ?_
            rotate_left
            ·simp only [Act.put,List.setIfInBounds_toArray,List.set_cons_zero,List.set_cons_succ,i64_w,i32_w]
             rfl
            refine pure_ (i:=21) (N:=some 74) (v:=undef) (a':=?_) (ba29 27 4194303) rfl rfl (any_of HT_.out (by kernel_rfl)) (fun _ _ _ h => h) (Or.inr ⟨by rfl,rfl⟩) ?_ ?_
            rotate_left
            ·simp only [Act.put,List.setIfInBounds_toArray,List.set_cons_zero,List.set_cons_succ,i64_w,i32_w]
             rfl
            refine pure_ (i:=22) (N:=some 75) (v:=undef) (a':=?_) (ba29 27 8388607) rfl rfl (any_of HT_.out (by kernel_rfl)) (fun _ _ _ h => h) (Or.inr ⟨by rfl,rfl⟩) ?_ ?_
            rotate_left
            ·simp only [Act.put,List.setIfInBounds_toArray,List.set_cons_zero,List.set_cons_succ,i64_w,i32_w]
             rfl
            refine pure_ (i:=23) (N:=some 76) (v:=undef) (a':=?_) (ba29 27 16777215) rfl rfl (any_of HT_.out (by kernel_rfl)) (fun _ _ _ h => h) (Or.inr ⟨by rfl,rfl⟩) ?_ ?_
            rotate_left
            ·simp only [Act.put,List.setIfInBounds_toArray,List.set_cons_zero,List.set_cons_succ,i64_w,i32_w]
             rfl
            refine pure_ (i:=24) (N:=some 77) (v:=undef) (a':=?_) (ba29 27 33554431) rfl rfl (any_of HT_.out (by kernel_rfl)) (fun _ _ _ h => h) (Or.inr ⟨by rfl,rfl⟩) ?_ ?_
            rotate_left
            ·simp only [Act.put,List.setIfInBounds_toArray,List.set_cons_zero,List.set_cons_succ,i64_w,i32_w]
             rfl
            refine pure_ (i:=25) (N:=some 78) (v:=?_) (a':=?_) (ba29 27 67108863) rfl rfl (any_of HT_.out (by kernel_rfl)) (fun _ _ _ h => h) (Or.inl ⟨by rfl,?_⟩) ?_ ?_
            rotate_left
            ·intro w'
             go_simp
             with_reducible rfl
            rotate_left
            ·simp only [Act.put,List.setIfInBounds_toArray,List.set_cons_zero,List.set_cons_succ,i64_w,i32_w]
             rfl
            refine pure_ (i:=26) (N:=some 79) (v:=?_) (a':=?_) (ba29 27 134217727) rfl rfl (any_of HT_.out (by kernel_rfl)) (fun _ _ _ h => h) (Or.inl ⟨by rfl,?_⟩) ?_ ?_
            rotate_left
            ·intro w'
             go_simp
             with_reducible rfl
            rotate_left
            ·simp only [Act.put,List.setIfInBounds_toArray,List.set_cons_zero,List.set_cons_succ,i64_w,i32_w]
             rfl
            refine done_ (done_of HT_.out (by kernel_rfl)) ?_
            try go_wp2
            go_meet
            case rel => exact ⟨_,(false),(by first|rfl|(simp; done)|(simp [*]; done)),H',⟨by have:=HK1.out; first|omega|exact Nat.le_refl _⟩,⟨by (with_reducible repeat (first|apply Kd.V_alloc|apply Kd.V_drewN|apply Kd.V_drew)); exact HO_816000.out⟩,⟨by (with_reducible repeat (first|apply Kd.V_alloc|apply Kd.V_drewN|apply Kd.V_drew)); exact HO825.out⟩,⟨by (with_reducible repeat (first|refine blk_drewN ?_ _|refine blk_drew ?_|refine blk_alloc ?_ _)); exact BK815.out⟩,⟨by (with_reducible repeat (first|refine blk_drewN ?_ _|refine blk_drew ?_|refine blk_alloc ?_ _)); exact BK827.out⟩,⟨by repeat (first|(with_reducible first|exact HB.out|apply below_alloc|apply pw_below_drewN|apply below_drew1|refine below_set ?_ GE815.out|refine below_set ?_ GE827.out)|exact HB.out)⟩⟩
          ·rw [if_neg c26] at H
           have c26b0 : (t820 == t817) = false:=beq_eq_false_iff_ne.mpr c26
           have c26b1 : (t820 != t817) = true:=bne_iff_ne.mpr c26
           (first|rw [c26b0]|(simp only [i64_w,i32_w]; rw [c26b0])|skip)
           have H':=Aside0.mk H
           clear H
           try go_wp2
           have n0_ : Aside0 (Kd.V (Kd.slice 3 (Kd.int .i64)) 24 (w22.setCell ⟨gb827,0,none⟩ (.slice Ao23 t823.length co23)) w.heap.size (fun k_ => (P0_0_ k_ ∨ w.heap.size ≤ k_) ∧ k_ ≠ gb815 ∧ k_ ≠ gb827) (.slice Ao15 x816000_1.length co15) x816000_1):=⟨by (with_reducible repeat (first|apply Kd.V_alloc|apply Kd.V_drewN|apply Kd.V_drew)); exact Kd.V_mono (Kd.V_far (p:=⟨gb827,0,none⟩) (Kd.V_mono HO_816000.out (fun k_ hk => (⟨hk,hk.2.2⟩ : _ ∧ k_ ≠ gb827))) (fun _ hk => hk.2) (.slice Ao23 t823.length co23)) (fun _ hk => ⟨hk.1.1,⟨hk.1.2.1,hk.1.2.2⟩⟩)⟩
           have n1_ : Aside0 (Kd.V (Kd.slice 3 (Kd.int .i64)) 24 (w22.setCell ⟨gb827,0,none⟩ (.slice Ao23 t823.length co23)) w.heap.size (fun k_ => (P0_0_ k_ ∨ w.heap.size ≤ k_) ∧ k_ ≠ gb815 ∧ k_ ≠ gb827) (.slice Ao23 t823.length co23) t823):=⟨by (with_reducible repeat (first|apply Kd.V_alloc|apply Kd.V_drewN|apply Kd.V_drew)); exact Kd.V_mono (Kd.V_far (p:=⟨gb827,0,none⟩) (Kd.V_mono HO825.out (fun k_ hk => (⟨hk,hk.2.2⟩ : _ ∧ k_ ≠ gb827))) (fun _ hk => hk.2) (.slice Ao23 t823.length co23)) (fun _ hk => ⟨hk.1.1,⟨hk.1.2.1,hk.1.2.2⟩⟩)⟩
           have n2_ : Aside0 ((w22.setCell ⟨gb827,0,none⟩ (.slice Ao23 t823.length co23)).heap[gb815]? = some (.cells #[.slice Ao15 x816000_1.length co15] 42 (0,0))):=⟨by (with_reducible repeat (first|refine blk_drewN ?_ _|refine blk_drew ?_|refine blk_alloc ?_ _)); refine blk_far ?_ NB815_827.out _; (with_reducible repeat (first|refine blk_drewN ?_ _|refine blk_drew ?_|refine blk_alloc ?_ _)); exact BK815.out⟩
           have n3_ : Aside0 ((w22.setCell ⟨gb827,0,none⟩ (.slice Ao23 t823.length co23)).heap[gb827]? = some (.cells #[.slice Ao23 t823.length co23] 42 (0,0))):=⟨by (with_reducible repeat (first|refine blk_drewN ?_ _|refine blk_drew ?_|refine blk_alloc ?_ _)); refine blk_put (cs:=#[.slice none 0 0]) ?_ 0 _ rfl; (with_reducible repeat (first|refine blk_drewN ?_ _|refine blk_drew ?_|refine blk_alloc ?_ _)); exact BK827.out⟩
           have n4_ : Aside0 (Below w.heap.size w (w22.setCell ⟨gb827,0,none⟩ (.slice Ao23 t823.length co23))):=⟨by repeat (first|(with_reducible first|exact HB.out|apply below_alloc|apply pw_below_drewN|apply below_drew1|refine below_set ?_ GE815.out|refine below_set ?_ GE827.out)|exact HB.out)⟩
           (try clear HO_816000)
           (try clear HO825)
           (try clear BK815)
           (try clear BK827)
           (try clear HB)
           generalize (w22.setCell ⟨gb827,0,none⟩ (.slice Ao23 t823.length co23)) = w32 at n0_ n1_ n2_ n3_ n4_ ⊢
           have HO_816000:=n0_
           have HO825:=n1_
           have BK815:=n2_
           have BK827:=n3_
           have HB:=n4_
           clear n0_ n1_ n2_ n3_ n4_
           have n0_:=Aside0.mk (Kd.V_drew HO_816000.out)
           have n1_:=Aside0.mk (Kd.V_drew HO825.out)
           have n2_:=Aside0.mk (blk_drew BK815.out)
           have n3_:=Aside0.mk (blk_drew BK827.out)
           have n4_:=Aside0.mk (below_drew1 HB.out)
           clear HO_816000
           clear HO825
           clear BK815
           clear BK827
           clear HB
           have HO_816000:=n0_
           have HO825:=n1_
           have BK815:=n2_
           have BK827:=n3_
           have HB:=n4_
           clear n0_ n1_ n2_ n3_ n4_
           refine start_ (n:=27) (S:=fun w' => True) (ds:=[]) (ba29 27 0) (by kernel_rfl) rfl rfl trivial (fun hHeld => ?_); refine with_tabW spec_l6Plan.tab10 spec_l6Plan.bits10 (fun HT_ HW_ => ?_)
           generalize w32.drew = w33 at HO_816000 HO825 BK815 BK827 HB hHeld ⊢
           refine pure_ (i:=0) (N:=some 53) (v:=?_) (a':=?_) (ba29 27 1) rfl rfl (any_of HT_.out (by kernel_rfl)) (fun _ _ _ h => h) (Or.inl ⟨by rfl,?_⟩) ?_ ?_
           rotate_left
           ·intro w'
            go_simp
            with_reducible rfl
           rotate_left
           ·simp only [Act.put,List.setIfInBounds_toArray,List.set_cons_zero,List.set_cons_succ,i64_w,i32_w]
            rfl
           refine pure_ (i:=1) (N:=some 54) (v:=?_) (a':=?_) (ba29 27 3) rfl rfl (any_of HT_.out (by kernel_rfl)) (fun _ _ _ h => h) (Or.inl ⟨by rfl,?_⟩) ?_ ?_
           rotate_left
           ·intro w'
            go_simp
            with_reducible rfl
           rotate_left
           ·simp only [Act.put,List.setIfInBounds_toArray,List.set_cons_zero,List.set_cons_succ,i64_w,i32_w]
            rfl
           refine pure_ (i:=2) (N:=some 55) (v:=?_) (a':=?_) (ba29 27 7) rfl rfl (any_of HT_.out (by kernel_rfl)) (fun _ _ _ h => h) (Or.inl ⟨by rfl,?_⟩) ?_ ?_
           rotate_left
           ·intro w'
            go_simp
            with_reducible rfl
           rotate_left
           ·simp only [Act.put,List.setIfInBounds_toArray,List.set_cons_zero,List.set_cons_succ,i64_w,i32_w]
            rfl
           refine pure_ (i:=3) (N:=some 56) (v:=?_) (a':=?_) (ba29 27 15) rfl rfl (any_of HT_.out (by kernel_rfl)) (fun _ _ _ h => h) (Or.inl ⟨by rfl,?_⟩) ?_ ?_
           rotate_left
           ·intro w'
            go_simp
            with_reducible rfl
           rotate_left
           ·simp only [Act.put,List.setIfInBounds_toArray,List.set_cons_zero,List.set_cons_succ,i64_w,i32_w]
            rfl
           refine pure_ (i:=4) (N:=some 57) (v:=?_) (a':=?_) (ba29 27 31) rfl rfl (any_of HT_.out (by kernel_rfl)) (fun _ _ _ h => h) (Or.inl ⟨by rfl,?_⟩) ?_ ?_
           rotate_left
           ·intro w'
            go_simp
            with_reducible rfl
           rotate_left
           ·simp only [Act.put,List.setIfInBounds_toArray,List.set_cons_zero,List.set_cons_succ,i64_w,i32_w]
            rfl
           refine pure_ (i:=5) (N:=some 58) (v:=?_) (a':=?_) (ba29 27 63) rfl rfl (any_of HT_.out (by kernel_rfl)) (fun _ _ _ h => h) (Or.inl ⟨by rfl,?_⟩) ?_ ?_
           rotate_left
           ·intro w'
            go_simp
            with_reducible rfl
           rotate_left
           ·simp only [Act.put,List.setIfInBounds_toArray,List.set_cons_zero,List.set_cons_succ,i64_w,i32_w]
            rfl
           refine pure_ (i:=6) (N:=some 59) (v:=?_) (a':=?_) (ba29 27 127) rfl rfl (any_of HT_.out (by kernel_rfl)) (fun _ _ _ h => h) (Or.inl ⟨by rfl,?_⟩) ?_ ?_
           rotate_left
           ·intro w'
            go_simp
            with_reducible rfl
           rotate_left
           ·simp only [Act.put,List.setIfInBounds_toArray,List.set_cons_zero,List.set_cons_succ,i64_w,i32_w]
            rfl
           refine pure_ (i:=7) (N:=some 60) (v:=?_) (a':=?_) (ba29 27 255) rfl rfl (any_of HT_.out (by kernel_rfl)) (fun _ _ _ h => h) (Or.inl ⟨by rfl,?_⟩) ?_ ?_
           rotate_left
           ·intro w'
            go_simp
            with_reducible rfl
           rotate_left
           ·simp only [Act.put,List.setIfInBounds_toArray,List.set_cons_zero,List.set_cons_succ,i64_w,i32_w]
            rfl
           refine pure_ (i:=8) (N:=some 61) (v:=undef) (a':=?_) (ba29 27 511) rfl rfl (any_of HT_.out (by kernel_rfl)) (fun _ _ _ h => h) (Or.inr ⟨by rfl,rfl⟩) ?_ ?_
           rotate_left
           ·simp only [Act.put,List.setIfInBounds_toArray,List.set_cons_zero,List.set_cons_succ,i64_w,i32_w]
            rfl
           refine pure_ (i:=9) (N:=some 62) (v:=undef) (a':=?_) (ba29 27 1023) rfl rfl (any_of HT_.out (by kernel_rfl)) (fun _ _ _ h => h) (Or.inr ⟨by rfl,rfl⟩) ?_ ?_
           rotate_left
           ·simp only [Act.put,List.setIfInBounds_toArray,List.set_cons_zero,List.set_cons_succ,i64_w,i32_w]
            rfl
           refine pure_ (i:=10) (N:=some 63) (v:=undef) (a':=?_) (ba29 27 2047) rfl rfl (any_of HT_.out (by kernel_rfl)) (fun _ _ _ h => h) (Or.inr ⟨by rfl,rfl⟩) ?_ ?_
           rotate_left
           ·simp only [Act.put,List.setIfInBounds_toArray,List.set_cons_zero,List.set_cons_succ,i64_w,i32_w]
            rfl
           refine pure_ (i:=11) (N:=some 64) (v:=undef) (a':=?_) (ba29 27 4095) rfl rfl (any_of HT_.out (by kernel_rfl)) (fun _ _ _ h => h) (Or.inr ⟨by rfl,rfl⟩) ?_ ?_
           rotate_left
           ·simp only [Act.put,List.setIfInBounds_toArray,List.set_cons_zero,List.set_cons_succ,i64_w,i32_w]
            rfl
           refine pure_ (i:=12) (N:=some 65) (v:=undef) (a':=?_) (ba29 27 8191) rfl rfl (any_of HT_.out (by kernel_rfl)) (fun _ _ _ h => h) (Or.inr ⟨by rfl,rfl⟩) ?_ ?_
           rotate_left
           ·simp only [Act.put,List.setIfInBounds_toArray,List.set_cons_zero,List.set_cons_succ,i64_w,i32_w]
            rfl
           refine pure_ (i:=13) (N:=some 66) (v:=undef) (a':=?_) (ba29 27 16383) rfl rfl (any_of HT_.out (by kernel_rfl)) (fun _ _ _ h => h) (Or.inr ⟨by rfl,rfl⟩) ?_ ?_
           rotate_left
           ·simp only [Act.put,List.setIfInBounds_toArray,List.set_cons_zero,List.set_cons_succ,i64_w,i32_w]
            rfl
           refine pure_ (i:=14) (N:=some 67) (v:=undef) (a':=?_) (ba29 27 32767) rfl rfl (any_of HT_.out (by kernel_rfl)) (fun _ _ _ h => h) (Or.inr ⟨by rfl,rfl⟩) ?_ ?_
           rotate_left
           ·simp only [Act.put,List.setIfInBounds_toArray,List.set_cons_zero,List.set_cons_succ,i64_w,i32_w]
            rfl
           refine pure_ (i:=15) (N:=some 68) (v:=undef) (a':=?_) (ba29 27 65535) rfl rfl (any_of HT_.out (by kernel_rfl)) (fun _ _ _ h => h) (Or.inr ⟨by rfl,rfl⟩) ?_ ?_
           rotate_left
           ·simp only [Act.put,List.setIfInBounds_toArray,List.set_cons_zero,List.set_cons_succ,i64_w,i32_w]
            rfl
           refine pure_ (i:=16) (N:=some 69) (v:=undef) (a':=?_) (ba29 27 131071) rfl rfl (any_of HT_.out (by kernel_rfl)) (fun _ _ _ h => h) (Or.inr ⟨by rfl,rfl⟩) ?_ ?_
           rotate_left
           ·simp only [Act.put,List.setIfInBounds_toArray,List.set_cons_zero,List.set_cons_succ,i64_w,i32_w]
            rfl
           refine pure_ (i:=17) (N:=some 70) (v:=undef) (a':=?_) (ba29 27 262143) rfl rfl (any_of HT_.out (by kernel_rfl)) (fun _ _ _ h => h) (Or.inr ⟨by rfl,rfl⟩) ?_ ?_
           rotate_left
           ·simp only [Act.put,List.setIfInBounds_toArray,List.set_cons_zero,List.set_cons_succ,i64_w,i32_w]
            rfl
           refine pure_ (i:=18) (N:=some 71) (v:=undef) (a':=?_) (ba29 27 524287) rfl rfl (any_of HT_.out (by kernel_rfl)) (fun _ _ _ h => h) (Or.inr ⟨by rfl,rfl⟩) ?_ ?_
           rotate_left
           ·simp only [Act.put,List.setIfInBounds_toArray,List.set_cons_zero,List.set_cons_succ,i64_w,i32_w]
            rfl
           refine pure_ (i:=19) (N:=some 72) (v:=undef) (a':=?_) (ba29 27 1048575) rfl rfl (any_of HT_.out (by kernel_rfl)) (fun _ _ _ h => h) (Or.inr ⟨by rfl,rfl⟩) ?_ ?_
           rotate_left
           ·simp only [Act.put,List.setIfInBounds_toArray,List.set_cons_zero,List.set_cons_succ,i64_w,i32_w]
            rfl
           refine pure_ (i:=20) (N:=some 73) (v:=undef) (a':=?_) (ba29 27 2097151) rfl rfl (any_of HT_.out (by kernel_rfl)) (fun _ _ _ h => h) (Or.inr ⟨by rfl,rfl⟩) ?_ ?_
           rotate_left
           ·simp only [Act.put,List.setIfInBounds_toArray,List.set_cons_zero,List.set_cons_succ,i64_w,i32_w]
            rfl
           refine pure_ (i:=21) (N:=some 74) (v:=undef) (a':=?_) (ba29 27 4194303) rfl rfl (any_of HT_.out (by kernel_rfl)) (fun _ _ _ h => h) (Or.inr ⟨by rfl,rfl⟩) ?_ ?_
           rotate_left
           ·simp only [Act.put,List.setIfInBounds_toArray,List.set_cons_zero,List.set_cons_succ,i64_w,i32_w]
            rfl
           refine pure_ (i:=22) (N:=some 75) (v:=undef) (a':=?_) (ba29 27 8388607) rfl rfl (any_of HT_.out (by kernel_rfl)) (fun _ _ _ h => h) (Or.inr ⟨by rfl,rfl⟩) ?_ ?_
           rotate_left
           ·simp only [Act.put,List.setIfInBounds_toArray,List.set_cons_zero,List.set_cons_succ,i64_w,i32_w]
            rfl
           refine pure_ (i:=23) (N:=some 76) (v:=undef) (a':=?_) (ba29 27 16777215) rfl rfl (any_of HT_.out (by kernel_rfl)) (fun _ _ _ h => h) (Or.inr ⟨by rfl,rfl⟩) ?_ ?_
           rotate_left
           ·simp only [Act.put,List.setIfInBounds_toArray,List.set_cons_zero,List.set_cons_succ,i64_w,i32_w]
            rfl
           refine pure_ (i:=24) (N:=some 77) (v:=undef) (a':=?_) (ba29 27 33554431) rfl rfl (any_of HT_.out (by kernel_rfl)) (fun _ _ _ h => h) (Or.inr ⟨by rfl,rfl⟩) ?_ ?_
           rotate_left
           ·simp only [Act.put,List.setIfInBounds_toArray,List.set_cons_zero,List.set_cons_succ,i64_w,i32_w]
            rfl
           refine pure_ (i:=25) (N:=some 78) (v:=undef) (a':=?_) (ba29 27 67108863) rfl rfl (any_of HT_.out (by kernel_rfl)) (fun _ _ _ h => h) (Or.inr ⟨by rfl,rfl⟩) ?_ ?_
           rotate_left
           ·simp only [Act.put,List.setIfInBounds_toArray,List.set_cons_zero,List.set_cons_succ,i64_w,i32_w]
            rfl
           refine pure_ (i:=26) (N:=some 79) (v:=?_) (a':=?_) (ba29 27 134217727) rfl rfl (any_of HT_.out (by kernel_rfl)) (fun _ _ _ h => h) (Or.inl ⟨by rfl,?_⟩) ?_ ?_
           rotate_left
           ·intro w'
            go_simp
            with_reducible rfl
           rotate_left
           ·simp only [Act.put,List.setIfInBounds_toArray,List.set_cons_zero,List.set_cons_succ,i64_w,i32_w]
            rfl
           refine done_ (done_of HT_.out (by kernel_rfl)) ?_
           try go_wp2
           go_meet
           case rel => exact ⟨_,(true),(by first|rfl|(simp; done)|(simp [*]; done)),H',⟨by have:=HK1.out; first|omega|exact Nat.le_refl _⟩,⟨by (with_reducible repeat (first|apply Kd.V_alloc|apply Kd.V_drewN|apply Kd.V_drew)); exact HO_816000.out⟩,⟨by (with_reducible repeat (first|apply Kd.V_alloc|apply Kd.V_drewN|apply Kd.V_drew)); exact HO825.out⟩,⟨by (with_reducible repeat (first|refine blk_drewN ?_ _|refine blk_drew ?_|refine blk_alloc ?_ _)); exact BK815.out⟩,⟨by (with_reducible repeat (first|refine blk_drewN ?_ _|refine blk_drew ?_|refine blk_alloc ?_ _)); exact BK827.out⟩,⟨by repeat (first|(with_reducible first|exact HB.out|apply below_alloc|apply pw_below_drewN|apply below_drew1|refine below_set ?_ GE815.out|refine below_set ?_ GE827.out)|exact HB.out)⟩⟩
         ·replace c25:=Bool.eq_false_iff.mpr c25
          subst c25
          have H1 : (spec_l6Plan.j1 k1 l1 l2 x7_1 x8_1 true t823) = some r:=by rw [if_neg (show ¬ (false = true) by decide)] at H; exact H
          clear H
          have H:=H1
          clear H1
          have H':=Aside0.mk H
          clear H
          try go_wp2
          have n0_ : Aside0 (Kd.V (Kd.slice 3 (Kd.int .i64)) 24 (w22.setCell ⟨gb827,0,none⟩ (.slice Ao23 t823.length co23)) w.heap.size (fun k_ => (P0_0_ k_ ∨ w.heap.size ≤ k_) ∧ k_ ≠ gb815 ∧ k_ ≠ gb827) (.slice Ao15 x816000_1.length co15) x816000_1):=⟨by (with_reducible repeat (first|apply Kd.V_alloc|apply Kd.V_drewN|apply Kd.V_drew)); exact Kd.V_mono (Kd.V_far (p:=⟨gb827,0,none⟩) (Kd.V_mono HO_816000.out (fun k_ hk => (⟨hk,hk.2.2⟩ : _ ∧ k_ ≠ gb827))) (fun _ hk => hk.2) (.slice Ao23 t823.length co23)) (fun _ hk => ⟨hk.1.1,⟨hk.1.2.1,hk.1.2.2⟩⟩)⟩
          have n1_ : Aside0 (Kd.V (Kd.slice 3 (Kd.int .i64)) 24 (w22.setCell ⟨gb827,0,none⟩ (.slice Ao23 t823.length co23)) w.heap.size (fun k_ => (P0_0_ k_ ∨ w.heap.size ≤ k_) ∧ k_ ≠ gb815 ∧ k_ ≠ gb827) (.slice Ao23 t823.length co23) t823):=⟨by (with_reducible repeat (first|apply Kd.V_alloc|apply Kd.V_drewN|apply Kd.V_drew)); exact Kd.V_mono (Kd.V_far (p:=⟨gb827,0,none⟩) (Kd.V_mono HO825.out (fun k_ hk => (⟨hk,hk.2.2⟩ : _ ∧ k_ ≠ gb827))) (fun _ hk => hk.2) (.slice Ao23 t823.length co23)) (fun _ hk => ⟨hk.1.1,⟨hk.1.2.1,hk.1.2.2⟩⟩)⟩
          have n2_ : Aside0 ((w22.setCell ⟨gb827,0,none⟩ (.slice Ao23 t823.length co23)).heap[gb815]? = some (.cells #[.slice Ao15 x816000_1.length co15] 42 (0,0))):=⟨by (with_reducible repeat (first|refine blk_drewN ?_ _|refine blk_drew ?_|refine blk_alloc ?_ _)); refine blk_far ?_ NB815_827.out _; (with_reducible repeat (first|refine blk_drewN ?_ _|refine blk_drew ?_|refine blk_alloc ?_ _)); exact BK815.out⟩
          have n3_ : Aside0 ((w22.setCell ⟨gb827,0,none⟩ (.slice Ao23 t823.length co23)).heap[gb827]? = some (.cells #[.slice Ao23 t823.length co23] 42 (0,0))):=⟨by (with_reducible repeat (first|refine blk_drewN ?_ _|refine blk_drew ?_|refine blk_alloc ?_ _)); refine blk_put (cs:=#[.slice none 0 0]) ?_ 0 _ rfl; (with_reducible repeat (first|refine blk_drewN ?_ _|refine blk_drew ?_|refine blk_alloc ?_ _)); exact BK827.out⟩
          have n4_ : Aside0 (Below w.heap.size w (w22.setCell ⟨gb827,0,none⟩ (.slice Ao23 t823.length co23))):=⟨by repeat (first|(with_reducible first|exact HB.out|apply below_alloc|apply pw_below_drewN|apply below_drew1|refine below_set ?_ GE815.out|refine below_set ?_ GE827.out)|exact HB.out)⟩
          (try clear HO_816000)
          (try clear HO825)
          (try clear BK815)
          (try clear BK827)
          (try clear HB)
          generalize (w22.setCell ⟨gb827,0,none⟩ (.slice Ao23 t823.length co23)) = w34 at n0_ n1_ n2_ n3_ n4_ ⊢
          have HO_816000:=n0_
          have HO825:=n1_
          have BK815:=n2_
          have BK827:=n3_
          have HB:=n4_
          clear n0_ n1_ n2_ n3_ n4_
          have n0_:=Aside0.mk (Kd.V_drew HO_816000.out)
          have n1_:=Aside0.mk (Kd.V_drew HO825.out)
          have n2_:=Aside0.mk (blk_drew BK815.out)
          have n3_:=Aside0.mk (blk_drew BK827.out)
          have n4_:=Aside0.mk (below_drew1 HB.out)
          clear HO_816000
          clear HO825
          clear BK815
          clear BK827
          clear HB
          have HO_816000:=n0_
          have HO825:=n1_
          have BK815:=n2_
          have BK827:=n3_
          have HB:=n4_
          clear n0_ n1_ n2_ n3_ n4_
          refine start_ (n:=27) (S:=fun w' => True) (ds:=[]) (ba29 27 0) (by kernel_rfl) rfl rfl trivial (fun hHeld => ?_); refine with_tabW spec_l6Plan.tab10 spec_l6Plan.bits10 (fun HT_ HW_ => ?_)
          generalize w34.drew = w35 at HO_816000 HO825 BK815 BK827 HB hHeld ⊢
          refine pure_ (i:=0) (N:=some 53) (v:=?_) (a':=?_) (ba29 27 1) rfl rfl (any_of HT_.out (by kernel_rfl)) (fun _ _ _ h => h) (Or.inl ⟨by rfl,?_⟩) ?_ ?_
          rotate_left
          ·intro w'
           go_simp
           with_reducible rfl
          rotate_left
          ·simp only [Act.put,List.setIfInBounds_toArray,List.set_cons_zero,List.set_cons_succ,i64_w,i32_w]
           rfl
          refine pure_ (i:=1) (N:=some 54) (v:=?_) (a':=?_) (ba29 27 3) rfl rfl (any_of HT_.out (by kernel_rfl)) (fun _ _ _ h => h) (Or.inl ⟨by rfl,?_⟩) ?_ ?_
          rotate_left
          ·intro w'
           go_simp
           with_reducible rfl
          rotate_left
          ·simp only [Act.put,List.setIfInBounds_toArray,List.set_cons_zero,List.set_cons_succ,i64_w,i32_w]
           rfl
          refine pure_ (i:=2) (N:=some 55) (v:=?_) (a':=?_) (ba29 27 7) rfl rfl (any_of HT_.out (by kernel_rfl)) (fun _ _ _ h => h) (Or.inl ⟨by rfl,?_⟩) ?_ ?_
          rotate_left
          ·intro w'
           go_simp
           with_reducible rfl
          rotate_left
          ·simp only [Act.put,List.setIfInBounds_toArray,List.set_cons_zero,List.set_cons_succ,i64_w,i32_w]
           rfl
          refine pure_ (i:=3) (N:=some 56) (v:=undef) (a':=?_) (ba29 27 15) rfl rfl (any_of HT_.out (by kernel_rfl)) (fun _ _ _ h => h) (Or.inr ⟨by rfl,rfl⟩) ?_ ?_
          rotate_left
          ·simp only [Act.put,List.setIfInBounds_toArray,List.set_cons_zero,List.set_cons_succ,i64_w,i32_w]
           rfl
          refine pure_ (i:=4) (N:=some 57) (v:=undef) (a':=?_) (ba29 27 31) rfl rfl (any_of HT_.out (by kernel_rfl)) (fun _ _ _ h => h) (Or.inr ⟨by rfl,rfl⟩) ?_ ?_
          rotate_left
          ·simp only [Act.put,List.setIfInBounds_toArray,List.set_cons_zero,List.set_cons_succ,i64_w,i32_w]
           rfl
          refine pure_ (i:=5) (N:=some 58) (v:=undef) (a':=?_) (ba29 27 63) rfl rfl (any_of HT_.out (by kernel_rfl)) (fun _ _ _ h => h) (Or.inr ⟨by rfl,rfl⟩) ?_ ?_
          rotate_left
          ·simp only [Act.put,List.setIfInBounds_toArray,List.set_cons_zero,List.set_cons_succ,i64_w,i32_w]
           rfl
          refine pure_ (i:=6) (N:=some 59) (v:=?_) (a':=?_) (ba29 27 127) rfl rfl (any_of HT_.out (by kernel_rfl)) (fun _ _ _ h => h) (Or.inl ⟨by rfl,?_⟩) ?_ ?_
          rotate_left
          ·intro w'
           go_simp
           with_reducible rfl
          rotate_left
          ·simp only [Act.put,List.setIfInBounds_toArray,List.set_cons_zero,List.set_cons_succ,i64_w,i32_w]
           rfl
          refine pure_ (i:=7) (N:=some 60) (v:=?_) (a':=?_) (ba29 27 255) rfl rfl (any_of HT_.out (by kernel_rfl)) (fun _ _ _ h => h) (Or.inl ⟨by rfl,?_⟩) ?_ ?_
          rotate_left
          ·intro w'
           go_simp
           with_reducible rfl
          rotate_left
          ·simp only [Act.put,List.setIfInBounds_toArray,List.set_cons_zero,List.set_cons_succ,i64_w,i32_w]
           rfl
          refine pure_ (i:=8) (N:=some 61) (v:=undef) (a':=?_) (ba29 27 511) rfl rfl (any_of HT_.out (by kernel_rfl)) (fun _ _ _ h => h) (Or.inr ⟨by rfl,rfl⟩) ?_ ?_
          rotate_left
          ·simp only [Act.put,List.setIfInBounds_toArray,List.set_cons_zero,List.set_cons_succ,i64_w,i32_w]
           rfl
          refine pure_ (i:=9) (N:=some 62) (v:=undef) (a':=?_) (ba29 27 1023) rfl rfl (any_of HT_.out (by kernel_rfl)) (fun _ _ _ h => h) (Or.inr ⟨by rfl,rfl⟩) ?_ ?_
          rotate_left
          ·simp only [Act.put,List.setIfInBounds_toArray,List.set_cons_zero,List.set_cons_succ,i64_w,i32_w]
           rfl
          refine pure_ (i:=10) (N:=some 63) (v:=undef) (a':=?_) (ba29 27 2047) rfl rfl (any_of HT_.out (by kernel_rfl)) (fun _ _ _ h => h) (Or.inr ⟨by rfl,rfl⟩) ?_ ?_
          rotate_left
          ·simp only [Act.put,List.setIfInBounds_toArray,List.set_cons_zero,List.set_cons_succ,i64_w,i32_w]
           rfl
          refine pure_ (i:=11) (N:=some 64) (v:=undef) (a':=?_) (ba29 27 4095) rfl rfl (any_of HT_.out (by kernel_rfl)) (fun _ _ _ h => h) (Or.inr ⟨by rfl,rfl⟩) ?_ ?_
          rotate_left
          ·simp only [Act.put,List.setIfInBounds_toArray,List.set_cons_zero,List.set_cons_succ,i64_w,i32_w]
           rfl
          refine pure_ (i:=12) (N:=some 65) (v:=undef) (a':=?_) (ba29 27 8191) rfl rfl (any_of HT_.out (by kernel_rfl)) (fun _ _ _ h => h) (Or.inr ⟨by rfl,rfl⟩) ?_ ?_
          rotate_left
          ·simp only [Act.put,List.setIfInBounds_toArray,List.set_cons_zero,List.set_cons_succ,i64_w,i32_w]
           rfl
          refine pure_ (i:=13) (N:=some 66) (v:=undef) (a':=?_) (ba29 27 16383) rfl rfl (any_of HT_.out (by kernel_rfl)) (fun _ _ _ h => h) (Or.inr ⟨by rfl,rfl⟩) ?_ ?_
          rotate_left
          ·simp only [Act.put,List.setIfInBounds_toArray,List.set_cons_zero,List.set_cons_succ,i64_w,i32_w]
           rfl
          refine pure_ (i:=14) (N:=some 67) (v:=undef) (a':=?_) (ba29 27 32767) rfl rfl (any_of HT_.out (by kernel_rfl)) (fun _ _ _ h => h) (Or.inr ⟨by rfl,rfl⟩) ?_ ?_
          rotate_left
          ·simp only [Act.put,List.setIfInBounds_toArray,List.set_cons_zero,List.set_cons_succ,i64_w,i32_w]
           rfl
          refine pure_ (i:=15) (N:=some 68) (v:=undef) (a':=?_) (ba29 27 65535) rfl rfl (any_of HT_.out (by kernel_rfl)) (fun _ _ _ h => h) (Or.inr ⟨by rfl,rfl⟩) ?_ ?_
          rotate_left
          ·simp only [Act.put,List.setIfInBounds_toArray,List.set_cons_zero,List.set_cons_succ,i64_w,i32_w]
           rfl
          refine pure_ (i:=16) (N:=some 69) (v:=undef) (a':=?_) (ba29 27 131071) rfl rfl (any_of HT_.out (by kernel_rfl)) (fun _ _ _ h => h) (Or.inr ⟨by rfl,rfl⟩) ?_ ?_
          rotate_left
          ·simp only [Act.put,List.setIfInBounds_toArray,List.set_cons_zero,List.set_cons_succ,i64_w,i32_w]
           rfl
          refine pure_ (i:=17) (N:=some 70) (v:=undef) (a':=?_) (ba29 27 262143) rfl rfl (any_of HT_.out (by kernel_rfl)) (fun _ _ _ h => h) (Or.inr ⟨by rfl,rfl⟩) ?_ ?_
          rotate_left
          ·simp only [Act.put,List.setIfInBounds_toArray,List.set_cons_zero,List.set_cons_succ,i64_w,i32_w]
           rfl
          refine pure_ (i:=18) (N:=some 71) (v:=undef) (a':=?_) (ba29 27 524287) rfl rfl (any_of HT_.out (by kernel_rfl)) (fun _ _ _ h => h) (Or.inr ⟨by rfl,rfl⟩) ?_ ?_
          rotate_left
          ·simp only [Act.put,List.setIfInBounds_toArray,List.set_cons_zero,List.set_cons_succ,i64_w,i32_w]
           rfl
          refine pure_ (i:=19) (N:=some 72) (v:=undef) (a':=?_) (ba29 27 1048575) rfl rfl (any_of HT_.out (by kernel_rfl)) (fun _ _ _ h => h) (Or.inr ⟨by rfl,rfl⟩) ?_ ?_
          rotate_left
          ·simp only [Act.put,List.setIfInBounds_toArray,List.set_cons_zero,List.set_cons_succ,i64_w,i32_w]
           rfl
          refine pure_ (i:=20) (N:=some 73) (v:=undef) (a':=?_) (ba29 27 2097151) rfl rfl (any_of HT_.out (by kernel_rfl)) (fun _ _ _ h => h) (Or.inr ⟨by rfl,rfl⟩) ?_ ?_
          rotate_left
          ·simp only [Act.put,List.setIfInBounds_toArray,List.set_cons_zero,List.set_cons_succ,i64_w,i32_w]
           rfl
          refine pure_ (i:=21) (N:=some 74) (v:=undef) (a':=?_) (ba29 27 4194303) rfl rfl (any_of HT_.out (by kernel_rfl)) (fun _ _ _ h => h) (Or.inr ⟨by rfl,rfl⟩) ?_ ?_
          rotate_left
          ·simp only [Act.put,List.setIfInBounds_toArray,List.set_cons_zero,List.set_cons_succ,i64_w,i32_w]
           rfl
          refine pure_ (i:=22) (N:=some 75) (v:=undef) (a':=?_) (ba29 27 8388607) rfl rfl (any_of HT_.out (by kernel_rfl)) (fun _ _ _ h => h) (Or.inr ⟨by rfl,rfl⟩) ?_ ?_
          rotate_left
          ·simp only [Act.put,List.setIfInBounds_toArray,List.set_cons_zero,List.set_cons_succ,i64_w,i32_w]
           rfl
          refine pure_ (i:=23) (N:=some 76) (v:=undef) (a':=?_) (ba29 27 16777215) rfl rfl (any_of HT_.out (by kernel_rfl)) (fun _ _ _ h => h) (Or.inr ⟨by rfl,rfl⟩) ?_ ?_
          rotate_left
          ·simp only [Act.put,List.setIfInBounds_toArray,List.set_cons_zero,List.set_cons_succ,i64_w,i32_w]
           rfl
          refine pure_ (i:=24) (N:=some 77) (v:=undef) (a':=?_) (ba29 27 33554431) rfl rfl (any_of HT_.out (by kernel_rfl)) (fun _ _ _ h => h) (Or.inr ⟨by rfl,rfl⟩) ?_ ?_
          rotate_left
          ·simp only [Act.put,List.setIfInBounds_toArray,List.set_cons_zero,List.set_cons_succ,i64_w,i32_w]
           rfl
          refine pure_ (i:=25) (N:=some 78) (v:=undef) (a':=?_) (ba29 27 67108863) rfl rfl (any_of HT_.out (by kernel_rfl)) (fun _ _ _ h => h) (Or.inr ⟨by rfl,rfl⟩) ?_ ?_
          rotate_left
          ·simp only [Act.put,List.setIfInBounds_toArray,List.set_cons_zero,List.set_cons_succ,i64_w,i32_w]
           rfl
          refine pure_ (i:=26) (N:=some 79) (v:=?_) (a':=?_) (ba29 27 134217727) rfl rfl (any_of HT_.out (by kernel_rfl)) (fun _ _ _ h => h) (Or.inl ⟨by rfl,?_⟩) ?_ ?_
          rotate_left
          ·intro w'
           go_simp
           with_reducible rfl
          rotate_left
          ·simp only [Act.put,List.setIfInBounds_toArray,List.set_cons_zero,List.set_cons_succ,i64_w,i32_w]
           rfl
          refine done_ (done_of HT_.out (by kernel_rfl)) ?_
          try go_wp2
          go_meet
          case rel => exact ⟨_,(true),(by first|rfl|(simp; done)|(simp [*]; done)),H',⟨by have:=HK1.out; first|omega|exact Nat.le_refl _⟩,⟨by (with_reducible repeat (first|apply Kd.V_alloc|apply Kd.V_drewN|apply Kd.V_drew)); exact HO_816000.out⟩,⟨by (with_reducible repeat (first|apply Kd.V_alloc|apply Kd.V_drewN|apply Kd.V_drew)); exact HO825.out⟩,⟨by (with_reducible repeat (first|refine blk_drewN ?_ _|refine blk_drew ?_|refine blk_alloc ?_ _)); exact BK815.out⟩,⟨by (with_reducible repeat (first|refine blk_drewN ?_ _|refine blk_drew ?_|refine blk_alloc ?_ _)); exact BK827.out⟩,⟨by repeat (first|(with_reducible first|exact HB.out|apply below_alloc|apply pw_below_drewN|apply below_drew1|refine below_set ?_ GE815.out|refine below_set ?_ GE827.out)|exact HB.out)⟩⟩
        case rest =>
         clear HC13
         try clear c2
         try clear p2
         try clear p8
         try clear q8
         try clear hx8
         try clear c25
         try clear c26
         try clear c26b0
         try clear c26b1
         try clear hx828_0
         try clear hx828_1
         try clear p828
         try clear q828
         obtain ⟨kq,x79_12,rfl,HA,HJ12,HO_816000,HO_828000,BK815,BK827,HB⟩:=hcut
         cases kq with
         | zero => exact absurd HA.out (by simp [spec_l6Plan.j1])
         | succ kj12 =>
          have H:=HA.out
          clear HA
          simp only [spec_l6Plan.j1] at H
          by_cases c36 : x79_12 = true
          ·subst c36
           have H1 : (some false) = some r:=by rw [if_pos rfl] at H; exact H
           clear H
           have H:=H1
           clear H1
           obtain rfl:=Option.some.inj H
           go_wp2
           go_ret
           exact ⟨by first|rfl|(simp [errW_none,errW_some] <;> rfl)|(simp [*,errW_none,errW_some] <;> rfl),by repeat (first|(with_reducible first|exact HB.out|apply below_alloc|apply pw_below_drewN|apply below_drew1|refine below_set ?_ GE815.out|refine below_set ?_ GE827.out)|exact HB.out)⟩
          ·replace c36:=Bool.eq_false_iff.mpr c36
           subst c36
           have H1 : (if 0 ≤ x8_1 then (if x8_1 < (l2.length : Int) then (if ((rd_T138 l2 x8_1).f1) = (-1) then (spec_l6Plan.l0 kj12 l1 l2 (wrap64 (x7_1 + 1)) (wrap64 (x8_1 + 1)) t823) else (spec_l6Plan.l0 kj12 l1 l2 x7_1 (wrap64 (x8_1 + 1)) t823)) else (none)) else (none)) = some r:=by rw [if_neg (show ¬ (false = true) by decide)] at H; exact H
           clear H
           have H:=H1
           clear H1
           by_cases c37 : 0 ≤ x8_1
           ·rw [if_pos c37] at H
            have c37b0 : decide (0 ≤ x8_1) = true:=decide_eq_true c37
            clear c37
            by_cases c38 : x8_1 < (l2.length : Int)
            ·rw [if_pos c38] at H
             have c38b0 : decide (x8_1 < (l2.length : Int)) = true:=decide_eq_true c38
             clear c38
             by_cases c39 : ((rd_T138 l2 x8_1).f1) = (-1)
             ·rw [if_pos c39] at H
              have c39b0 : (((rd_T138 l2 x8_1).f1) == (-1)) = true:=beq_iff_eq.mpr c39
              have c39b1 : (((rd_T138 l2 x8_1).f1) != (-1)) = false:=bne_eq_false_iff_eq.mpr c39
              clear c39
              have H':=Aside0.mk H
              clear H
              have p831 : 0 ≤ (x8_1 : Int):=of_decide_eq_true (by first|(with_reducible assumption)|assumption)
              have q831 : x8_1 < (l2.length : Int):=of_decide_eq_true (by first|(with_reducible assumption)|assumption)
              obtain ⟨ad831,e831,hx831_0,hx831_1⟩:=at_T138 HR2.out x8_1 p831 q831
              obtain rfl : ad819 = ad831:=(by injection e831)
              replace hx831_0:=(HB.out.cell (World.block_lt_of_cell? w _ hx831_0)).trans hx831_0
              replace hx831_1:=(HB.out.cell (World.block_lt_of_cell? w _ hx831_1)).trans hx831_1
              replace p831:=eq_true p831
              replace q831:=eq_true q831
              have hnb40:=NB827_815.out
              have hnc40:=NB815_827.out
              have hcz41_0 : wc.cell? ⟨gb827,0,none⟩ = some (.slice Ao23 t823.length co23):=(blk_cell BK827.out 0).trans rfl
              have hfz41_0:=blk_frozen BK827.out 0
              have hcz42_0 : wc.cell? ⟨gb815,0,none⟩ = some (.slice Ao15 x816000_1.length co15):=(blk_cell BK815.out 0).trans rfl
              have hfz42_0:=blk_frozen BK815.out 0
              go_wp2
              go_roundg kj12
              case measure => have:=HK1.out; have:=HJ12.out; omega
              case rel => exact ⟨(wrap64 (x7_1 + 1)),(wrap64 (x8_1 + 1)),(t823),(.slice Ao23 t823.length co23),(by first|rfl|(simp; done)|(simp [*]; done)),(by first|rfl|(simp; done)|(simp [*]; done)),H',⟨by have:=HK1.out; have:=HJ12.out; omega⟩,⟨by (with_reducible repeat (first|apply Kd.V_alloc|apply Kd.V_drewN|apply Kd.V_drew)); exact Kd.V_mono (Kd.V_far (p:=⟨gb815,0,none⟩) (Kd.V_mono HO_828000.out (fun k_ hk => (⟨hk,hk.2.1⟩ : _ ∧ k_ ≠ gb815))) (fun _ hk => hk.2) (.slice Ao23 t823.length co23)) (fun _ hk => ⟨hk.1.1,hk.1.2.1⟩)⟩,⟨by (with_reducible repeat (first|refine blk_drewN ?_ _|refine blk_drew ?_|refine blk_alloc ?_ _)); refine blk_put (cs:=#[.slice Ao15 x816000_1.length co15]) ?_ 0 _ rfl; (with_reducible repeat (first|refine blk_drewN ?_ _|refine blk_drew ?_|refine blk_alloc ?_ _)); exact BK815.out⟩,⟨by repeat (first|(with_reducible first|exact HB.out|apply below_alloc|apply pw_below_drewN|apply below_drew1|refine below_set ?_ GE815.out|refine below_set ?_ GE827.out)|exact HB.out)⟩⟩
             ·rw [if_neg c39] at H
              have c39b0 : (((rd_T138 l2 x8_1).f1) == (-1)) = false:=beq_eq_false_iff_ne.mpr c39
              have c39b1 : (((rd_T138 l2 x8_1).f1) != (-1)) = true:=bne_iff_ne.mpr c39
              have H':=Aside0.mk H
              clear H
              have p831 : 0 ≤ (x8_1 : Int):=of_decide_eq_true (by first|(with_reducible assumption)|assumption)
              have q831 : x8_1 < (l2.length : Int):=of_decide_eq_true (by first|(with_reducible assumption)|assumption)
              obtain ⟨ad831,e831,hx831_0,hx831_1⟩:=at_T138 HR2.out x8_1 p831 q831
              obtain rfl : ad819 = ad831:=(by injection e831)
              replace hx831_0:=(HB.out.cell (World.block_lt_of_cell? w _ hx831_0)).trans hx831_0
              replace hx831_1:=(HB.out.cell (World.block_lt_of_cell? w _ hx831_1)).trans hx831_1
              replace p831:=eq_true p831
              replace q831:=eq_true q831
              have hnb43:=NB827_815.out
              have hnc43:=NB815_827.out
              have hcz44_0 : wc.cell? ⟨gb827,0,none⟩ = some (.slice Ao23 t823.length co23):=(blk_cell BK827.out 0).trans rfl
              have hfz44_0:=blk_frozen BK827.out 0
              have hcz45_0 : wc.cell? ⟨gb815,0,none⟩ = some (.slice Ao15 x816000_1.length co15):=(blk_cell BK815.out 0).trans rfl
              have hfz45_0:=blk_frozen BK815.out 0
              go_wp2
              go_roundg kj12
              case measure => have:=HK1.out; have:=HJ12.out; omega
              case rel => exact ⟨(x7_1),(wrap64 (x8_1 + 1)),(t823),(.slice Ao23 t823.length co23),(by first|rfl|(simp; done)|(simp [*]; done)),(by first|rfl|(simp; done)|(simp [*]; done)),H',⟨by have:=HK1.out; have:=HJ12.out; omega⟩,⟨by (with_reducible repeat (first|apply Kd.V_alloc|apply Kd.V_drewN|apply Kd.V_drew)); exact Kd.V_mono (Kd.V_far (p:=⟨gb815,0,none⟩) (Kd.V_mono HO_828000.out (fun k_ hk => (⟨hk,hk.2.1⟩ : _ ∧ k_ ≠ gb815))) (fun _ hk => hk.2) (.slice Ao23 t823.length co23)) (fun _ hk => ⟨hk.1.1,hk.1.2.1⟩)⟩,⟨by (with_reducible repeat (first|refine blk_drewN ?_ _|refine blk_drew ?_|refine blk_alloc ?_ _)); refine blk_put (cs:=#[.slice Ao15 x816000_1.length co15]) ?_ 0 _ rfl; (with_reducible repeat (first|refine blk_drewN ?_ _|refine blk_drew ?_|refine blk_alloc ?_ _)); exact BK815.out⟩,⟨by repeat (first|(with_reducible first|exact HB.out|apply below_alloc|apply pw_below_drewN|apply below_drew1|refine below_set ?_ GE815.out|refine below_set ?_ GE827.out)|exact HB.out)⟩⟩
            ·rw [if_neg c38] at H
             exact absurd H (by simp)
           ·rw [if_neg c37] at H
            exact absurd H (by simp)
       ·rw [if_neg c10] at H
        exact absurd H (by simp)
      ·rw [if_neg c8] at H
       exact absurd H (by simp)
     ·rw [if_neg c7] at H
      exact absurd H (by simp)
   ·rw [if_neg c5] at H
    have c5b0 : decide (x8_1 < (l2.length : Int)) = false:=decide_eq_false c5
    clear c5
    obtain rfl:=Option.some.inj H
    go_wp2
    go_ret
    exact ⟨by first|rfl|(simp [errW_none,errW_some] <;> rfl)|(simp [*,errW_none,errW_some] <;> rfl),by repeat (first|(with_reducible first|exact HB.out|apply below_alloc|apply pw_below_drewN|apply below_drew1|refine below_set ?_ GE815.out)|exact HB.out)⟩

end Go.Proofs.Ytlldonokjgoajaa.X
