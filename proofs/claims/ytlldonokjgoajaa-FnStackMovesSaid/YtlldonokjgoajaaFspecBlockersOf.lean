-- Written by a program of ours (wip/bin/xprint.py,over the kit's print.py) out of the translation. Not trusted: Lean checks it.
import Derived.Test.YtlldonokjgoajaaX0
import Derived.Test.YtlldonokjgoajaaFbYard
namespace Go.Proofs.Ytlldonokjgoajaa.X
open Go.RowKit Go.Proofs.YtlldonokjgoajaaW.PrintWords Go.Proofs.YtlldonokjgoajaaW.PrintLast Go.Proofs.YtlldonokjgoajaaW.PrintMore
attribute [local go_sem] max2_int min2_int max_two min_two max_three min_three max_four min_four   -- for this text's walks alone
set_option linter.unusedVariables false
set_option linter.unusedSimpArgs false

/-! ### spec_BlockersOf: function 88 -/
mutual
def spec_BlockersOf.j0 : Nat → List Int → Int → Int → Bool → List (List Int) → Option (List Int × Bool)
 | 0,_,_,_,_,_ => none
 | k + 1,x6,x7,x8,x23,x1637000 => if x23 = true then (some (x6,false)) else (if 0 ≤ x7 then (if x7 < (x1637000.length : Int) then (spec_BlockersOf.l0 k x6 x7 x8 (wrap64 (((rd_L2 x1637000 x7).length : Int) - 1)) x1637000) else (none)) else (none))
def spec_BlockersOf.l0 : Nat → List Int → Int → Int → Int → List (List Int) → Option (List Int × Bool)
 | 0,_,_,_,_,_ => none
 | k + 1,x6,x7,x8,x9,x1637000 => if x9 > x8 then (if 0 ≤ x7 then (if x7 < (x1637000.length : Int) then (if 0 ≤ x9 then (if x9 < ((rd_L2 x1637000 x7).length : Int) then (if x6.length < 17592186044416 then (spec_BlockersOf.l0 k (x6 ++ [rd (rd_L2 x1637000 x7) x9]) x7 x8 (wrap64 (x9 - 1)) x1637000) else (none)) else (none)) else (none)) else (none)) else (none)) else (some (x6,true))
end
def spec_BlockersOf.f (k : Nat) (l0_0 : List (List Int)) (a1 : Int) : Option (List Int × Bool):=(some (([] : List Int) : List Int)).bind fun y1637 => ((spec_l5Find.f k l0_0 a1).bind fun bt1640 => ((spec_l5Good.f k l0_0).bind fun t1642 => (if t1642 = true then (spec_BlockersOf.j0 k y1637 bt1640.1 bt1640.2 (decide (bt1640.1 < 0)) l0_0) else (spec_BlockersOf.j0 k y1637 bt1640.1 bt1640.2 true l0_0))))
theorem spec_BlockersOf.mono_l : ∀ k,(∀ y0 y1 y2 y3 y4,LeO (spec_BlockersOf.j0 k y0 y1 y2 y3 y4) (spec_BlockersOf.j0 (k + 1) y0 y1 y2 y3 y4)) ∧ (∀ y0 y1 y2 y3 y4,LeO (spec_BlockersOf.l0 k y0 y1 y2 y3 y4) (spec_BlockersOf.l0 (k + 1) y0 y1 y2 y3 y4))
 | 0 => ⟨fun _ _ _ _ _ r h => by simp [spec_BlockersOf.j0] at h,fun _ _ _ _ _ r h => by simp [spec_BlockersOf.l0] at h⟩
 | k + 1 => by
  obtain ⟨ih0,ih1⟩:=spec_BlockersOf.mono_l k
  refine ⟨?_,?_⟩
  ·intro y0 y1 y2 y3 y4
   unfold spec_BlockersOf.j0
   repeat' first
   | (with_reducible exact ih0 _ _ _ _ _)
   | (with_reducible exact ih1 _ _ _ _ _)
   | (with_reducible exact spec_l5Find.mono _ _ _)
   | (with_reducible exact spec_l5Good.mono _ _)
   | (with_reducible exact LeO.refl _)
   | (with_reducible exact LeO.none _)
   | (with_reducible refine LeO.ite ?_ ?_)
   | (with_reducible refine LeO.bind ?_ (fun _ => ?_))
   | exact ih0 _ _ _ _ _
   | exact ih1 _ _ _ _ _
   | exact spec_l5Find.mono _ _ _
   | exact spec_l5Good.mono _ _
   | exact LeO.none _
   | refine LeO.ite ?_ ?_
   | refine LeO.bind ?_ (fun _ => ?_)
  ·intro y0 y1 y2 y3 y4
   unfold spec_BlockersOf.l0
   repeat' first
   | (with_reducible exact ih0 _ _ _ _ _)
   | (with_reducible exact ih1 _ _ _ _ _)
   | (with_reducible exact spec_l5Find.mono _ _ _)
   | (with_reducible exact spec_l5Good.mono _ _)
   | (with_reducible exact LeO.refl _)
   | (with_reducible exact LeO.none _)
   | (with_reducible refine LeO.ite ?_ ?_)
   | (with_reducible refine LeO.bind ?_ (fun _ => ?_))
   | exact ih0 _ _ _ _ _
   | exact ih1 _ _ _ _ _
   | exact spec_l5Find.mono _ _ _
   | exact spec_l5Good.mono _ _
   | exact LeO.none _
   | refine LeO.ite ?_ ?_
   | refine LeO.bind ?_ (fun _ => ?_)
theorem spec_BlockersOf.mono : ∀ a0 a1 k,LeO (spec_BlockersOf.f k a0 a1) (spec_BlockersOf.f (k + 1) a0 a1):=by
 intro a0 a1 k
 obtain ⟨ih0,ih1⟩:=spec_BlockersOf.mono_l k
 unfold spec_BlockersOf.f
 repeat' first
   | (with_reducible exact ih0 _ _ _ _ _)
   | (with_reducible exact ih1 _ _ _ _ _)
   | (with_reducible exact spec_l5Find.mono _ _ _)
   | (with_reducible exact spec_l5Good.mono _ _)
   | (with_reducible exact LeO.refl _)
   | (with_reducible exact LeO.none _)
   | (with_reducible refine LeO.ite ?_ ?_)
   | (with_reducible refine LeO.bind ?_ (fun _ => ?_))
   | exact ih0 _ _ _ _ _
   | exact ih1 _ _ _ _ _
   | exact spec_l5Find.mono _ _ _
   | exact spec_l5Good.mono _ _
   | exact LeO.none _
   | refine LeO.ite ?_ ?_
   | refine LeO.bind ?_ (fun _ => ?_)
set_option maxHeartbeats 8000000 in
set_option maxRecDepth 100000 in
theorem spec_BlockersOf.calls (k : Nat) (A0_0 : Option Addr) (c0_0 : Nat) (l0_0 : List (List Int)) (a1 : Int) (r1 : List Int) (r2 : Bool) (w : World) (hr0_0 : Kd.C (Kd.slice 3 (Kd.int .i64)) w A0_0 l0_0.length l0_0) (hc0_0 : l0_0.length ≤ c0_0) (h : spec_BlockersOf.f k l0_0 a1 = some (r1,r2)) :
  Calls Try.prog 88 #[.agg #[.slice A0_0 l0_0.length c0_0],.int .i64 a1] w fun e w' => ∃ v0_ : Value,e = .returned (.tuple #[v0_,.bool r2]) ∧ Kd.R (Kd.int .i64) 3 w' w.heap.size (fun _ => True) v0_ r1 ∧ Below w.heap.size w w':=by
 have hu42:=Try.underlying42
 have HR0_0:=Aside0.mk hr0_0
 have HC0_0:=Aside0.mk hc0_0
 clear hr0_0 hc0_0
 have HB:=Aside0.mk (Below.refl w.heap.size w)
 have H : ((some (([] : List Int) : List Int)).bind fun y1637 => ((spec_l5Find.f k l0_0 a1).bind fun bt1640 => ((spec_l5Good.f k l0_0).bind fun t1642 => (if t1642 = true then (spec_BlockersOf.j0 k y1637 bt1640.1 bt1640.2 (decide (bt1640.1 < 0)) l0_0) else (spec_BlockersOf.j0 k y1637 bt1640.1 bt1640.2 true l0_0))))) = some (r1,r2):=h
 clear h
 obtain ⟨y1637,hy1637⟩ : ∃ y_ : List Int,y_ = ([] : List Int):=⟨_,rfl⟩
 replace H : ((spec_l5Find.f k l0_0 a1).bind fun bt1640 => ((spec_l5Good.f k l0_0).bind fun t1642 => (if t1642 = true then (spec_BlockersOf.j0 k y1637 bt1640.1 bt1640.2 (decide (bt1640.1 < 0)) l0_0) else (spec_BlockersOf.j0 k y1637 bt1640.1 bt1640.2 true l0_0)))) = some (r1,r2):=by ((have H2_:=(Option.bind_some _ _).symm.trans H; rw [hy1637]; with_reducible exact H2_))
 have Ny1637:=Aside0.mk hy1637
 clear hy1637
 replace H:=Option.bind_eq_some_iff.mp H
 obtain ⟨⟨t1640,t1641⟩,A30,H⟩:=H
 replace H : ((spec_l5Good.f k l0_0).bind fun t1642 => (if t1642 = true then (spec_BlockersOf.j0 k y1637 t1640 t1641 (decide (t1640 < 0)) l0_0) else (spec_BlockersOf.j0 k y1637 t1640 t1641 true l0_0))) = some (r1,r2):=H
 have A3:=Aside0.mk A30
 clear A30
 have HC4:=Aside0.mk H
 clear H
 go_enter Try.func88,Try.ntmps88
 go_upto_region 3 with (first|((with_reducible refine gate_dst (N:=2) rfl ?_); refine box_event ?hg (N:=2) ?hd (cs:=#[.slice A0_0 l0_0.length c0_0]) (t:=42) ?hr ?_; (case hd => rfl); (case hg => rfl); (case hr => (go_simp; done)); intro gb1636 hg w5 hbox hb; have n0_:=Aside0.mk (below_step (by repeat (((with_reducible (exact HB.out))))) hb); have n1_:=Aside0.mk (hbox); have n2_:=Aside0.mk ((by rw [hg]; exact (below_size (by repeat (((with_reducible (exact HB.out)))))) : w.heap.size ≤ gb1636)); have n3_:=Aside0.mk ((by rw [hg]; exact (below_size (by repeat (((with_reducible (exact HB.out)))))) : w.heap.size ≤ gb1636)); clear HB; have HB:=n0_; have BK1636:=n1_; have GW1636:=n2_; have GE1636:=n3_; clear n0_ n1_ n2_ n3_; clear hb hbox hg)|((with_reducible refine gate_dst (N:=10) rfl ?_); refine Kd.R_lit (Kd.int .i64) _ 3 ?hg (N:=10) ?hd (xs:=([] : List Int)) (inner:=[]) (ok:=fun _ => True) (okp:=fun _ => True) ?hr ?hp (fun _ hk => hk) trivial (Below.refl _ _) (Nat.le_refl _) (by simp) ?_; (case hd => rfl); (case hg => rfl); (case hr => (go_simp; done)); (case hp => exact (Reps.none _ _)); intro v1638 w6 ho7 hb hg_ hnew_; clear hg_ hnew_; (rw [← Ny1637.out] at ho7); have n0_:=Aside0.mk (Kd.R_lower ho7 (below_size (by repeat (((with_reducible (exact HB.out))))))); have n1_:=Aside0.mk (blk_below (g:=gb1636) (o:=.cells #[.slice A0_0 l0_0.length c0_0] 42 (0,0)) (by exact BK1636.out) hb); have n2_:=Aside0.mk (below_step (by repeat (((with_reducible (exact HB.out))))) hb); clear BK1636; clear HB; have HO1639:=n0_; have BK1636:=n1_; have HB:=n2_; clear n0_ n1_ n2_; clear hb ho7; have hcz8_0 : w6.cell? ⟨gb1636,0,none⟩ = some (.slice A0_0 l0_0.length c0_0):=(blk_cell BK1636.out 0).trans rfl; have hfz8_0:=blk_frozen BK1636.out 0)|((with_reducible refine gate_callee (f:=142) rfl ?_); refine goesL_ (some 14) rfl rfl Try.func142 (by kernel_rfl) rfl #[.agg #[.slice A0_0 l0_0.length c0_0],.int .i64 a1] rfl (by (try simp only [List.map_toArray,List.map_cons,List.map_nil]); (rfl)) ?_; (with_reducible refine (spec_l5Find.calls k _ _ l0_0 a1 t1640 t1641 _ ?side1 ?side2 A3.out).mono ?_); (case side1 => repeat ((exact (Kd.C_below HR0_0.out HB.out)))); (case side2 => exact HC0_0.out); rintro e w9 ⟨rfl,hb⟩; refine ⟨_,rfl,?_⟩; have n0_:=Aside0.mk (Kd.R_below (by exact HO1639.out) hb); have n1_:=Aside0.mk (blk_below (g:=gb1636) (o:=.cells #[.slice A0_0 l0_0.length c0_0] 42 (0,0)) (by exact BK1636.out) hb); have n2_:=Aside0.mk (below_step (by repeat (((with_reducible (exact HB.out))))) hb); clear HO1639; clear BK1636; clear HB; have HO1639:=n0_; have BK1636:=n1_; have HB:=n2_; clear n0_ n1_ n2_; (try clear hb); (try clear hb2); (try clear hk); (try clear hi)))
 (try simp only [Act.put,List.setIfInBounds_toArray,List.set_cons_zero,List.set_cons_succ])
 go_cut [23] (fun v23 wc => ∃ (kq : Nat) (x23_3 : Bool),v23 = .bool x23_3 ∧ Aside0 (spec_BlockersOf.j0 kq y1637 t1640 t1641 x23_3 l0_0 = some (r1,r2)) ∧ Aside0 (kq ≤ k) ∧ Aside0 (Kd.R (Kd.int .i64) 3 wc w.heap.size (fun _ => True) v1638 y1637) ∧ Aside0 (wc.heap[gb1636]? = some (.cells #[(.slice A0_0 l0_0.length c0_0)] 42 (0,0))) ∧ Aside0 (Below w.heap.size w wc))
 case first =>
  have H:=HC4.out
  clear HC4
  replace H:=Option.bind_eq_some_iff.mp H
  obtain ⟨t1642,A100,H⟩:=H
  replace H : (if t1642 = true then (spec_BlockersOf.j0 k y1637 t1640 t1641 (decide (t1640 < 0)) l0_0) else (spec_BlockersOf.j0 k y1637 t1640 t1641 true l0_0)) = some (r1,r2):=H
  have A10:=Aside0.mk A100
  clear A100
  by_cases c11 : t1642 = true
  ·subst c11
   have H1 : (spec_BlockersOf.j0 k y1637 t1640 t1641 (decide (t1640 < 0)) l0_0) = some (r1,r2):=by rw [if_pos rfl] at H; exact H
   clear H
   have H:=H1
   clear H1
   have H':=Aside0.mk H
   clear H
   have hcz12_0 : w9.cell? ⟨gb1636,0,none⟩ = some (.slice A0_0 l0_0.length c0_0):=(blk_cell BK1636.out 0).trans rfl
   have hfz12_0:=blk_frozen BK1636.out 0
   go_wp2_with ((((with_reducible refine gate_callee (f:=116) rfl ?_); refine goesL_ (some 18) rfl rfl Try.func116 (by kernel_rfl) rfl #[.agg #[.slice A0_0 l0_0.length c0_0]] rfl (by (try simp only [List.map_toArray,List.map_cons,List.map_nil]); (rfl)) ?_; (with_reducible refine (spec_l5Good.calls k _ _ l0_0 true _ ?side1 ?side2 A10.out).mono ?_); (case side1 => repeat ((exact (Kd.C_below HR0_0.out HB.out)))); (case side2 => exact HC0_0.out); rintro e w13 ⟨rfl,hb⟩; refine ⟨_,rfl,?_⟩; have n0_:=Aside0.mk (Kd.R_below (by exact HO1639.out) hb); have n1_:=Aside0.mk (blk_below (g:=gb1636) (o:=.cells #[.slice A0_0 l0_0.length c0_0] 42 (0,0)) (by exact BK1636.out) hb); have n2_:=Aside0.mk (below_step (by repeat (((with_reducible (exact HB.out))))) hb); clear HO1639; clear BK1636; clear HB; have HO1639:=n0_; have BK1636:=n1_; have HB:=n2_; clear n0_ n1_ n2_; (try clear hb); (try clear hb2); (try clear hk); (try clear hi))))
   go_meet
   case rel => exact ⟨_,(decide (t1640 < 0)),(by (rfl)),H',⟨by (omega)⟩,⟨by exact HO1639.out⟩,⟨by exact BK1636.out⟩,⟨by repeat (((with_reducible (exact HB.out))))⟩⟩
  ·replace c11:=Bool.eq_false_iff.mpr c11
   subst c11
   have H1 : (spec_BlockersOf.j0 k y1637 t1640 t1641 true l0_0) = some (r1,r2):=by rw [if_neg (show ¬ (false = true) by decide)] at H; exact H
   clear H
   have H:=H1
   clear H1
   have H':=Aside0.mk H
   clear H
   have hcz14_0 : w9.cell? ⟨gb1636,0,none⟩ = some (.slice A0_0 l0_0.length c0_0):=(blk_cell BK1636.out 0).trans rfl
   have hfz14_0:=blk_frozen BK1636.out 0
   go_wp2_with ((((with_reducible refine gate_callee (f:=116) rfl ?_); refine goesL_ (some 18) rfl rfl Try.func116 (by kernel_rfl) rfl #[.agg #[.slice A0_0 l0_0.length c0_0]] rfl (by (try simp only [List.map_toArray,List.map_cons,List.map_nil]); (rfl)) ?_; (with_reducible refine (spec_l5Good.calls k _ _ l0_0 false _ ?side1 ?side2 A10.out).mono ?_); (case side1 => repeat ((exact (Kd.C_below HR0_0.out HB.out)))); (case side2 => exact HC0_0.out); rintro e w15 ⟨rfl,hb⟩; refine ⟨_,rfl,?_⟩; have n0_:=Aside0.mk (Kd.R_below (by exact HO1639.out) hb); have n1_:=Aside0.mk (blk_below (g:=gb1636) (o:=.cells #[.slice A0_0 l0_0.length c0_0] 42 (0,0)) (by exact BK1636.out) hb); have n2_:=Aside0.mk (below_step (by repeat (((with_reducible (exact HB.out))))) hb); clear HO1639; clear BK1636; clear HB; have HO1639:=n0_; have BK1636:=n1_; have HB:=n2_; clear n0_ n1_ n2_; (try clear hb); (try clear hb2); (try clear hk); (try clear hi))))
   go_meet
   case rel => exact ⟨_,(true),(by (rfl)),H',⟨by (omega)⟩,⟨by exact HO1639.out⟩,⟨by exact BK1636.out⟩,⟨by repeat (((with_reducible (exact HB.out))))⟩⟩
 case rest =>
  clear HC4
  try clear c1
  try clear p2
  try clear c8
  try clear c11
  try clear c14
  try clear hcz12_0
  try clear hcz14_0
  try clear hcz8_0
  try clear hfz12_0
  try clear hfz14_0
  try clear hfz8_0
  obtain ⟨kq,x23_3,rfl,HA,HJ3,HO_6,BK1636,HB⟩:=hcut
  cases kq with
  | zero => exact absurd HA.out (by simp [spec_BlockersOf.j0])
  | succ kj3 =>
   have H:=HA.out
   clear HA
   simp only [spec_BlockersOf.j0] at H
   by_cases c16 : x23_3 = true
   ·subst c16
    have H1 : (some (y1637,false)) = some (r1,r2):=by rw [if_pos rfl] at H; exact H
    clear H
    have H:=H1
    clear H1
    simp only [Option.some.injEq,Prod.mk.injEq] at H
    obtain ⟨rfl,rfl⟩:=H
    go_wp2
    go_ret2
    exact ⟨_,by (rfl),by exact HO_6.out,by repeat (((with_reducible (exact HB.out))))⟩
   ·replace c16:=Bool.eq_false_iff.mpr c16
    subst c16
    have H1 : (if 0 ≤ t1640 then (if t1640 < (l0_0.length : Int) then (spec_BlockersOf.l0 kj3 y1637 t1640 t1641 (wrap64 (((rd_L2 l0_0 t1640).length : Int) - 1)) l0_0) else (none)) else (none)) = some (r1,r2):=by rw [if_neg (show ¬ (false = true) by decide)] at H; exact H
    clear H
    have H:=H1
    clear H1
    by_cases c17 : 0 ≤ t1640
    ·rw [if_pos c17] at H
     have c17b0 : decide (0 ≤ t1640) = true:=decide_eq_true c17
     clear c17
     by_cases c18 : t1640 < (l0_0.length : Int)
     ·rw [if_pos c18] at H
      have c18b0 : decide (t1640 < (l0_0.length : Int)) = true:=decide_eq_true c18
      clear c18
      have H':=Aside0.mk H
      clear H
      have hcz19_0 : wc.cell? ⟨gb1636,0,none⟩ = some (.slice A0_0 l0_0.length c0_0):=(blk_cell BK1636.out 0).trans rfl
      have hfz19_0:=blk_frozen BK1636.out 0
      have p1643 : 0 ≤ (t1640 : Int):=of_decide_eq_true (by (with_reducible assumption))
      have q1643 : t1640 < (l0_0.length : Int):=of_decide_eq_true (by (with_reducible assumption))
      obtain ⟨ad1643,A1643_0,c1643_0,e1643,hx1643_0,hl1643_0,hi1643_0⟩:=at_L2 HR0_0.out t1640 p1643 q1643
      cases e1643
      replace hx1643_0:=(HB.out.cell (World.block_lt_of_cell? w _ hx1643_0)).trans hx1643_0
      have HR1643_0:=Aside0.mk hi1643_0
      have HC1643_0:=Aside0.mk hl1643_0
      clear hi1643_0 hl1643_0
      replace p1643:=eq_true p1643
      replace q1643:=eq_true q1643
      go_wp2
      go_loopg [6,9] kj3 (fun kq v6 v9 w' => ∃ (x6_2 : List Int) (x9_2 : Int),v9 = .int .i64 x9_2 ∧ Aside0 (spec_BlockersOf.l0 kq x6_2 t1640 t1641 x9_2 l0_0 = some (r1,r2)) ∧ Aside0 (kq ≤ kj3) ∧ Aside0 (Kd.R (Kd.int .i64) 3 w' w.heap.size (fun _ => True) v6 x6_2) ∧ Aside0 (w'.heap[gb1636]? = some (.cells #[(.slice (some ad1643) l0_0.length c0_0)] 42 (0,0))) ∧ Aside0 (Below w.heap.size w w'))
      case atStart => exact ⟨(y1637),(wrap64 (((rd_L2 l0_0 t1640).length : Int) - 1)),(by (rfl)),H',⟨Nat.le_refl _⟩,⟨by exact HO_6.out⟩,⟨by exact BK1636.out⟩,⟨by repeat (((with_reducible (exact HB.out))))⟩⟩
      case round =>
       clear H'
       try clear c1
       try clear p1
       try clear q1
       try clear hx1
       try clear p2
       try clear p6
       try clear c8
       try clear c11
       try clear c14
       try clear c16
       try clear p16
       try clear q16
       try clear hx16
       try clear c17
       try clear c17b0
       try clear c18
       try clear c18b0
       try clear hcz12_0
       try clear hcz14_0
       try clear hcz19_0
       try clear hcz8_0
       try clear hfz12_0
       try clear hfz14_0
       try clear hfz19_0
       try clear hfz8_0
       try clear hx1643_0
       try clear p1643
       try clear p2
       try clear q1643
       obtain ⟨x6_2,x9_2,rfl,HA,HK2,HO_6,BK1636,HB⟩:=hrel
       cases gk with
       | zero => exact absurd HA.out (by simp [spec_BlockersOf.l0])
       | succ k2 =>
        have H:=HA.out
        clear HA
        simp only [spec_BlockersOf.l0] at H
        by_cases c20 : x9_2 > t1641
        ·rw [if_pos c20] at H
         have c20b0 : decide (t1641 < x9_2) = true:=decide_eq_true c20
         clear c20
         by_cases c21 : 0 ≤ t1640
         ·rw [if_pos c21] at H
          have c21b0 : decide (0 ≤ t1640) = true:=decide_eq_true c21
          clear c21
          by_cases c22 : t1640 < (l0_0.length : Int)
          ·rw [if_pos c22] at H
           have c22b0 : decide (t1640 < (l0_0.length : Int)) = true:=decide_eq_true c22
           clear c22
           by_cases c23 : 0 ≤ x9_2
           ·rw [if_pos c23] at H
            have c23b0 : decide (0 ≤ x9_2) = true:=decide_eq_true c23
            clear c23
            by_cases c24 : x9_2 < ((rd_L2 l0_0 t1640).length : Int)
            ·rw [if_pos c24] at H
             have c24b0 : decide (x9_2 < ((rd_L2 l0_0 t1640).length : Int)) = true:=decide_eq_true c24
             clear c24
             by_cases c25 : x6_2.length < 17592186044416
             ·rw [if_pos c25] at H
              have LMc25:=Aside0.mk c25
              clear c25
              obtain ⟨y1646,hy1646⟩ : ∃ y_ : List Int,y_ = (x6_2 ++ [rd (rd_L2 l0_0 t1640) x9_2]):=⟨_,rfl⟩
              replace H : (spec_BlockersOf.l0 k2 y1646 t1640 t1641 (wrap64 (x9_2 - 1)) l0_0) = some (r1,r2):=by (rw [hy1646]; with_reducible exact H)
              have Ny1646:=Aside0.mk hy1646
              clear hy1646
              have H':=Aside0.mk H
              clear H
              have hcz26_0 : wr.cell? ⟨gb1636,0,none⟩ = some (.slice (some ad1643) l0_0.length c0_0):=(blk_cell BK1636.out 0).trans rfl
              have hfz26_0:=blk_frozen BK1636.out 0
              have p1644 : 0 ≤ (t1640 : Int):=of_decide_eq_true (by (with_reducible assumption))
              have q1644 : t1640 < (l0_0.length : Int):=of_decide_eq_true (by (with_reducible assumption))
              obtain ⟨ad1644,A1644_0,c1644_0,e1644,hx1644_0,hl1644_0,hi1644_0⟩:=at_L2 HR0_0.out t1640 p1644 q1644
              obtain rfl : ad1643 = ad1644:=(by injection e1644)
              replace hx1644_0:=(HB.out.cell (World.block_lt_of_cell? w _ hx1644_0)).trans hx1644_0
              have HR1644_0:=Aside0.mk hi1644_0
              have HC1644_0:=Aside0.mk hl1644_0
              clear hi1644_0 hl1644_0
              replace p1644:=eq_true p1644
              replace q1644:=eq_true q1644
              have p1645 : 0 ≤ (x9_2 : Int):=of_decide_eq_true (by (with_reducible assumption))
              have q1645 : x9_2 < ((rd_L2 l0_0 t1640).length : Int):=of_decide_eq_true (by (with_reducible assumption))
              obtain ⟨ad1645,e1645,hx1645_0⟩:=Kd.at_int HR1644_0.out x9_2 p1645 q1645
              cases e1645
              replace hx1645_0:=(HB.out.cell (World.block_lt_of_cell? w _ hx1645_0)).trans hx1645_0
              replace p1645:=eq_true p1645
              replace q1645:=eq_true q1645
              go_wp2_with ((((with_reducible refine gate_builtin (b:=.append) (xs:=#[.tmp 37,.tmp 46]) rfl ?_); at_builtin; refine Kd.R_append (Kd.int .i64) (w0:=w) w.heap.size rfl (.tmp 37) (.tmp 46) 24 3 (.int .i64 0) 8 rfl Try.underlying24 info3 rfl (by decide) (by omega) u6 x6_2 (rd (rd_L2 l0_0 t1640) x9_2) [.int .i64 (rd (rd_L2 l0_0 t1640) x9_2)] (fun _ => True) (fun _ => False) rfl rfl ?aP (fun _ hk => hk.elim) ?aF ?aO ?aB ?aS ?aL ?_; (case aP => exact rfl); (case aB => exact (by repeat (((with_reducible (exact HB.out)))))); (case aF => exact (fun _ _ => trivial)); (case aO => exact (by exact HO_6.out)); (case aS => exact (below_size (by repeat (((with_reducible (exact HB.out))))))); (case aL => have:=LMc25.out; omega); intro v1647 w27 ho hb hg hat; rw [← Ny1646.out] at ho; have n0_:=Aside0.mk (blk_grown (g:=gb1636) (o:=.cells #[.slice (some ad1643) l0_0.length c0_0] 42 (0,0)) (by exact BK1636.out) hg (Kd.R_ne HO_6.out BK1636.out (by decide))); have n1_:=Aside0.mk (hb); have n2_:=Aside0.mk (ho); clear BK1636; clear HB; clear HO_6; have BK1636:=n0_; have HB:=n1_; have HO1648:=n2_; clear n0_ n1_ n2_; clear ho hb hg hat)))
              go_roundg k2
              case measure => have:=HJ3.out; have:=HK2.out; omega
              case rel => exact ⟨(y1646),(wrap64 (x9_2 - 1)),(by (rfl)),H',⟨by have:=HJ3.out; have:=HK2.out; omega⟩,⟨by exact HO1648.out⟩,⟨by exact BK1636.out⟩,⟨by repeat (((with_reducible (exact HB.out))))⟩⟩
             ·rw [if_neg c25] at H
              exact absurd H (by simp)
            ·rw [if_neg c24] at H
             exact absurd H (by simp)
           ·rw [if_neg c23] at H
            exact absurd H (by simp)
          ·rw [if_neg c22] at H
           exact absurd H (by simp)
         ·rw [if_neg c21] at H
          exact absurd H (by simp)
        ·rw [if_neg c20] at H
         have c20b0 : decide (t1641 < x9_2) = false:=decide_eq_false c20
         clear c20
         simp only [Option.some.injEq,Prod.mk.injEq] at H
         obtain ⟨rfl,rfl⟩:=H
         go_wp2
         go_ret2
         exact ⟨_,by (rfl),by exact HO_6.out,by repeat (((with_reducible (exact HB.out))))⟩
     ·rw [if_neg c18] at H
      exact absurd H (by simp)
    ·rw [if_neg c17] at H
     exact absurd H (by simp)

end Go.Proofs.Ytlldonokjgoajaa.X
