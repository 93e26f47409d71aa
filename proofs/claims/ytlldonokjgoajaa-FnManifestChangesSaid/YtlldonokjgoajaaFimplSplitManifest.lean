-- Written by a program of ours (wip/bin/xprint.py,over the kit's print.py) out of the translation. Not trusted: Lean checks it.
import Derived.Test.YtlldonokjgoajaaX0
import Derived.Test.YtlldonokjgoajaaFbGood
import Derived.Test.YtlldonokjgoajaaFbList
namespace Go.Proofs.Ytlldonokjgoajaa.X
open Go.RowKit Go.Proofs.YtlldonokjgoajaaW.PrintWords Go.Proofs.YtlldonokjgoajaaW.PrintLast Go.Proofs.YtlldonokjgoajaaW.PrintMore
attribute [local go_sem] max2_int min2_int max_two min_two max_three min_three max_four min_four   -- for this text's walks alone
set_option linter.unusedVariables false
set_option linter.unusedSimpArgs false

/-! ### impl_SplitManifest: function 85 -/
mutual
def impl_SplitManifest.j0 : Nat → List (S89) → Int → Bool → Option ((List (S89)) × (List (S89)) × Bool)
 | 0,_,_,_ => none
 | k + 1,x0,x1,x18 => if x18 = true then (some (([] : List (S89)),([] : List (S89)),false)) else (impl_SplitManifest.l0 k x1 (([] : List (S89))) (([] : List (S89))) x0 (x0.length : Int) 0)
def impl_SplitManifest.l0 : Nat → Int → List (S89) → List (S89) → List (S89) → Int → Int → Option ((List (S89)) × (List (S89)) × Bool)
 | 0,_,_,_,_,_,_ => none
 | k + 1,x1,x7,x8,x21,x22,x23 => if x23 < x22 then (if 0 ≤ x23 then (if x23 < (x21.length : Int) then (if ((rd_T89 x21 x23).f4) = x1 then (if x7.length < 2932031007402 then (impl_SplitManifest.l0 k x1 (x7 ++ [(⟨(rd_T89 x21 x23).f0,(rd_T89 x21 x23).f1,(rd_T89 x21 x23).f2,(rd_T89 x21 x23).f3,(rd_T89 x21 x23).f4⟩ : S89)]) x8 x21 x22 (wrap64 (x23 + 1))) else (none)) else (if x8.length < 2932031007402 then (impl_SplitManifest.l0 k x1 x7 (x8 ++ [(⟨(rd_T89 x21 x23).f0,(rd_T89 x21 x23).f1,(rd_T89 x21 x23).f2,(rd_T89 x21 x23).f3,(rd_T89 x21 x23).f4⟩ : S89)]) x21 x22 (wrap64 (x23 + 1))) else (none))) else (none)) else (none)) else (some (x7,x8,true))
end
def impl_SplitManifest.f (k : Nat) (l0 : List (S89)) (a1 : Int) : Option ((List (S89)) × (List (S89)) × Bool):=(impl_IsValidContainers.f k l0).bind fun t1511 => (if t1511 = true then ((impl_within.f a1 1 9).bind fun t1512 => (impl_SplitManifest.j0 k l0 a1 (!t1512))) else (impl_SplitManifest.j0 k l0 a1 true))
theorem impl_SplitManifest.mono_l : ∀ k,(∀ y0 y1 y2,LeO (impl_SplitManifest.j0 k y0 y1 y2) (impl_SplitManifest.j0 (k + 1) y0 y1 y2)) ∧ (∀ y0 y1 y2 y3 y4 y5,LeO (impl_SplitManifest.l0 k y0 y1 y2 y3 y4 y5) (impl_SplitManifest.l0 (k + 1) y0 y1 y2 y3 y4 y5))
 | 0 => ⟨fun _ _ _ r h => by simp [impl_SplitManifest.j0] at h,fun _ _ _ _ _ _ r h => by simp [impl_SplitManifest.l0] at h⟩
 | k + 1 => by
  obtain ⟨ih0,ih1⟩:=impl_SplitManifest.mono_l k
  refine ⟨?_,?_⟩
  ·intro y0 y1 y2
   unfold impl_SplitManifest.j0
   repeat' first
   | (with_reducible exact ih0 _ _ _)
   | (with_reducible exact ih1 _ _ _ _ _ _)
   | (with_reducible exact impl_IsValidContainers.mono _ _)
   | (with_reducible exact LeO.refl _)
   | (with_reducible exact LeO.none _)
   | (with_reducible refine LeO.ite ?_ ?_)
   | (with_reducible refine LeO.bind ?_ (fun _ => ?_))
   | exact ih0 _ _ _
   | exact ih1 _ _ _ _ _ _
   | exact impl_IsValidContainers.mono _ _
   | exact LeO.none _
   | refine LeO.ite ?_ ?_
   | refine LeO.bind ?_ (fun _ => ?_)
  ·intro y0 y1 y2 y3 y4 y5
   unfold impl_SplitManifest.l0
   repeat' first
   | (with_reducible exact ih0 _ _ _)
   | (with_reducible exact ih1 _ _ _ _ _ _)
   | (with_reducible exact impl_IsValidContainers.mono _ _)
   | (with_reducible exact LeO.refl _)
   | (with_reducible exact LeO.none _)
   | (with_reducible refine LeO.ite ?_ ?_)
   | (with_reducible refine LeO.bind ?_ (fun _ => ?_))
   | exact ih0 _ _ _
   | exact ih1 _ _ _ _ _ _
   | exact impl_IsValidContainers.mono _ _
   | exact LeO.none _
   | refine LeO.ite ?_ ?_
   | refine LeO.bind ?_ (fun _ => ?_)
theorem impl_SplitManifest.mono : ∀ a0 a1 k,LeO (impl_SplitManifest.f k a0 a1) (impl_SplitManifest.f (k + 1) a0 a1):=by
 intro a0 a1 k
 obtain ⟨ih0,ih1⟩:=impl_SplitManifest.mono_l k
 unfold impl_SplitManifest.f
 repeat' first
   | (with_reducible exact ih0 _ _ _)
   | (with_reducible exact ih1 _ _ _ _ _ _)
   | (with_reducible exact impl_IsValidContainers.mono _ _)
   | (with_reducible exact LeO.refl _)
   | (with_reducible exact LeO.none _)
   | (with_reducible refine LeO.ite ?_ ?_)
   | (with_reducible refine LeO.bind ?_ (fun _ => ?_))
   | exact ih0 _ _ _
   | exact ih1 _ _ _ _ _ _
   | exact impl_IsValidContainers.mono _ _
   | exact LeO.none _
   | refine LeO.ite ?_ ?_
   | refine LeO.bind ?_ (fun _ => ?_)
set_option maxHeartbeats 8000000 in
set_option maxRecDepth 100000 in
theorem impl_SplitManifest.calls (k : Nat) (A0 : Option Addr) (c0 : Nat) (l0 : List (S89)) (a1 : Int) (r1 : List (S89)) (r2 : List (S89)) (r3 : Bool) (w : World) (hr0 : Kd.C k89 w A0 l0.length l0) (hc0 : l0.length ≤ c0) (h : impl_SplitManifest.f k l0 a1 = some (r1,r2,r3)) :
  Calls Try.prog 85 #[.slice A0 l0.length c0,.int .i64 a1] w fun e w' => ∃ v0_ v1_ : Value,e = .returned (.tuple #[v0_,v1_,.bool r3]) ∧ Kd.R k89 89 w' w.heap.size (fun k_ => some k_ ≠ (v1_ : Value).ownBlock) v0_ r1 ∧ Kd.R k89 89 w' w.heap.size (fun k_ => some k_ ≠ (v0_ : Value).ownBlock) v1_ r2 ∧ Below w.heap.size w w':=by
 have hu89:=Try.underlying89
 have HR0:=Aside0.mk hr0
 have HC0:=Aside0.mk hc0
 clear hr0 hc0
 have HB:=Aside0.mk (Below.refl w.heap.size w)
 have H : ((impl_IsValidContainers.f k l0).bind fun t1511 => (if t1511 = true then ((impl_within.f a1 1 9).bind fun t1512 => (impl_SplitManifest.j0 k l0 a1 (!t1512))) else (impl_SplitManifest.j0 k l0 a1 true))) = some (r1,r2,r3):=h
 clear h
 have HC3:=Aside0.mk H
 clear H
 go_enter Try.func85,Try.ntmps85
 go_upto_region 1 with (fail)
 go_cut [18] (fun v18 wc => ∃ (kq : Nat) (x18_2 : Bool),v18 = .bool x18_2 ∧ Aside0 (impl_SplitManifest.j0 kq l0 a1 x18_2 = some (r1,r2,r3)) ∧ Aside0 (kq ≤ k) ∧ Aside0 (Below w.heap.size w wc))
 case first =>
  have H:=HC3.out
  clear HC3
  replace H:=Option.bind_eq_some_iff.mp H
  obtain ⟨t1511,A40,H⟩:=H
  replace H : (if t1511 = true then ((impl_within.f a1 1 9).bind fun t1512 => (impl_SplitManifest.j0 k l0 a1 (!t1512))) else (impl_SplitManifest.j0 k l0 a1 true)) = some (r1,r2,r3):=H
  have A4:=Aside0.mk A40
  clear A40
  by_cases c5 : t1511 = true
  ·subst c5
   have H1 : ((impl_within.f a1 1 9).bind fun t1512 => (impl_SplitManifest.j0 k l0 a1 (!t1512))) = some (r1,r2,r3):=by rw [if_pos rfl] at H; exact H
   clear H
   have H:=H1
   clear H1
   replace H:=Option.bind_eq_some_iff.mp H
   obtain ⟨t1512,A60,H⟩:=H
   replace H : (impl_SplitManifest.j0 k l0 a1 (!t1512)) = some (r1,r2,r3):=H
   have A6:=Aside0.mk A60
   clear A60
   have H':=Aside0.mk H
   clear H
   go_wp2_with (first|((with_reducible refine gate_callee (f:=72) rfl ?_); refine goesL_ (some 12) rfl rfl Try.func72 (by kernel_rfl) rfl #[.slice A0 l0.length c0] rfl (by (try simp only [List.map_toArray,List.map_cons,List.map_nil]); (rfl)) ?_; (with_reducible refine (impl_IsValidContainers.calls k _ _ l0 true _ ?side1 ?side2 A4.out).mono ?_); (case side1 => repeat ((exact (Kd.C_below HR0.out HB.out)))); (case side2 => exact HC0.out); rintro e w7 ⟨rfl,hb⟩; refine ⟨_,rfl,?_⟩; have n0_:=Aside0.mk (below_step (by repeat (((with_reducible (exact HB.out))))) hb); clear HB; have HB:=n0_; clear n0_; (try clear hb); (try clear hb2); (try clear hk); (try clear hi))|(go_at_call 118; (with_reducible refine (impl_within.calls a1 1 9 t1512 _ A6.out).mono ?_); rintro e w' ⟨rfl,⟨nd,rfl⟩⟩))
   go_meet
   case rel => exact ⟨_,(!t1512),(by (rfl)),H',⟨by (omega)⟩,⟨by repeat (with_reducible first|exact HB.out|apply pw_below_drewN)⟩⟩
  ·replace c5:=Bool.eq_false_iff.mpr c5
   subst c5
   have H1 : (impl_SplitManifest.j0 k l0 a1 true) = some (r1,r2,r3):=by rw [if_neg (show ¬ (false = true) by decide)] at H; exact H
   clear H
   have H:=H1
   clear H1
   have H':=Aside0.mk H
   clear H
   go_wp2_with ((((with_reducible refine gate_callee (f:=72) rfl ?_); refine goesL_ (some 12) rfl rfl Try.func72 (by kernel_rfl) rfl #[.slice A0 l0.length c0] rfl (by (try simp only [List.map_toArray,List.map_cons,List.map_nil]); (rfl)) ?_; (with_reducible refine (impl_IsValidContainers.calls k _ _ l0 false _ ?side1 ?side2 A4.out).mono ?_); (case side1 => repeat ((exact (Kd.C_below HR0.out HB.out)))); (case side2 => exact HC0.out); rintro e w8 ⟨rfl,hb⟩; refine ⟨_,rfl,?_⟩; have n0_:=Aside0.mk (below_step (by repeat (((with_reducible (exact HB.out))))) hb); clear HB; have HB:=n0_; clear n0_; (try clear hb); (try clear hb2); (try clear hk); (try clear hi))))
   go_meet
   case rel => exact ⟨_,(true),(by (rfl)),H',⟨by (omega)⟩,⟨by repeat (((with_reducible (exact HB.out))))⟩⟩
 case rest =>
  clear HC3
  try clear p2
  try clear c5
  try clear c7
  try clear c8
  obtain ⟨kq,x18_2,rfl,HA,HJ2,HB⟩:=hcut
  cases kq with
  | zero => exact absurd HA.out (by simp [impl_SplitManifest.j0])
  | succ kj2 =>
   have H:=HA.out
   clear HA
   simp only [impl_SplitManifest.j0] at H
   by_cases c9 : x18_2 = true
   ·subst c9
    have H1 : (some (([] : List (S89)),([] : List (S89)),false)) = some (r1,r2,r3):=by rw [if_pos rfl] at H; exact H
    clear H
    have H:=H1
    clear H1
    simp only [Option.some.injEq,Prod.mk.injEq] at H
    obtain ⟨rfl,rfl,rfl⟩:=H
    go_wp2
    go_ret3
    exact ⟨_,_,by (rfl),by (exact Kd.R_nil _ _ _ _ _),by (exact Kd.R_nil _ _ _ _ _),by repeat (((with_reducible (exact HB.out))))⟩
   ·replace c9:=Bool.eq_false_iff.mpr c9
    subst c9
    have H1 : (impl_SplitManifest.l0 kj2 a1 (([] : List (S89))) (([] : List (S89))) l0 (l0.length : Int) 0) = some (r1,r2,r3):=by rw [if_neg (show ¬ (false = true) by decide)] at H; exact H
    clear H
    have H:=H1
    clear H1
    obtain ⟨y1513,hy1513⟩ : ∃ y_ : List (S89),y_ = (([] : List (S89))):=⟨_,rfl⟩
    replace H : (impl_SplitManifest.l0 kj2 a1 y1513 (([] : List (S89))) l0 (l0.length : Int) 0) = some (r1,r2,r3):=by (rw [hy1513]; with_reducible exact H)
    have Ny1513:=Aside0.mk hy1513
    clear hy1513
    obtain ⟨y1516,hy1516⟩ : ∃ y_ : List (S89),y_ = (([] : List (S89))):=⟨_,rfl⟩
    replace H : (impl_SplitManifest.l0 kj2 a1 y1513 y1516 l0 (l0.length : Int) 0) = some (r1,r2,r3):=by (rw [hy1516]; with_reducible exact H)
    have Ny1516:=Aside0.mk hy1516
    clear hy1516
    have H':=Aside0.mk H
    clear H
    go_wp2_with (first|((with_reducible refine gate_dst (N:=19) rfl ?_); refine Kd.R_lit k89 _ 89 ?hg (N:=19) ?hd (xs:=([] : List (S89))) (inner:=[]) (ok:=fun _ => True) (okp:=fun _ => True) ?hr ?hp (fun _ hk => hk) trivial (Below.refl _ _) (Nat.le_refl _) (by simp) ?_; (case hd => rfl); (case hg => rfl); (case hr => (go_simp; done)); (case hp => exact (Reps.none _ _)); intro v1514 w10 ho11 hb hg_ hnew_; clear hg_ hnew_; (rw [← Ny1513.out] at ho11); have n0_:=Aside0.mk (Kd.R_lower ho11 (below_size (by repeat (((with_reducible (exact HB.out))))))); have n1_:=Aside0.mk (below_step (by repeat (((with_reducible (exact HB.out))))) hb); clear HB; have HO1515:=n0_; have HB:=n1_; clear n0_ n1_; clear hb ho11)|((with_reducible refine gate_dst (N:=20) rfl ?_); refine Kd.R_lit k89 _ 89 ?hg (N:=20) ?hd (xs:=([] : List (S89))) (inner:=[]) (ok:=fun _ => True) (okp:=fun _ => True) ?hr ?hp (fun _ hk => hk) trivial (Below.refl _ _) (Nat.le_refl _) (by simp) ?_; (case hd => rfl); (case hg => rfl); (case hr => (go_simp; done)); (case hp => exact (Reps.none _ _)); intro v1517 w12 ho13 hb hg_ hnew_; clear hg_ hnew_; (rw [← Ny1516.out] at ho13); have n0_:=Aside0.mk (Kd.R_elder' (by exact HO1515.out) (Kd.R_base ho13) hb); have n1_:=Aside0.mk (Kd.R_lower (Kd.R_new' ho13 (Kd.R_lt (by exact HO1515.out))) (below_size (by repeat (((with_reducible (exact HB.out))))))); have n2_:=Aside0.mk (below_step (by repeat (((with_reducible (exact HB.out))))) hb); clear HO1515; clear HB; have HO1515:=n0_; have HO1518:=n1_; have HB:=n2_; clear n0_ n1_ n2_; clear hb ho13))
    go_loopg [7,8,23] kj2 (fun kq v7 v8 v23 w' => ∃ (x7_2 : List (S89)) (x8_2 : List (S89)) (x23_2 : Int),v23 = .int .i64 x23_2 ∧ Aside0 (impl_SplitManifest.l0 kq a1 x7_2 x8_2 l0 (l0.length : Int) x23_2 = some (r1,r2,r3)) ∧ Aside0 (kq ≤ kj2) ∧ Aside0 (Kd.R k89 89 w' w.heap.size (fun k_ => some k_ ≠ (v8 : Value).ownBlock) v7 x7_2) ∧ Aside0 (Kd.R k89 89 w' w.heap.size (fun k_ => some k_ ≠ (v7 : Value).ownBlock) v8 x8_2) ∧ Aside0 (Below w.heap.size w w'))
    case atStart => exact ⟨(y1513),(y1516),(0),(by (rfl)),H',⟨Nat.le_refl _⟩,⟨by exact Kd.R_mono HO1515.out (fun _ hk => hk.2)⟩,⟨by exact Kd.R_mono HO1518.out (fun _ hk => hk.2)⟩,⟨by repeat (((with_reducible (exact HB.out))))⟩⟩
    case round =>
     clear H'
     try clear p2
     try clear c5
     try clear c7
     try clear c8
     try clear c9
     try clear p2
     obtain ⟨x7_2,x8_2,x23_2,rfl,HA,HK2,HO_7,HO_8,HB⟩:=hrel
     cases gk with
     | zero => exact absurd HA.out (by simp [impl_SplitManifest.l0])
     | succ k2 =>
      have H:=HA.out
      clear HA
      simp only [impl_SplitManifest.l0] at H
      by_cases c14 : x23_2 < (l0.length : Int)
      ·rw [if_pos c14] at H
       have c14b0 : decide (x23_2 < (l0.length : Int)) = true:=decide_eq_true c14
       clear c14
       by_cases c15 : 0 ≤ x23_2
       ·rw [if_pos c15] at H
        have c15b0 : decide (0 ≤ x23_2) = true:=decide_eq_true c15
        clear c15
        by_cases c16 : x23_2 < (l0.length : Int)
        ·rw [if_pos c16] at H
         have c16b0 : decide (x23_2 < (l0.length : Int)) = true:=decide_eq_true c16
         clear c16
         by_cases c17 : ((rd_T89 l0 x23_2).f4) = a1
         ·rw [if_pos c17] at H
          have c17b0 : (((rd_T89 l0 x23_2).f4) == a1) = true:=beq_iff_eq.mpr c17
          have c17b1 : (((rd_T89 l0 x23_2).f4) != a1) = false:=bne_eq_false_iff_eq.mpr c17
          clear c17
          by_cases c18 : x7_2.length < 2932031007402
          ·rw [if_pos c18] at H
           have LMc18:=Aside0.mk c18
           clear c18
           obtain ⟨y1521,hy1521⟩ : ∃ y_ : List (S89),y_ = (x7_2 ++ [(⟨(rd_T89 l0 x23_2).f0,(rd_T89 l0 x23_2).f1,(rd_T89 l0 x23_2).f2,(rd_T89 l0 x23_2).f3,(rd_T89 l0 x23_2).f4⟩ : S89)]):=⟨_,rfl⟩
           replace H : (impl_SplitManifest.l0 k2 a1 y1521 x8_2 l0 (l0.length : Int) (wrap64 (x23_2 + 1))) = some (r1,r2,r3):=by (rw [hy1521]; with_reducible exact H)
           have Ny1521:=Aside0.mk hy1521
           clear hy1521
           have H':=Aside0.mk H
           clear H
           have p1519 : 0 ≤ (x23_2 : Int):=of_decide_eq_true (by (with_reducible assumption))
           have q1519 : x23_2 < (l0.length : Int):=of_decide_eq_true (by (with_reducible assumption))
           obtain ⟨ad1519,e1519,hx1519_0,hx1519_1,hx1519_2,hx1519_3,hx1519_4⟩:=at_T89 HR0.out x23_2 p1519 q1519
           cases e1519
           replace hx1519_0:=(HB.out.cell (World.block_lt_of_cell? w _ hx1519_0)).trans hx1519_0
           replace hx1519_1:=(HB.out.cell (World.block_lt_of_cell? w _ hx1519_1)).trans hx1519_1
           replace hx1519_2:=(HB.out.cell (World.block_lt_of_cell? w _ hx1519_2)).trans hx1519_2
           replace hx1519_3:=(HB.out.cell (World.block_lt_of_cell? w _ hx1519_3)).trans hx1519_3
           replace hx1519_4:=(HB.out.cell (World.block_lt_of_cell? w _ hx1519_4)).trans hx1519_4
           replace p1519:=eq_true p1519
           replace q1519:=eq_true q1519
           go_wp2_with (first|((with_reducible refine gate_dst (N:=10) rfl ?_); refine box_event ?hg (N:=10) ?hd (cs:=#[.string (⟨#[]⟩ : ByteArray),.int .i64 0,.int .i64 0,.int .i64 0,.int .i64 0]) (t:=89) ?hr ?_; (case hd => rfl); (case hg => rfl); (case hr => (go_simp; done)); intro gb1520 hg w19 hbox hb; have n0_:=Aside0.mk (Kd.R_below (Kd.R_elderB (by exact HO_7.out) gb1520 (Nat.le_of_eq hg.symm)) hb); have n1_:=Aside0.mk (Kd.R_below (Kd.R_elderB (by exact HO_8.out) gb1520 (Nat.le_of_eq hg.symm)) hb); have n2_:=Aside0.mk (below_step (by repeat (((with_reducible (exact HB.out))))) hb); have n3_:=Aside0.mk (hbox); have n4_:=Aside0.mk ((by rw [hg]; exact (below_size (by repeat (((with_reducible (exact HB.out)))))) : w.heap.size ≤ gb1520)); have n5_:=Aside0.mk ((by rw [hg]; exact (below_size (by repeat (((with_reducible (exact HB.out)))))) : w.heap.size ≤ gb1520)); clear HO_7; clear HO_8; clear HB; have HO_7:=n0_; have HO_8:=n1_; have HB:=n2_; have BK1520:=n3_; have GW1520:=n4_; have GE1520:=n5_; clear n0_ n1_ n2_ n3_ n4_ n5_; clear hb hbox hg; have hcz20_0 : w19.cell? ⟨gb1520,0,none⟩ = some (.string (⟨#[]⟩ : ByteArray)):=(blk_cell BK1520.out 0).trans rfl; have hcz20_1 : w19.cell? ⟨gb1520,1,none⟩ = some (.int .i64 0):=(blk_cell BK1520.out 1).trans rfl; have hcz20_2 : w19.cell? ⟨gb1520,2,none⟩ = some (.int .i64 0):=(blk_cell BK1520.out 2).trans rfl; have hcz20_3 : w19.cell? ⟨gb1520,3,none⟩ = some (.int .i64 0):=(blk_cell BK1520.out 3).trans rfl; have hcz20_4 : w19.cell? ⟨gb1520,4,none⟩ = some (.int .i64 0):=(blk_cell BK1520.out 4).trans rfl; have hfz20_0:=blk_frozen BK1520.out 0; have hfz20_1:=blk_frozen BK1520.out 1; have hfz20_2:=blk_frozen BK1520.out 2; have hfz20_3:=blk_frozen BK1520.out 3; have hfz20_4:=blk_frozen BK1520.out 4)|((with_reducible refine gate_builtin (b:=.append) (xs:=#[.tmp 31,.tmp 33]) rfl ?_); at_builtin; refine Kd.R_append k89 (w0:=w) w.heap.size rfl (.tmp 31) (.tmp 33) 74 89 (.agg #[(.string ⟨#[]⟩),(.int .i64 0),(.int .i64 0),(.int .i64 0),(.int .i64 0)]) 48 rfl Try.underlying74 info89 rfl (by decide) (by omega) u7 x7_2 (⟨(rd_T89 l0 x23_2).f0,(rd_T89 l0 x23_2).f1,(rd_T89 l0 x23_2).f2,(rd_T89 l0 x23_2).f3,(rd_T89 l0 x23_2).f4⟩ : S89) [.string ((rd_T89 l0 x23_2).f0),.int .i64 ((rd_T89 l0 x23_2).f1),.int .i64 ((rd_T89 l0 x23_2).f2),.int .i64 ((rd_T89 l0 x23_2).f3),.int .i64 ((rd_T89 l0 x23_2).f4)] (fun k_ => some k_ ≠ (u8 : Value).ownBlock ∧ k_ ≠ gb1520) (fun _ => False) rfl (by (go_simp; done)) ?aP (fun _ hk => hk.elim) ?aF ?aO ?aB ?aS ?aL ?_; (case aP => exact k89_mkM _ _ _ (⟨(rd_T89 l0 x23_2).f0,(rd_T89 l0 x23_2).f1,(rd_T89 l0 x23_2).f2,(rd_T89 l0 x23_2).f3,(rd_T89 l0 x23_2).f4⟩ : S89)); (case aB => exact (by repeat (with_reducible first|exact HB.out|refine below_set ?_ GE1520.out))); (case aF => exact (fun k_ hk => ⟨Kd.fresh' (Kd.R_lt (by exact (Kd.R_mono (Kd.R_far (p:=⟨gb1520,4,none⟩) (Kd.R_far (p:=⟨gb1520,3,none⟩) (Kd.R_far (p:=⟨gb1520,2,none⟩) (Kd.R_far (p:=⟨gb1520,1,none⟩) (Kd.R_far (p:=⟨gb1520,0,none⟩) (Kd.R_mono HO_8.out (fun k_ hk => (⟨hk,hk.2⟩ : _ ∧ k_ ≠ gb1520))) (fun _ hk => hk.2) (.string ((rd_T89 l0 x23_2).f0))) (fun _ hk => hk.2) (.int .i64 ((rd_T89 l0 x23_2).f1))) (fun _ hk => hk.2) (.int .i64 ((rd_T89 l0 x23_2).f2))) (fun _ hk => hk.2) (.int .i64 ((rd_T89 l0 x23_2).f3))) (fun _ hk => hk.2) (.int .i64 ((rd_T89 l0 x23_2).f4))) (fun _ h_ => h_.1)))) k_ hk,Kd.freshB (g:=gb1520) (o:=.cells #[.string ((rd_T89 l0 x23_2).f0),.int .i64 ((rd_T89 l0 x23_2).f1),.int .i64 ((rd_T89 l0 x23_2).f2),.int .i64 ((rd_T89 l0 x23_2).f3),.int .i64 ((rd_T89 l0 x23_2).f4)] 89 (0,0)) (by refine blk_put (cs:=#[.string ((rd_T89 l0 x23_2).f0),.int .i64 ((rd_T89 l0 x23_2).f1),.int .i64 ((rd_T89 l0 x23_2).f2),.int .i64 ((rd_T89 l0 x23_2).f3),.int .i64 0]) ?_ 4 _ rfl; refine blk_put (cs:=#[.string ((rd_T89 l0 x23_2).f0),.int .i64 ((rd_T89 l0 x23_2).f1),.int .i64 ((rd_T89 l0 x23_2).f2),.int .i64 0,.int .i64 0]) ?_ 3 _ rfl; refine blk_put (cs:=#[.string ((rd_T89 l0 x23_2).f0),.int .i64 ((rd_T89 l0 x23_2).f1),.int .i64 0,.int .i64 0,.int .i64 0]) ?_ 2 _ rfl; refine blk_put (cs:=#[.string ((rd_T89 l0 x23_2).f0),.int .i64 0,.int .i64 0,.int .i64 0,.int .i64 0]) ?_ 1 _ rfl; refine blk_put (cs:=#[.string (⟨#[]⟩ : ByteArray),.int .i64 0,.int .i64 0,.int .i64 0,.int .i64 0]) ?_ 0 _ rfl; exact BK1520.out) k_ hk⟩)); (case aO => exact (by exact Kd.R_mono (Kd.R_far (p:=⟨gb1520,4,none⟩) (Kd.R_far (p:=⟨gb1520,3,none⟩) (Kd.R_far (p:=⟨gb1520,2,none⟩) (Kd.R_far (p:=⟨gb1520,1,none⟩) (Kd.R_far (p:=⟨gb1520,0,none⟩) (Kd.R_mono HO_7.out (fun k_ hk => (⟨hk,hk.2⟩ : _ ∧ k_ ≠ gb1520))) (fun _ hk => hk.2) (.string ((rd_T89 l0 x23_2).f0))) (fun _ hk => hk.2) (.int .i64 ((rd_T89 l0 x23_2).f1))) (fun _ hk => hk.2) (.int .i64 ((rd_T89 l0 x23_2).f2))) (fun _ hk => hk.2) (.int .i64 ((rd_T89 l0 x23_2).f3))) (fun _ hk => hk.2) (.int .i64 ((rd_T89 l0 x23_2).f4))) (fun _ hk => ⟨hk.1.1,hk.1.2⟩))); (case aS => exact (below_size (by repeat (with_reducible first|exact HB.out|refine below_set ?_ GE1520.out)))); (case aL => have:=LMc18.out; omega); intro v1522 w21 ho hb hg hat; rw [← Ny1521.out] at ho; have n0_:=Aside0.mk (Kd.R_after (ok:=(fun k_ => k_ ≠ gb1520)) (by exact Kd.R_mono (Kd.R_far (p:=⟨gb1520,4,none⟩) (Kd.R_far (p:=⟨gb1520,3,none⟩) (Kd.R_far (p:=⟨gb1520,2,none⟩) (Kd.R_far (p:=⟨gb1520,1,none⟩) (Kd.R_far (p:=⟨gb1520,0,none⟩) (Kd.R_mono HO_8.out (fun k_ hk => (⟨hk,hk.2⟩ : _ ∧ k_ ≠ gb1520))) (fun _ hk => hk.2) (.string ((rd_T89 l0 x23_2).f0))) (fun _ hk => hk.2) (.int .i64 ((rd_T89 l0 x23_2).f1))) (fun _ hk => hk.2) (.int .i64 ((rd_T89 l0 x23_2).f2))) (fun _ hk => hk.2) (.int .i64 ((rd_T89 l0 x23_2).f3))) (fun _ hk => hk.2) (.int .i64 ((rd_T89 l0 x23_2).f4))) (fun _ hk => ⟨hk.1.2,hk.1.1⟩)) hg hat); have n1_:=Aside0.mk (blk_grown (g:=gb1520) (o:=.cells #[.string ((rd_T89 l0 x23_2).f0),.int .i64 ((rd_T89 l0 x23_2).f1),.int .i64 ((rd_T89 l0 x23_2).f2),.int .i64 ((rd_T89 l0 x23_2).f3),.int .i64 ((rd_T89 l0 x23_2).f4)] 89 (0,0)) (by refine blk_put (cs:=#[.string ((rd_T89 l0 x23_2).f0),.int .i64 ((rd_T89 l0 x23_2).f1),.int .i64 ((rd_T89 l0 x23_2).f2),.int .i64 ((rd_T89 l0 x23_2).f3),.int .i64 0]) ?_ 4 _ rfl; refine blk_put (cs:=#[.string ((rd_T89 l0 x23_2).f0),.int .i64 ((rd_T89 l0 x23_2).f1),.int .i64 ((rd_T89 l0 x23_2).f2),.int .i64 0,.int .i64 0]) ?_ 3 _ rfl; refine blk_put (cs:=#[.string ((rd_T89 l0 x23_2).f0),.int .i64 ((rd_T89 l0 x23_2).f1),.int .i64 0,.int .i64 0,.int .i64 0]) ?_ 2 _ rfl; refine blk_put (cs:=#[.string ((rd_T89 l0 x23_2).f0),.int .i64 0,.int .i64 0,.int .i64 0,.int .i64 0]) ?_ 1 _ rfl; refine blk_put (cs:=#[.string (⟨#[]⟩ : ByteArray),.int .i64 0,.int .i64 0,.int .i64 0,.int .i64 0]) ?_ 0 _ rfl; exact BK1520.out) hg (Kd.R_away HO_7.out (fun _ hk => hk.2))); have n2_:=Aside0.mk (hb); have n3_:=Aside0.mk (ho); clear HO_8; clear BK1520; clear HB; clear HO_7; have HO_8:=n0_; have BK1520:=n1_; have HB:=n2_; have HO1523:=n3_; clear n0_ n1_ n2_ n3_; clear ho hb hg hat))
           go_roundg k2
           case measure => have:=HJ2.out; have:=HK2.out; omega
           case rel => exact ⟨(y1521),(x8_2),(wrap64 (x23_2 + 1)),(by (rfl)),H',⟨by have:=HJ2.out; have:=HK2.out; omega⟩,⟨by exact Kd.R_mono HO1523.out (fun _ hk => hk.1)⟩,⟨by exact Kd.R_mono HO_8.out (fun _ hk => hk.2)⟩,⟨by repeat (((with_reducible (exact HB.out))))⟩⟩
          ·rw [if_neg c18] at H
           exact absurd H (by simp)
         ·rw [if_neg c17] at H
          have c17b0 : (((rd_T89 l0 x23_2).f4) == a1) = false:=beq_eq_false_iff_ne.mpr c17
          have c17b1 : (((rd_T89 l0 x23_2).f4) != a1) = true:=bne_iff_ne.mpr c17
          by_cases c22 : x8_2.length < 2932031007402
          ·rw [if_pos c22] at H
           have LMc22:=Aside0.mk c22
           clear c22
           obtain ⟨y1524,hy1524⟩ : ∃ y_ : List (S89),y_ = (x8_2 ++ [(⟨(rd_T89 l0 x23_2).f0,(rd_T89 l0 x23_2).f1,(rd_T89 l0 x23_2).f2,(rd_T89 l0 x23_2).f3,(rd_T89 l0 x23_2).f4⟩ : S89)]):=⟨_,rfl⟩
           replace H : (impl_SplitManifest.l0 k2 a1 x7_2 y1524 l0 (l0.length : Int) (wrap64 (x23_2 + 1))) = some (r1,r2,r3):=by (rw [hy1524]; with_reducible exact H)
           have Ny1524:=Aside0.mk hy1524
           clear hy1524
           have H':=Aside0.mk H
           clear H
           have p1519 : 0 ≤ (x23_2 : Int):=of_decide_eq_true (by (with_reducible assumption))
           have q1519 : x23_2 < (l0.length : Int):=of_decide_eq_true (by (with_reducible assumption))
           obtain ⟨ad1519,e1519,hx1519_0,hx1519_1,hx1519_2,hx1519_3,hx1519_4⟩:=at_T89 HR0.out x23_2 p1519 q1519
           cases e1519
           replace hx1519_0:=(HB.out.cell (World.block_lt_of_cell? w _ hx1519_0)).trans hx1519_0
           replace hx1519_1:=(HB.out.cell (World.block_lt_of_cell? w _ hx1519_1)).trans hx1519_1
           replace hx1519_2:=(HB.out.cell (World.block_lt_of_cell? w _ hx1519_2)).trans hx1519_2
           replace hx1519_3:=(HB.out.cell (World.block_lt_of_cell? w _ hx1519_3)).trans hx1519_3
           replace hx1519_4:=(HB.out.cell (World.block_lt_of_cell? w _ hx1519_4)).trans hx1519_4
           replace p1519:=eq_true p1519
           replace q1519:=eq_true q1519
           go_wp2_with (first|((with_reducible refine gate_dst (N:=10) rfl ?_); refine box_event ?hg (N:=10) ?hd (cs:=#[.string (⟨#[]⟩ : ByteArray),.int .i64 0,.int .i64 0,.int .i64 0,.int .i64 0]) (t:=89) ?hr ?_; (case hd => rfl); (case hg => rfl); (case hr => (go_simp; done)); intro gb1520 hg w23 hbox hb; have n0_:=Aside0.mk (Kd.R_below (Kd.R_elderB (by exact HO_7.out) gb1520 (Nat.le_of_eq hg.symm)) hb); have n1_:=Aside0.mk (Kd.R_below (Kd.R_elderB (by exact HO_8.out) gb1520 (Nat.le_of_eq hg.symm)) hb); have n2_:=Aside0.mk (below_step (by repeat (((with_reducible (exact HB.out))))) hb); have n3_:=Aside0.mk (hbox); have n4_:=Aside0.mk ((by rw [hg]; exact (below_size (by repeat (((with_reducible (exact HB.out)))))) : w.heap.size ≤ gb1520)); have n5_:=Aside0.mk ((by rw [hg]; exact (below_size (by repeat (((with_reducible (exact HB.out)))))) : w.heap.size ≤ gb1520)); clear HO_7; clear HO_8; clear HB; have HO_7:=n0_; have HO_8:=n1_; have HB:=n2_; have BK1520:=n3_; have GW1520:=n4_; have GE1520:=n5_; clear n0_ n1_ n2_ n3_ n4_ n5_; clear hb hbox hg; have hcz24_0 : w23.cell? ⟨gb1520,0,none⟩ = some (.string (⟨#[]⟩ : ByteArray)):=(blk_cell BK1520.out 0).trans rfl; have hcz24_1 : w23.cell? ⟨gb1520,1,none⟩ = some (.int .i64 0):=(blk_cell BK1520.out 1).trans rfl; have hcz24_2 : w23.cell? ⟨gb1520,2,none⟩ = some (.int .i64 0):=(blk_cell BK1520.out 2).trans rfl; have hcz24_3 : w23.cell? ⟨gb1520,3,none⟩ = some (.int .i64 0):=(blk_cell BK1520.out 3).trans rfl; have hcz24_4 : w23.cell? ⟨gb1520,4,none⟩ = some (.int .i64 0):=(blk_cell BK1520.out 4).trans rfl; have hfz24_0:=blk_frozen BK1520.out 0; have hfz24_1:=blk_frozen BK1520.out 1; have hfz24_2:=blk_frozen BK1520.out 2; have hfz24_3:=blk_frozen BK1520.out 3; have hfz24_4:=blk_frozen BK1520.out 4)|((with_reducible refine gate_builtin (b:=.append) (xs:=#[.tmp 35,.tmp 37]) rfl ?_); at_builtin; refine Kd.R_append k89 (w0:=w) w.heap.size rfl (.tmp 35) (.tmp 37) 74 89 (.agg #[(.string ⟨#[]⟩),(.int .i64 0),(.int .i64 0),(.int .i64 0),(.int .i64 0)]) 48 rfl Try.underlying74 info89 rfl (by decide) (by omega) u8 x8_2 (⟨(rd_T89 l0 x23_2).f0,(rd_T89 l0 x23_2).f1,(rd_T89 l0 x23_2).f2,(rd_T89 l0 x23_2).f3,(rd_T89 l0 x23_2).f4⟩ : S89) [.string ((rd_T89 l0 x23_2).f0),.int .i64 ((rd_T89 l0 x23_2).f1),.int .i64 ((rd_T89 l0 x23_2).f2),.int .i64 ((rd_T89 l0 x23_2).f3),.int .i64 ((rd_T89 l0 x23_2).f4)] (fun k_ => some k_ ≠ (u7 : Value).ownBlock ∧ k_ ≠ gb1520) (fun _ => False) rfl (by (go_simp; done)) ?aP (fun _ hk => hk.elim) ?aF ?aO ?aB ?aS ?aL ?_; (case aP => exact k89_mkM _ _ _ (⟨(rd_T89 l0 x23_2).f0,(rd_T89 l0 x23_2).f1,(rd_T89 l0 x23_2).f2,(rd_T89 l0 x23_2).f3,(rd_T89 l0 x23_2).f4⟩ : S89)); (case aB => exact (by repeat (with_reducible first|exact HB.out|refine below_set ?_ GE1520.out))); (case aF => exact (fun k_ hk => ⟨Kd.fresh' (Kd.R_lt (by exact (Kd.R_mono (Kd.R_far (p:=⟨gb1520,4,none⟩) (Kd.R_far (p:=⟨gb1520,3,none⟩) (Kd.R_far (p:=⟨gb1520,2,none⟩) (Kd.R_far (p:=⟨gb1520,1,none⟩) (Kd.R_far (p:=⟨gb1520,0,none⟩) (Kd.R_mono HO_7.out (fun k_ hk => (⟨hk,hk.2⟩ : _ ∧ k_ ≠ gb1520))) (fun _ hk => hk.2) (.string ((rd_T89 l0 x23_2).f0))) (fun _ hk => hk.2) (.int .i64 ((rd_T89 l0 x23_2).f1))) (fun _ hk => hk.2) (.int .i64 ((rd_T89 l0 x23_2).f2))) (fun _ hk => hk.2) (.int .i64 ((rd_T89 l0 x23_2).f3))) (fun _ hk => hk.2) (.int .i64 ((rd_T89 l0 x23_2).f4))) (fun _ h_ => h_.1)))) k_ hk,Kd.freshB (g:=gb1520) (o:=.cells #[.string ((rd_T89 l0 x23_2).f0),.int .i64 ((rd_T89 l0 x23_2).f1),.int .i64 ((rd_T89 l0 x23_2).f2),.int .i64 ((rd_T89 l0 x23_2).f3),.int .i64 ((rd_T89 l0 x23_2).f4)] 89 (0,0)) (by refine blk_put (cs:=#[.string ((rd_T89 l0 x23_2).f0),.int .i64 ((rd_T89 l0 x23_2).f1),.int .i64 ((rd_T89 l0 x23_2).f2),.int .i64 ((rd_T89 l0 x23_2).f3),.int .i64 0]) ?_ 4 _ rfl; refine blk_put (cs:=#[.string ((rd_T89 l0 x23_2).f0),.int .i64 ((rd_T89 l0 x23_2).f1),.int .i64 ((rd_T89 l0 x23_2).f2),.int .i64 0,.int .i64 0]) ?_ 3 _ rfl; refine blk_put (cs:=#[.string ((rd_T89 l0 x23_2).f0),.int .i64 ((rd_T89 l0 x23_2).f1),.int .i64 0,.int .i64 0,.int .i64 0]) ?_ 2 _ rfl; refine blk_put (cs:=#[.string ((rd_T89 l0 x23_2).f0),.int .i64 0,.int .i64 0,.int .i64 0,.int .i64 0]) ?_ 1 _ rfl; refine blk_put (cs:=#[.string (⟨#[]⟩ : ByteArray),.int .i64 0,.int .i64 0,.int .i64 0,.int .i64 0]) ?_ 0 _ rfl; exact BK1520.out) k_ hk⟩)); (case aO => exact (by exact Kd.R_mono (Kd.R_far (p:=⟨gb1520,4,none⟩) (Kd.R_far (p:=⟨gb1520,3,none⟩) (Kd.R_far (p:=⟨gb1520,2,none⟩) (Kd.R_far (p:=⟨gb1520,1,none⟩) (Kd.R_far (p:=⟨gb1520,0,none⟩) (Kd.R_mono HO_8.out (fun k_ hk => (⟨hk,hk.2⟩ : _ ∧ k_ ≠ gb1520))) (fun _ hk => hk.2) (.string ((rd_T89 l0 x23_2).f0))) (fun _ hk => hk.2) (.int .i64 ((rd_T89 l0 x23_2).f1))) (fun _ hk => hk.2) (.int .i64 ((rd_T89 l0 x23_2).f2))) (fun _ hk => hk.2) (.int .i64 ((rd_T89 l0 x23_2).f3))) (fun _ hk => hk.2) (.int .i64 ((rd_T89 l0 x23_2).f4))) (fun _ hk => ⟨hk.1.1,hk.1.2⟩))); (case aS => exact (below_size (by repeat (with_reducible first|exact HB.out|refine below_set ?_ GE1520.out)))); (case aL => have:=LMc22.out; omega); intro v1525 w25 ho hb hg hat; rw [← Ny1524.out] at ho; have n0_:=Aside0.mk (Kd.R_after (ok:=(fun k_ => k_ ≠ gb1520)) (by exact Kd.R_mono (Kd.R_far (p:=⟨gb1520,4,none⟩) (Kd.R_far (p:=⟨gb1520,3,none⟩) (Kd.R_far (p:=⟨gb1520,2,none⟩) (Kd.R_far (p:=⟨gb1520,1,none⟩) (Kd.R_far (p:=⟨gb1520,0,none⟩) (Kd.R_mono HO_7.out (fun k_ hk => (⟨hk,hk.2⟩ : _ ∧ k_ ≠ gb1520))) (fun _ hk => hk.2) (.string ((rd_T89 l0 x23_2).f0))) (fun _ hk => hk.2) (.int .i64 ((rd_T89 l0 x23_2).f1))) (fun _ hk => hk.2) (.int .i64 ((rd_T89 l0 x23_2).f2))) (fun _ hk => hk.2) (.int .i64 ((rd_T89 l0 x23_2).f3))) (fun _ hk => hk.2) (.int .i64 ((rd_T89 l0 x23_2).f4))) (fun _ hk => ⟨hk.1.2,hk.1.1⟩)) hg hat); have n1_:=Aside0.mk (blk_grown (g:=gb1520) (o:=.cells #[.string ((rd_T89 l0 x23_2).f0),.int .i64 ((rd_T89 l0 x23_2).f1),.int .i64 ((rd_T89 l0 x23_2).f2),.int .i64 ((rd_T89 l0 x23_2).f3),.int .i64 ((rd_T89 l0 x23_2).f4)] 89 (0,0)) (by refine blk_put (cs:=#[.string ((rd_T89 l0 x23_2).f0),.int .i64 ((rd_T89 l0 x23_2).f1),.int .i64 ((rd_T89 l0 x23_2).f2),.int .i64 ((rd_T89 l0 x23_2).f3),.int .i64 0]) ?_ 4 _ rfl; refine blk_put (cs:=#[.string ((rd_T89 l0 x23_2).f0),.int .i64 ((rd_T89 l0 x23_2).f1),.int .i64 ((rd_T89 l0 x23_2).f2),.int .i64 0,.int .i64 0]) ?_ 3 _ rfl; refine blk_put (cs:=#[.string ((rd_T89 l0 x23_2).f0),.int .i64 ((rd_T89 l0 x23_2).f1),.int .i64 0,.int .i64 0,.int .i64 0]) ?_ 2 _ rfl; refine blk_put (cs:=#[.string ((rd_T89 l0 x23_2).f0),.int .i64 0,.int .i64 0,.int .i64 0,.int .i64 0]) ?_ 1 _ rfl; refine blk_put (cs:=#[.string (⟨#[]⟩ : ByteArray),.int .i64 0,.int .i64 0,.int .i64 0,.int .i64 0]) ?_ 0 _ rfl; exact BK1520.out) hg (Kd.R_away HO_8.out (fun _ hk => hk.2))); have n2_:=Aside0.mk (hb); have n3_:=Aside0.mk (ho); clear HO_7; clear BK1520; clear HB; clear HO_8; have HO_7:=n0_; have BK1520:=n1_; have HB:=n2_; have HO1526:=n3_; clear n0_ n1_ n2_ n3_; clear ho hb hg hat))
           go_roundg k2
           case measure => have:=HJ2.out; have:=HK2.out; omega
           case rel => exact ⟨(x7_2),(y1524),(wrap64 (x23_2 + 1)),(by (rfl)),H',⟨by have:=HJ2.out; have:=HK2.out; omega⟩,⟨by exact Kd.R_mono HO_7.out (fun _ hk => hk.2)⟩,⟨by exact Kd.R_mono HO1526.out (fun _ hk => hk.1)⟩,⟨by repeat (((with_reducible (exact HB.out))))⟩⟩
          ·rw [if_neg c22] at H
           exact absurd H (by simp)
        ·rw [if_neg c16] at H
         exact absurd H (by simp)
       ·rw [if_neg c15] at H
        exact absurd H (by simp)
      ·rw [if_neg c14] at H
       have c14b0 : decide (x23_2 < (l0.length : Int)) = false:=decide_eq_false c14
       clear c14
       simp only [Option.some.injEq,Prod.mk.injEq] at H
       obtain ⟨rfl,rfl,rfl⟩:=H
       go_wp2
       go_ret3
       exact ⟨_,_,by (rfl),by exact HO_7.out,by exact HO_8.out,by repeat (((with_reducible (exact HB.out))))⟩

end Go.Proofs.Ytlldonokjgoajaa.X
