-- Written by a program of ours (wip/bin/xprint.py,over the kit's print.py) out of the translation. Not trusted: Lean checks it.
import Derived.Test.YtlldonokjgoajaaX0
import Derived.Test.YtlldonokjgoajaaFbList
import Derived.Test.YtlldonokjgoajaaFspecl1Own
import Derived.Test.YtlldonokjgoajaaGClone
namespace Go.Proofs.Ytlldonokjgoajaa.X
open Go.RowKit Go.Proofs.YtlldonokjgoajaaW.PrintWords Go.Proofs.YtlldonokjgoajaaW.PrintLast Go.Proofs.YtlldonokjgoajaaW.PrintMore
def lbd15 : Nat → Nat → List Bool
 | 0,_ => []
 | n+1,m => (m%2==1) :: lbd15 n (m/2)
def bd15 (n m : Nat) : Array Bool := ⟨lbd15 n m⟩
attribute [local go_sem] max2_int min2_int max_two min_two max_three min_three max_four min_four   -- for this text's walks alone
set_option linter.unusedVariables false
set_option linter.unusedSimpArgs false

/-! ### spec_l5Good: function 116 -/
mutual
def spec_l5Good.l0 : Nat → List Int → Int → List (List Int) → Option (Bool)
 | 0,_,_,_ => none
 | k + 1,x3,x4,x453000 => if x4 < (x453000.length : Int) then (if 0 ≤ x4 then (if ((rd_L2 x453000 x4).length : Int) > 4 then (some false) else (spec_l5Good.l1 k x3 x4 0 x453000)) else (none)) else (some true)
def spec_l5Good.l1 : Nat → List Int → Int → Int → List (List Int) → Option (Bool)
 | 0,_,_,_,_ => none
 | k + 1,x3,x4,x5,x453000 => if 0 ≤ x4 then (if x4 < (x453000.length : Int) then (if x5 < ((rd_L2 x453000 x4).length : Int) then (if 0 ≤ x5 then ((spec_l1In.f (rd (rd_L2 x453000 x4) x5) 1 99).bind fun t461 => (if t461 = true then ((spec_l1Has.f k x3 (rd (rd_L2 x453000 x4) x5)).bind fun t462 => (if t462 = true then (some false) else (if x3.length < 17592186044416 then (spec_l5Good.l1 k (x3 ++ [rd (rd_L2 x453000 x4) x5]) x4 (wrap64 (x5 + 1)) x453000) else (none)))) else (some false))) else (none)) else (spec_l5Good.l0 k x3 (wrap64 (x4 + 1)) x453000)) else (none)) else (none)
end
def spec_l5Good.f (k : Nat) (l0_0 : List (List Int)) : Option (Bool):=(spec_l1In.f (l0_0.length : Int) 1 6).bind fun t453 => (if t453 = true then (spec_l5Good.l0 k ([] : List Int) 0 l0_0) else (some false))
theorem spec_l5Good.mono_l : ∀ k,(∀ y0 y1 y2,LeO (spec_l5Good.l0 k y0 y1 y2) (spec_l5Good.l0 (k + 1) y0 y1 y2)) ∧ (∀ y0 y1 y2 y3,LeO (spec_l5Good.l1 k y0 y1 y2 y3) (spec_l5Good.l1 (k + 1) y0 y1 y2 y3))
 | 0 => ⟨fun _ _ _ r h => by simp [spec_l5Good.l0] at h,fun _ _ _ _ r h => by simp [spec_l5Good.l1] at h⟩
 | k + 1 => by
  obtain ⟨ih0,ih1⟩:=spec_l5Good.mono_l k
  refine ⟨?_,?_⟩
  ·intro y0 y1 y2
   unfold spec_l5Good.l0
   repeat' first
   | (with_reducible exact ih0 _ _ _)
   | (with_reducible exact ih1 _ _ _ _)
   | (with_reducible exact spec_l1Has.mono _ _ _)
   | (with_reducible exact LeO.refl _)
   | (with_reducible exact LeO.none _)
   | (with_reducible refine LeO.ite ?_ ?_)
   | (with_reducible refine LeO.bind ?_ (fun _ => ?_))
   | exact ih0 _ _ _
   | exact ih1 _ _ _ _
   | exact spec_l1Has.mono _ _ _
   | exact LeO.none _
   | refine LeO.ite ?_ ?_
   | refine LeO.bind ?_ (fun _ => ?_)
  ·intro y0 y1 y2 y3
   unfold spec_l5Good.l1
   repeat' first
   | (with_reducible exact ih0 _ _ _)
   | (with_reducible exact ih1 _ _ _ _)
   | (with_reducible exact spec_l1Has.mono _ _ _)
   | (with_reducible exact LeO.refl _)
   | (with_reducible exact LeO.none _)
   | (with_reducible refine LeO.ite ?_ ?_)
   | (with_reducible refine LeO.bind ?_ (fun _ => ?_))
   | exact ih0 _ _ _
   | exact ih1 _ _ _ _
   | exact spec_l1Has.mono _ _ _
   | exact LeO.none _
   | refine LeO.ite ?_ ?_
   | refine LeO.bind ?_ (fun _ => ?_)
theorem spec_l5Good.mono : ∀ a0 k,LeO (spec_l5Good.f k a0) (spec_l5Good.f (k + 1) a0):=by
 intro a0 k
 obtain ⟨ih0,ih1⟩:=spec_l5Good.mono_l k
 unfold spec_l5Good.f
 repeat' first
   | (with_reducible exact ih0 _ _ _)
   | (with_reducible exact ih1 _ _ _ _)
   | (with_reducible exact spec_l1Has.mono _ _ _)
   | (with_reducible exact LeO.refl _)
   | (with_reducible exact LeO.none _)
   | (with_reducible refine LeO.ite ?_ ?_)
   | (with_reducible refine LeO.bind ?_ (fun _ => ?_))
   | exact ih0 _ _ _
   | exact ih1 _ _ _ _
   | exact spec_l1Has.mono _ _ _
   | exact LeO.none _
   | refine LeO.ite ?_ ?_
   | refine LeO.bind ?_ (fun _ => ?_)
set_option maxHeartbeats 8000000 in
set_option maxRecDepth 100000 in
theorem spec_l5Good.calls (k : Nat) (A0_0 : Option Addr) (c0_0 : Nat) (l0_0 : List (List Int)) (r : Bool) (w : World) (hr0_0 : Kd.C (Kd.slice 3 (Kd.int .i64)) w A0_0 l0_0.length l0_0) (hc0_0 : l0_0.length ≤ c0_0) (h : spec_l5Good.f k l0_0 = some r) :
  Calls Try.prog 116 #[.agg #[.slice A0_0 l0_0.length c0_0]] w fun e w' => e = .returned (.bool r) ∧ Below w.heap.size w w':=by
 have hu42:=Try.underlying42
 have HR0_0:=Aside0.mk hr0_0
 have HC0_0:=Aside0.mk hc0_0
 clear hr0_0 hc0_0
 have HB:=Aside0.mk (Below.refl w.heap.size w)
 have H : ((spec_l1In.f (l0_0.length : Int) 1 6).bind fun t453 => (if t453 = true then (spec_l5Good.l0 k ([] : List Int) 0 l0_0) else (some false))) = some r:=h
 clear h
 replace H:=Option.bind_eq_some_iff.mp H
 obtain ⟨t453,A20,H⟩:=H
 replace H : (if t453 = true then (spec_l5Good.l0 k ([] : List Int) 0 l0_0) else (some false)) = some r:=H
 have A2:=Aside0.mk A20
 clear A20
 by_cases c3 : t453 = true
 ·subst c3
  have H1 : (spec_l5Good.l0 k ([] : List Int) 0 l0_0) = some r:=by rw [if_pos rfl] at H; exact H
  clear H
  have H:=H1
  clear H1
  obtain ⟨y454,hy454⟩ : ∃ y_ : List Int,y_ = ([] : List Int):=⟨_,rfl⟩
  replace H : (spec_l5Good.l0 k y454 0 l0_0) = some r:=by (rw [hy454]; with_reducible exact H)
  have Ny454:=Aside0.mk hy454
  clear hy454
  have H':=Aside0.mk H
  clear H
  go_enter Try.func116,Try.ntmps116
  go_wp2_with (first|((with_reducible refine gate_dst (N:=1) rfl ?_); refine box_event ?hg (N:=1) ?hd (cs:=#[.slice A0_0 l0_0.length c0_0]) (t:=42) ?hr ?_; (case hd => rfl); (case hg => rfl); (case hr => (go_simp; done)); intro gb452 hg w4 hbox hb; have n0_:=Aside0.mk (below_step (by repeat (((with_reducible (exact HB.out))))) hb); have n1_:=Aside0.mk (hbox); have n2_:=Aside0.mk ((by rw [hg]; exact (below_size (by repeat (((with_reducible (exact HB.out)))))) : w.heap.size ≤ gb452)); have n3_:=Aside0.mk ((by rw [hg]; exact (below_size (by repeat (((with_reducible (exact HB.out)))))) : w.heap.size ≤ gb452)); clear HB; have HB:=n0_; have BK452:=n1_; have GW452:=n2_; have GE452:=n3_; clear n0_ n1_ n2_ n3_; clear hb hbox hg; have hcz5_0 : w4.cell? ⟨gb452,0,none⟩ = some (.slice A0_0 l0_0.length c0_0):=(blk_cell BK452.out 0).trans rfl; have hfz5_0:=blk_frozen BK452.out 0)|((with_reducible refine gate_callee (f:=162) rfl ?_); refine goesL_ (some 10) rfl rfl Try.func162 (by kernel_rfl) rfl #[.int .i64 (l0_0.length : Int),.int .i64 1,.int .i64 6] rfl (by (try simp only [List.map_toArray,List.map_cons,List.map_nil]); (rfl)) ?_; (with_reducible refine (spec_l1In.calls (l0_0.length : Int) 1 6 true _ A2.out).mono ?_); rintro e w' ⟨rfl,⟨nd,rfl⟩⟩; refine ⟨_,rfl,?_⟩)|((with_reducible refine gate_dst (N:=12) rfl ?_); refine Kd.R_lit (Kd.int .i64) _ 3 ?hg (N:=12) ?hd (xs:=([] : List Int)) (inner:=[]) (ok:=fun _ => True) (okp:=fun _ => True) ?hr ?hp (fun _ hk => hk) trivial (Below.refl _ _) (Nat.le_refl _) (by simp) ?_; (case hd => rfl); (case hg => rfl); (case hr => (go_simp; done)); (case hp => exact (Reps.none _ _)); intro v455 w6 ho7 hb hg_ hnew_; clear hg_ hnew_; (rw [← Ny454.out] at ho7); have n0_:=Aside0.mk (Kd.R_lower ho7 (below_size (by repeat (with_reducible first|exact HB.out|apply pw_below_drewN)))); have n1_:=Aside0.mk (blk_below (g:=gb452) (o:=.cells #[.slice A0_0 l0_0.length c0_0] 42 (0,0)) (by (with_reducible repeat (refine blk_drewN ?_ _)); exact BK452.out) hb); have n2_:=Aside0.mk (below_step (by repeat (with_reducible first|exact HB.out|apply pw_below_drewN)) hb); clear BK452; clear HB; have HO456:=n0_; have BK452:=n1_; have HB:=n2_; clear n0_ n1_ n2_; clear hb ho7))
  go_loopg [3,4] k (fun kq v3 v4 w' => ∃ (x3_1 : List Int) (x4_1 : Int),v4 = .int .i64 x4_1 ∧ Aside0 (spec_l5Good.l0 kq x3_1 x4_1 l0_0 = some r) ∧ Aside0 (kq ≤ k) ∧ Aside0 (Kd.R (Kd.int .i64) 3 w' w.heap.size (fun _ => True) v3 x3_1) ∧ Aside0 (w'.heap[gb452]? = some (.cells #[(.slice A0_0 l0_0.length c0_0)] 42 (0,0))) ∧ Aside0 (Below w.heap.size w w'))
  case atStart => exact ⟨(y454),(0),(by (rfl)),H',⟨Nat.le_refl _⟩,⟨by exact HO456.out⟩,⟨by exact BK452.out⟩,⟨by repeat (((with_reducible (exact HB.out))))⟩⟩
  case round =>
   clear H'
   try clear c1
   try clear p2
   try clear c3
   try clear hcz5_0
   try clear hfz5_0
   obtain ⟨x3_1,x4_1,rfl,HA,HK1,HO_3,BK452,HB⟩:=hrel
   cases gk with
   | zero => exact absurd HA.out (by simp [spec_l5Good.l0])
   | succ k1 =>
    have H:=HA.out
    clear HA
    simp only [spec_l5Good.l0] at H
    by_cases c8 : x4_1 < (l0_0.length : Int)
    ·rw [if_pos c8] at H
     have c8b0 : decide (x4_1 < (l0_0.length : Int)) = true:=decide_eq_true c8
     clear c8
     by_cases c9 : 0 ≤ x4_1
     ·rw [if_pos c9] at H
      have c9b0 : decide (0 ≤ x4_1) = true:=decide_eq_true c9
      clear c9
      by_cases c10 : ((rd_L2 l0_0 x4_1).length : Int) > 4
      ·rw [if_pos c10] at H
       have c10b0 : decide (4 < ((rd_L2 l0_0 x4_1).length : Int)) = true:=decide_eq_true c10
       have c10b1 : decide (4 < (rd_L2 l0_0 x4_1).length) = true:=decide_eq_true (by omega)
       clear c10
       obtain rfl:=Option.some.inj H
       have hcz11_0 : wr.cell? ⟨gb452,0,none⟩ = some (.slice A0_0 l0_0.length c0_0):=(blk_cell BK452.out 0).trans rfl
       have hfz11_0:=blk_frozen BK452.out 0
       have p457 : 0 ≤ (x4_1 : Int):=of_decide_eq_true (by (with_reducible assumption))
       have q457 : x4_1 < (l0_0.length : Int):=of_decide_eq_true (by (with_reducible assumption))
       obtain ⟨ad457,A457_0,c457_0,e457,hx457_0,hl457_0,hi457_0⟩:=at_L2 HR0_0.out x4_1 p457 q457
       cases e457
       replace hx457_0:=(HB.out.cell (World.block_lt_of_cell? w _ hx457_0)).trans hx457_0
       have HR457_0:=Aside0.mk hi457_0
       have HC457_0:=Aside0.mk hl457_0
       clear hi457_0 hl457_0
       replace p457:=eq_true p457
       replace q457:=eq_true q457
       go_wp2
       go_ret
       exact ⟨by (rfl),by repeat (((with_reducible (exact HB.out))))⟩
      ·rw [if_neg c10] at H
       have c10b0 : decide (4 < ((rd_L2 l0_0 x4_1).length : Int)) = false:=decide_eq_false c10
       have c10b1 : decide (4 < (rd_L2 l0_0 x4_1).length) = false:=decide_eq_false (by omega)
       clear c10
       have H':=Aside0.mk H
       clear H
       have hcz12_0 : wr.cell? ⟨gb452,0,none⟩ = some (.slice A0_0 l0_0.length c0_0):=(blk_cell BK452.out 0).trans rfl
       have hfz12_0:=blk_frozen BK452.out 0
       have p457 : 0 ≤ (x4_1 : Int):=of_decide_eq_true (by (with_reducible assumption))
       have q457 : x4_1 < (l0_0.length : Int):=of_decide_eq_true (by (with_reducible assumption))
       obtain ⟨ad457,A457_0,c457_0,e457,hx457_0,hl457_0,hi457_0⟩:=at_L2 HR0_0.out x4_1 p457 q457
       cases e457
       replace hx457_0:=(HB.out.cell (World.block_lt_of_cell? w _ hx457_0)).trans hx457_0
       have HR457_0:=Aside0.mk hi457_0
       have HC457_0:=Aside0.mk hl457_0
       clear hi457_0 hl457_0
       replace p457:=eq_true p457
       replace q457:=eq_true q457
       go_wp2
       go_loopg [3,5] k1 (fun kq v3 v5 w' => ∃ (x3_2 : List Int) (x5_2 : Int),v5 = .int .i64 x5_2 ∧ Aside0 (spec_l5Good.l1 kq x3_2 x4_1 x5_2 l0_0 = some r) ∧ Aside0 (kq ≤ k1) ∧ Aside0 (Kd.R (Kd.int .i64) 3 w' w.heap.size (fun _ => True) v3 x3_2) ∧ Aside0 (w'.heap[gb452]? = some (.cells #[(.slice (some ad457) l0_0.length c0_0)] 42 (0,0))) ∧ Aside0 (Below w.heap.size w w'))
       case atStart => exact ⟨(x3_1),(0),(by (rfl)),H',⟨Nat.le_refl _⟩,⟨by exact HO_3.out⟩,⟨by exact BK452.out⟩,⟨by repeat (((with_reducible (exact HB.out))))⟩⟩
       case round =>
        clear H'
        try clear c1
        try clear p2
        try clear c3
        try clear c4
        try clear p4
        try clear q4
        try clear hx4
        try clear c8
        try clear c8b0
        try clear c9
        try clear c9b0
        try clear c10
        try clear c10b0
        try clear c10b1
        try clear c11
        try clear hcz11_0
        try clear hcz12_0
        try clear hcz5_0
        try clear hfz11_0
        try clear hfz12_0
        try clear hfz5_0
        try clear hx457_0
        try clear p2
        try clear p457
        try clear q457
        obtain ⟨x3_2,x5_2,rfl,HA,HK2,HO_3,BK452,HB⟩:=hrel
        cases gk with
        | zero => exact absurd HA.out (by simp [spec_l5Good.l1])
        | succ k2 =>
         have H:=HA.out
         clear HA
         simp only [spec_l5Good.l1] at H
         by_cases c13 : 0 ≤ x4_1
         ·rw [if_pos c13] at H
          have c13b0 : decide (0 ≤ x4_1) = true:=decide_eq_true c13
          clear c13
          by_cases c14 : x4_1 < (l0_0.length : Int)
          ·rw [if_pos c14] at H
           have c14b0 : decide (x4_1 < (l0_0.length : Int)) = true:=decide_eq_true c14
           clear c14
           by_cases c15 : x5_2 < ((rd_L2 l0_0 x4_1).length : Int)
           ·rw [if_pos c15] at H
            have c15b0 : decide (x5_2 < ((rd_L2 l0_0 x4_1).length : Int)) = true:=decide_eq_true c15
            clear c15
            by_cases c16 : 0 ≤ x5_2
            ·rw [if_pos c16] at H
             have c16b0 : decide (0 ≤ x5_2) = true:=decide_eq_true c16
             clear c16
             replace H:=Option.bind_eq_some_iff.mp H
             obtain ⟨t461,A170,H⟩:=H
             replace H : (if t461 = true then ((spec_l1Has.f k2 x3_2 (rd (rd_L2 l0_0 x4_1) x5_2)).bind fun t462 => (if t462 = true then (some false) else (if x3_2.length < 17592186044416 then (spec_l5Good.l1 k2 (x3_2 ++ [rd (rd_L2 l0_0 x4_1) x5_2]) x4_1 (wrap64 (x5_2 + 1)) l0_0) else (none)))) else (some false)) = some r:=H
             have A17:=Aside0.mk A170
             clear A170
             by_cases c18 : t461 = true
             ·subst c18
              have H1 : ((spec_l1Has.f k2 x3_2 (rd (rd_L2 l0_0 x4_1) x5_2)).bind fun t462 => (if t462 = true then (some false) else (if x3_2.length < 17592186044416 then (spec_l5Good.l1 k2 (x3_2 ++ [rd (rd_L2 l0_0 x4_1) x5_2]) x4_1 (wrap64 (x5_2 + 1)) l0_0) else (none)))) = some r:=by rw [if_pos rfl] at H; exact H
              clear H
              have H:=H1
              clear H1
              replace H:=Option.bind_eq_some_iff.mp H
              obtain ⟨t462,A190,H⟩:=H
              replace H : (if t462 = true then (some false) else (if x3_2.length < 17592186044416 then (spec_l5Good.l1 k2 (x3_2 ++ [rd (rd_L2 l0_0 x4_1) x5_2]) x4_1 (wrap64 (x5_2 + 1)) l0_0) else (none))) = some r:=H
              have A19:=Aside0.mk A190
              clear A190
              by_cases c20 : t462 = true
              ·subst c20
               have H1 : (some false) = some r:=by rw [if_pos rfl] at H; exact H
               clear H
               have H:=H1
               clear H1
               obtain rfl:=Option.some.inj H
               have hcz21_0 : wr.cell? ⟨gb452,0,none⟩ = some (.slice (some ad457) l0_0.length c0_0):=(blk_cell BK452.out 0).trans rfl
               have hfz21_0:=blk_frozen BK452.out 0
               have p458 : 0 ≤ (x4_1 : Int):=of_decide_eq_true (by (with_reducible assumption))
               have q458 : x4_1 < (l0_0.length : Int):=of_decide_eq_true (by (with_reducible assumption))
               obtain ⟨ad458,A458_0,c458_0,e458,hx458_0,hl458_0,hi458_0⟩:=at_L2 HR0_0.out x4_1 p458 q458
               obtain rfl : ad457 = ad458:=(by injection e458)
               replace hx458_0:=(HB.out.cell (World.block_lt_of_cell? w _ hx458_0)).trans hx458_0
               have HR458_0:=Aside0.mk hi458_0
               have HC458_0:=Aside0.mk hl458_0
               clear hi458_0 hl458_0
               replace p458:=eq_true p458
               replace q458:=eq_true q458
               have p459 : 0 ≤ (x4_1 : Int):=of_decide_eq_true (by (with_reducible assumption))
               have q459 : x4_1 < (l0_0.length : Int):=of_decide_eq_true (by (with_reducible assumption))
               obtain ⟨ad459,A459_0,c459_0,e459,hx459_0,hl459_0,hi459_0⟩:=at_L2 HR0_0.out x4_1 p459 q459
               obtain rfl : ad457 = ad459:=(by injection e459)
               replace hx459_0:=(HB.out.cell (World.block_lt_of_cell? w _ hx459_0)).trans hx459_0
               have HR459_0:=Aside0.mk hi459_0
               have HC459_0:=Aside0.mk hl459_0
               clear hi459_0 hl459_0
               replace p459:=eq_true p459
               replace q459:=eq_true q459
               have ea_:=Option.some.inj (hx458_0.symm.trans hx459_0)
               injection ea_ with ea_ en_ ec_
               subst ea_
               subst ec_
               clear en_
               have p460 : 0 ≤ (x5_2 : Int):=of_decide_eq_true (by (with_reducible assumption))
               have q460 : x5_2 < ((rd_L2 l0_0 x4_1).length : Int):=of_decide_eq_true (by (with_reducible assumption))
               obtain ⟨ad460,e460,hx460_0⟩:=Kd.at_int HR459_0.out x5_2 p460 q460
               cases e460
               replace hx460_0:=(HB.out.cell (World.block_lt_of_cell? w _ hx460_0)).trans hx460_0
               replace p460:=eq_true p460
               replace q460:=eq_true q460
               go_wp2_with (first|((with_reducible refine gate_callee (f:=162) rfl ?_); refine goesL_ (some 46) rfl rfl Try.func162 (by kernel_rfl) rfl #[.int .i64 (rd (rd_L2 l0_0 x4_1) x5_2),.int .i64 1,.int .i64 99] rfl (by (try simp only [List.map_toArray,List.map_cons,List.map_nil]); (rfl)) ?_; (with_reducible refine (spec_l1In.calls (rd (rd_L2 l0_0 x4_1) x5_2) 1 99 true _ A17.out).mono ?_); rintro e w' ⟨rfl,⟨nd,rfl⟩⟩; refine ⟨_,rfl,?_⟩; obtain ⟨Ao22,co22,eo22⟩:=Kd.R_slice HO_3.out; subst eo22)|(go_at_call 102; (with_reducible refine (spec_l1Has.calls k2 _ _ x3_2 (rd (rd_L2 l0_0 x4_1) x5_2) true _ ?side1 ?side2 A19.out).mono ?_); (case side1 => repeat ((exact (Kd.R_reads' HO_3.out).2.2))); (case side2 => exact (Kd.R_reads' HO_3.out).2.1); rintro e w' ⟨rfl,⟨nd,rfl⟩⟩))
               go_ret
               exact ⟨by (rfl),by repeat (with_reducible first|exact HB.out|apply pw_below_drewN)⟩
              ·replace c20:=Bool.eq_false_iff.mpr c20
               subst c20
               have H1 : (if x3_2.length < 17592186044416 then (spec_l5Good.l1 k2 (x3_2 ++ [rd (rd_L2 l0_0 x4_1) x5_2]) x4_1 (wrap64 (x5_2 + 1)) l0_0) else (none)) = some r:=by rw [if_neg (show ¬ (false = true) by decide)] at H; exact H
               clear H
               have H:=H1
               clear H1
               by_cases c23 : x3_2.length < 17592186044416
               ·rw [if_pos c23] at H
                have LMc23:=Aside0.mk c23
                clear c23
                obtain ⟨y463,hy463⟩ : ∃ y_ : List Int,y_ = (x3_2 ++ [rd (rd_L2 l0_0 x4_1) x5_2]):=⟨_,rfl⟩
                replace H : (spec_l5Good.l1 k2 y463 x4_1 (wrap64 (x5_2 + 1)) l0_0) = some r:=by (rw [hy463]; with_reducible exact H)
                have Ny463:=Aside0.mk hy463
                clear hy463
                have H':=Aside0.mk H
                clear H
                have hcz24_0 : wr.cell? ⟨gb452,0,none⟩ = some (.slice (some ad457) l0_0.length c0_0):=(blk_cell BK452.out 0).trans rfl
                have hfz24_0:=blk_frozen BK452.out 0
                have p458 : 0 ≤ (x4_1 : Int):=of_decide_eq_true (by (with_reducible assumption))
                have q458 : x4_1 < (l0_0.length : Int):=of_decide_eq_true (by (with_reducible assumption))
                obtain ⟨ad458,A458_0,c458_0,e458,hx458_0,hl458_0,hi458_0⟩:=at_L2 HR0_0.out x4_1 p458 q458
                obtain rfl : ad457 = ad458:=(by injection e458)
                replace hx458_0:=(HB.out.cell (World.block_lt_of_cell? w _ hx458_0)).trans hx458_0
                have HR458_0:=Aside0.mk hi458_0
                have HC458_0:=Aside0.mk hl458_0
                clear hi458_0 hl458_0
                replace p458:=eq_true p458
                replace q458:=eq_true q458
                have p459 : 0 ≤ (x4_1 : Int):=of_decide_eq_true (by (with_reducible assumption))
                have q459 : x4_1 < (l0_0.length : Int):=of_decide_eq_true (by (with_reducible assumption))
                obtain ⟨ad459,A459_0,c459_0,e459,hx459_0,hl459_0,hi459_0⟩:=at_L2 HR0_0.out x4_1 p459 q459
                obtain rfl : ad457 = ad459:=(by injection e459)
                replace hx459_0:=(HB.out.cell (World.block_lt_of_cell? w _ hx459_0)).trans hx459_0
                have HR459_0:=Aside0.mk hi459_0
                have HC459_0:=Aside0.mk hl459_0
                clear hi459_0 hl459_0
                replace p459:=eq_true p459
                replace q459:=eq_true q459
                have ea_:=Option.some.inj (hx458_0.symm.trans hx459_0)
                injection ea_ with ea_ en_ ec_
                subst ea_
                subst ec_
                clear en_
                have p460 : 0 ≤ (x5_2 : Int):=of_decide_eq_true (by (with_reducible assumption))
                have q460 : x5_2 < ((rd_L2 l0_0 x4_1).length : Int):=of_decide_eq_true (by (with_reducible assumption))
                obtain ⟨ad460,e460,hx460_0⟩:=Kd.at_int HR459_0.out x5_2 p460 q460
                cases e460
                replace hx460_0:=(HB.out.cell (World.block_lt_of_cell? w _ hx460_0)).trans hx460_0
                replace p460:=eq_true p460
                replace q460:=eq_true q460
                go_wp2_with (first|((with_reducible refine gate_callee (f:=162) rfl ?_); refine goesL_ (some 46) rfl rfl Try.func162 (by kernel_rfl) rfl #[.int .i64 (rd (rd_L2 l0_0 x4_1) x5_2),.int .i64 1,.int .i64 99] rfl (by (try simp only [List.map_toArray,List.map_cons,List.map_nil]); (rfl)) ?_; (with_reducible refine (spec_l1In.calls (rd (rd_L2 l0_0 x4_1) x5_2) 1 99 true _ A17.out).mono ?_); rintro e w' ⟨rfl,⟨nd,rfl⟩⟩; refine ⟨_,rfl,?_⟩; obtain ⟨Ao25,co25,eo25⟩:=Kd.R_slice HO_3.out; subst eo25)|(go_at_call 102; (with_reducible refine (spec_l1Has.calls k2 _ _ x3_2 (rd (rd_L2 l0_0 x4_1) x5_2) false _ ?side1 ?side2 A19.out).mono ?_); (case side1 => repeat ((exact (Kd.R_reads' HO_3.out).2.2))); (case side2 => exact (Kd.R_reads' HO_3.out).2.1); rintro e w' ⟨rfl,⟨nd,rfl⟩⟩)|((with_reducible refine gate_builtin (b:=.append) (xs:=#[.tmp 53,.tmp 55]) rfl ?_); at_builtin; refine Kd.R_append (Kd.int .i64) (w0:=w) w.heap.size rfl (.tmp 53) (.tmp 55) 24 3 (.int .i64 0) 8 rfl Try.underlying24 info3 rfl (by decide) (by omega) (.slice Ao25 x3_2.length co25) x3_2 (rd (rd_L2 l0_0 x4_1) x5_2) [.int .i64 (rd (rd_L2 l0_0 x4_1) x5_2)] (fun _ => True) (fun _ => False) rfl rfl ?aP (fun _ hk => hk.elim) ?aF ?aO ?aB ?aS ?aL ?_; (case aP => exact rfl); (case aB => exact (by repeat (with_reducible first|exact HB.out|apply pw_below_drewN))); (case aF => exact (fun _ _ => trivial)); (case aO => exact (by (with_reducible repeat (apply Kd.R_drewN)); exact HO_3.out)); (case aS => exact (below_size (by repeat (with_reducible first|exact HB.out|apply pw_below_drewN)))); (case aL => have:=LMc23.out; omega); intro v464 w26 ho hb hg hat; rw [← Ny463.out] at ho; have n0_:=Aside0.mk (blk_grown (g:=gb452) (o:=.cells #[.slice (some ad457) l0_0.length c0_0] 42 (0,0)) (by (with_reducible repeat (refine blk_drewN ?_ _)); exact BK452.out) hg (Kd.R_ne HO_3.out BK452.out (by decide))); have n1_:=Aside0.mk (hb); have n2_:=Aside0.mk (ho); clear BK452; clear HB; clear HO_3; have BK452:=n0_; have HB:=n1_; have HO465:=n2_; clear n0_ n1_ n2_; clear ho hb hg hat))
                go_roundg k2
                case measure => have:=HK1.out; have:=HK2.out; omega
                case rel => exact ⟨(y463),(wrap64 (x5_2 + 1)),(by (rfl)),H',⟨by have:=HK1.out; have:=HK2.out; omega⟩,⟨by exact HO465.out⟩,⟨by exact BK452.out⟩,⟨by repeat (((with_reducible (exact HB.out))))⟩⟩
               ·rw [if_neg c23] at H
                exact absurd H (by simp)
             ·replace c18:=Bool.eq_false_iff.mpr c18
              subst c18
              have H1 : (some false) = some r:=by rw [if_neg (show ¬ (false = true) by decide)] at H; exact H
              clear H
              have H:=H1
              clear H1
              obtain rfl:=Option.some.inj H
              have hcz27_0 : wr.cell? ⟨gb452,0,none⟩ = some (.slice (some ad457) l0_0.length c0_0):=(blk_cell BK452.out 0).trans rfl
              have hfz27_0:=blk_frozen BK452.out 0
              have p458 : 0 ≤ (x4_1 : Int):=of_decide_eq_true (by (with_reducible assumption))
              have q458 : x4_1 < (l0_0.length : Int):=of_decide_eq_true (by (with_reducible assumption))
              obtain ⟨ad458,A458_0,c458_0,e458,hx458_0,hl458_0,hi458_0⟩:=at_L2 HR0_0.out x4_1 p458 q458
              obtain rfl : ad457 = ad458:=(by injection e458)
              replace hx458_0:=(HB.out.cell (World.block_lt_of_cell? w _ hx458_0)).trans hx458_0
              have HR458_0:=Aside0.mk hi458_0
              have HC458_0:=Aside0.mk hl458_0
              clear hi458_0 hl458_0
              replace p458:=eq_true p458
              replace q458:=eq_true q458
              have p459 : 0 ≤ (x4_1 : Int):=of_decide_eq_true (by (with_reducible assumption))
              have q459 : x4_1 < (l0_0.length : Int):=of_decide_eq_true (by (with_reducible assumption))
              obtain ⟨ad459,A459_0,c459_0,e459,hx459_0,hl459_0,hi459_0⟩:=at_L2 HR0_0.out x4_1 p459 q459
              obtain rfl : ad457 = ad459:=(by injection e459)
              replace hx459_0:=(HB.out.cell (World.block_lt_of_cell? w _ hx459_0)).trans hx459_0
              have HR459_0:=Aside0.mk hi459_0
              have HC459_0:=Aside0.mk hl459_0
              clear hi459_0 hl459_0
              replace p459:=eq_true p459
              replace q459:=eq_true q459
              have ea_:=Option.some.inj (hx458_0.symm.trans hx459_0)
              injection ea_ with ea_ en_ ec_
              subst ea_
              subst ec_
              clear en_
              have p460 : 0 ≤ (x5_2 : Int):=of_decide_eq_true (by (with_reducible assumption))
              have q460 : x5_2 < ((rd_L2 l0_0 x4_1).length : Int):=of_decide_eq_true (by (with_reducible assumption))
              obtain ⟨ad460,e460,hx460_0⟩:=Kd.at_int HR459_0.out x5_2 p460 q460
              cases e460
              replace hx460_0:=(HB.out.cell (World.block_lt_of_cell? w _ hx460_0)).trans hx460_0
              replace p460:=eq_true p460
              replace q460:=eq_true q460
              go_wp2_with ((((with_reducible refine gate_callee (f:=162) rfl ?_); refine goesL_ (some 46) rfl rfl Try.func162 (by kernel_rfl) rfl #[.int .i64 (rd (rd_L2 l0_0 x4_1) x5_2),.int .i64 1,.int .i64 99] rfl (by (try simp only [List.map_toArray,List.map_cons,List.map_nil]); (rfl)) ?_; (with_reducible refine (spec_l1In.calls (rd (rd_L2 l0_0 x4_1) x5_2) 1 99 false _ A17.out).mono ?_); rintro e w' ⟨rfl,⟨nd,rfl⟩⟩; refine ⟨_,rfl,?_⟩)))
              go_ret
              exact ⟨by (rfl),by repeat (with_reducible first|exact HB.out|apply pw_below_drewN)⟩
            ·rw [if_neg c16] at H
             exact absurd H (by simp)
           ·rw [if_neg c15] at H
            have c15b0 : decide (x5_2 < ((rd_L2 l0_0 x4_1).length : Int)) = false:=decide_eq_false c15
            clear c15
            have H':=Aside0.mk H
            clear H
            have hcz28_0 : wr.cell? ⟨gb452,0,none⟩ = some (.slice (some ad457) l0_0.length c0_0):=(blk_cell BK452.out 0).trans rfl
            have hfz28_0:=blk_frozen BK452.out 0
            have p458 : 0 ≤ (x4_1 : Int):=of_decide_eq_true (by (with_reducible assumption))
            have q458 : x4_1 < (l0_0.length : Int):=of_decide_eq_true (by (with_reducible assumption))
            obtain ⟨ad458,A458_0,c458_0,e458,hx458_0,hl458_0,hi458_0⟩:=at_L2 HR0_0.out x4_1 p458 q458
            obtain rfl : ad457 = ad458:=(by injection e458)
            replace hx458_0:=(HB.out.cell (World.block_lt_of_cell? w _ hx458_0)).trans hx458_0
            have HR458_0:=Aside0.mk hi458_0
            have HC458_0:=Aside0.mk hl458_0
            clear hi458_0 hl458_0
            replace p458:=eq_true p458
            replace q458:=eq_true q458
            go_wp2
            go_roundg k2
            case measure => have:=HK1.out; have:=HK2.out; omega
            case rel => exact ⟨(x3_2),(wrap64 (x4_1 + 1)),(by (rfl)),H',⟨by have:=HK1.out; have:=HK2.out; omega⟩,⟨by exact HO_3.out⟩,⟨by exact BK452.out⟩,⟨by repeat (((with_reducible (exact HB.out))))⟩⟩
          ·rw [if_neg c14] at H
           exact absurd H (by simp)
         ·rw [if_neg c13] at H
          exact absurd H (by simp)
     ·rw [if_neg c9] at H
      exact absurd H (by simp)
    ·rw [if_neg c8] at H
     have c8b0 : decide (x4_1 < (l0_0.length : Int)) = false:=decide_eq_false c8
     clear c8
     obtain rfl:=Option.some.inj H
     have hcz29_0 : wr.cell? ⟨gb452,0,none⟩ = some (.slice A0_0 l0_0.length c0_0):=(blk_cell BK452.out 0).trans rfl
     have hfz29_0:=blk_frozen BK452.out 0
     go_wp2
     go_ret
     exact ⟨by (rfl),by repeat (((with_reducible (exact HB.out))))⟩
 ·replace c3:=Bool.eq_false_iff.mpr c3
  subst c3
  have H1 : (some false) = some r:=by rw [if_neg (show ¬ (false = true) by decide)] at H; exact H
  clear H
  have H:=H1
  clear H1
  obtain rfl:=Option.some.inj H
  go_enter Try.func116,Try.ntmps116
  go_wp2_with (first|((with_reducible refine gate_dst (N:=1) rfl ?_); refine box_event ?hg (N:=1) ?hd (cs:=#[.slice A0_0 l0_0.length c0_0]) (t:=42) ?hr ?_; (case hd => rfl); (case hg => rfl); (case hr => (go_simp; done)); intro gb452 hg w30 hbox hb; have n0_:=Aside0.mk (below_step (by repeat (((with_reducible (exact HB.out))))) hb); have n1_:=Aside0.mk (hbox); have n2_:=Aside0.mk ((by rw [hg]; exact (below_size (by repeat (((with_reducible (exact HB.out)))))) : w.heap.size ≤ gb452)); have n3_:=Aside0.mk ((by rw [hg]; exact (below_size (by repeat (((with_reducible (exact HB.out)))))) : w.heap.size ≤ gb452)); clear HB; have HB:=n0_; have BK452:=n1_; have GW452:=n2_; have GE452:=n3_; clear n0_ n1_ n2_ n3_; clear hb hbox hg; have hcz31_0 : w30.cell? ⟨gb452,0,none⟩ = some (.slice A0_0 l0_0.length c0_0):=(blk_cell BK452.out 0).trans rfl; have hfz31_0:=blk_frozen BK452.out 0)|((with_reducible refine gate_callee (f:=162) rfl ?_); refine goesL_ (some 10) rfl rfl Try.func162 (by kernel_rfl) rfl #[.int .i64 (l0_0.length : Int),.int .i64 1,.int .i64 6] rfl (by (try simp only [List.map_toArray,List.map_cons,List.map_nil]); (rfl)) ?_; (with_reducible refine (spec_l1In.calls (l0_0.length : Int) 1 6 false _ A2.out).mono ?_); rintro e w' ⟨rfl,⟨nd,rfl⟩⟩; refine ⟨_,rfl,?_⟩))
  go_ret
  exact ⟨by (rfl),by repeat (with_reducible first|exact HB.out|apply pw_below_drewN)⟩

/-! ### spec_l5Stack: function 104 -/
def spec_l5Stack.f (k : Nat) (l0_0 : List (List Int)) (a1 : Int) : Option (Bool):=(spec_l5Good.f k l0_0).bind fun t467 => (if t467 = true then ((spec_l1In.f a1 0 (wrap64 ((l0_0.length : Int) - 1))).bind fun t468 => (some t468)) else (some false))
theorem spec_l5Stack.mono : ∀ a0 a1 k,LeO (spec_l5Stack.f k a0 a1) (spec_l5Stack.f (k + 1) a0 a1):=by
 intro a0 a1 k
 unfold spec_l5Stack.f
 repeat' first
   | (with_reducible exact spec_l5Good.mono _ _)
   | (with_reducible exact LeO.refl _)
   | (with_reducible exact LeO.none _)
   | (with_reducible refine LeO.ite ?_ ?_)
   | (with_reducible refine LeO.bind ?_ (fun _ => ?_))
   | exact spec_l5Good.mono _ _
   | exact LeO.none _
   | refine LeO.ite ?_ ?_
   | refine LeO.bind ?_ (fun _ => ?_)
set_option maxHeartbeats 8000000 in
set_option maxRecDepth 100000 in
theorem spec_l5Stack.calls (k : Nat) (A0_0 : Option Addr) (c0_0 : Nat) (l0_0 : List (List Int)) (a1 : Int) (r : Bool) (w : World) (hr0_0 : Kd.C (Kd.slice 3 (Kd.int .i64)) w A0_0 l0_0.length l0_0) (hc0_0 : l0_0.length ≤ c0_0) (h : spec_l5Stack.f k l0_0 a1 = some r) :
  Calls Try.prog 104 #[.agg #[.slice A0_0 l0_0.length c0_0],.int .i64 a1] w fun e w' => e = .returned (.bool r) ∧ Below w.heap.size w w':=by
 have hu42:=Try.underlying42
 have HR0_0:=Aside0.mk hr0_0
 have HC0_0:=Aside0.mk hc0_0
 clear hr0_0 hc0_0
 have HB:=Aside0.mk (Below.refl w.heap.size w)
 have H : ((spec_l5Good.f k l0_0).bind fun t467 => (if t467 = true then ((spec_l1In.f a1 0 (wrap64 ((l0_0.length : Int) - 1))).bind fun t468 => (some t468)) else (some false))) = some r:=h
 clear h
 replace H:=Option.bind_eq_some_iff.mp H
 obtain ⟨t467,A30,H⟩:=H
 replace H : (if t467 = true then ((spec_l1In.f a1 0 (wrap64 ((l0_0.length : Int) - 1))).bind fun t468 => (some t468)) else (some false)) = some r:=H
 have A3:=Aside0.mk A30
 clear A30
 by_cases c4 : t467 = true
 ·subst c4
  have H1 : ((spec_l1In.f a1 0 (wrap64 ((l0_0.length : Int) - 1))).bind fun t468 => (some t468)) = some r:=by rw [if_pos rfl] at H; exact H
  clear H
  have H:=H1
  clear H1
  replace H:=Option.bind_eq_some_iff.mp H
  obtain ⟨t468,A50,H⟩:=H
  replace H : (some t468) = some r:=H
  have A5:=Aside0.mk A50
  clear A50
  obtain rfl:=Option.some.inj H
  go_enter Try.func104,Try.ntmps104
  go_wp2_with (first|((with_reducible refine gate_dst (N:=2) rfl ?_); (try (refine gate_guard (by rfl) ?_; dsimp only)); refine box_event ?hg (N:=2) ?hd (cs:=#[.slice A0_0 l0_0.length c0_0]) (t:=42) ?hr ?_; (case hd => rfl); (case hg => rfl); (case hr => (go_simp; done)); intro gb466 hg w6 hbox hb; have n0_:=Aside0.mk (below_step (by repeat (((with_reducible (exact HB.out))))) hb); have n1_:=Aside0.mk (hbox); have n2_:=Aside0.mk ((by rw [hg]; exact (below_size (by repeat (((with_reducible (exact HB.out)))))) : w.heap.size ≤ gb466)); have n3_:=Aside0.mk ((by rw [hg]; exact (below_size (by repeat (((with_reducible (exact HB.out)))))) : w.heap.size ≤ gb466)); clear HB; have HB:=n0_; have BK466:=n1_; have GW466:=n2_; have GE466:=n3_; clear n0_ n1_ n2_ n3_; clear hb hbox hg; have hcz7_0 : w6.cell? ⟨gb466,0,none⟩ = some (.slice A0_0 l0_0.length c0_0):=(blk_cell BK466.out 0).trans rfl; have hfz7_0:=blk_frozen BK466.out 0)|((with_reducible refine gate_callee (f:=116) rfl ?_); refine goesL_ (some 6) rfl rfl Try.func116 (by kernel_rfl) rfl #[.agg #[.slice A0_0 l0_0.length c0_0]] rfl (by (try simp only [List.map_toArray,List.map_cons,List.map_nil]); (rfl)) ?_; (with_reducible refine (spec_l5Good.calls k _ _ l0_0 true _ ?side1 ?side2 A3.out).mono ?_); (case side1 => repeat ((exact (Kd.C_below HR0_0.out HB.out)))); (case side2 => exact HC0_0.out); rintro e w8 ⟨rfl,hb⟩; refine ⟨_,rfl,?_⟩; have n0_:=Aside0.mk (blk_below (g:=gb466) (o:=.cells #[.slice A0_0 l0_0.length c0_0] 42 (0,0)) (by exact BK466.out) hb); have n1_:=Aside0.mk (below_step (by repeat (((with_reducible (exact HB.out))))) hb); clear BK466; clear HB; have BK466:=n0_; have HB:=n1_; clear n0_ n1_; (try clear hb); (try clear hb2); (try clear hk); (try clear hi); have hcz9_0 : w8.cell? ⟨gb466,0,none⟩ = some (.slice A0_0 l0_0.length c0_0):=(blk_cell BK466.out 0).trans rfl; have hfz9_0:=blk_frozen BK466.out 0)|(go_at_call 162; (with_reducible refine (spec_l1In.calls a1 0 (wrap64 ((l0_0.length : Int) - 1)) t468 _ A5.out).mono ?_); rintro e w' ⟨rfl,⟨nd,rfl⟩⟩))
  go_ret
  exact ⟨by (rfl),by repeat (with_reducible first|exact HB.out|apply pw_below_drewN)⟩
 ·replace c4:=Bool.eq_false_iff.mpr c4
  subst c4
  have H1 : (some false) = some r:=by rw [if_neg (show ¬ (false = true) by decide)] at H; exact H
  clear H
  have H:=H1
  clear H1
  obtain rfl:=Option.some.inj H
  go_enter Try.func104,Try.ntmps104
  go_wp2_with (first|((with_reducible refine gate_dst (N:=2) rfl ?_); (try (refine gate_guard (by rfl) ?_; dsimp only)); refine box_event ?hg (N:=2) ?hd (cs:=#[.slice A0_0 l0_0.length c0_0]) (t:=42) ?hr ?_; (case hd => rfl); (case hg => rfl); (case hr => (go_simp; done)); intro gb466 hg w10 hbox hb; have n0_:=Aside0.mk (below_step (by repeat (((with_reducible (exact HB.out))))) hb); have n1_:=Aside0.mk (hbox); have n2_:=Aside0.mk ((by rw [hg]; exact (below_size (by repeat (((with_reducible (exact HB.out)))))) : w.heap.size ≤ gb466)); have n3_:=Aside0.mk ((by rw [hg]; exact (below_size (by repeat (((with_reducible (exact HB.out)))))) : w.heap.size ≤ gb466)); clear HB; have HB:=n0_; have BK466:=n1_; have GW466:=n2_; have GE466:=n3_; clear n0_ n1_ n2_ n3_; clear hb hbox hg; have hcz11_0 : w10.cell? ⟨gb466,0,none⟩ = some (.slice A0_0 l0_0.length c0_0):=(blk_cell BK466.out 0).trans rfl; have hfz11_0:=blk_frozen BK466.out 0)|((with_reducible refine gate_callee (f:=116) rfl ?_); refine goesL_ (some 6) rfl rfl Try.func116 (by kernel_rfl) rfl #[.agg #[.slice A0_0 l0_0.length c0_0]] rfl (by (try simp only [List.map_toArray,List.map_cons,List.map_nil]); (rfl)) ?_; (with_reducible refine (spec_l5Good.calls k _ _ l0_0 false _ ?side1 ?side2 A3.out).mono ?_); (case side1 => repeat ((exact (Kd.C_below HR0_0.out HB.out)))); (case side2 => exact HC0_0.out); rintro e w12 ⟨rfl,hb⟩; refine ⟨_,rfl,?_⟩; have n0_:=Aside0.mk (blk_below (g:=gb466) (o:=.cells #[.slice A0_0 l0_0.length c0_0] 42 (0,0)) (by exact BK466.out) hb); have n1_:=Aside0.mk (below_step (by repeat (((with_reducible (exact HB.out))))) hb); clear BK466; clear HB; have BK466:=n0_; have HB:=n1_; clear n0_ n1_; (try clear hb); (try clear hb2); (try clear hk); (try clear hi)))
  go_ret
  exact ⟨by (rfl),by repeat (((with_reducible (exact HB.out))))⟩

/-! ### spec_l5Own: function 115 -/
def spec_l5Own.l0 : Nat → Int → List (List Int) → List (List Int) → Option ((List (List Int)))
 | 0,_,_,_ => none
 | k + 1,x4,x520000,x522000 => if x4 < (x520000.length : Int) then (if 0 ≤ x4 then ((spec_l1Own.f (rd_L2 x520000 x4)).bind fun t523 => (if x522000.length < 5864062014805 then (spec_l5Own.l0 k (wrap64 (x4 + 1)) x520000 (x522000 ++ [t523])) else (none))) else (none)) else (some x522000)
def spec_l5Own.f (k : Nat) (l0_0 : List (List Int)) : Option ((List (List Int))):=spec_l5Own.l0 k 0 l0_0 ([] : List (List Int))
theorem spec_l5Own.mono_l : ∀ k,(∀ y0 y1 y2,LeO (spec_l5Own.l0 k y0 y1 y2) (spec_l5Own.l0 (k + 1) y0 y1 y2))
 | 0 => fun _ _ _ r h => by simp [spec_l5Own.l0] at h
 | k + 1 => by
  have ih0:=spec_l5Own.mono_l k
  ·intro y0 y1 y2
   unfold spec_l5Own.l0
   repeat' first
   | (with_reducible exact ih0 _ _ _)
   | (with_reducible exact LeO.refl _)
   | (with_reducible exact LeO.none _)
   | (with_reducible refine LeO.ite ?_ ?_)
   | (with_reducible refine LeO.bind ?_ (fun _ => ?_))
   | exact ih0 _ _ _
   | exact LeO.none _
   | refine LeO.ite ?_ ?_
   | refine LeO.bind ?_ (fun _ => ?_)
theorem spec_l5Own.mono : ∀ a0 k,LeO (spec_l5Own.f k a0) (spec_l5Own.f (k + 1) a0):=by
 intro a0 k
 have ih0:=spec_l5Own.mono_l k
 unfold spec_l5Own.f
 repeat' first
   | (with_reducible exact ih0 _ _ _)
   | (with_reducible exact LeO.refl _)
   | (with_reducible exact LeO.none _)
   | (with_reducible refine LeO.ite ?_ ?_)
   | (with_reducible refine LeO.bind ?_ (fun _ => ?_))
   | exact ih0 _ _ _
   | exact LeO.none _
   | refine LeO.ite ?_ ?_
   | refine LeO.bind ?_ (fun _ => ?_)
def spec_l5Own.T5 : Bool × List (List Nat × List Nat):=(true,[([],[]),([0],[0]),([],[]),([2],[2]),([],[]),([3,4],[3,4]),([5],[5]),([6],[6]),([7],[7]),([1,8,7],[1,8]),([0,1,2,3,4,5,6,7,8,9],[]),([10,9,9,0,1,2,3,4,5,6,7,8,9],[9,10])])
def spec_l5Own.B5 : List Nat:=[0,1,0,4,0,28,60,124,252,511,1023,2047]
theorem spec_l5Own.tab5 : rtab .any (opsOf Try.f115 5) = spec_l5Own.T5:=by kernel_rfl
theorem spec_l5Own.bits5 : waitsOk spec_l5Own.T5.2 spec_l5Own.B5 = true:=by kernel_rfl
set_option maxHeartbeats 8000000 in
set_option maxRecDepth 100000 in
theorem spec_l5Own.calls (k : Nat) (A0_0 : Option Addr) (c0_0 : Nat) (l0_0 : List (List Int)) (r : List (List Int)) (w : World) (hr0_0 : Kd.C (Kd.slice 3 (Kd.int .i64)) w A0_0 l0_0.length l0_0) (hc0_0 : l0_0.length ≤ c0_0) (h : spec_l5Own.f k l0_0 = some r) :
  Calls Try.prog 115 #[.agg #[.slice A0_0 l0_0.length c0_0]] w fun e w' => ∃ v0_ : Value,e = .returned (.agg #[v0_]) ∧ Kd.S (Kd.slice 3 (Kd.int .i64)) 24 w' w.heap.size (fun _ => True) v0_ r ∧ Below w.heap.size w w':=by
 have hu42:=Try.underlying42
 have HR0_0:=Aside0.mk hr0_0
 have HC0_0:=Aside0.mk hc0_0
 clear hr0_0 hc0_0
 have HB:=Aside0.mk (Below.refl w.heap.size w)
 have H : (spec_l5Own.l0 k 0 l0_0 ([] : List (List Int))) = some r:=h
 clear h
 have H':=Aside0.mk H
 clear H
 go_enter Try.func115,Try.ntmps115
 go_wp2_with (first|((with_reducible refine gate_dst (N:=1) rfl ?_); refine box_event ?hg (N:=1) ?hd (cs:=#[.slice A0_0 l0_0.length c0_0]) (t:=42) ?hr ?_; (case hd => rfl); (case hg => rfl); (case hr => (go_simp; done)); intro gb519 hg w2 hbox hb; have n0_:=Aside0.mk (below_step (by repeat (((with_reducible (exact HB.out))))) hb); have n1_:=Aside0.mk (hbox); have n2_:=Aside0.mk ((by rw [hg]; exact (below_size (by repeat (((with_reducible (exact HB.out)))))) : w.heap.size ≤ gb519)); have n3_:=Aside0.mk ((by rw [hg]; exact (below_size (by repeat (((with_reducible (exact HB.out)))))) : w.heap.size ≤ gb519)); clear HB; have HB:=n0_; have BK519:=n1_; have GW519:=n2_; have GE519:=n3_; clear n0_ n1_ n2_ n3_; clear hb hbox hg)|((with_reducible refine gate_dst (N:=2) rfl ?_); refine box_event ?hg (N:=2) ?hd (cs:=#[.slice none 0 0]) (t:=42) ?hr ?_; (case hd => rfl); (case hg => rfl); (case hr => (go_simp; done)); intro gb520 hg w3 hbox hb; have n0_:=Aside0.mk (blk_below (g:=gb519) (o:=.cells #[.slice A0_0 l0_0.length c0_0] 42 (0,0)) (by exact BK519.out) hb); have n1_:=Aside0.mk (below_step (by repeat (((with_reducible (exact HB.out))))) hb); have n2_:=Aside0.mk (hbox); have n3_:=Aside0.mk ((by rw [hg]; exact (below_size (by repeat (((with_reducible (exact HB.out)))))) : w.heap.size ≤ gb520)); have n4_:=Aside0.mk ((by rw [hg]; exact (below_size (by repeat (((with_reducible (exact HB.out)))))) : w.heap.size ≤ gb520)); have n5_:=Aside0.mk ((by rw [hg]; exact Nat.ne_of_lt (blk_lt (g:=gb519) (o:=.cells #[.slice A0_0 l0_0.length c0_0] 42 (0,0)) (by exact BK519.out)) : gb519 ≠ gb520)); have n6_:=Aside0.mk ((by rw [hg]; exact Nat.ne_of_gt (blk_lt (g:=gb519) (o:=.cells #[.slice A0_0 l0_0.length c0_0] 42 (0,0)) (by exact BK519.out)) : gb520 ≠ gb519)); clear BK519; clear HB; have BK519:=n0_; have HB:=n1_; have BK520:=n2_; have GW520:=n3_; have GE520:=n4_; have NB519_520:=n5_; have NB520_519:=n6_; clear n0_ n1_ n2_ n3_ n4_ n5_ n6_; clear hb hbox hg)|((with_reducible refine gate_dst (N:=3) rfl ?_); refine box_event ?hg (N:=3) ?hd (cs:=#[.slice none 0 0]) (t:=42) ?hr ?_; (case hd => rfl); (case hg => rfl); (case hr => (go_simp; done)); intro gb521 hg w4 hbox hb; have n0_:=Aside0.mk (blk_below (g:=gb519) (o:=.cells #[.slice A0_0 l0_0.length c0_0] 42 (0,0)) (by exact BK519.out) hb); have n1_:=Aside0.mk (blk_below (g:=gb520) (o:=.cells #[.slice none 0 0] 42 (0,0)) (by exact BK520.out) hb); have n2_:=Aside0.mk (below_step (by repeat (((with_reducible (exact HB.out))))) hb); have n3_:=Aside0.mk (hbox); have n4_:=Aside0.mk ((by rw [hg]; exact (below_size (by repeat (((with_reducible (exact HB.out)))))) : w.heap.size ≤ gb521)); have n5_:=Aside0.mk ((by rw [hg]; exact (below_size (by repeat (((with_reducible (exact HB.out)))))) : w.heap.size ≤ gb521)); have n6_:=Aside0.mk ((by rw [hg]; exact Nat.ne_of_lt (blk_lt (g:=gb519) (o:=.cells #[.slice A0_0 l0_0.length c0_0] 42 (0,0)) (by exact BK519.out)) : gb519 ≠ gb521)); have n7_:=Aside0.mk ((by rw [hg]; exact Nat.ne_of_gt (blk_lt (g:=gb519) (o:=.cells #[.slice A0_0 l0_0.length c0_0] 42 (0,0)) (by exact BK519.out)) : gb521 ≠ gb519)); have n8_:=Aside0.mk ((by rw [hg]; exact Nat.ne_of_lt (blk_lt (g:=gb520) (o:=.cells #[.slice none 0 0] 42 (0,0)) (by exact BK520.out)) : gb520 ≠ gb521)); have n9_:=Aside0.mk ((by rw [hg]; exact Nat.ne_of_gt (blk_lt (g:=gb520) (o:=.cells #[.slice none 0 0] 42 (0,0)) (by exact BK520.out)) : gb521 ≠ gb520)); clear BK519; clear BK520; clear HB; have BK519:=n0_; have BK520:=n1_; have HB:=n2_; have BK521:=n3_; have GW521:=n4_; have GE521:=n5_; have NB519_521:=n6_; have NB521_519:=n7_; have NB520_521:=n8_; have NB521_520:=n9_; clear n0_ n1_ n2_ n3_ n4_ n5_ n6_ n7_ n8_ n9_; clear hb hbox hg; have hnb5:=NB521_519.out; have hnc5:=NB519_521.out; have hnb6:=NB521_520.out; have hnc6:=NB520_521.out; have hcz7_0 : w4.cell? ⟨gb521,0,none⟩ = some (.slice none 0 0):=(blk_cell BK521.out 0).trans rfl; have hfz7_0:=blk_frozen BK521.out 0))
 go_loopg [4] k (fun kq v4 w' => ∃ (x4_1 : Int) (x522000_1 : List (List Int)) (u522000 : Value),v4 = .int .i64 x4_1 ∧ Aside0 (spec_l5Own.l0 kq x4_1 l0_0 x522000_1 = some r) ∧ Aside0 (kq ≤ k) ∧ Aside0 (Kd.S (Kd.slice 3 (Kd.int .i64)) 24 w' w.heap.size (fun _ => True) u522000 x522000_1) ∧ Aside0 (w'.heap[gb519]? = some (.cells #[(.slice A0_0 l0_0.length c0_0)] 42 (0,0))) ∧ Aside0 (w'.heap[gb520]? = some (.cells #[(.slice none 0 0)] 42 (0,0))) ∧ Aside0 (w'.heap[gb521]? = some (.cells #[u522000] 42 (0,0))) ∧ Aside0 (Below w.heap.size w w'))
 case atStart => exact ⟨(0),(([] : List (List Int))),(.slice none 0 0),(by (rfl)),H',⟨Nat.le_refl _⟩,⟨by (exact Kd.S_nil _ _ _ _ _)⟩,⟨by refine blk_far ?_ NB519_521.out _; exact BK519.out⟩,⟨by refine blk_far ?_ NB520_521.out _; exact BK520.out⟩,⟨by refine blk_put (cs:=#[.slice none 0 0]) ?_ 0 _ rfl; exact BK521.out⟩,⟨by repeat (with_reducible first|exact HB.out|refine below_set ?_ GE521.out)⟩⟩
 case round =>
  clear H'
  try clear c1
  try clear p2
  try clear c5
  try clear c6
  try clear hcz7_0
  try clear hfz7_0
  obtain ⟨x4_1,x522000_1,u522000,rfl,HA,HK1,HO_522000,BK519,BK520,BK521,HB⟩:=hrel
  cases gk with
  | zero => exact absurd HA.out (by simp [spec_l5Own.l0])
  | succ k1 =>
   have H:=HA.out
   clear HA
   simp only [spec_l5Own.l0] at H
   by_cases c8 : x4_1 < (l0_0.length : Int)
   ·rw [if_pos c8] at H
    have c8b0 : decide (x4_1 < (l0_0.length : Int)) = true:=decide_eq_true c8
    clear c8
    by_cases c9 : 0 ≤ x4_1
    ·rw [if_pos c9] at H
     have c9b0 : decide (0 ≤ x4_1) = true:=decide_eq_true c9
     clear c9
     replace H:=Option.bind_eq_some_iff.mp H
     obtain ⟨t523,A100,H⟩:=H
     replace H : (if x522000_1.length < 5864062014805 then (spec_l5Own.l0 k1 (wrap64 (x4_1 + 1)) l0_0 (x522000_1 ++ [t523])) else (none)) = some r:=H
     have A10:=Aside0.mk A100
     clear A100
     by_cases c11 : x522000_1.length < 5864062014805
     ·rw [if_pos c11] at H
      have LMc11:=Aside0.mk c11
      clear c11
      obtain ⟨y526,hy526⟩ : ∃ y_ : List (List Int),y_ = (x522000_1 ++ [t523]):=⟨_,rfl⟩
      replace H : (spec_l5Own.l0 k1 (wrap64 (x4_1 + 1)) l0_0 y526) = some r:=by (rw [hy526]; with_reducible exact H)
      have Ny526:=Aside0.mk hy526
      clear hy526
      have H':=Aside0.mk H
      clear H
      have hnb12:=NB519_520.out
      have hnc12:=NB520_519.out
      have hnb13:=NB519_521.out
      have hnc13:=NB521_519.out
      have hcz14_0 : wr.cell? ⟨gb519,0,none⟩ = some (.slice A0_0 l0_0.length c0_0):=(blk_cell BK519.out 0).trans rfl
      have hfz14_0:=blk_frozen BK519.out 0
      try go_wp2
      have n0_:=Aside0.mk (Kd.S_drew HO_522000.out)
      have n1_:=Aside0.mk (blk_drew BK519.out)
      have n2_:=Aside0.mk (blk_drew BK520.out)
      have n3_:=Aside0.mk (blk_drew BK521.out)
      have n4_:=Aside0.mk (below_drew1 HB.out)
      clear HO_522000
      clear BK519
      clear BK520
      clear BK521
      clear HB
      have HO_522000:=n0_
      have BK519:=n1_
      have BK520:=n2_
      have BK521:=n3_
      have HB:=n4_
      clear n0_ n1_ n2_ n3_ n4_
      have p522 : 0 ≤ (x4_1 : Int):=of_decide_eq_true (by (with_reducible assumption))
      have q522 : x4_1 < (l0_0.length : Int):=of_decide_eq_true (by (with_reducible assumption))
      obtain ⟨ad522,A522_0,c522_0,e522,hx522_0,hl522_0,hi522_0⟩:=at_L2 HR0_0.out x4_1 p522 q522
      have hw522_0:=hx522_0
      cases e522
      replace hx522_0:=(HB.out.cell (World.block_lt_of_cell? w _ hx522_0)).trans hx522_0
      have HR522_0:=Aside0.mk hi522_0
      have HC522_0:=Aside0.mk hl522_0
      clear hi522_0 hl522_0
      replace p522:=eq_true p522
      replace q522:=eq_true q522
      refine start_ (n:=12) (S:=fun w' => w'.cell? ⟨gb521,0,none⟩ = some (u522000) ∧ w'.cell? ⟨gb519,0,none⟩ = some (.slice (some ad522) l0_0.length c0_0) ∧ w'.cell? (ad522.add (x4_1).toNat) = some (.slice A522_0 (rd_L2 l0_0 x4_1).length c522_0)) (ds:=[11]) (bd15 12 0) (by kernel_rfl) rfl rfl ⟨(blk_cell BK521.out 0).trans rfl,(blk_cell BK519.out 0).trans rfl,((HB.out.cell (World.block_lt_of_cell? w _ hw522_0)).trans hw522_0)⟩ (fun hHeld => ?_); refine with_tabW spec_l5Own.tab5 spec_l5Own.bits5 (fun HT_ HW_ => ?_)
      generalize wr.drew = w15 at HO_522000 BK519 BK520 BK521 HB HR522_0 hx522_0 hHeld ⊢
      refine pure_ (i:=0) (N:=some 13) (v:=?_) (a':=?_) (bd15 12 1) rfl rfl (any_of HT_.out (by kernel_rfl)) (fun _ _ _ h => h) (Or.inl ⟨by rfl,?_⟩) ?_ ?_
      rotate_left
      ·intro w'
       go_simp
       with_reducible rfl
      rotate_left
      ·simp only [Act.put,List.setIfInBounds_toArray,List.set_cons_zero,List.set_cons_succ,i64_w,i32_w]
       rfl
      refine pure_ (i:=2) (N:=some 15) (v:=?_) (a':=?_) (bd15 12 5) rfl rfl (any_of HT_.out (by kernel_rfl)) (fun _ _ _ h => h) (Or.inl ⟨by rfl,?_⟩) ?_ ?_
      rotate_left
      ·intro w'
       go_simp
       with_reducible rfl
      rotate_left
      ·simp only [Act.put,List.setIfInBounds_toArray,List.set_cons_zero,List.set_cons_succ,i64_w,i32_w]
       rfl
      refine pure_ (i:=4) (N:=some 17) (v:=?_) (a':=?_) (bd15 12 21) rfl rfl (any_of HT_.out (by kernel_rfl)) (fun _ _ _ h => h) (Or.inl ⟨by rfl,?_⟩) ?_ ?_
      rotate_left
      ·intro w'
       go_simp
       with_reducible rfl
      rotate_left
      ·simp only [Act.put,List.setIfInBounds_toArray,List.set_cons_zero,List.set_cons_succ,i64_w,i32_w]
       rfl
      refine take_ (i:=1) (N:=some 14) (v:=?_) (a':=?_) (bd15 12 23) rfl rfl (take_ofW HT_.out HW_.out (by kernel_rfl)) (fun _ _ _ h => h) (Or.inl ⟨by rfl,?_⟩) hHeld ?_ ?_
      rotate_left
      ·rintro w' ⟨s0,s1,s2⟩
       go_simp
       with_reducible rfl
      rotate_left
      ·simp only [Act.put,List.setIfInBounds_toArray,List.set_cons_zero,List.set_cons_succ,i64_w,i32_w]
       rfl
      refine take_ (i:=3) (N:=some 16) (v:=?_) (a':=?_) (bd15 12 31) rfl rfl (take_ofW HT_.out HW_.out (by kernel_rfl)) (fun _ _ _ h => h) (Or.inl ⟨by rfl,?_⟩) hHeld ?_ ?_
      rotate_left
      ·rintro w' ⟨s0,s1,s2⟩
       go_simp
       with_reducible rfl
      rotate_left
      ·simp only [Act.put,List.setIfInBounds_toArray,List.set_cons_zero,List.set_cons_succ,i64_w,i32_w]
       rfl
      refine pure_ (i:=5) (N:=some 18) (v:=?_) (a':=?_) (bd15 12 63) rfl rfl (any_of HT_.out (by kernel_rfl)) (fun _ _ _ h => h) (Or.inl ⟨by rfl,?_⟩) ?_ ?_
      rotate_left
      ·intro w'
       go_simp
       with_reducible rfl
      rotate_left
      ·simp only [Act.put,List.setIfInBounds_toArray,List.set_cons_zero,List.set_cons_succ,i64_w,i32_w]
       rfl
      refine take_ (i:=6) (N:=some 19) (v:=?_) (a':=?_) (bd15 12 127) rfl rfl (take_ofW HT_.out HW_.out (by kernel_rfl)) (fun _ _ _ h => h) (Or.inl ⟨by rfl,?_⟩) hHeld ?_ ?_
      rotate_left
      ·rintro w' ⟨s0,s1,s2⟩
       go_simp
       with_reducible rfl
      rotate_left
      ·simp only [Act.put,List.setIfInBounds_toArray,List.set_cons_zero,List.set_cons_succ,i64_w,i32_w]
       rfl
      refine one_ (i:=7) (N:=some 20) (bd15 12 255) rfl rfl (one_of HT_.out (by kernel_rfl)) (by decide) (fun K hK => ?_)
      refine goes_ Try.func157 (by kernel_rfl) rfl #[.slice A522_0 (rd_L2 l0_0 x4_1).length c522_0] (by rfl) rfl rfl (by (try simp only [List.map_toArray,List.map_cons,List.map_nil]); (rfl)) ?_
      with_reducible refine (spec_l1Own.calls _ _ (rd_L2 l0_0 x4_1) t523 _ ?side1 ?side2 A10.out).mono ?_
      (case side1 => repeat ((exact (Kd.C_below HR522_0.out HB.out))))
      (case side2 => exact HC522_0.out)
      rintro e w16 ⟨v524,rfl,ho0,hb⟩
      refine ⟨_,rfl,?_⟩
      have n0_:=Aside0.mk (Kd.S_elder' (by exact HO_522000.out) (Kd.R_base ho0) hb)
      have n1_:=Aside0.mk (Kd.R_lower ho0 (below_size (by repeat (((with_reducible (exact HB.out)))))))
      have n2_:=Aside0.mk (blk_below (g:=gb519) (o:=.cells #[.slice (some ad522) l0_0.length c0_0] 42 (0,0)) (by exact BK519.out) hb)
      have n3_:=Aside0.mk (blk_below (g:=gb520) (o:=.cells #[.slice none 0 0] 42 (0,0)) (by exact BK520.out) hb)
      have n4_:=Aside0.mk (blk_below (g:=gb521) (o:=.cells #[u522000] 42 (0,0)) (by exact BK521.out) hb)
      have n5_:=Aside0.mk (below_step (by repeat (((with_reducible (exact HB.out))))) hb)
      clear HO_522000
      clear BK519
      clear BK520
      clear BK521
      clear HB
      have HO_522000:=n0_
      have HO525:=n1_
      have BK519:=n2_
      have BK520:=n3_
      have BK521:=n4_
      have HB:=n5_
      clear n0_ n1_ n2_ n3_ n4_ n5_
      (try clear hb)
      (try clear hb2)
      (try clear hk)
      (try clear hi)
      (try clear ho0)
      obtain ⟨Ao18,co18,eo18⟩:=Kd.R_slice HO525.out
      (subst eo18)
      refine hK.out _ _ ⟨(blk_cell BK521.out 0).trans rfl,(blk_cell BK519.out 0).trans rfl,((HB.out.cell (World.block_lt_of_cell? w _ hw522_0)).trans hw522_0)⟩ (fun hHeld => ?_)
      clear hK K
      refine norm_ (a':=?_) ?_ ?_
      rotate_left
      ·show Act.put _ (some 20) _ = _
       simp only [Act.put,List.setIfInBounds_toArray,List.set_cons_zero,List.set_cons_succ,i64_w,i32_w]
       rfl
      refine one_ (i:=8) (N:=some 21) (bd15 12 511) rfl rfl (one_of HT_.out (by kernel_rfl)) (by decide) (fun K hK => ?_)
      refine value_ (w1:=?_) (v:=?_) (by rfl) rfl ?_ ?_
      rotate_left 2
      ·go_simp
       constructor
       ·rfl
       ·rfl
      refine hK.out _ _ ⟨(blk_cell (blk_alloc BK521.out _) 0).trans rfl,(blk_cell (blk_alloc BK519.out _) 0).trans rfl,(World.cell?_alloc_lt _ _ _ (World.block_lt_of_cell? _ _ (((HB.out.cell (World.block_lt_of_cell? w _ hw522_0)).trans hw522_0)))).trans (((HB.out.cell (World.block_lt_of_cell? w _ hw522_0)).trans hw522_0))⟩ (fun hHeld => ?_)
      clear hK K
      refine norm_ (a':=?_) ?_ ?_
      rotate_left
      ·show Act.put _ (some 21) _ = _
       simp only [Act.put,List.setIfInBounds_toArray,List.set_cons_zero,List.set_cons_succ,i64_w,i32_w]
       rfl
      refine one_ (i:=9) (N:=some 22) (bd15 12 1023) rfl rfl (one_of HT_.out (by kernel_rfl)) (by decide) (fun K hK => ?_)
      refine Kd.S_append_step (Kd.slice 3 (Kd.int .i64)) (w0:=w) w.heap.size (by rfl) (.tmp 14) (.tmp 21) 38 24 (.slice none 0 0) 24 rfl Try.underlying38 info24 rfl (by decide) (by omega) u522000 x522000_1 t523 [.slice Ao18 t523.length co18] (fun _ => True) (fun k_ => some k_ = (.slice Ao18 t523.length co18 : Value).ownBlock) rfl rfl ?aP (fun k_ hk_ => ((Kd.R_mono (ok':=fun k_ => (fun _ => True) k_ ∧ some k_ ≠ (u522000 : Value).ownBlock) (Kd.R_apart' (HO525.out) (Kd.S_typed HO_522000.out) (by decide)) (fun k_ hk => ⟨trivial,hk.2⟩))).1 k_ hk_.symm) ?aF ?aO ?aB ?aS ?aL ?_
      (case aP => exact Kd.M_row (Kd.R_mono (Kd.R_tight rfl (Kd.R_mono (ok':=fun k_ => (fun _ => True) k_ ∧ some k_ ≠ (u522000 : Value).ownBlock) (Kd.R_apart' (HO525.out) (Kd.S_typed HO_522000.out) (by decide)) (fun k_ hk => ⟨trivial,hk.2⟩))) (fun _ h_ => h_)))
      (case aB => exact (by repeat (((with_reducible (exact HB.out))))))
      (case aF => exact (fun _ _ => trivial))
      (case aO => exact (by exact Kd.S_mono HO_522000.out (fun k_ hk => ⟨trivial,fun e_ => hk.2 e_⟩)))
      (case aS => exact (below_size (by repeat (((with_reducible (exact HB.out)))))))
      (case aL => have:=LMc11.out; omega)
      intro v527 w17 ho hb hg hat
      rw [← Ny526.out] at ho
      have n0_:=Aside0.mk (blk_grown (g:=gb519) (o:=.cells #[.slice (some ad522) l0_0.length c0_0] 42 (0,0)) (by exact BK519.out) hg (Kd.S_ne HO_522000.out BK519.out (by decide)))
      have n1_:=Aside0.mk (blk_grown (g:=gb520) (o:=.cells #[.slice none 0 0] 42 (0,0)) (by exact BK520.out) hg (Kd.S_ne HO_522000.out BK520.out (by decide)))
      have n2_:=Aside0.mk (blk_grown (g:=gb521) (o:=.cells #[u522000] 42 (0,0)) (by exact BK521.out) hg (Kd.S_ne HO_522000.out BK521.out (by decide)))
      have n3_:=Aside0.mk (hb)
      have n4_:=Aside0.mk (ho)
      clear BK519
      clear BK520
      clear BK521
      clear HB
      clear HO_522000
      clear HO525
      have BK519:=n0_
      have BK520:=n1_
      have BK521:=n2_
      have HB:=n3_
      have HO528:=n4_
      clear n0_ n1_ n2_ n3_ n4_
      clear ho hb hg hat
      obtain ⟨Ao19,co19,eo19⟩:=Kd.S_slice HO528.out
      (subst eo19)
      refine hK.out _ _ ⟨(blk_cell BK521.out 0).trans rfl,(blk_cell BK519.out 0).trans rfl,((HB.out.cell (World.block_lt_of_cell? w _ hw522_0)).trans hw522_0)⟩ (fun hHeld => ?_)
      clear hK K
      refine norm_ (a':=?_) ?_ ?_
      rotate_left
      ·show Act.put _ (some 22) _ = _
       simp only [Act.put,List.setIfInBounds_toArray,List.set_cons_zero,List.set_cons_succ,i64_w,i32_w]
       rfl
      refine pure_ (i:=10) (N:=some 23) (v:=?_) (a':=?_) (bd15 12 2047) rfl rfl (any_of HT_.out (by kernel_rfl)) (fun _ _ _ h => h) (Or.inl ⟨by rfl,?_⟩) ?_ ?_
      rotate_left
      ·intro w'
       go_simp
       with_reducible rfl
      rotate_left
      ·simp only [Act.put,List.setIfInBounds_toArray,List.set_cons_zero,List.set_cons_succ,i64_w,i32_w]
       rfl
      refine last_ (i:=11) (N:=none) (bd15 12 4095) rfl rfl (one_of HT_.out (by kernel_rfl)) (by decide) (fun K hK => ?_)
      have hs20 : w17.cell? ⟨gb521,0,none⟩ = some (u522000):=(blk_cell BK521.out 0).trans rfl
      have hfs20:=blk_frozen BK521.out 0
      have hns20_0:=NB519_521.out
      have hns20_1:=NB520_521.out
      have hms20_0:=NB521_519.out
      have hms20_1:=NB521_520.out
      refine skip_ (w1:=?_) (by rfl) rfl ?_ ?_
      rotate_left
      ·go_simp
       rfl
      refine hK.out _ _ ?_
      clear hK K
      refine done_ (done_of HT_.out (by kernel_rfl)) ?_
      try go_wp2
      go_roundg k1
      case measure => have:=HK1.out; omega
      case rel => exact ⟨(wrap64 (x4_1 + 1)),(y526),(.slice Ao19 y526.length co19),(by (rfl)),H',⟨by have:=HK1.out; omega⟩,⟨by exact Kd.S_mono (Kd.S_far (p:=⟨gb521,0,none⟩) (Kd.S_types HO528.out BK521.out (by decide)) (fun _ hk => hk.2) (.slice Ao19 y526.length co19)) (fun _ hk => trivial)⟩,⟨by refine blk_far ?_ NB519_521.out _; exact BK519.out⟩,⟨by refine blk_far ?_ NB520_521.out _; exact BK520.out⟩,⟨by refine blk_put (cs:=#[u522000]) ?_ 0 _ rfl; exact BK521.out⟩,⟨by repeat (with_reducible first|exact HB.out|refine below_set ?_ GE521.out)⟩⟩
     ·rw [if_neg c11] at H
      exact absurd H (by simp)
    ·rw [if_neg c9] at H
     exact absurd H (by simp)
   ·rw [if_neg c8] at H
    have c8b0 : decide (x4_1 < (l0_0.length : Int)) = false:=decide_eq_false c8
    clear c8
    obtain rfl:=Option.some.inj H
    have hnb21:=NB519_520.out
    have hnc21:=NB520_519.out
    have hnb22:=NB519_521.out
    have hnc22:=NB521_519.out
    have hcz23_0 : wr.cell? ⟨gb519,0,none⟩ = some (.slice A0_0 l0_0.length c0_0):=(blk_cell BK519.out 0).trans rfl
    have hfz23_0:=blk_frozen BK519.out 0
    have hnb24:=NB521_520.out
    have hnc24:=NB520_521.out
    have hcz25_0 : wr.cell? ⟨gb521,0,none⟩ = some (u522000):=(blk_cell BK521.out 0).trans rfl
    have hfz25_0:=blk_frozen BK521.out 0
    obtain ⟨Ao26,co26,eo26⟩:=Kd.S_slice HO_522000.out
    subst eo26
    have hcz27_0 : wr.cell? ⟨gb520,0,none⟩ = some (.slice none 0 0):=(blk_cell BK520.out 0).trans rfl
    have hfz27_0:=blk_frozen BK520.out 0
    go_wp2
    refine bodyPost_ret (results_cell_row rfl _ _ gb520 42 #[.slice Ao26 x522000_1.length co26] (0,0) _ rfl (by refine blk_put (cs:=#[.slice none 0 0]) ?_ 0 _ rfl; exact BK520.out) Try.underlying42 rfl (by kernel_rfl)) rfl ?_
    exact ⟨_,by (rfl),by exact Kd.S_mono (Kd.S_far (p:=⟨gb520,0,none⟩) (Kd.S_types HO_522000.out BK520.out (by decide)) (fun _ hk => hk.2) (.slice Ao26 x522000_1.length co26)) (fun _ hk => trivial),by repeat (with_reducible first|exact HB.out|refine below_set ?_ GE520.out)⟩

/-! ### impl_ownYard: function 108 -/
def impl_ownYard.l0 : Nat → List (List Int) → Int → Int → List (List Int) → Option ((List (List Int)))
 | 0,_,_,_,_ => none
 | k + 1,x9,x10,x11,x634000 => if x11 < x10 then (if 0 ≤ x11 then (if x11 < (x9.length : Int) then ((slices_Clone_int_int.f (rd_L2 x9 x11)).bind fun t635 => (if x634000.length < 5864062014805 then (impl_ownYard.l0 k x9 x10 (wrap64 (x11 + 1)) (x634000 ++ [t635])) else (none))) else (none)) else (none)) else (some x634000)
def impl_ownYard.f (k : Nat) (l0_0 : List (List Int)) : Option ((List (List Int))):=impl_ownYard.l0 k l0_0 (l0_0.length : Int) 0 (([] : List (List Int)))
theorem impl_ownYard.mono_l : ∀ k,(∀ y0 y1 y2 y3,LeO (impl_ownYard.l0 k y0 y1 y2 y3) (impl_ownYard.l0 (k + 1) y0 y1 y2 y3))
 | 0 => fun _ _ _ _ r h => by simp [impl_ownYard.l0] at h
 | k + 1 => by
  have ih0:=impl_ownYard.mono_l k
  ·intro y0 y1 y2 y3
   unfold impl_ownYard.l0
   repeat' first
   | (with_reducible exact ih0 _ _ _ _)
   | (with_reducible exact LeO.refl _)
   | (with_reducible exact LeO.none _)
   | (with_reducible refine LeO.ite ?_ ?_)
   | (with_reducible refine LeO.bind ?_ (fun _ => ?_))
   | exact ih0 _ _ _ _
   | exact LeO.none _
   | refine LeO.ite ?_ ?_
   | refine LeO.bind ?_ (fun _ => ?_)
theorem impl_ownYard.mono : ∀ a0 k,LeO (impl_ownYard.f k a0) (impl_ownYard.f (k + 1) a0):=by
 intro a0 k
 have ih0:=impl_ownYard.mono_l k
 unfold impl_ownYard.f
 repeat' first
   | (with_reducible exact ih0 _ _ _ _)
   | (with_reducible exact LeO.refl _)
   | (with_reducible exact LeO.none _)
   | (with_reducible refine LeO.ite ?_ ?_)
   | (with_reducible refine LeO.bind ?_ (fun _ => ?_))
   | exact ih0 _ _ _ _
   | exact LeO.none _
   | refine LeO.ite ?_ ?_
   | refine LeO.bind ?_ (fun _ => ?_)
def impl_ownYard.T5 : Bool × List (List Nat × List Nat):=(true,[([],[]),([0],[0]),([],[]),([2],[2]),([3],[3]),([1,4,3],[1,4]),([0,1,2,3,4,5],[]),([6,5,5,0,1,2,3,4,5],[5,6])])
def impl_ownYard.B5 : List Nat:=[0,1,0,4,12,31,63,127]
theorem impl_ownYard.tab5 : rtab .any (opsOf Try.f108 5) = impl_ownYard.T5:=by kernel_rfl
theorem impl_ownYard.bits5 : waitsOk impl_ownYard.T5.2 impl_ownYard.B5 = true:=by kernel_rfl
set_option maxHeartbeats 8000000 in
set_option maxRecDepth 100000 in
theorem impl_ownYard.calls (k : Nat) (A0_0 : Option Addr) (c0_0 : Nat) (l0_0 : List (List Int)) (r : List (List Int)) (w : World) (hr0_0 : Kd.C (Kd.slice 3 (Kd.int .i64)) w A0_0 l0_0.length l0_0) (hc0_0 : l0_0.length ≤ c0_0) (h : impl_ownYard.f k l0_0 = some r) :
  Calls Try.prog 108 #[.agg #[.slice A0_0 l0_0.length c0_0]] w fun e w' => ∃ v0_ : Value,e = .returned (.agg #[v0_]) ∧ Kd.S (Kd.slice 3 (Kd.int .i64)) 24 w' w.heap.size (fun _ => True) v0_ r ∧ Below w.heap.size w w':=by
 have hu42:=Try.underlying42
 have HR0_0:=Aside0.mk hr0_0
 have HC0_0:=Aside0.mk hc0_0
 clear hr0_0 hc0_0
 have HB:=Aside0.mk (Below.refl w.heap.size w)
 have H : (impl_ownYard.l0 k l0_0 (l0_0.length : Int) 0 (([] : List (List Int)))) = some r:=h
 clear h
 obtain ⟨y630,hy630⟩ : ∃ y_ : List (List Int),y_ = (([] : List (List Int))):=⟨_,rfl⟩
 replace H : (impl_ownYard.l0 k l0_0 (l0_0.length : Int) 0 y630) = some r:=by (rw [hy630]; with_reducible exact H)
 have Ny630:=Aside0.mk hy630
 clear hy630
 have H':=Aside0.mk H
 clear H
 go_enter Try.func108,Try.ntmps108
 go_wp2_with (first|((with_reducible refine gate_dst (N:=1) rfl ?_); refine box_event ?hg (N:=1) ?hd (cs:=#[.slice A0_0 l0_0.length c0_0]) (t:=42) ?hr ?_; (case hd => rfl); (case hg => rfl); (case hr => (go_simp; done)); intro gb628 hg w2 hbox hb; have n0_:=Aside0.mk (below_step (by repeat (((with_reducible (exact HB.out))))) hb); have n1_:=Aside0.mk (hbox); have n2_:=Aside0.mk ((by rw [hg]; exact (below_size (by repeat (((with_reducible (exact HB.out)))))) : w.heap.size ≤ gb628)); have n3_:=Aside0.mk ((by rw [hg]; exact (below_size (by repeat (((with_reducible (exact HB.out)))))) : w.heap.size ≤ gb628)); clear HB; have HB:=n0_; have BK628:=n1_; have GW628:=n2_; have GE628:=n3_; clear n0_ n1_ n2_ n3_; clear hb hbox hg)|((with_reducible refine gate_dst (N:=2) rfl ?_); refine box_event ?hg (N:=2) ?hd (cs:=#[.slice none 0 0]) (t:=42) ?hr ?_; (case hd => rfl); (case hg => rfl); (case hr => (go_simp; done)); intro gb629 hg w3 hbox hb; have n0_:=Aside0.mk (blk_below (g:=gb628) (o:=.cells #[.slice A0_0 l0_0.length c0_0] 42 (0,0)) (by exact BK628.out) hb); have n1_:=Aside0.mk (below_step (by repeat (((with_reducible (exact HB.out))))) hb); have n2_:=Aside0.mk (hbox); have n3_:=Aside0.mk ((by rw [hg]; exact (below_size (by repeat (((with_reducible (exact HB.out)))))) : w.heap.size ≤ gb629)); have n4_:=Aside0.mk ((by rw [hg]; exact (below_size (by repeat (((with_reducible (exact HB.out)))))) : w.heap.size ≤ gb629)); have n5_:=Aside0.mk ((by rw [hg]; exact Nat.ne_of_lt (blk_lt (g:=gb628) (o:=.cells #[.slice A0_0 l0_0.length c0_0] 42 (0,0)) (by exact BK628.out)) : gb628 ≠ gb629)); have n6_:=Aside0.mk ((by rw [hg]; exact Nat.ne_of_gt (blk_lt (g:=gb628) (o:=.cells #[.slice A0_0 l0_0.length c0_0] 42 (0,0)) (by exact BK628.out)) : gb629 ≠ gb628)); clear BK628; clear HB; have BK628:=n0_; have HB:=n1_; have BK629:=n2_; have GW629:=n3_; have GE629:=n4_; have NB628_629:=n5_; have NB629_628:=n6_; clear n0_ n1_ n2_ n3_ n4_ n5_ n6_; clear hb hbox hg)|((with_reducible refine gate_dst (N:=6) rfl ?_); refine Kd.S_lit (Kd.slice 3 (Kd.int .i64)) _ 24 ?hg (N:=6) ?hd (xs:=([] : List (List Int))) (inner:=[]) (ok:=fun _ => True) (okp:=fun _ => True) ?hr ?hp (fun _ hk => hk) trivial (Below.refl _ _) (Nat.le_refl _) (by simp) ?_; (case hd => rfl); (case hg => rfl); (case hr => (go_simp; done)); (case hp => exact (Reps.none _ _)); intro v631 w4 ho5 hb hg_ hnew_; clear hg_ hnew_; (rw [← Ny630.out] at ho5); have n0_:=Aside0.mk (Kd.S_lower ho5 (below_size (by repeat (((with_reducible (exact HB.out))))))); have n1_:=Aside0.mk (blk_below (g:=gb628) (o:=.cells #[.slice A0_0 l0_0.length c0_0] 42 (0,0)) (by exact BK628.out) hb); have n2_:=Aside0.mk (blk_below (g:=gb629) (o:=.cells #[.slice none 0 0] 42 (0,0)) (by exact BK629.out) hb); have n3_:=Aside0.mk (below_step (by repeat (((with_reducible (exact HB.out))))) hb); clear BK628; clear BK629; clear HB; have HO632:=n0_; have BK628:=n1_; have BK629:=n2_; have HB:=n3_; clear n0_ n1_ n2_ n3_; clear hb ho5; obtain ⟨Ao6,co6,eo6⟩:=Kd.S_slice HO632.out; subst eo6)|((with_reducible refine gate_dst (N:=3) rfl ?_); refine box_event ?hg (N:=3) ?hd (cs:=#[.slice none 0 0]) (t:=42) ?hr ?_; (case hd => rfl); (case hg => rfl); (case hr => (go_simp; done)); intro gb633 hg w7 hbox hb; have n0_:=Aside0.mk (Kd.S_below (by exact HO632.out) hb); have n1_:=Aside0.mk (blk_below (g:=gb628) (o:=.cells #[.slice A0_0 l0_0.length c0_0] 42 (0,0)) (by exact BK628.out) hb); have n2_:=Aside0.mk (blk_below (g:=gb629) (o:=.cells #[.slice none 0 0] 42 (0,0)) (by exact BK629.out) hb); have n3_:=Aside0.mk (below_step (by repeat (((with_reducible (exact HB.out))))) hb); have n4_:=Aside0.mk (hbox); have n5_:=Aside0.mk ((by rw [hg]; exact (below_size (by repeat (((with_reducible (exact HB.out)))))) : w.heap.size ≤ gb633)); have n6_:=Aside0.mk ((by rw [hg]; exact (below_size (by repeat (((with_reducible (exact HB.out)))))) : w.heap.size ≤ gb633)); have n7_:=Aside0.mk ((by rw [hg]; exact Nat.ne_of_lt (blk_lt (g:=gb628) (o:=.cells #[.slice A0_0 l0_0.length c0_0] 42 (0,0)) (by exact BK628.out)) : gb628 ≠ gb633)); have n8_:=Aside0.mk ((by rw [hg]; exact Nat.ne_of_gt (blk_lt (g:=gb628) (o:=.cells #[.slice A0_0 l0_0.length c0_0] 42 (0,0)) (by exact BK628.out)) : gb633 ≠ gb628)); have n9_:=Aside0.mk ((by rw [hg]; exact Nat.ne_of_lt (blk_lt (g:=gb629) (o:=.cells #[.slice none 0 0] 42 (0,0)) (by exact BK629.out)) : gb629 ≠ gb633)); have n10_:=Aside0.mk ((by rw [hg]; exact Nat.ne_of_gt (blk_lt (g:=gb629) (o:=.cells #[.slice none 0 0] 42 (0,0)) (by exact BK629.out)) : gb633 ≠ gb629)); clear HO632; clear BK628; clear BK629; clear HB; have HO632:=n0_; have BK628:=n1_; have BK629:=n2_; have HB:=n3_; have BK633:=n4_; have GW633:=n5_; have GE633:=n6_; have NB628_633:=n7_; have NB633_628:=n8_; have NB629_633:=n9_; have NB633_629:=n10_; clear n0_ n1_ n2_ n3_ n4_ n5_ n6_ n7_ n8_ n9_ n10_; clear hb hbox hg; have hnb8:=NB633_628.out; have hnc8:=NB628_633.out; have hnb9:=NB633_629.out; have hnc9:=NB629_633.out; have hcz10_0 : w7.cell? ⟨gb633,0,none⟩ = some (.slice none 0 0):=(blk_cell BK633.out 0).trans rfl; have hfz10_0:=blk_frozen BK633.out 0; have hnb11:=NB628_629.out; have hnc11:=NB629_628.out; have hcz12_0 : w7.cell? ⟨gb628,0,none⟩ = some (.slice A0_0 l0_0.length c0_0):=(blk_cell BK628.out 0).trans rfl; have hfz12_0:=blk_frozen BK628.out 0))
 go_loopg [11] k (fun kq v11 w' => ∃ (x11_1 : Int) (x634000_1 : List (List Int)) (u634000 : Value),v11 = .int .i64 x11_1 ∧ Aside0 (impl_ownYard.l0 kq l0_0 (l0_0.length : Int) x11_1 x634000_1 = some r) ∧ Aside0 (kq ≤ k) ∧ Aside0 (Kd.S (Kd.slice 3 (Kd.int .i64)) 24 w' w.heap.size (fun _ => True) u634000 x634000_1) ∧ Aside0 (w'.heap[gb628]? = some (.cells #[(.slice A0_0 l0_0.length c0_0)] 42 (0,0))) ∧ Aside0 (w'.heap[gb629]? = some (.cells #[(.slice none 0 0)] 42 (0,0))) ∧ Aside0 (w'.heap[gb633]? = some (.cells #[u634000] 42 (0,0))) ∧ Aside0 (Below w.heap.size w w'))
 case atStart => exact ⟨(0),(y630),(.slice Ao6 y630.length co6),(by (rfl)),H',⟨Nat.le_refl _⟩,⟨by exact Kd.S_mono (Kd.S_far (p:=⟨gb633,0,none⟩) (Kd.S_types HO632.out BK633.out (by decide)) (fun _ hk => hk.2) (.slice Ao6 y630.length co6)) (fun _ hk => trivial)⟩,⟨by refine blk_far ?_ NB628_633.out _; exact BK628.out⟩,⟨by refine blk_far ?_ NB629_633.out _; exact BK629.out⟩,⟨by refine blk_put (cs:=#[.slice none 0 0]) ?_ 0 _ rfl; exact BK633.out⟩,⟨by repeat (with_reducible first|exact HB.out|refine below_set ?_ GE633.out)⟩⟩
 case round =>
  clear H'
  try clear c1
  try clear p2
  try clear c8
  try clear c9
  try clear c10
  try clear c11
  try clear hcz10_0
  try clear hcz12_0
  try clear hfz10_0
  try clear hfz12_0
  obtain ⟨x11_1,x634000_1,u634000,rfl,HA,HK1,HO_634000,BK628,BK629,BK633,HB⟩:=hrel
  cases gk with
  | zero => exact absurd HA.out (by simp [impl_ownYard.l0])
  | succ k1 =>
   have H:=HA.out
   clear HA
   simp only [impl_ownYard.l0] at H
   by_cases c13 : x11_1 < (l0_0.length : Int)
   ·rw [if_pos c13] at H
    have c13b0 : decide (x11_1 < (l0_0.length : Int)) = true:=decide_eq_true c13
    clear c13
    by_cases c14 : 0 ≤ x11_1
    ·rw [if_pos c14] at H
     have c14b0 : decide (0 ≤ x11_1) = true:=decide_eq_true c14
     clear c14
     by_cases c15 : x11_1 < (l0_0.length : Int)
     ·rw [if_pos c15] at H
      have c15b0 : decide (x11_1 < (l0_0.length : Int)) = true:=decide_eq_true c15
      clear c15
      replace H:=Option.bind_eq_some_iff.mp H
      obtain ⟨t635,A160,H⟩:=H
      replace H : (if x634000_1.length < 5864062014805 then (impl_ownYard.l0 k1 l0_0 (l0_0.length : Int) (wrap64 (x11_1 + 1)) (x634000_1 ++ [t635])) else (none)) = some r:=H
      have A16:=Aside0.mk A160
      clear A160
      by_cases c17 : x634000_1.length < 5864062014805
      ·rw [if_pos c17] at H
       have LMc17:=Aside0.mk c17
       clear c17
       obtain ⟨y638,hy638⟩ : ∃ y_ : List (List Int),y_ = (x634000_1 ++ [t635]):=⟨_,rfl⟩
       replace H : (impl_ownYard.l0 k1 l0_0 (l0_0.length : Int) (wrap64 (x11_1 + 1)) y638) = some r:=by (rw [hy638]; with_reducible exact H)
       have Ny638:=Aside0.mk hy638
       clear hy638
       have H':=Aside0.mk H
       clear H
       have p634 : 0 ≤ (x11_1 : Int):=of_decide_eq_true (by (with_reducible assumption))
       have q634 : x11_1 < (l0_0.length : Int):=of_decide_eq_true (by (with_reducible assumption))
       obtain ⟨ad634,A634_0,c634_0,e634,hx634_0,hl634_0,hi634_0⟩:=at_L2 HR0_0.out x11_1 p634 q634
       cases e634
       replace hx634_0:=(HB.out.cell (World.block_lt_of_cell? w _ hx634_0)).trans hx634_0
       have HR634_0:=Aside0.mk hi634_0
       have HC634_0:=Aside0.mk hl634_0
       clear hi634_0 hl634_0
       replace p634:=eq_true p634
       replace q634:=eq_true q634
       try go_wp2
       have n0_:=Aside0.mk (Kd.S_drew HO_634000.out)
       have n1_:=Aside0.mk (blk_drew BK628.out)
       have n2_:=Aside0.mk (blk_drew BK629.out)
       have n3_:=Aside0.mk (blk_drew BK633.out)
       have n4_:=Aside0.mk (below_drew1 HB.out)
       clear HO_634000
       clear BK628
       clear BK629
       clear BK633
       clear HB
       have HO_634000:=n0_
       have BK628:=n1_
       have BK629:=n2_
       have BK633:=n3_
       have HB:=n4_
       clear n0_ n1_ n2_ n3_ n4_
       refine start_ (n:=8) (S:=fun w' => w'.cell? ⟨gb633,0,none⟩ = some (u634000)) (ds:=[7]) #[false,false,false,false,false,false,false,false] (by kernel_rfl) rfl rfl ((blk_cell BK633.out 0).trans rfl) (fun hHeld => ?_); refine with_tabW impl_ownYard.tab5 impl_ownYard.bits5 (fun HT_ HW_ => ?_)
       generalize wr.drew = w18 at HO_634000 BK628 BK629 BK633 HB hHeld ⊢
       refine pure_ (i:=0) (N:=some 15) (v:=?_) (a':=?_) #[true,false,false,false,false,false,false,false] rfl rfl (any_of HT_.out (by kernel_rfl)) (fun _ _ _ h => h) (Or.inl ⟨by rfl,?_⟩) ?_ ?_
       rotate_left
       ·intro w'
        go_simp
        with_reducible rfl
       rotate_left
       ·simp only [Act.put,List.setIfInBounds_toArray,List.set_cons_zero,List.set_cons_succ,i64_w,i32_w]
        rfl
       refine pure_ (i:=2) (N:=some 17) (v:=?_) (a':=?_) #[true,false,true,false,false,false,false,false] rfl rfl (any_of HT_.out (by kernel_rfl)) (fun _ _ _ h => h) (Or.inl ⟨by rfl,?_⟩) ?_ ?_
       rotate_left
       ·intro w'
        go_simp
        with_reducible rfl
       rotate_left
       ·simp only [Act.put,List.setIfInBounds_toArray,List.set_cons_zero,List.set_cons_succ,i64_w,i32_w]
        rfl
       refine take_ (i:=1) (N:=some 16) (v:=?_) (a':=?_) #[true,true,true,false,false,false,false,false] rfl rfl (take_ofW HT_.out HW_.out (by kernel_rfl)) (fun _ _ _ h => h) (Or.inl ⟨by rfl,?_⟩) hHeld ?_ ?_
       rotate_left
       ·intro w' s0
        go_simp
        with_reducible rfl
       rotate_left
       ·simp only [Act.put,List.setIfInBounds_toArray,List.set_cons_zero,List.set_cons_succ,i64_w,i32_w]
        rfl
       refine one_ (i:=3) (N:=some 18) #[true,true,true,true,false,false,false,false] rfl rfl (one_of HT_.out (by kernel_rfl)) (by decide) (fun K hK => ?_)
       refine goes_ Try.func121 (by kernel_rfl) rfl #[.slice A634_0 (rd_L2 l0_0 x11_1).length c634_0] (by rfl) rfl rfl (by (try simp only [List.map_toArray,List.map_cons,List.map_nil]); (rfl)) ?_
       with_reducible refine (slices_Clone_int_int.calls _ _ (rd_L2 l0_0 x11_1) t635 _ ?side1 ?side2 A16.out).mono ?_
       (case side1 => repeat ((exact (Kd.C_below HR634_0.out HB.out))))
       (case side2 => exact HC634_0.out)
       rintro e w19 ⟨v636,rfl,ho0,hb⟩
       refine ⟨_,rfl,?_⟩
       have n0_:=Aside0.mk (Kd.S_elder' (by exact HO_634000.out) (Kd.R_base ho0) hb)
       have n1_:=Aside0.mk (Kd.R_lower ho0 (below_size (by repeat (((with_reducible (exact HB.out)))))))
       have n2_:=Aside0.mk (blk_below (g:=gb628) (o:=.cells #[.slice (some ad634) l0_0.length c0_0] 42 (0,0)) (by exact BK628.out) hb)
       have n3_:=Aside0.mk (blk_below (g:=gb629) (o:=.cells #[.slice none 0 0] 42 (0,0)) (by exact BK629.out) hb)
       have n4_:=Aside0.mk (blk_below (g:=gb633) (o:=.cells #[u634000] 42 (0,0)) (by exact BK633.out) hb)
       have n5_:=Aside0.mk (below_step (by repeat (((with_reducible (exact HB.out))))) hb)
       clear HO_634000
       clear BK628
       clear BK629
       clear BK633
       clear HB
       have HO_634000:=n0_
       have HO637:=n1_
       have BK628:=n2_
       have BK629:=n3_
       have BK633:=n4_
       have HB:=n5_
       clear n0_ n1_ n2_ n3_ n4_ n5_
       (try clear hb)
       (try clear hb2)
       (try clear hk)
       (try clear hi)
       (try clear ho0)
       obtain ⟨Ao21,co21,eo21⟩:=Kd.R_slice HO637.out
       (subst eo21)
       refine hK.out _ _ ((blk_cell BK633.out 0).trans rfl) (fun hHeld => ?_)
       clear hK K
       refine norm_ (a':=?_) ?_ ?_
       rotate_left
       ·show Act.put _ (some 18) _ = _
        simp only [Act.put,List.setIfInBounds_toArray,List.set_cons_zero,List.set_cons_succ,i64_w,i32_w]
        rfl
       refine one_ (i:=4) (N:=some 19) #[true,true,true,true,true,false,false,false] rfl rfl (one_of HT_.out (by kernel_rfl)) (by decide) (fun K hK => ?_)
       refine value_ (w1:=?_) (v:=?_) (by rfl) rfl ?_ ?_
       rotate_left 2
       ·go_simp
        constructor
        ·rfl
        ·rfl
       refine hK.out _ _ ((blk_cell (blk_alloc BK633.out _) 0).trans rfl) (fun hHeld => ?_)
       clear hK K
       refine norm_ (a':=?_) ?_ ?_
       rotate_left
       ·show Act.put _ (some 19) _ = _
        simp only [Act.put,List.setIfInBounds_toArray,List.set_cons_zero,List.set_cons_succ,i64_w,i32_w]
        rfl
       refine one_ (i:=5) (N:=some 20) #[true,true,true,true,true,true,false,false] rfl rfl (one_of HT_.out (by kernel_rfl)) (by decide) (fun K hK => ?_)
       refine Kd.S_append_step (Kd.slice 3 (Kd.int .i64)) (w0:=w) w.heap.size (by rfl) (.tmp 16) (.tmp 19) 38 24 (.slice none 0 0) 24 rfl Try.underlying38 info24 rfl (by decide) (by omega) u634000 x634000_1 t635 [.slice Ao21 t635.length co21] (fun _ => True) (fun k_ => some k_ = (.slice Ao21 t635.length co21 : Value).ownBlock) rfl rfl ?aP (fun k_ hk_ => ((Kd.R_mono (ok':=fun k_ => (fun _ => True) k_ ∧ some k_ ≠ (u634000 : Value).ownBlock) (Kd.R_apart' (HO637.out) (Kd.S_typed HO_634000.out) (by decide)) (fun k_ hk => ⟨trivial,hk.2⟩))).1 k_ hk_.symm) ?aF ?aO ?aB ?aS ?aL ?_
       (case aP => exact Kd.M_row (Kd.R_mono (Kd.R_tight rfl (Kd.R_mono (ok':=fun k_ => (fun _ => True) k_ ∧ some k_ ≠ (u634000 : Value).ownBlock) (Kd.R_apart' (HO637.out) (Kd.S_typed HO_634000.out) (by decide)) (fun k_ hk => ⟨trivial,hk.2⟩))) (fun _ h_ => h_)))
       (case aB => exact (by repeat (((with_reducible (exact HB.out))))))
       (case aF => exact (fun _ _ => trivial))
       (case aO => exact (by exact Kd.S_mono HO_634000.out (fun k_ hk => ⟨trivial,fun e_ => hk.2 e_⟩)))
       (case aS => exact (below_size (by repeat (((with_reducible (exact HB.out)))))))
       (case aL => have:=LMc17.out; omega)
       intro v639 w20 ho hb hg hat
       rw [← Ny638.out] at ho
       have n0_:=Aside0.mk (blk_grown (g:=gb628) (o:=.cells #[.slice (some ad634) l0_0.length c0_0] 42 (0,0)) (by exact BK628.out) hg (Kd.S_ne HO_634000.out BK628.out (by decide)))
       have n1_:=Aside0.mk (blk_grown (g:=gb629) (o:=.cells #[.slice none 0 0] 42 (0,0)) (by exact BK629.out) hg (Kd.S_ne HO_634000.out BK629.out (by decide)))
       have n2_:=Aside0.mk (blk_grown (g:=gb633) (o:=.cells #[u634000] 42 (0,0)) (by exact BK633.out) hg (Kd.S_ne HO_634000.out BK633.out (by decide)))
       have n3_:=Aside0.mk (hb)
       have n4_:=Aside0.mk (ho)
       clear BK628
       clear BK629
       clear BK633
       clear HB
       clear HO_634000
       clear HO637
       have BK628:=n0_
       have BK629:=n1_
       have BK633:=n2_
       have HB:=n3_
       have HO640:=n4_
       clear n0_ n1_ n2_ n3_ n4_
       clear ho hb hg hat
       obtain ⟨Ao22,co22,eo22⟩:=Kd.S_slice HO640.out
       (subst eo22)
       refine hK.out _ _ ((blk_cell BK633.out 0).trans rfl) (fun hHeld => ?_)
       clear hK K
       refine norm_ (a':=?_) ?_ ?_
       rotate_left
       ·show Act.put _ (some 20) _ = _
        simp only [Act.put,List.setIfInBounds_toArray,List.set_cons_zero,List.set_cons_succ,i64_w,i32_w]
        rfl
       refine pure_ (i:=6) (N:=some 21) (v:=?_) (a':=?_) #[true,true,true,true,true,true,true,false] rfl rfl (any_of HT_.out (by kernel_rfl)) (fun _ _ _ h => h) (Or.inl ⟨by rfl,?_⟩) ?_ ?_
       rotate_left
       ·intro w'
        go_simp
        with_reducible rfl
       rotate_left
       ·simp only [Act.put,List.setIfInBounds_toArray,List.set_cons_zero,List.set_cons_succ,i64_w,i32_w]
        rfl
       refine last_ (i:=7) (N:=none) #[true,true,true,true,true,true,true,true] rfl rfl (one_of HT_.out (by kernel_rfl)) (by decide) (fun K hK => ?_)
       have hs23 : w20.cell? ⟨gb633,0,none⟩ = some (u634000):=(blk_cell BK633.out 0).trans rfl
       have hfs23:=blk_frozen BK633.out 0
       have hns23_0:=NB628_633.out
       have hns23_1:=NB629_633.out
       have hms23_0:=NB633_628.out
       have hms23_1:=NB633_629.out
       refine skip_ (w1:=?_) (by rfl) rfl ?_ ?_
       rotate_left
       ·go_simp
        rfl
       refine hK.out _ _ ?_
       clear hK K
       refine done_ (done_of HT_.out (by kernel_rfl)) ?_
       try go_wp2
       go_roundg k1
       case measure => have:=HK1.out; omega
       case rel => exact ⟨(wrap64 (x11_1 + 1)),(y638),(.slice Ao22 y638.length co22),(by (rfl)),H',⟨by have:=HK1.out; omega⟩,⟨by exact Kd.S_mono (Kd.S_far (p:=⟨gb633,0,none⟩) (Kd.S_types HO640.out BK633.out (by decide)) (fun _ hk => hk.2) (.slice Ao22 y638.length co22)) (fun _ hk => trivial)⟩,⟨by refine blk_far ?_ NB628_633.out _; exact BK628.out⟩,⟨by refine blk_far ?_ NB629_633.out _; exact BK629.out⟩,⟨by refine blk_put (cs:=#[u634000]) ?_ 0 _ rfl; exact BK633.out⟩,⟨by repeat (with_reducible first|exact HB.out|refine below_set ?_ GE633.out)⟩⟩
      ·rw [if_neg c17] at H
       exact absurd H (by simp)
     ·rw [if_neg c15] at H
      exact absurd H (by simp)
    ·rw [if_neg c14] at H
     exact absurd H (by simp)
   ·rw [if_neg c13] at H
    have c13b0 : decide (x11_1 < (l0_0.length : Int)) = false:=decide_eq_false c13
    clear c13
    obtain rfl:=Option.some.inj H
    have hnb24:=NB633_628.out
    have hnc24:=NB628_633.out
    have hnb25:=NB633_629.out
    have hnc25:=NB629_633.out
    have hcz26_0 : wr.cell? ⟨gb633,0,none⟩ = some (u634000):=(blk_cell BK633.out 0).trans rfl
    have hfz26_0:=blk_frozen BK633.out 0
    obtain ⟨Ao27,co27,eo27⟩:=Kd.S_slice HO_634000.out
    subst eo27
    have hnb28:=NB629_628.out
    have hnc28:=NB628_629.out
    have hcz29_0 : wr.cell? ⟨gb629,0,none⟩ = some (.slice none 0 0):=(blk_cell BK629.out 0).trans rfl
    have hfz29_0:=blk_frozen BK629.out 0
    go_wp2
    refine bodyPost_ret (results_cell_row rfl _ _ gb629 42 #[.slice Ao27 x634000_1.length co27] (0,0) _ rfl (by refine blk_put (cs:=#[.slice none 0 0]) ?_ 0 _ rfl; exact BK629.out) Try.underlying42 rfl (by kernel_rfl)) rfl ?_
    exact ⟨_,by (rfl),by exact Kd.S_mono (Kd.S_far (p:=⟨gb629,0,none⟩) (Kd.S_types HO_634000.out BK629.out (by decide)) (fun _ hk => hk.2) (.slice Ao27 x634000_1.length co27)) (fun _ hk => trivial),by repeat (with_reducible first|exact HB.out|refine below_set ?_ GE629.out)⟩

/-! ### impl_topOf: function 119 -/
def impl_topOf.f (l0 : List Int) : Option (Int):=if (l0.length : Int) = 0 then (some 0) else (if 0 ≤ (wrap64 ((l0.length : Int) - 1)) then (if (wrap64 ((l0.length : Int) - 1)) < (l0.length : Int) then (some (rd l0 (wrap64 ((l0.length : Int) - 1)))) else (none)) else (none))
set_option maxHeartbeats 8000000 in
set_option maxRecDepth 100000 in
theorem impl_topOf.calls (A0 : Option Addr) (c0 : Nat) (l0 : List Int) (r : Int) (w : World) (hr0 : Kd.C (Kd.int .i64) w A0 l0.length l0) (hc0 : l0.length ≤ c0) (h : impl_topOf.f l0 = some r) :
  Calls Try.prog 119 #[.slice A0 l0.length c0] w fun e w' => e = .returned (.int .i64 r) ∧ Drawn0 w w':=by
 have HR0:=Aside0.mk hr0
 have HC0:=Aside0.mk hc0
 clear hr0 hc0
 have H : (if (l0.length : Int) = 0 then (some 0) else (if 0 ≤ (wrap64 ((l0.length : Int) - 1)) then (if (wrap64 ((l0.length : Int) - 1)) < (l0.length : Int) then (some (rd l0 (wrap64 ((l0.length : Int) - 1)))) else (none)) else (none))) = some r:=h
 clear h
 by_cases c2 : (l0.length : Int) = 0
 ·rw [if_pos c2] at H
  have c2b0 : ((l0.length : Int) == 0) = true:=beq_iff_eq.mpr c2
  have c2b1 : ((l0.length : Int) != 0) = false:=bne_eq_false_iff_eq.mpr c2
  clear c2
  obtain rfl:=Option.some.inj H
  go_enter Try.func119,Try.ntmps119
  go_wp2
  go_ret
  exact ⟨by (rfl),by repeat (exact Drawn0.refl _)⟩
 ·rw [if_neg c2] at H
  have c2b0 : ((l0.length : Int) == 0) = false:=beq_eq_false_iff_ne.mpr c2
  have c2b1 : ((l0.length : Int) != 0) = true:=bne_iff_ne.mpr c2
  have c2b2 : ¬ (l0 = []):=fun h_ => c2 (by rw [h_]; rfl)
  obtain ⟨ji3,hji3⟩ : ∃ j_ : Int,(wrap64 ((l0.length : Int) - 1)) = j_:=⟨_,rfl⟩
  replace H : (if 0 ≤ (ji3) then (if (ji3) < (l0.length : Int) then (some (rd l0 (ji3))) else (none)) else (none)) = some r:=by (rw [hji3] at H; exact H)
  have hji3w : (IntKind.i64.wrap ((l0.length : Int) - 1)) = ji3:=(i64_w _).trans hji3
  by_cases c4 : 0 ≤ (ji3)
  ·rw [if_pos c4] at H
   have c4b0 : decide (0 ≤ (ji3)) = true:=decide_eq_true c4
   clear c4
   by_cases c5 : (ji3) < (l0.length : Int)
   ·rw [if_pos c5] at H
    have c5b0 : decide ((ji3) < (l0.length : Int)) = true:=decide_eq_true c5
    clear c5
    obtain rfl:=Option.some.inj H
    have p680 : 0 ≤ ((ji3) : Int):=of_decide_eq_true (by (with_reducible assumption))
    have q680 : (ji3) < (l0.length : Int):=of_decide_eq_true (by (with_reducible assumption))
    obtain ⟨ad680,e680,hx680_0⟩:=Kd.at_int HR0.out (ji3) p680 q680
    cases e680
    replace p680:=eq_true p680
    replace q680:=eq_true q680
    go_enter Try.func119,Try.ntmps119
    go_wp2
    go_ret
    exact ⟨by (rfl),by repeat (exact Drawn0.refl _)⟩
   ·rw [if_neg c5] at H
    exact absurd H (by simp)
  ·rw [if_neg c4] at H
   exact absurd H (by simp)

/-! ### impl_placeOf: function 120 -/
def impl_placeOf.l0 : Nat → Int → List (List Int) → Int → Int → Option (Int × Int)
 | 0,_,_,_,_ => none
 | k + 1,x1,x10,x11,x12 => if x12 < x11 then (if 0 ≤ x12 then (if x12 < (x10.length : Int) then ((slices_Index_int_int.f k (rd_L2 x10 x12) x1).bind fun t690 => (if t690 ≥ 0 then (some (x12,t690)) else (impl_placeOf.l0 k x1 x10 x11 (wrap64 (x12 + 1))))) else (none)) else (none)) else (some ((-1),(-1)))
def impl_placeOf.f (k : Nat) (l0_0 : List (List Int)) (a1 : Int) : Option (Int × Int):=impl_placeOf.l0 k a1 l0_0 (l0_0.length : Int) 0
theorem impl_placeOf.mono_l : ∀ k,(∀ y0 y1 y2 y3,LeO (impl_placeOf.l0 k y0 y1 y2 y3) (impl_placeOf.l0 (k + 1) y0 y1 y2 y3))
 | 0 => fun _ _ _ _ r h => by simp [impl_placeOf.l0] at h
 | k + 1 => by
  have ih0:=impl_placeOf.mono_l k
  ·intro y0 y1 y2 y3
   unfold impl_placeOf.l0
   repeat' first
   | (with_reducible exact ih0 _ _ _ _)
   | (with_reducible exact slices_Index_int_int.mono _ _ _)
   | (with_reducible exact LeO.refl _)
   | (with_reducible exact LeO.none _)
   | (with_reducible refine LeO.ite ?_ ?_)
   | (with_reducible refine LeO.bind ?_ (fun _ => ?_))
   | exact ih0 _ _ _ _
   | exact slices_Index_int_int.mono _ _ _
   | exact LeO.none _
   | refine LeO.ite ?_ ?_
   | refine LeO.bind ?_ (fun _ => ?_)
theorem impl_placeOf.mono : ∀ a0 a1 k,LeO (impl_placeOf.f k a0 a1) (impl_placeOf.f (k + 1) a0 a1):=by
 intro a0 a1 k
 have ih0:=impl_placeOf.mono_l k
 unfold impl_placeOf.f
 repeat' first
   | (with_reducible exact ih0 _ _ _ _)
   | (with_reducible exact slices_Index_int_int.mono _ _ _)
   | (with_reducible exact LeO.refl _)
   | (with_reducible exact LeO.none _)
   | (with_reducible refine LeO.ite ?_ ?_)
   | (with_reducible refine LeO.bind ?_ (fun _ => ?_))
   | exact ih0 _ _ _ _
   | exact slices_Index_int_int.mono _ _ _
   | exact LeO.none _
   | refine LeO.ite ?_ ?_
   | refine LeO.bind ?_ (fun _ => ?_)
set_option maxHeartbeats 8000000 in
set_option maxRecDepth 100000 in
theorem impl_placeOf.calls (k : Nat) (A0_0 : Option Addr) (c0_0 : Nat) (l0_0 : List (List Int)) (a1 : Int) (r1 : Int) (r2 : Int) (w : World) (hr0_0 : Kd.C (Kd.slice 3 (Kd.int .i64)) w A0_0 l0_0.length l0_0) (hc0_0 : l0_0.length ≤ c0_0) (h : impl_placeOf.f k l0_0 a1 = some (r1,r2)) :
  Calls Try.prog 120 #[.agg #[.slice A0_0 l0_0.length c0_0],.int .i64 a1] w fun e w' => e = .returned (.tuple #[.int .i64 r1,.int .i64 r2]) ∧ Below w.heap.size w w':=by
 have hu42:=Try.underlying42
 have HR0_0:=Aside0.mk hr0_0
 have HC0_0:=Aside0.mk hc0_0
 clear hr0_0 hc0_0
 have HB:=Aside0.mk (Below.refl w.heap.size w)
 have H : (impl_placeOf.l0 k a1 l0_0 (l0_0.length : Int) 0) = some (r1,r2):=h
 clear h
 have H':=Aside0.mk H
 clear H
 go_enter Try.func120,Try.ntmps120
 go_wp2_with ((((with_reducible refine gate_dst (N:=2) rfl ?_); refine box_event ?hg (N:=2) ?hd (cs:=#[.slice A0_0 l0_0.length c0_0]) (t:=42) ?hr ?_; (case hd => rfl); (case hg => rfl); (case hr => (go_simp; done)); intro gb688 hg w3 hbox hb; have n0_:=Aside0.mk (below_step (by repeat (((with_reducible (exact HB.out))))) hb); have n1_:=Aside0.mk (hbox); have n2_:=Aside0.mk ((by rw [hg]; exact (below_size (by repeat (((with_reducible (exact HB.out)))))) : w.heap.size ≤ gb688)); have n3_:=Aside0.mk ((by rw [hg]; exact (below_size (by repeat (((with_reducible (exact HB.out)))))) : w.heap.size ≤ gb688)); clear HB; have HB:=n0_; have BK688:=n1_; have GW688:=n2_; have GE688:=n3_; clear n0_ n1_ n2_ n3_; clear hb hbox hg; have hcz4_0 : w3.cell? ⟨gb688,0,none⟩ = some (.slice A0_0 l0_0.length c0_0):=(blk_cell BK688.out 0).trans rfl; have hfz4_0:=blk_frozen BK688.out 0)))
 go_loopg [12] k (fun kq v12 w' => ∃ (x12_1 : Int),v12 = .int .i64 x12_1 ∧ Aside0 (impl_placeOf.l0 kq a1 l0_0 (l0_0.length : Int) x12_1 = some (r1,r2)) ∧ Aside0 (kq ≤ k) ∧ Aside0 (w'.heap[gb688]? = some (.cells #[(.slice A0_0 l0_0.length c0_0)] 42 (0,0))) ∧ Aside0 (Below w.heap.size w w'))
 case atStart => exact ⟨(0),(by (rfl)),H',⟨Nat.le_refl _⟩,⟨by exact BK688.out⟩,⟨by repeat (((with_reducible (exact HB.out))))⟩⟩
 case round =>
  clear H'
  try clear c1
  try clear p2
  try clear hcz4_0
  try clear hfz4_0
  obtain ⟨x12_1,rfl,HA,HK1,BK688,HB⟩:=hrel
  cases gk with
  | zero => exact absurd HA.out (by simp [impl_placeOf.l0])
  | succ k1 =>
   have H:=HA.out
   clear HA
   simp only [impl_placeOf.l0] at H
   by_cases c5 : x12_1 < (l0_0.length : Int)
   ·rw [if_pos c5] at H
    have c5b0 : decide (x12_1 < (l0_0.length : Int)) = true:=decide_eq_true c5
    clear c5
    by_cases c6 : 0 ≤ x12_1
    ·rw [if_pos c6] at H
     have c6b0 : decide (0 ≤ x12_1) = true:=decide_eq_true c6
     clear c6
     by_cases c7 : x12_1 < (l0_0.length : Int)
     ·rw [if_pos c7] at H
      have c7b0 : decide (x12_1 < (l0_0.length : Int)) = true:=decide_eq_true c7
      clear c7
      replace H:=Option.bind_eq_some_iff.mp H
      obtain ⟨t690,A80,H⟩:=H
      replace H : (if t690 ≥ 0 then (some (x12_1,t690)) else (impl_placeOf.l0 k1 a1 l0_0 (l0_0.length : Int) (wrap64 (x12_1 + 1)))) = some (r1,r2):=H
      have A8:=Aside0.mk A80
      clear A80
      by_cases c9 : t690 ≥ 0
      ·rw [if_pos c9] at H
       have c9b0 : decide (0 ≤ t690) = true:=decide_eq_true c9
       clear c9
       simp only [Option.some.injEq,Prod.mk.injEq] at H
       obtain ⟨rfl,rfl⟩:=H
       have p689 : 0 ≤ (x12_1 : Int):=of_decide_eq_true (by (with_reducible assumption))
       have q689 : x12_1 < (l0_0.length : Int):=of_decide_eq_true (by (with_reducible assumption))
       obtain ⟨ad689,A689_0,c689_0,e689,hx689_0,hl689_0,hi689_0⟩:=at_L2 HR0_0.out x12_1 p689 q689
       cases e689
       replace hx689_0:=(HB.out.cell (World.block_lt_of_cell? w _ hx689_0)).trans hx689_0
       have HR689_0:=Aside0.mk hi689_0
       have HC689_0:=Aside0.mk hl689_0
       clear hi689_0 hl689_0
       replace p689:=eq_true p689
       replace q689:=eq_true q689
       go_wp2_with ((((with_reducible refine gate_callee (f:=164) rfl ?_); refine goesL_ (some 19) rfl rfl Try.func164 (by kernel_rfl) rfl #[.slice A689_0 (rd_L2 l0_0 x12_1).length c689_0,.int .i64 a1] rfl (by (try simp only [List.map_toArray,List.map_cons,List.map_nil]); (rfl)) ?_; (with_reducible refine (slices_Index_int_int.calls k1 _ _ (rd_L2 l0_0 x12_1) a1 t690 _ ?side1 ?side2 A8.out).mono ?_); (case side1 => repeat ((exact (Kd.C_below HR689_0.out HB.out)))); (case side2 => exact HC689_0.out); rintro e w' ⟨rfl,⟨nd,rfl⟩⟩; refine ⟨_,rfl,?_⟩)))
       go_ret2
       exact ⟨by (rfl),by repeat (with_reducible first|exact HB.out|apply pw_below_drewN)⟩
      ·rw [if_neg c9] at H
       have c9b0 : decide (0 ≤ t690) = false:=decide_eq_false c9
       clear c9
       have H':=Aside0.mk H
       clear H
       have p689 : 0 ≤ (x12_1 : Int):=of_decide_eq_true (by (with_reducible assumption))
       have q689 : x12_1 < (l0_0.length : Int):=of_decide_eq_true (by (with_reducible assumption))
       obtain ⟨ad689,A689_0,c689_0,e689,hx689_0,hl689_0,hi689_0⟩:=at_L2 HR0_0.out x12_1 p689 q689
       cases e689
       replace hx689_0:=(HB.out.cell (World.block_lt_of_cell? w _ hx689_0)).trans hx689_0
       have HR689_0:=Aside0.mk hi689_0
       have HC689_0:=Aside0.mk hl689_0
       clear hi689_0 hl689_0
       replace p689:=eq_true p689
       replace q689:=eq_true q689
       go_wp2_with ((((with_reducible refine gate_callee (f:=164) rfl ?_); refine goesL_ (some 19) rfl rfl Try.func164 (by kernel_rfl) rfl #[.slice A689_0 (rd_L2 l0_0 x12_1).length c689_0,.int .i64 a1] rfl (by (try simp only [List.map_toArray,List.map_cons,List.map_nil]); (rfl)) ?_; (with_reducible refine (slices_Index_int_int.calls k1 _ _ (rd_L2 l0_0 x12_1) a1 t690 _ ?side1 ?side2 A8.out).mono ?_); (case side1 => repeat ((exact (Kd.C_below HR689_0.out HB.out)))); (case side2 => exact HC689_0.out); rintro e w' ⟨rfl,⟨nd,rfl⟩⟩; refine ⟨_,rfl,?_⟩)))
       go_roundg k1
       case measure => have:=HK1.out; omega
       case rel => exact ⟨(wrap64 (x12_1 + 1)),(by (rfl)),H',⟨by have:=HK1.out; omega⟩,⟨by (with_reducible repeat (refine blk_drewN ?_ _)); exact BK688.out⟩,⟨by repeat (with_reducible first|exact HB.out|apply pw_below_drewN)⟩⟩
     ·rw [if_neg c7] at H
      exact absurd H (by simp)
    ·rw [if_neg c6] at H
     exact absurd H (by simp)
   ·rw [if_neg c5] at H
    have c5b0 : decide (x12_1 < (l0_0.length : Int)) = false:=decide_eq_false c5
    clear c5
    simp only [Option.some.injEq,Prod.mk.injEq] at H
    obtain ⟨rfl,rfl⟩:=H
    go_wp2
    go_ret2
    exact ⟨by (rfl),by repeat (((with_reducible (exact HB.out))))⟩

/-! ### spec_l5Find: function 142 -/
mutual
def spec_l5Find.l0 : Nat → Int → Int → List (List Int) → Option (Int × Int)
 | 0,_,_,_ => none
 | k + 1,x1,x6,x783000 => if x6 < (x783000.length : Int) then (spec_l5Find.l1 k x1 x6 0 x783000) else (some ((-1),(-1)))
def spec_l5Find.l1 : Nat → Int → Int → Int → List (List Int) → Option (Int × Int)
 | 0,_,_,_,_ => none
 | k + 1,x1,x6,x7,x783000 => if 0 ≤ x6 then (if x6 < (x783000.length : Int) then (if x7 < ((rd_L2 x783000 x6).length : Int) then (if 0 ≤ x7 then (if (rd (rd_L2 x783000 x6) x7) = x1 then (some (x6,x7)) else (spec_l5Find.l1 k x1 x6 (wrap64 (x7 + 1)) x783000)) else (none)) else (spec_l5Find.l0 k x1 (wrap64 (x6 + 1)) x783000)) else (none)) else (none)
end
def spec_l5Find.f (k : Nat) (l0_0 : List (List Int)) (a1 : Int) : Option (Int × Int):=spec_l5Find.l0 k a1 0 l0_0
theorem spec_l5Find.mono_l : ∀ k,(∀ y0 y1 y2,LeO (spec_l5Find.l0 k y0 y1 y2) (spec_l5Find.l0 (k + 1) y0 y1 y2)) ∧ (∀ y0 y1 y2 y3,LeO (spec_l5Find.l1 k y0 y1 y2 y3) (spec_l5Find.l1 (k + 1) y0 y1 y2 y3))
 | 0 => ⟨fun _ _ _ r h => by simp [spec_l5Find.l0] at h,fun _ _ _ _ r h => by simp [spec_l5Find.l1] at h⟩
 | k + 1 => by
  obtain ⟨ih0,ih1⟩:=spec_l5Find.mono_l k
  refine ⟨?_,?_⟩
  ·intro y0 y1 y2
   unfold spec_l5Find.l0
   repeat' first
   | (with_reducible exact ih0 _ _ _)
   | (with_reducible exact ih1 _ _ _ _)
   | (with_reducible exact LeO.refl _)
   | (with_reducible exact LeO.none _)
   | (with_reducible refine LeO.ite ?_ ?_)
   | (with_reducible refine LeO.bind ?_ (fun _ => ?_))
   | exact ih0 _ _ _
   | exact ih1 _ _ _ _
   | exact LeO.none _
   | refine LeO.ite ?_ ?_
   | refine LeO.bind ?_ (fun _ => ?_)
  ·intro y0 y1 y2 y3
   unfold spec_l5Find.l1
   repeat' first
   | (with_reducible exact ih0 _ _ _)
   | (with_reducible exact ih1 _ _ _ _)
   | (with_reducible exact LeO.refl _)
   | (with_reducible exact LeO.none _)
   | (with_reducible refine LeO.ite ?_ ?_)
   | (with_reducible refine LeO.bind ?_ (fun _ => ?_))
   | exact ih0 _ _ _
   | exact ih1 _ _ _ _
   | exact LeO.none _
   | refine LeO.ite ?_ ?_
   | refine LeO.bind ?_ (fun _ => ?_)
theorem spec_l5Find.mono : ∀ a0 a1 k,LeO (spec_l5Find.f k a0 a1) (spec_l5Find.f (k + 1) a0 a1):=by
 intro a0 a1 k
 obtain ⟨ih0,ih1⟩:=spec_l5Find.mono_l k
 unfold spec_l5Find.f
 repeat' first
   | (with_reducible exact ih0 _ _ _)
   | (with_reducible exact ih1 _ _ _ _)
   | (with_reducible exact LeO.refl _)
   | (with_reducible exact LeO.none _)
   | (with_reducible refine LeO.ite ?_ ?_)
   | (with_reducible refine LeO.bind ?_ (fun _ => ?_))
   | exact ih0 _ _ _
   | exact ih1 _ _ _ _
   | exact LeO.none _
   | refine LeO.ite ?_ ?_
   | refine LeO.bind ?_ (fun _ => ?_)
set_option maxHeartbeats 8000000 in
set_option maxRecDepth 100000 in
theorem spec_l5Find.calls (k : Nat) (A0_0 : Option Addr) (c0_0 : Nat) (l0_0 : List (List Int)) (a1 : Int) (r1 : Int) (r2 : Int) (w : World) (hr0_0 : Kd.C (Kd.slice 3 (Kd.int .i64)) w A0_0 l0_0.length l0_0) (hc0_0 : l0_0.length ≤ c0_0) (h : spec_l5Find.f k l0_0 a1 = some (r1,r2)) :
  Calls Try.prog 142 #[.agg #[.slice A0_0 l0_0.length c0_0],.int .i64 a1] w fun e w' => e = .returned (.tuple #[.int .i64 r1,.int .i64 r2]) ∧ Below w.heap.size w w':=by
 have hu42:=Try.underlying42
 have HR0_0:=Aside0.mk hr0_0
 have HC0_0:=Aside0.mk hc0_0
 clear hr0_0 hc0_0
 have HB:=Aside0.mk (Below.refl w.heap.size w)
 have H : (spec_l5Find.l0 k a1 0 l0_0) = some (r1,r2):=h
 clear h
 have H':=Aside0.mk H
 clear H
 go_enter Try.func142,Try.ntmps142
 go_wp2_with ((((with_reducible refine gate_dst (N:=2) rfl ?_); refine box_event ?hg (N:=2) ?hd (cs:=#[.slice A0_0 l0_0.length c0_0]) (t:=42) ?hr ?_; (case hd => rfl); (case hg => rfl); (case hr => (go_simp; done)); intro gb782 hg w3 hbox hb; have n0_:=Aside0.mk (below_step (by repeat (((with_reducible (exact HB.out))))) hb); have n1_:=Aside0.mk (hbox); have n2_:=Aside0.mk ((by rw [hg]; exact (below_size (by repeat (((with_reducible (exact HB.out)))))) : w.heap.size ≤ gb782)); have n3_:=Aside0.mk ((by rw [hg]; exact (below_size (by repeat (((with_reducible (exact HB.out)))))) : w.heap.size ≤ gb782)); clear HB; have HB:=n0_; have BK782:=n1_; have GW782:=n2_; have GE782:=n3_; clear n0_ n1_ n2_ n3_; clear hb hbox hg)))
 go_loopg [6] k (fun kq v6 w' => ∃ (x6_1 : Int),v6 = .int .i64 x6_1 ∧ Aside0 (spec_l5Find.l0 kq a1 x6_1 l0_0 = some (r1,r2)) ∧ Aside0 (kq ≤ k) ∧ Aside0 (w'.heap[gb782]? = some (.cells #[(.slice A0_0 l0_0.length c0_0)] 42 (0,0))) ∧ Aside0 (Below w.heap.size w w'))
 case atStart => exact ⟨(0),(by (rfl)),H',⟨Nat.le_refl _⟩,⟨by exact BK782.out⟩,⟨by repeat (((with_reducible (exact HB.out))))⟩⟩
 case round =>
  clear H'
  try clear c1
  try clear p2
  obtain ⟨x6_1,rfl,HA,HK1,BK782,HB⟩:=hrel
  cases gk with
  | zero => exact absurd HA.out (by simp [spec_l5Find.l0])
  | succ k1 =>
   have H:=HA.out
   clear HA
   simp only [spec_l5Find.l0] at H
   by_cases c4 : x6_1 < (l0_0.length : Int)
   ·rw [if_pos c4] at H
    have c4b0 : decide (x6_1 < (l0_0.length : Int)) = true:=decide_eq_true c4
    clear c4
    have H':=Aside0.mk H
    clear H
    have hcz5_0 : wr.cell? ⟨gb782,0,none⟩ = some (.slice A0_0 l0_0.length c0_0):=(blk_cell BK782.out 0).trans rfl
    have hfz5_0:=blk_frozen BK782.out 0
    go_wp2
    go_loopg [7] k1 (fun kq v7 w' => ∃ (x7_2 : Int),v7 = .int .i64 x7_2 ∧ Aside0 (spec_l5Find.l1 kq a1 x6_1 x7_2 l0_0 = some (r1,r2)) ∧ Aside0 (kq ≤ k1) ∧ Aside0 (w'.heap[gb782]? = some (.cells #[(.slice A0_0 l0_0.length c0_0)] 42 (0,0))) ∧ Aside0 (Below w.heap.size w w'))
    case atStart => exact ⟨(0),(by (rfl)),H',⟨Nat.le_refl _⟩,⟨by exact BK782.out⟩,⟨by repeat (((with_reducible (exact HB.out))))⟩⟩
    case round =>
     clear H'
     try clear c1
     try clear p2
     try clear c4
     try clear c4b0
     try clear hcz5_0
     try clear hfz5_0
     try clear p2
     obtain ⟨x7_2,rfl,HA,HK2,BK782,HB⟩:=hrel
     cases gk with
     | zero => exact absurd HA.out (by simp [spec_l5Find.l1])
     | succ k2 =>
      have H:=HA.out
      clear HA
      simp only [spec_l5Find.l1] at H
      by_cases c6 : 0 ≤ x6_1
      ·rw [if_pos c6] at H
       have c6b0 : decide (0 ≤ x6_1) = true:=decide_eq_true c6
       clear c6
       by_cases c7 : x6_1 < (l0_0.length : Int)
       ·rw [if_pos c7] at H
        have c7b0 : decide (x6_1 < (l0_0.length : Int)) = true:=decide_eq_true c7
        clear c7
        by_cases c8 : x7_2 < ((rd_L2 l0_0 x6_1).length : Int)
        ·rw [if_pos c8] at H
         have c8b0 : decide (x7_2 < ((rd_L2 l0_0 x6_1).length : Int)) = true:=decide_eq_true c8
         clear c8
         by_cases c9 : 0 ≤ x7_2
         ·rw [if_pos c9] at H
          have c9b0 : decide (0 ≤ x7_2) = true:=decide_eq_true c9
          clear c9
          by_cases c10 : (rd (rd_L2 l0_0 x6_1) x7_2) = a1
          ·rw [if_pos c10] at H
           have c10b0 : ((rd (rd_L2 l0_0 x6_1) x7_2) == a1) = true:=beq_iff_eq.mpr c10
           have c10b1 : ((rd (rd_L2 l0_0 x6_1) x7_2) != a1) = false:=bne_eq_false_iff_eq.mpr c10
           clear c10
           simp only [Option.some.injEq,Prod.mk.injEq] at H
           obtain ⟨rfl,rfl⟩:=H
           have hcz11_0 : wr.cell? ⟨gb782,0,none⟩ = some (.slice A0_0 l0_0.length c0_0):=(blk_cell BK782.out 0).trans rfl
           have hfz11_0:=blk_frozen BK782.out 0
           have p783 : 0 ≤ (x6_1 : Int):=of_decide_eq_true (by (with_reducible assumption))
           have q783 : x6_1 < (l0_0.length : Int):=of_decide_eq_true (by (with_reducible assumption))
           obtain ⟨ad783,A783_0,c783_0,e783,hx783_0,hl783_0,hi783_0⟩:=at_L2 HR0_0.out x6_1 p783 q783
           cases e783
           replace hx783_0:=(HB.out.cell (World.block_lt_of_cell? w _ hx783_0)).trans hx783_0
           have HR783_0:=Aside0.mk hi783_0
           have HC783_0:=Aside0.mk hl783_0
           clear hi783_0 hl783_0
           replace p783:=eq_true p783
           replace q783:=eq_true q783
           have p784 : 0 ≤ (x6_1 : Int):=of_decide_eq_true (by (with_reducible assumption))
           have q784 : x6_1 < (l0_0.length : Int):=of_decide_eq_true (by (with_reducible assumption))
           obtain ⟨ad784,A784_0,c784_0,e784,hx784_0,hl784_0,hi784_0⟩:=at_L2 HR0_0.out x6_1 p784 q784
           obtain rfl : ad783 = ad784:=(by injection e784)
           replace hx784_0:=(HB.out.cell (World.block_lt_of_cell? w _ hx784_0)).trans hx784_0
           have HR784_0:=Aside0.mk hi784_0
           have HC784_0:=Aside0.mk hl784_0
           clear hi784_0 hl784_0
           replace p784:=eq_true p784
           replace q784:=eq_true q784
           have ea_:=Option.some.inj (hx783_0.symm.trans hx784_0)
           injection ea_ with ea_ en_ ec_
           subst ea_
           subst ec_
           clear en_
           have p785 : 0 ≤ (x7_2 : Int):=of_decide_eq_true (by (with_reducible assumption))
           have q785 : x7_2 < ((rd_L2 l0_0 x6_1).length : Int):=of_decide_eq_true (by (with_reducible assumption))
           obtain ⟨ad785,e785,hx785_0⟩:=Kd.at_int HR784_0.out x7_2 p785 q785
           cases e785
           replace hx785_0:=(HB.out.cell (World.block_lt_of_cell? w _ hx785_0)).trans hx785_0
           replace p785:=eq_true p785
           replace q785:=eq_true q785
           go_wp2
           go_ret2
           exact ⟨by (rfl),by repeat (((with_reducible (exact HB.out))))⟩
          ·rw [if_neg c10] at H
           have c10b0 : ((rd (rd_L2 l0_0 x6_1) x7_2) == a1) = false:=beq_eq_false_iff_ne.mpr c10
           have c10b1 : ((rd (rd_L2 l0_0 x6_1) x7_2) != a1) = true:=bne_iff_ne.mpr c10
           have H':=Aside0.mk H
           clear H
           have hcz12_0 : wr.cell? ⟨gb782,0,none⟩ = some (.slice A0_0 l0_0.length c0_0):=(blk_cell BK782.out 0).trans rfl
           have hfz12_0:=blk_frozen BK782.out 0
           have p783 : 0 ≤ (x6_1 : Int):=of_decide_eq_true (by (with_reducible assumption))
           have q783 : x6_1 < (l0_0.length : Int):=of_decide_eq_true (by (with_reducible assumption))
           obtain ⟨ad783,A783_0,c783_0,e783,hx783_0,hl783_0,hi783_0⟩:=at_L2 HR0_0.out x6_1 p783 q783
           cases e783
           replace hx783_0:=(HB.out.cell (World.block_lt_of_cell? w _ hx783_0)).trans hx783_0
           have HR783_0:=Aside0.mk hi783_0
           have HC783_0:=Aside0.mk hl783_0
           clear hi783_0 hl783_0
           replace p783:=eq_true p783
           replace q783:=eq_true q783
           have p784 : 0 ≤ (x6_1 : Int):=of_decide_eq_true (by (with_reducible assumption))
           have q784 : x6_1 < (l0_0.length : Int):=of_decide_eq_true (by (with_reducible assumption))
           obtain ⟨ad784,A784_0,c784_0,e784,hx784_0,hl784_0,hi784_0⟩:=at_L2 HR0_0.out x6_1 p784 q784
           obtain rfl : ad783 = ad784:=(by injection e784)
           replace hx784_0:=(HB.out.cell (World.block_lt_of_cell? w _ hx784_0)).trans hx784_0
           have HR784_0:=Aside0.mk hi784_0
           have HC784_0:=Aside0.mk hl784_0
           clear hi784_0 hl784_0
           replace p784:=eq_true p784
           replace q784:=eq_true q784
           have ea_:=Option.some.inj (hx783_0.symm.trans hx784_0)
           injection ea_ with ea_ en_ ec_
           subst ea_
           subst ec_
           clear en_
           have p785 : 0 ≤ (x7_2 : Int):=of_decide_eq_true (by (with_reducible assumption))
           have q785 : x7_2 < ((rd_L2 l0_0 x6_1).length : Int):=of_decide_eq_true (by (with_reducible assumption))
           obtain ⟨ad785,e785,hx785_0⟩:=Kd.at_int HR784_0.out x7_2 p785 q785
           cases e785
           replace hx785_0:=(HB.out.cell (World.block_lt_of_cell? w _ hx785_0)).trans hx785_0
           replace p785:=eq_true p785
           replace q785:=eq_true q785
           go_wp2
           go_roundg k2
           case measure => have:=HK1.out; have:=HK2.out; omega
           case rel => exact ⟨(wrap64 (x7_2 + 1)),(by (rfl)),H',⟨by have:=HK1.out; have:=HK2.out; omega⟩,⟨by exact BK782.out⟩,⟨by repeat (((with_reducible (exact HB.out))))⟩⟩
         ·rw [if_neg c9] at H
          exact absurd H (by simp)
        ·rw [if_neg c8] at H
         have c8b0 : decide (x7_2 < ((rd_L2 l0_0 x6_1).length : Int)) = false:=decide_eq_false c8
         clear c8
         have H':=Aside0.mk H
         clear H
         have hcz13_0 : wr.cell? ⟨gb782,0,none⟩ = some (.slice A0_0 l0_0.length c0_0):=(blk_cell BK782.out 0).trans rfl
         have hfz13_0:=blk_frozen BK782.out 0
         have p783 : 0 ≤ (x6_1 : Int):=of_decide_eq_true (by (with_reducible assumption))
         have q783 : x6_1 < (l0_0.length : Int):=of_decide_eq_true (by (with_reducible assumption))
         obtain ⟨ad783,A783_0,c783_0,e783,hx783_0,hl783_0,hi783_0⟩:=at_L2 HR0_0.out x6_1 p783 q783
         cases e783
         replace hx783_0:=(HB.out.cell (World.block_lt_of_cell? w _ hx783_0)).trans hx783_0
         have HR783_0:=Aside0.mk hi783_0
         have HC783_0:=Aside0.mk hl783_0
         clear hi783_0 hl783_0
         replace p783:=eq_true p783
         replace q783:=eq_true q783
         go_wp2
         go_roundg k2
         case measure => have:=HK1.out; have:=HK2.out; omega
         case rel => exact ⟨(wrap64 (x6_1 + 1)),(by (rfl)),H',⟨by have:=HK1.out; have:=HK2.out; omega⟩,⟨by exact BK782.out⟩,⟨by repeat (((with_reducible (exact HB.out))))⟩⟩
       ·rw [if_neg c7] at H
        exact absurd H (by simp)
      ·rw [if_neg c6] at H
       exact absurd H (by simp)
   ·rw [if_neg c4] at H
    have c4b0 : decide (x6_1 < (l0_0.length : Int)) = false:=decide_eq_false c4
    clear c4
    simp only [Option.some.injEq,Prod.mk.injEq] at H
    obtain ⟨rfl,rfl⟩:=H
    have hcz14_0 : wr.cell? ⟨gb782,0,none⟩ = some (.slice A0_0 l0_0.length c0_0):=(blk_cell BK782.out 0).trans rfl
    have hfz14_0:=blk_frozen BK782.out 0
    go_wp2
    go_ret2
    exact ⟨by (rfl),by repeat (((with_reducible (exact HB.out))))⟩

end Go.Proofs.Ytlldonokjgoajaa.X
