-- Written by a program of ours (wip/bin/xprint.py,over the kit's print.py) out of the translation. Not trusted: Lean checks it.
import Derived.Test.YtfindomajbjacaaGreatDoorX0
import Derived.Test.YtfindomajbjacaaGreatDoorFbCur
import Derived.Test.YtfindomajbjacaaGreatDoorFbTurn
import Derived.Test.YtfindomajbjacaaGreatDoorFspecl1CuranyRotation
import Derived.Test.YtfindomajbjacaaGreatDoorGl3Good
namespace Go.Proofs.YtfindomajbjacaaGreatDoor.X
open Go.RowKit Go.Proofs.YtfindomajbjacaaGreatDoorW.PrintWords Go.Proofs.YtfindomajbjacaaGreatDoorW.PrintLast Go.Proofs.YtfindomajbjacaaGreatDoorW.PrintMore
attribute [local go_sem] max2_int min2_int max_two min_two max_three min_three max_four min_four   -- for this text's walks alone
set_option linter.unusedVariables false
set_option linter.unusedSimpArgs false

/-! ### spec_DrawSameCycle: function 16 -/
mutual
def spec_DrawSameCycle.j0 : Nat → Bool → List Int → Int → Int → List Int → List Int → Option (List Int × List Int × List Int × List Int)
 | 0,_,_,_,_,_,_ => none
 | k + 1,x18,x357000,x357001,x357002,x366000,x366001 => if x18 = true then ((spec_l1Cur_pick.f x357000 x357001 x357002 (x366000.length : Int)).bind fun bt370 => ((spec_l3Turn.f x366000 x366001 bt370.1).bind fun bt373 => ((spec_l1Cur_one.f x357000 bt370.2.1 bt370.2.2 3).bind fun bt380 => (if bt380.1 = true then ((spec_l1Cur_among.f x357000 bt380.2.1 bt380.2.2 ([1,2,3] : List Int)).bind fun bt386 => (if 0 < (bt373.2.length : Int) then (spec_DrawSameCycle.j1 k x366000 x366001 bt373.1 (bt373.2.set (0 : Int).toNat bt386.1)) else (none))) else (spec_DrawSameCycle.j1 k x366000 x366001 bt373.1 bt373.2))))) else ((spec_l1Cur_anyRotation.f k x357000 x357001 x357002).bind fun bt390 => (some (x366000,x366001,bt390.1,bt390.2.1)))
def spec_DrawSameCycle.j1 : Nat → List Int → List Int → List Int → List Int → Option (List Int × List Int × List Int × List Int)
 | 0,_,_,_,_ => none
 | k + 1,x366000,x366001,x380000,x380001 => some (x366000,x366001,x380000,x380001)
end
def spec_DrawSameCycle.f (k : Nat) (l0 : List Int) : Option (List Int × List Int × List Int × List Int):=(spec_l1Cur_anyRotation.f k l0 0 0).bind fun bt357 => ((spec_l3Good.f k bt357.1 bt357.2.1).bind fun t366 => (if t366 = true then ((spec_l1Cur_one.f l0 bt357.2.2.1 bt357.2.2.2 3).bind fun bt367 => (spec_DrawSameCycle.j0 k (!bt367.1) l0 bt367.2.1 bt367.2.2 bt357.1 bt357.2.1)) else (spec_DrawSameCycle.j0 k false l0 bt357.2.2.1 bt357.2.2.2 bt357.1 bt357.2.1)))
theorem spec_DrawSameCycle.mono_l : ∀ k,(∀ y0 y1 y2 y3 y4 y5,LeO (spec_DrawSameCycle.j0 k y0 y1 y2 y3 y4 y5) (spec_DrawSameCycle.j0 (k + 1) y0 y1 y2 y3 y4 y5)) ∧ (∀ y0 y1 y2 y3,LeO (spec_DrawSameCycle.j1 k y0 y1 y2 y3) (spec_DrawSameCycle.j1 (k + 1) y0 y1 y2 y3))
 | 0 => ⟨fun _ _ _ _ _ _ r h => by simp [spec_DrawSameCycle.j0] at h,fun _ _ _ _ r h => by simp [spec_DrawSameCycle.j1] at h⟩
 | k + 1 => by
  obtain ⟨ih0,ih1⟩:=spec_DrawSameCycle.mono_l k
  refine ⟨?_,?_⟩ <;> intros <;> first | unfold spec_DrawSameCycle.j0 | unfold spec_DrawSameCycle.j1
  all_goals repeat' first | (with_reducible exact ih0 _ _ _ _ _ _) | (with_reducible exact ih1 _ _ _ _) | (with_reducible exact spec_l1Cur_anyRotation.mono _ _ _ _) | (with_reducible exact spec_l3Good.mono _ _ _) | (with_reducible exact LeO.refl _) | (with_reducible exact LeO.none _) | (with_reducible refine LeO.ite ?_ ?_) | (with_reducible refine LeO.bind ?_ (fun _ => ?_)) | exact ih0 _ _ _ _ _ _ | exact ih1 _ _ _ _ | refine LeO.ite ?_ ?_ | refine LeO.bind ?_ (fun _ => ?_)
theorem spec_DrawSameCycle.mono : ∀ a0 k,LeO (spec_DrawSameCycle.f k a0) (spec_DrawSameCycle.f (k + 1) a0):=by
 intro a0 k
 obtain ⟨ih0,ih1⟩:=spec_DrawSameCycle.mono_l k
 unfold spec_DrawSameCycle.f
 repeat' first
   | (with_reducible exact ih0 _ _ _ _ _ _)
   | (with_reducible exact ih1 _ _ _ _)
   | (with_reducible exact spec_l1Cur_anyRotation.mono _ _ _ _)
   | (with_reducible exact spec_l3Good.mono _ _ _)
   | (with_reducible exact LeO.refl _)
   | (with_reducible exact LeO.none _)
   | (with_reducible refine LeO.ite ?_ ?_)
   | (with_reducible refine LeO.bind ?_ (fun _ => ?_))
   | exact ih0 _ _ _ _ _ _
   | exact ih1 _ _ _ _
   | exact spec_l1Cur_anyRotation.mono _ _ _ _
   | exact spec_l3Good.mono _ _ _
   | exact LeO.none _
   | refine LeO.ite ?_ ?_
   | refine LeO.bind ?_ (fun _ => ?_)
def spec_DrawSameCycle.T4 : Bool × List (List Nat × List Nat):=(true,[([],[]),([],[]),([],[]),([2],[2]),([3],[3]),([1,4],[1,4]),([0,5,5],[0,5]),([],[]),([7,6,6,0,1,2,3,4,5,6,7],[6,7])])
def spec_DrawSameCycle.B4 : List Nat:=[0,0,0,4,12,30,63,0,255]
theorem spec_DrawSameCycle.tab4 : rtab .any (opsOf Tryz.f16 4) = spec_DrawSameCycle.T4:=by kernel_rfl
theorem spec_DrawSameCycle.bits4 : waitsOk spec_DrawSameCycle.T4.2 spec_DrawSameCycle.B4 = true:=by kernel_rfl
set_option maxHeartbeats 8000000 in
set_option maxRecDepth 100000 in
theorem spec_DrawSameCycle.calls (k : Nat) (A0 : Option Addr) (c0 : Nat) (l0 : List Int) (r1 : List Int) (r2 : List Int) (r3 : List Int) (r4 : List Int) (w : World) (hr0 : Kd.C (Kd.int .u8) w A0 l0.length l0) (hc0 : l0.length ≤ c0) (h : spec_DrawSameCycle.f k l0 = some (r1,r2,r3,r4)) :
  Calls Tryz.prog 16 #[.slice A0 l0.length c0] w fun e w' => ∃ v0_ v1_ v2_ v3_ : Value,e = .returned (.tuple #[.agg #[v0_,v1_],.agg #[v2_,v3_]]) ∧ Kd.R (Kd.int .i64) 3 w' w.heap.size (fun k_ => some k_ ≠ (v1_ : Value).ownBlock ∧ some k_ ≠ (v2_ : Value).ownBlock ∧ some k_ ≠ (v3_ : Value).ownBlock) v0_ r1 ∧ Kd.Q (Kd.int .i64) 3 w' w.heap.size (fun k_ => some k_ ≠ (v0_ : Value).ownBlock ∧ some k_ ≠ (v2_ : Value).ownBlock ∧ some k_ ≠ (v3_ : Value).ownBlock) v1_ r2 ∧ Kd.R (Kd.int .i64) 3 w' w.heap.size (fun k_ => some k_ ≠ (v0_ : Value).ownBlock ∧ some k_ ≠ (v1_ : Value).ownBlock ∧ some k_ ≠ (v3_ : Value).ownBlock) v2_ r3 ∧ Kd.Q (Kd.int .i64) 3 w' w.heap.size (fun k_ => some k_ ≠ (v0_ : Value).ownBlock ∧ some k_ ≠ (v1_ : Value).ownBlock ∧ some k_ ≠ (v2_ : Value).ownBlock) v3_ r4 ∧ Below w.heap.size w w':=by
 have hu26:=Tryz.underlying26
 have hu69:=Tryz.underlying69
 have HR0:=Aside0.mk hr0
 have HC0:=Aside0.mk hc0
 clear hr0 hc0
 have HB:=Aside0.mk (Below.refl w.heap.size w)
 have H : ((spec_l1Cur_anyRotation.f k l0 0 0).bind fun bt357 => ((spec_l3Good.f k bt357.1 bt357.2.1).bind fun t366 => (if t366 = true then ((spec_l1Cur_one.f l0 bt357.2.2.1 bt357.2.2.2 3).bind fun bt367 => (spec_DrawSameCycle.j0 k (!bt367.1) l0 bt367.2.1 bt367.2.2 bt357.1 bt357.2.1)) else (spec_DrawSameCycle.j0 k false l0 bt357.2.2.1 bt357.2.2.2 bt357.1 bt357.2.1)))) = some (r1,r2,r3,r4):=h
 clear h
 replace H:=Option.bind_eq_some_iff.mp H
 obtain ⟨⟨t357,t360,t363,t364⟩,A20,H⟩:=H
 replace H : ((spec_l3Good.f k t357 t360).bind fun t366 => (if t366 = true then ((spec_l1Cur_one.f l0 t363 t364 3).bind fun bt367 => (spec_DrawSameCycle.j0 k (!bt367.1) l0 bt367.2.1 bt367.2.2 t357 t360)) else (spec_DrawSameCycle.j0 k false l0 t363 t364 t357 t360))) = some (r1,r2,r3,r4):=H
 have A2:=Aside0.mk A20
 clear A20
 have HC3:=Aside0.mk H
 clear H
 go_enter Tryz.func16,Tryz.ntmps16
 go_upto_region 3 with (first|((with_reducible refine gate_dst (N:=2) rfl ?_); refine box_event ?hg (N:=2) ?hd (cs:=#[.slice none 0 0,.slice none 0 0]) (t:=26) ?hr ?_; (case hd => rfl); (case hg => rfl); (case hr => (go_simp; done)); intro gb354 hg w4 hbox hb; have n0_:=Aside0.mk (below_step (by repeat (((with_reducible (exact HB.out))))) hb); have n1_:=Aside0.mk (hbox); have n2_:=Aside0.mk ((by rw [hg]; exact (below_size (by repeat (((with_reducible (exact HB.out)))))) : w.heap.size ≤ gb354)); have n3_:=Aside0.mk ((by rw [hg]; exact (below_size (by repeat (((with_reducible (exact HB.out)))))) : w.heap.size ≤ gb354)); clear HB; have HB:=n0_; have BK354:=n1_; have GW354:=n2_; have GE354:=n3_; clear n0_ n1_ n2_ n3_; clear hb hbox hg)|((with_reducible refine gate_dst (N:=3) rfl ?_); refine box_event ?hg (N:=3) ?hd (cs:=#[.slice none 0 0,.slice none 0 0]) (t:=26) ?hr ?_; (case hd => rfl); (case hg => rfl); (case hr => (go_simp; done)); intro gb355 hg w5 hbox hb; have n0_:=Aside0.mk (blk_below (g:=gb354) (o:=.cells #[.slice none 0 0,.slice none 0 0] 26 (0,0)) (by exact BK354.out) hb); have n1_:=Aside0.mk (below_step (by repeat (((with_reducible (exact HB.out))))) hb); have n2_:=Aside0.mk (hbox); have n3_:=Aside0.mk ((by rw [hg]; exact (below_size (by repeat (((with_reducible (exact HB.out)))))) : w.heap.size ≤ gb355)); have n4_:=Aside0.mk ((by rw [hg]; exact (below_size (by repeat (((with_reducible (exact HB.out)))))) : w.heap.size ≤ gb355)); have n5_:=Aside0.mk ((by rw [hg]; exact Nat.ne_of_lt (blk_lt (g:=gb354) (o:=.cells #[.slice none 0 0,.slice none 0 0] 26 (0,0)) (by exact BK354.out)) : gb354 ≠ gb355)); have n6_:=Aside0.mk ((by rw [hg]; exact Nat.ne_of_gt (blk_lt (g:=gb354) (o:=.cells #[.slice none 0 0,.slice none 0 0] 26 (0,0)) (by exact BK354.out)) : gb355 ≠ gb354)); clear BK354; clear HB; have BK354:=n0_; have HB:=n1_; have BK355:=n2_; have GW355:=n3_; have GE355:=n4_; have NB354_355:=n5_; have NB355_354:=n6_; clear n0_ n1_ n2_ n3_ n4_ n5_ n6_; clear hb hbox hg)|((with_reducible refine gate_dst (N:=9) rfl ?_); refine box_event ?hg (N:=9) ?hd (cs:=#[.slice A0 l0.length c0,.int .i64 0,.int .u64 0]) (t:=69) ?hr ?_; (case hd => rfl); (case hg => rfl); (case hr => (go_simp; done)); intro gb356 hg w6 hbox hb; have n0_:=Aside0.mk (blk_below (g:=gb354) (o:=.cells #[.slice none 0 0,.slice none 0 0] 26 (0,0)) (by exact BK354.out) hb); have n1_:=Aside0.mk (blk_below (g:=gb355) (o:=.cells #[.slice none 0 0,.slice none 0 0] 26 (0,0)) (by exact BK355.out) hb); have n2_:=Aside0.mk (below_step (by repeat (((with_reducible (exact HB.out))))) hb); have n3_:=Aside0.mk ((show IsS69 w w6 gb356 l0 0 0 from ⟨_,_,hbox,(by rw [hg]; exact (below_size (by repeat (((with_reducible (exact HB.out))))))),HR0.out⟩)); have n4_:=Aside0.mk ((by rw [hg]; exact Nat.ne_of_lt (blk_lt (g:=gb354) (o:=.cells #[.slice none 0 0,.slice none 0 0] 26 (0,0)) (by exact BK354.out)) : gb354 ≠ gb356)); have n5_:=Aside0.mk ((by rw [hg]; exact Nat.ne_of_gt (blk_lt (g:=gb354) (o:=.cells #[.slice none 0 0,.slice none 0 0] 26 (0,0)) (by exact BK354.out)) : gb356 ≠ gb354)); have n6_:=Aside0.mk ((by rw [hg]; exact Nat.ne_of_lt (blk_lt (g:=gb355) (o:=.cells #[.slice none 0 0,.slice none 0 0] 26 (0,0)) (by exact BK355.out)) : gb355 ≠ gb356)); have n7_:=Aside0.mk ((by rw [hg]; exact Nat.ne_of_gt (blk_lt (g:=gb355) (o:=.cells #[.slice none 0 0,.slice none 0 0] 26 (0,0)) (by exact BK355.out)) : gb356 ≠ gb355)); clear BK354; clear BK355; clear HB; have BK354:=n0_; have BK355:=n1_; have HB:=n2_; have HI356:=n3_; have NB354_356:=n4_; have NB356_354:=n5_; have NB355_356:=n6_; have NB356_355:=n7_; clear n0_ n1_ n2_ n3_ n4_ n5_ n6_ n7_; clear hb hbox hg)|((with_reducible refine gate_callee (f:=45) rfl ?_); refine goesL_ (some 11) rfl rfl Tryz.func45 (by kernel_rfl) rfl #[.pointer (some ⟨gb356,0,none⟩)] rfl (by (try simp only [List.map_toArray,List.map_cons,List.map_nil]); (rfl)) ?_; (with_reducible refine (spec_l1Cur_anyRotation.calls k gb356 l0 0 0 t357 t360 t363 t364 w _ ?side1 ?side2 A2.out).mono ?_); (case side1 => repeat (((with_reducible (exact HI356.out))))); (case side2 => repeat (((with_reducible (exact HB.out))))); rintro e w7 ⟨v358,v361,rfl,ho0,ho1,hi,hb,hk⟩; refine ⟨_,rfl,?_⟩; have n0_:=Aside0.mk (KeepBut.blk hk (g':=gb354) (o:=.cells #[.slice none 0 0,.slice none 0 0] 26 (0,0)) (by exact BK354.out) NB354_356.out (by simp)); have n1_:=Aside0.mk (KeepBut.blk hk (g':=gb355) (o:=.cells #[.slice none 0 0,.slice none 0 0] 26 (0,0)) (by exact BK355.out) NB355_356.out (by simp)); have n2_:=Aside0.mk (Kd.R_lower ho0 (below_size (by repeat (((with_reducible (exact HB.out))))))); have n3_:=Aside0.mk (Kd.Q_lower ho1 (below_size (by repeat (((with_reducible (exact HB.out))))))); have n4_:=Aside0.mk (hb); have n5_:=Aside0.mk (hi); clear BK354; clear BK355; clear HB; clear HI356; have BK354:=n0_; have BK355:=n1_; have HO359:=n2_; have HO362:=n3_; have HB:=n4_; have HI356:=n5_; clear n0_ n1_ n2_ n3_ n4_ n5_; (try clear hb); (try clear hb2); (try clear hk); (try clear hi); (try clear ho0); (try clear ho1))|((with_reducible refine gate_dst (N:=5) rfl ?_); refine box_event ?hg (N:=5) ?hd (cs:=#[.slice none 0 0,.slice none 0 0]) (t:=26) ?hr ?_; (case hd => rfl); (case hg => rfl); (case hr => (go_simp; done)); intro gb365 hg w8 hbox hb; have n0_:=Aside0.mk (Kd.R_below (by exact HO359.out) hb); have n1_:=Aside0.mk (Kd.Q_below (by exact HO362.out) hb); have n2_:=Aside0.mk (blk_below (g:=gb354) (o:=.cells #[.slice none 0 0,.slice none 0 0] 26 (0,0)) (by exact BK354.out) hb); have n3_:=Aside0.mk (blk_below (g:=gb355) (o:=.cells #[.slice none 0 0,.slice none 0 0] 26 (0,0)) (by exact BK355.out) hb); have n4_:=Aside0.mk (IsS69.below (by repeat (((with_reducible (exact HI356.out))))) hb); have n5_:=Aside0.mk (below_step (by repeat (((with_reducible (exact HB.out))))) hb); have n6_:=Aside0.mk (hbox); have n7_:=Aside0.mk ((by rw [hg]; exact (below_size (by repeat (((with_reducible (exact HB.out)))))) : w.heap.size ≤ gb365)); have n8_:=Aside0.mk ((by rw [hg]; exact (below_size (by repeat (((with_reducible (exact HB.out)))))) : w.heap.size ≤ gb365)); have n9_:=Aside0.mk ((by rw [hg]; exact Nat.ne_of_lt (blk_lt (g:=gb354) (o:=.cells #[.slice none 0 0,.slice none 0 0] 26 (0,0)) (by exact BK354.out)) : gb354 ≠ gb365)); have n10_:=Aside0.mk ((by rw [hg]; exact Nat.ne_of_gt (blk_lt (g:=gb354) (o:=.cells #[.slice none 0 0,.slice none 0 0] 26 (0,0)) (by exact BK354.out)) : gb365 ≠ gb354)); have n11_:=Aside0.mk ((by rw [hg]; exact Nat.ne_of_lt (blk_lt (g:=gb355) (o:=.cells #[.slice none 0 0,.slice none 0 0] 26 (0,0)) (by exact BK355.out)) : gb355 ≠ gb365)); have n12_:=Aside0.mk ((by rw [hg]; exact Nat.ne_of_gt (blk_lt (g:=gb355) (o:=.cells #[.slice none 0 0,.slice none 0 0] 26 (0,0)) (by exact BK355.out)) : gb365 ≠ gb355)); have n13_:=Aside0.mk ((by rw [hg]; exact Nat.ne_of_lt (IsS69.lt (show IsS69 w _ gb356 l0 t363 t364 from by repeat (((with_reducible (exact HI356.out)))))) : gb356 ≠ gb365)); have n14_:=Aside0.mk ((by rw [hg]; exact Nat.ne_of_gt (IsS69.lt (show IsS69 w _ gb356 l0 t363 t364 from by repeat (((with_reducible (exact HI356.out)))))) : gb365 ≠ gb356)); clear HO359; clear HO362; clear BK354; clear BK355; clear HI356; clear HB; have HO359:=n0_; have HO362:=n1_; have BK354:=n2_; have BK355:=n3_; have HI356:=n4_; have HB:=n5_; have BK365:=n6_; have GW365:=n7_; have GE365:=n8_; have NB354_365:=n9_; have NB365_354:=n10_; have NB355_365:=n11_; have NB365_355:=n12_; have NB356_365:=n13_; have NB365_356:=n14_; clear n0_ n1_ n2_ n3_ n4_ n5_ n6_ n7_ n8_ n9_ n10_ n11_ n12_ n13_ n14_; clear hb hbox hg; obtain ⟨Ao9,co9,eo9⟩:=Kd.R_slice HO359.out; subst eo9; have hnb10:=NB365_354.out; have hnc10:=NB354_365.out; have hnb11:=NB365_355.out; have hnc11:=NB355_365.out; have hnb12:=NB365_356.out; have hnc12:=NB356_365.out; have hcz13_0 : w8.cell? ⟨gb365,0,none⟩ = some (.slice none 0 0):=(blk_cell BK365.out 0).trans rfl; have hcz13_1 : w8.cell? ⟨gb365,1,none⟩ = some (.slice none 0 0):=(blk_cell BK365.out 1).trans rfl; have hfz13_0:=blk_frozen BK365.out 0; have hfz13_1:=blk_frozen BK365.out 1; obtain ⟨Ao14,co14,eo14,_⟩:=Kd.Q_slice HO362.out; subst eo14))
 (try simp only [Act.put,List.setIfInBounds_toArray,List.set_cons_zero,List.set_cons_succ])
 go_cut [18] (fun v18 wc => ∃ (kq : Nat) (x18_2 : Bool) (x357001_2 : Int) (x357002_2 : Int),v18 = .bool x18_2 ∧ Aside0 (spec_DrawSameCycle.j0 kq x18_2 l0 x357001_2 x357002_2 t357 t360 = some (r1,r2,r3,r4)) ∧ Aside0 (kq ≤ k) ∧ Aside0 (Kd.R (Kd.int .i64) 3 wc w.heap.size (fun k_ => some k_ ≠ ((.slice Ao14 t360.length co14) : Value).ownBlock) (.slice Ao9 t357.length co9) t357) ∧ Aside0 (Kd.Q (Kd.int .i64) 3 wc w.heap.size (fun k_ => some k_ ≠ ((.slice Ao9 t357.length co9) : Value).ownBlock) (.slice Ao14 t360.length co14) t360) ∧ Aside0 (wc.heap[gb354]? = some (.cells #[(.slice none 0 0),(.slice none 0 0)] 26 (0,0))) ∧ Aside0 (wc.heap[gb355]? = some (.cells #[(.slice none 0 0),(.slice none 0 0)] 26 (0,0))) ∧ Aside0 (wc.heap[gb365]? = some (.cells #[(.slice Ao9 t357.length co9),(.slice Ao14 t360.length co14)] 26 (0,0))) ∧ Aside0 (IsS69 w wc gb356 l0 x357001_2 x357002_2) ∧ Aside0 (Below w.heap.size w wc))
 case first =>
  have H:=HC3.out
  clear HC3
  replace H:=Option.bind_eq_some_iff.mp H
  obtain ⟨t366,A150,H⟩:=H
  replace H : (if t366 = true then ((spec_l1Cur_one.f l0 t363 t364 3).bind fun bt367 => (spec_DrawSameCycle.j0 k (!bt367.1) l0 bt367.2.1 bt367.2.2 t357 t360)) else (spec_DrawSameCycle.j0 k false l0 t363 t364 t357 t360)) = some (r1,r2,r3,r4):=H
  have A15:=Aside0.mk A150
  clear A150
  by_cases c16 : t366 = true
  ·subst c16
   have H1 : ((spec_l1Cur_one.f l0 t363 t364 3).bind fun bt367 => (spec_DrawSameCycle.j0 k (!bt367.1) l0 bt367.2.1 bt367.2.2 t357 t360)) = some (r1,r2,r3,r4):=by rw [if_pos rfl] at H; exact H
   clear H
   have H:=H1
   clear H1
   replace H:=Option.bind_eq_some_iff.mp H
   obtain ⟨⟨t367,t368,t369⟩,A170,H⟩:=H
   replace H : (spec_DrawSameCycle.j0 k (!t367) l0 t368 t369 t357 t360) = some (r1,r2,r3,r4):=H
   have A17:=Aside0.mk A170
   clear A170
   have H':=Aside0.mk H
   clear H
   have hnb18:=NB365_354.out
   have hnc18:=NB354_365.out
   have hnb19:=NB365_355.out
   have hnc19:=NB355_365.out
   have hnb20:=NB365_356.out
   have hnc20:=NB356_365.out
   have hcz21_0 : w8.cell? ⟨gb365,0,none⟩ = some (.slice none 0 0):=(blk_cell BK365.out 0).trans rfl
   have hcz21_1 : w8.cell? ⟨gb365,1,none⟩ = some (.slice none 0 0):=(blk_cell BK365.out 1).trans rfl
   have hfz21_0:=blk_frozen BK365.out 0
   have hfz21_1:=blk_frozen BK365.out 1
   go_wp2_with (first|((with_reducible refine gate_callee (f:=33) rfl ?_); refine goesL_ (some 13) rfl rfl Tryz.func33 (by kernel_rfl) rfl #[.agg #[.slice Ao9 t357.length co9,.slice Ao14 t360.length co14]] rfl (by (try simp only [List.map_toArray,List.map_cons,List.map_nil]); (rfl)) ?_; (with_reducible refine (spec_l3Good.calls k _ _ t357 _ _ t360 true _ ?side1 ?side2 ?side3 ?side4 A15.out).mono ?_); (case side1 => refine (Kd.R_reads' (e:=3) (base:=w.heap.size) (ok:=fun k_ => some k_ ≠ (.slice Ao14 t360.length co14 : Value).ownBlock) (n:=t357.length) (c:=co9) ?_).2.2; exact (by exact (Kd.R_mono (Kd.R_far (p:=⟨gb365,1,none⟩) (Kd.R_far (p:=⟨gb365,0,none⟩) (Kd.R_types HO359.out BK365.out (by decide)) (fun _ hk => hk.2) (.slice Ao9 t357.length co9)) (fun _ hk => hk.2) (.slice Ao14 t360.length co14)) (fun _ h_ => h_.1)))); (case side2 => exact (Kd.R_reads' HO359.out).2.1); (case side3 => refine (Kd.Q_reads' (e:=3) (base:=w.heap.size) (ok:=fun k_ => some k_ ≠ (.slice Ao9 t357.length co9 : Value).ownBlock) (n:=t360.length) (c:=co14) ?_).2.2; exact (by exact (Kd.Q_mono (Kd.Q_far (p:=⟨gb365,1,none⟩) (Kd.Q_far (p:=⟨gb365,0,none⟩) (Kd.Q_types HO362.out BK365.out (by decide)) (fun _ hk => hk.2) (.slice Ao9 t357.length co9)) (fun _ hk => hk.2) (.slice Ao14 t360.length co14)) (fun _ h_ => h_.1)))); (case side4 => exact (Kd.Q_reads' HO362.out).2.1); rintro e w22 ⟨rfl,hb⟩; refine ⟨_,rfl,?_⟩; have n0_:=Aside0.mk (Kd.R_below (by exact (Kd.R_mono (Kd.R_far (p:=⟨gb365,1,none⟩) (Kd.R_far (p:=⟨gb365,0,none⟩) (Kd.R_types HO359.out BK365.out (by decide)) (fun _ hk => hk.2) (.slice Ao9 t357.length co9)) (fun _ hk => hk.2) (.slice Ao14 t360.length co14)) (fun _ h_ => h_.1))) hb); have n1_:=Aside0.mk (Kd.Q_below (by exact (Kd.Q_mono (Kd.Q_far (p:=⟨gb365,1,none⟩) (Kd.Q_far (p:=⟨gb365,0,none⟩) (Kd.Q_types HO362.out BK365.out (by decide)) (fun _ hk => hk.2) (.slice Ao9 t357.length co9)) (fun _ hk => hk.2) (.slice Ao14 t360.length co14)) (fun _ h_ => h_.1))) hb); have n2_:=Aside0.mk (blk_below (g:=gb354) (o:=.cells #[.slice none 0 0,.slice none 0 0] 26 (0,0)) (by refine blk_far ?_ NB354_365.out _; refine blk_far ?_ NB354_365.out _; exact BK354.out) hb); have n3_:=Aside0.mk (blk_below (g:=gb355) (o:=.cells #[.slice none 0 0,.slice none 0 0] 26 (0,0)) (by refine blk_far ?_ NB355_365.out _; refine blk_far ?_ NB355_365.out _; exact BK355.out) hb); have n4_:=Aside0.mk (IsS69.below (show IsS69 w ((w8.setCell ⟨gb365,0,none⟩ (.slice Ao9 t357.length co9)).setCell ⟨gb365,1,none⟩ (.slice Ao14 t360.length co14)) gb356 l0 t363 t364 from by repeat (with_reducible first|exact HI356.out|refine IsS69.far ?_ NB356_365.out _)) hb); have n5_:=Aside0.mk (blk_below (g:=gb365) (o:=.cells #[.slice Ao9 t357.length co9,.slice Ao14 t360.length co14] 26 (0,0)) (by refine blk_put (cs:=#[.slice Ao9 t357.length co9,.slice none 0 0]) ?_ 1 _ rfl; refine blk_put (cs:=#[.slice none 0 0,.slice none 0 0]) ?_ 0 _ rfl; exact BK365.out) hb); have n6_:=Aside0.mk (below_step (by repeat (with_reducible first|exact HB.out|refine below_set ?_ GE365.out)) hb); clear HO359; clear HO362; clear BK354; clear BK355; clear HI356; clear BK365; clear HB; have HO359:=n0_; have HO362:=n1_; have BK354:=n2_; have BK355:=n3_; have HI356:=n4_; have BK365:=n5_; have HB:=n6_; clear n0_ n1_ n2_ n3_ n4_ n5_ n6_; (try clear hb); (try clear hb2); (try clear hk); (try clear hi))|(go_at_call 46; (with_reducible refine (spec_l1Cur_one.calls gb356 l0 t363 t364 3 t367 t368 t369 w _ ?side1 ?side2 A17.out).mono ?_); (case side1 => repeat (((with_reducible (exact HI356.out))))); (case side2 => repeat (((with_reducible (exact HB.out))))); rintro e w23 ⟨rfl,hi,hb,hk⟩; have n0_:=Aside0.mk (KeepBut.blk hk (g':=gb354) (o:=.cells #[.slice none 0 0,.slice none 0 0] 26 (0,0)) (by exact BK354.out) NB354_356.out (by simp)); have n1_:=Aside0.mk (KeepBut.blk hk (g':=gb355) (o:=.cells #[.slice none 0 0,.slice none 0 0] 26 (0,0)) (by exact BK355.out) NB355_356.out (by simp)); have n2_:=Aside0.mk (Kd.R_mono (Kd.R_keep (IsS69.apart (show IsS69 w _ gb356 l0 t363 t364 from by repeat (((with_reducible (exact HI356.out))))) (by exact HO359.out) (by decide)) hk (fun _ h => h.2)) (fun _ h => h.1)); have n3_:=Aside0.mk (Kd.Q_mono (Kd.Q_keep (IsS69.apartQ (show IsS69 w _ gb356 l0 t363 t364 from by repeat (((with_reducible (exact HI356.out))))) (by exact HO362.out) (by decide)) hk (fun _ h => h.2)) (fun _ h => h.1)); have n4_:=Aside0.mk (KeepBut.blk hk (g':=gb365) (o:=.cells #[.slice Ao9 t357.length co9,.slice Ao14 t360.length co14] 26 (0,0)) (by exact BK365.out) NB365_356.out (by simp)); have n5_:=Aside0.mk (hb); have n6_:=Aside0.mk (hi); clear BK354; clear BK355; clear HO359; clear HO362; clear BK365; clear HB; clear HI356; have BK354:=n0_; have BK355:=n1_; have HO359:=n2_; have HO362:=n3_; have BK365:=n4_; have HB:=n5_; have HI356:=n6_; clear n0_ n1_ n2_ n3_ n4_ n5_ n6_; (try clear hb); (try clear hb2); (try clear hk); (try clear hi)))
   go_meet
   case rel => exact ⟨_,(!t367),(t368),(t369),(by (rfl)),H',⟨by (omega)⟩,⟨by exact HO359.out⟩,⟨by exact HO362.out⟩,⟨by exact BK354.out⟩,⟨by exact BK355.out⟩,⟨by exact BK365.out⟩,⟨by repeat (((with_reducible (exact HI356.out))))⟩,⟨by repeat (((with_reducible (exact HB.out))))⟩⟩
  ·replace c16:=Bool.eq_false_iff.mpr c16
   subst c16
   have H1 : (spec_DrawSameCycle.j0 k false l0 t363 t364 t357 t360) = some (r1,r2,r3,r4):=by rw [if_neg (show ¬ (false = true) by decide)] at H; exact H
   clear H
   have H:=H1
   clear H1
   have H':=Aside0.mk H
   clear H
   have hnb24:=NB365_354.out
   have hnc24:=NB354_365.out
   have hnb25:=NB365_355.out
   have hnc25:=NB355_365.out
   have hnb26:=NB365_356.out
   have hnc26:=NB356_365.out
   have hcz27_0 : w8.cell? ⟨gb365,0,none⟩ = some (.slice none 0 0):=(blk_cell BK365.out 0).trans rfl
   have hcz27_1 : w8.cell? ⟨gb365,1,none⟩ = some (.slice none 0 0):=(blk_cell BK365.out 1).trans rfl
   have hfz27_0:=blk_frozen BK365.out 0
   have hfz27_1:=blk_frozen BK365.out 1
   go_wp2_with ((((with_reducible refine gate_callee (f:=33) rfl ?_); refine goesL_ (some 13) rfl rfl Tryz.func33 (by kernel_rfl) rfl #[.agg #[.slice Ao9 t357.length co9,.slice Ao14 t360.length co14]] rfl (by (try simp only [List.map_toArray,List.map_cons,List.map_nil]); (rfl)) ?_; (with_reducible refine (spec_l3Good.calls k _ _ t357 _ _ t360 false _ ?side1 ?side2 ?side3 ?side4 A15.out).mono ?_); (case side1 => refine (Kd.R_reads' (e:=3) (base:=w.heap.size) (ok:=fun k_ => some k_ ≠ (.slice Ao14 t360.length co14 : Value).ownBlock) (n:=t357.length) (c:=co9) ?_).2.2; exact (by exact (Kd.R_mono (Kd.R_far (p:=⟨gb365,1,none⟩) (Kd.R_far (p:=⟨gb365,0,none⟩) (Kd.R_types HO359.out BK365.out (by decide)) (fun _ hk => hk.2) (.slice Ao9 t357.length co9)) (fun _ hk => hk.2) (.slice Ao14 t360.length co14)) (fun _ h_ => h_.1)))); (case side2 => exact (Kd.R_reads' HO359.out).2.1); (case side3 => refine (Kd.Q_reads' (e:=3) (base:=w.heap.size) (ok:=fun k_ => some k_ ≠ (.slice Ao9 t357.length co9 : Value).ownBlock) (n:=t360.length) (c:=co14) ?_).2.2; exact (by exact (Kd.Q_mono (Kd.Q_far (p:=⟨gb365,1,none⟩) (Kd.Q_far (p:=⟨gb365,0,none⟩) (Kd.Q_types HO362.out BK365.out (by decide)) (fun _ hk => hk.2) (.slice Ao9 t357.length co9)) (fun _ hk => hk.2) (.slice Ao14 t360.length co14)) (fun _ h_ => h_.1)))); (case side4 => exact (Kd.Q_reads' HO362.out).2.1); rintro e w28 ⟨rfl,hb⟩; refine ⟨_,rfl,?_⟩; have n0_:=Aside0.mk (Kd.R_below (by exact (Kd.R_mono (Kd.R_far (p:=⟨gb365,1,none⟩) (Kd.R_far (p:=⟨gb365,0,none⟩) (Kd.R_types HO359.out BK365.out (by decide)) (fun _ hk => hk.2) (.slice Ao9 t357.length co9)) (fun _ hk => hk.2) (.slice Ao14 t360.length co14)) (fun _ h_ => h_.1))) hb); have n1_:=Aside0.mk (Kd.Q_below (by exact (Kd.Q_mono (Kd.Q_far (p:=⟨gb365,1,none⟩) (Kd.Q_far (p:=⟨gb365,0,none⟩) (Kd.Q_types HO362.out BK365.out (by decide)) (fun _ hk => hk.2) (.slice Ao9 t357.length co9)) (fun _ hk => hk.2) (.slice Ao14 t360.length co14)) (fun _ h_ => h_.1))) hb); have n2_:=Aside0.mk (blk_below (g:=gb354) (o:=.cells #[.slice none 0 0,.slice none 0 0] 26 (0,0)) (by refine blk_far ?_ NB354_365.out _; refine blk_far ?_ NB354_365.out _; exact BK354.out) hb); have n3_:=Aside0.mk (blk_below (g:=gb355) (o:=.cells #[.slice none 0 0,.slice none 0 0] 26 (0,0)) (by refine blk_far ?_ NB355_365.out _; refine blk_far ?_ NB355_365.out _; exact BK355.out) hb); have n4_:=Aside0.mk (IsS69.below (show IsS69 w ((w8.setCell ⟨gb365,0,none⟩ (.slice Ao9 t357.length co9)).setCell ⟨gb365,1,none⟩ (.slice Ao14 t360.length co14)) gb356 l0 t363 t364 from by repeat (with_reducible first|exact HI356.out|refine IsS69.far ?_ NB356_365.out _)) hb); have n5_:=Aside0.mk (blk_below (g:=gb365) (o:=.cells #[.slice Ao9 t357.length co9,.slice Ao14 t360.length co14] 26 (0,0)) (by refine blk_put (cs:=#[.slice Ao9 t357.length co9,.slice none 0 0]) ?_ 1 _ rfl; refine blk_put (cs:=#[.slice none 0 0,.slice none 0 0]) ?_ 0 _ rfl; exact BK365.out) hb); have n6_:=Aside0.mk (below_step (by repeat (with_reducible first|exact HB.out|refine below_set ?_ GE365.out)) hb); clear HO359; clear HO362; clear BK354; clear BK355; clear HI356; clear BK365; clear HB; have HO359:=n0_; have HO362:=n1_; have BK354:=n2_; have BK355:=n3_; have HI356:=n4_; have BK365:=n5_; have HB:=n6_; clear n0_ n1_ n2_ n3_ n4_ n5_ n6_; (try clear hb); (try clear hb2); (try clear hk); (try clear hi))))
   go_meet
   case rel => exact ⟨_,(false),(t363),(t364),(by (rfl)),H',⟨by (omega)⟩,⟨by exact HO359.out⟩,⟨by exact HO362.out⟩,⟨by exact BK354.out⟩,⟨by exact BK355.out⟩,⟨by exact BK365.out⟩,⟨by repeat (((with_reducible (exact HI356.out))))⟩,⟨by repeat (((with_reducible (exact HB.out))))⟩⟩
 case rest =>
  clear HC3
  try clear c1
  try clear c2
  try clear p2
  try clear c3
  try clear c4
  try clear c10
  try clear c11
  try clear c12
  try clear c16
  try clear c18
  try clear c19
  try clear c20
  try clear c24
  try clear c25
  try clear c26
  try clear hcz13_0
  try clear hcz13_1
  try clear hcz21_0
  try clear hcz21_1
  try clear hcz27_0
  try clear hcz27_1
  try clear hfz13_0
  try clear hfz13_1
  try clear hfz21_0
  try clear hfz21_1
  try clear hfz27_0
  try clear hfz27_1
  obtain ⟨kq,x18_2,x357001_2,x357002_2,rfl,HA,HJ2,HO_366000,HO_366001,BK354,BK355,BK365,HI356,HB⟩:=hcut
  cases kq with
  | zero => exact absurd HA.out (by simp [spec_DrawSameCycle.j0])
  | succ kj2 =>
   have H:=HA.out
   clear HA
   simp only [spec_DrawSameCycle.j0] at H
   by_cases c29 : x18_2 = true
   ·subst c29
    have H1 : ((spec_l1Cur_pick.f l0 x357001_2 x357002_2 (t357.length : Int)).bind fun bt370 => ((spec_l3Turn.f t357 t360 bt370.1).bind fun bt373 => ((spec_l1Cur_one.f l0 bt370.2.1 bt370.2.2 3).bind fun bt380 => (if bt380.1 = true then ((spec_l1Cur_among.f l0 bt380.2.1 bt380.2.2 ([1,2,3] : List Int)).bind fun bt386 => (if 0 < (bt373.2.length : Int) then (spec_DrawSameCycle.j1 kj2 t357 t360 bt373.1 (bt373.2.set (0 : Int).toNat bt386.1)) else (none))) else (spec_DrawSameCycle.j1 kj2 t357 t360 bt373.1 bt373.2))))) = some (r1,r2,r3,r4):=by rw [if_pos rfl] at H; exact H
    clear H
    have H:=H1
    clear H1
    replace H:=Option.bind_eq_some_iff.mp H
    obtain ⟨⟨t370,t371,t372⟩,A300,H⟩:=H
    replace H : ((spec_l3Turn.f t357 t360 t370).bind fun bt373 => ((spec_l1Cur_one.f l0 t371 t372 3).bind fun bt380 => (if bt380.1 = true then ((spec_l1Cur_among.f l0 bt380.2.1 bt380.2.2 ([1,2,3] : List Int)).bind fun bt386 => (if 0 < (bt373.2.length : Int) then (spec_DrawSameCycle.j1 kj2 t357 t360 bt373.1 (bt373.2.set (0 : Int).toNat bt386.1)) else (none))) else (spec_DrawSameCycle.j1 kj2 t357 t360 bt373.1 bt373.2)))) = some (r1,r2,r3,r4):=H
    have A30:=Aside0.mk A300
    clear A300
    replace H:=Option.bind_eq_some_iff.mp H
    obtain ⟨⟨t373,t376⟩,A310,H⟩:=H
    replace H : ((spec_l1Cur_one.f l0 t371 t372 3).bind fun bt380 => (if bt380.1 = true then ((spec_l1Cur_among.f l0 bt380.2.1 bt380.2.2 ([1,2,3] : List Int)).bind fun bt386 => (if 0 < (t376.length : Int) then (spec_DrawSameCycle.j1 kj2 t357 t360 t373 (t376.set (0 : Int).toNat bt386.1)) else (none))) else (spec_DrawSameCycle.j1 kj2 t357 t360 t373 t376))) = some (r1,r2,r3,r4):=H
    have A31:=Aside0.mk A310
    clear A310
    replace H:=Option.bind_eq_some_iff.mp H
    obtain ⟨⟨t380,t381,t382⟩,A320,H⟩:=H
    replace H : (if t380 = true then ((spec_l1Cur_among.f l0 t381 t382 ([1,2,3] : List Int)).bind fun bt386 => (if 0 < (t376.length : Int) then (spec_DrawSameCycle.j1 kj2 t357 t360 t373 (t376.set (0 : Int).toNat bt386.1)) else (none))) else (spec_DrawSameCycle.j1 kj2 t357 t360 t373 t376)) = some (r1,r2,r3,r4):=H
    have A32:=Aside0.mk A320
    clear A320
    have HC33:=Aside0.mk H
    clear H
    try go_wp2
    have n0_:=Aside0.mk (Kd.R_drew HO_366000.out)
    have n1_:=Aside0.mk (Kd.Q_drew HO_366001.out)
    have n2_:=Aside0.mk (blk_drew BK354.out)
    have n3_:=Aside0.mk (blk_drew BK355.out)
    have n4_:=Aside0.mk (blk_drew BK365.out)
    have n5_:=Aside0.mk (IsS69.drew HI356.out)
    have n6_:=Aside0.mk (below_drew1 HB.out)
    clear HO_366000
    clear HO_366001
    clear BK354
    clear BK355
    clear BK365
    clear HI356
    clear HB
    have HO_366000:=n0_
    have HO_366001:=n1_
    have BK354:=n2_
    have BK355:=n3_
    have BK365:=n4_
    have HI356:=n5_
    have HB:=n6_
    clear n0_ n1_ n2_ n3_ n4_ n5_ n6_
    refine start_ (n:=9) (S:=fun w' => w'.cell? ⟨gb365,0,none⟩ = some (.slice Ao9 t357.length co9) ∧ w'.cell? ⟨gb365,1,none⟩ = some (.slice Ao14 t360.length co14)) (ds:=[]) #[false,false,false,false,false,false,false,false,false] (by kernel_rfl) rfl rfl ⟨(blk_cell BK365.out 0).trans rfl,(blk_cell BK365.out 1).trans rfl⟩ (fun hHeld => ?_); refine with_tabW spec_DrawSameCycle.tab4 spec_DrawSameCycle.bits4 (fun HT_ HW_ => ?_)
    generalize wc.drew = w34 at HO_366000 HO_366001 BK354 BK355 BK365 HI356 HB hHeld ⊢
    refine pure_ (i:=1) (N:=some 20) (v:=?_) (a':=?_) #[false,true,false,false,false,false,false,false,false] rfl rfl (any_of HT_.out (by kernel_rfl)) (fun _ _ _ h => h) (Or.inl ⟨by rfl,?_⟩) ?_ ?_
    rotate_left
    ·intro w'
     go_simp
     with_reducible rfl
    rotate_left
    ·simp only [Act.put,List.setIfInBounds_toArray,List.set_cons_zero,List.set_cons_succ,i64_w,i32_w]
     rfl
    refine pure_ (i:=2) (N:=some 21) (v:=?_) (a':=?_) #[false,true,true,false,false,false,false,false,false] rfl rfl (any_of HT_.out (by kernel_rfl)) (fun _ _ _ h => h) (Or.inl ⟨by rfl,?_⟩) ?_ ?_
    rotate_left
    ·intro w'
     go_simp
     with_reducible rfl
    rotate_left
    ·simp only [Act.put,List.setIfInBounds_toArray,List.set_cons_zero,List.set_cons_succ,i64_w,i32_w]
     rfl
    refine take_ (i:=0) (N:=some 19) (v:=?_) (a':=?_) #[true,true,true,false,false,false,false,false,false] rfl rfl (take_ofW HT_.out HW_.out (by kernel_rfl)) (fun _ _ _ h => h) (Or.inl ⟨by rfl,?_⟩) hHeld ?_ ?_
    rotate_left
    ·rintro w' ⟨s0,s1⟩
     go_simp
     with_reducible rfl
    rotate_left
    ·simp only [Act.put,List.setIfInBounds_toArray,List.set_cons_zero,List.set_cons_succ,i64_w,i32_w]
     rfl
    refine take_ (i:=3) (N:=some 22) (v:=?_) (a':=?_) #[true,true,true,true,false,false,false,false,false] rfl rfl (take_ofW HT_.out HW_.out (by kernel_rfl)) (fun _ _ _ h => h) (Or.inl ⟨by rfl,?_⟩) hHeld ?_ ?_
    rotate_left
    ·rintro w' ⟨s0,s1⟩
     go_simp
     with_reducible rfl
    rotate_left
    ·simp only [Act.put,List.setIfInBounds_toArray,List.set_cons_zero,List.set_cons_succ,i64_w,i32_w]
     rfl
    refine pure_ (i:=4) (N:=some 23) (v:=?_) (a':=?_) #[true,true,true,true,true,false,false,false,false] rfl rfl (any_of HT_.out (by kernel_rfl)) (fun _ _ _ h => h) (Or.inl ⟨by rfl,?_⟩) ?_ ?_
    rotate_left
    ·intro w'
     go_simp
     with_reducible rfl
    rotate_left
    ·simp only [Act.put,List.setIfInBounds_toArray,List.set_cons_zero,List.set_cons_succ,i64_w,i32_w]
     rfl
    refine join_ (σ:=Value × Value × Nat) 1 #[true,true,true,true,true,true,true,true,false] (fun s_ => [(24,.int .i64 t370),(25,.agg #[s_.1,s_.2.1]),(6,.pointer (some ⟨s_.2.2,0,none⟩))]) (fun s_ w' => (w'.cell? ⟨gb365,0,none⟩ = some (.slice Ao9 t357.length co9) ∧ w'.cell? ⟨gb365,1,none⟩ = some (.slice Ao14 t360.length co14)) ∧ (Kd.R (Kd.int .i64) 3 w' w.heap.size (fun k_ => some k_ ≠ (s_.2.1 : Value).ownBlock ∧ some k_ ≠ (.slice Ao9 t357.length co9 : Value).ownBlock ∧ some k_ ≠ (.slice Ao14 t360.length co14 : Value).ownBlock) s_.1 t373) ∧ (Kd.R (Kd.int .i64) 3 w' w.heap.size (fun k_ => some k_ ≠ (s_.1 : Value).ownBlock ∧ some k_ ≠ (.slice Ao9 t357.length co9 : Value).ownBlock ∧ some k_ ≠ (.slice Ao14 t360.length co14 : Value).ownBlock) s_.2.1 t376) ∧ (Kd.R (Kd.int .i64) 3 w' w.heap.size (fun k_ => some k_ ≠ (s_.1 : Value).ownBlock ∧ some k_ ≠ (s_.2.1 : Value).ownBlock ∧ some k_ ≠ (.slice Ao14 t360.length co14 : Value).ownBlock) (.slice Ao9 t357.length co9) t357) ∧ (Kd.Q (Kd.int .i64) 3 w' w.heap.size (fun k_ => some k_ ≠ (s_.1 : Value).ownBlock ∧ some k_ ≠ (s_.2.1 : Value).ownBlock ∧ some k_ ≠ (.slice Ao9 t357.length co9 : Value).ownBlock) (.slice Ao14 t360.length co14) t360) ∧ (w'.heap[gb354]? = some (.cells #[.slice none 0 0,.slice none 0 0] 26 (0,0))) ∧ (w'.heap[gb355]? = some (.cells #[.slice none 0 0,.slice none 0 0] 26 (0,0))) ∧ (w'.heap[gb365]? = some (.cells #[.slice Ao9 t357.length co9,.slice Ao14 t360.length co14] 26 (0,0))) ∧ (w'.heap[s_.2.2]? = some (.cells #[.slice none 0 0,.slice none 0 0] 26 (0,0))) ∧ (w.heap.size ≤ s_.2.2) ∧ (w.heap.size ≤ s_.2.2) ∧ (gb356 ≠ s_.2.2) ∧ (s_.2.2 ≠ gb356) ∧ (gb354 ≠ s_.2.2) ∧ (s_.2.2 ≠ gb354) ∧ (gb355 ≠ s_.2.2) ∧ (s_.2.2 ≠ gb355) ∧ (gb365 ≠ s_.2.2) ∧ (s_.2.2 ≠ gb365) ∧ (IsS69 w w' gb356 l0 t371 t372) ∧ (Below w.heap.size w w')) ?_ ?_
    rotate_left
    ·intro hCont
     refine two_ (i:=5) (j:=7) (Ni:=some 24) (Nj:=some 6) #[true,true,true,true,true,true,false,false,false] #[true,true,true,true,true,false,false,true,false] rfl rfl rfl rfl (two_of HT_.out (by kernel_rfl)) (by decide) (by decide) (fun K hK => ?_) (fun K hK => ?_)
     ·skip
      refine goes_ Tryz.func47 (by kernel_rfl) rfl #[.pointer (some ⟨gb356,0,none⟩),.int .i64 (t357.length : Int)] (by rfl) rfl rfl (by (try simp only [List.map_toArray,List.map_cons,List.map_nil]); (rfl)) ?_
      with_reducible refine (spec_l1Cur_pick.calls gb356 l0 x357001_2 x357002_2 (t357.length : Int) t370 t371 t372 w _ ?side1 ?side2 A30.out).mono ?_
      (case side1 => repeat (((with_reducible (exact HI356.out)))))
      (case side2 => repeat (((with_reducible (exact HB.out)))))
      rintro e w35 ⟨rfl,hi,hb,hk⟩
      refine ⟨_,rfl,?_⟩
      have n0_:=Aside0.mk (Kd.R_mono (Kd.R_keep (IsS69.apart (show IsS69 w _ gb356 l0 x357001_2 x357002_2 from by repeat (((with_reducible (exact HI356.out))))) (by exact HO_366000.out) (by decide)) hk (fun _ h => h.2)) (fun _ h => h.1))
      have n1_:=Aside0.mk (Kd.Q_mono (Kd.Q_keep (IsS69.apartQ (show IsS69 w _ gb356 l0 x357001_2 x357002_2 from by repeat (((with_reducible (exact HI356.out))))) (by exact HO_366001.out) (by decide)) hk (fun _ h => h.2)) (fun _ h => h.1))
      have n2_:=Aside0.mk (KeepBut.blk hk (g':=gb354) (o:=.cells #[.slice none 0 0,.slice none 0 0] 26 (0,0)) (by exact BK354.out) NB354_356.out (by simp))
      have n3_:=Aside0.mk (KeepBut.blk hk (g':=gb355) (o:=.cells #[.slice none 0 0,.slice none 0 0] 26 (0,0)) (by exact BK355.out) NB355_356.out (by simp))
      have n4_:=Aside0.mk (KeepBut.blk hk (g':=gb365) (o:=.cells #[.slice Ao9 t357.length co9,.slice Ao14 t360.length co14] 26 (0,0)) (by exact BK365.out) NB365_356.out (by simp))
      have n5_:=Aside0.mk (hb)
      have n6_:=Aside0.mk (hi)
      clear HO_366000
      clear HO_366001
      clear BK354
      clear BK355
      clear BK365
      clear HB
      clear HI356
      have HO_366000:=n0_
      have HO_366001:=n1_
      have BK354:=n2_
      have BK355:=n3_
      have BK365:=n4_
      have HB:=n5_
      have HI356:=n6_
      clear n0_ n1_ n2_ n3_ n4_ n5_ n6_
      (try clear hb)
      (try clear hb2)
      (try clear hk)
      (try clear hi)
      refine hK.out _ _ ⟨(blk_cell BK365.out 0).trans rfl,(blk_cell BK365.out 1).trans rfl⟩ (fun hHeld => ?_)
      clear hK K
      refine norm_ (a':=?_) ?_ ?_
      rotate_left
      ·show Act.put _ (some 24) _ = _
       simp only [Act.put,List.setIfInBounds_toArray,List.set_cons_zero,List.set_cons_succ,i64_w,i32_w]
       rfl
      refine two_ (i:=6) (j:=7) (Ni:=some 25) (Nj:=some 6) #[true,true,true,true,true,true,true,false,false] #[true,true,true,true,true,true,false,true,false] rfl rfl rfl rfl (two_of HT_.out (by kernel_rfl)) (by decide) (by decide) (fun K hK => ?_) (fun K hK => ?_)
      ·skip
       refine goes_ Tryz.func43 (by kernel_rfl) rfl #[.agg #[.slice Ao9 t357.length co9,.slice Ao14 t360.length co14],.int .i64 t370] (by rfl) rfl rfl (by (try simp only [List.map_toArray,List.map_cons,List.map_nil]); (rfl)) ?_
       with_reducible refine (spec_l3Turn.calls _ _ t357 _ _ t360 t370 t373 t376 _ ?side1 ?side2 ?side3 ?side4 A31.out).mono ?_
       (case side1 => repeat ((exact (Kd.R_reads' HO_366000.out).2.2)))
       (case side2 => exact (Kd.R_reads' HO_366000.out).2.1)
       (case side3 => repeat ((exact (Kd.Q_reads' HO_366001.out).2.2)))
       (case side4 => exact (Kd.Q_reads' HO_366001.out).2.1)
       rintro e w36 ⟨v374,v377,rfl,ho0,ho1,hb⟩
       refine ⟨_,rfl,?_⟩
       have n0_:=Aside0.mk (Kd.R_mono (Kd.R_told (Kd.R_told (Kd.R_old (by exact HO_366000.out) hb) (Kd.R_base ho0)) (Kd.R_base ho1)) (fun _ h_ => h_.1))
       have n1_:=Aside0.mk (Kd.Q_mono (Kd.Q_told (Kd.Q_told (Kd.Q_old (by exact HO_366001.out) hb) (Kd.R_base ho0)) (Kd.R_base ho1)) (fun _ h_ => h_.1))
       have n2_:=Aside0.mk (Kd.R_lower (Kd.R_new' (Kd.R_new' ho0 (Kd.R_lt (by exact HO_366000.out))) (Kd.Q_lt (by exact HO_366001.out))) (below_size (by repeat (((with_reducible (exact HB.out)))))))
       have n3_:=Aside0.mk (Kd.R_lower (Kd.R_new' (Kd.R_new' ho1 (Kd.R_lt (by exact HO_366000.out))) (Kd.Q_lt (by exact HO_366001.out))) (below_size (by repeat (((with_reducible (exact HB.out)))))))
       have n4_:=Aside0.mk (blk_below (g:=gb354) (o:=.cells #[.slice none 0 0,.slice none 0 0] 26 (0,0)) (by exact BK354.out) hb)
       have n5_:=Aside0.mk (blk_below (g:=gb355) (o:=.cells #[.slice none 0 0,.slice none 0 0] 26 (0,0)) (by exact BK355.out) hb)
       have n6_:=Aside0.mk (blk_below (g:=gb365) (o:=.cells #[.slice Ao9 t357.length co9,.slice Ao14 t360.length co14] 26 (0,0)) (by exact BK365.out) hb)
       have n7_:=Aside0.mk (IsS69.below (by repeat (((with_reducible (exact HI356.out))))) hb)
       have n8_:=Aside0.mk (below_step (by repeat (((with_reducible (exact HB.out))))) hb)
       clear HO_366000
       clear HO_366001
       clear BK354
       clear BK355
       clear BK365
       clear HI356
       clear HB
       have HO_366000:=n0_
       have HO_366001:=n1_
       have HO375:=n2_
       have HO378:=n3_
       have BK354:=n4_
       have BK355:=n5_
       have BK365:=n6_
       have HI356:=n7_
       have HB:=n8_
       clear n0_ n1_ n2_ n3_ n4_ n5_ n6_ n7_ n8_
       (try clear hb)
       (try clear hb2)
       (try clear hk)
       (try clear hi)
       (try clear ho0)
       (try clear ho1)
       refine hK.out _ _ ⟨(blk_cell BK365.out 0).trans rfl,(blk_cell BK365.out 1).trans rfl⟩ (fun hHeld => ?_)
       clear hK K
       refine norm_ (a':=?_) ?_ ?_
       rotate_left
       ·show Act.put _ (some 25) _ = _
        simp only [Act.put,List.setIfInBounds_toArray,List.set_cons_zero,List.set_cons_succ,i64_w,i32_w]
        rfl
       refine one_ (i:=7) (N:=some 6) #[true,true,true,true,true,true,true,true,false] rfl rfl (one_of HT_.out (by kernel_rfl)) (by decide) (fun K hK => ?_)
       refine box_step ?hg (N:=6) ?hd (cs:=#[.slice none 0 0,.slice none 0 0]) (t:=26) ?hr ?_; (case hd => rfl); (case hg => rfl); (case hr => (go_simp; done))
       intro gb379 hg w37 hbox hb
       have n0_:=Aside0.mk (Kd.R_below (by exact HO_366000.out) hb)
       have n1_:=Aside0.mk (Kd.Q_below (by exact HO_366001.out) hb)
       have n2_:=Aside0.mk (Kd.R_below (by exact HO375.out) hb)
       have n3_:=Aside0.mk (Kd.R_below (by exact HO378.out) hb)
       have n4_:=Aside0.mk (blk_below (g:=gb354) (o:=.cells #[.slice none 0 0,.slice none 0 0] 26 (0,0)) (by exact BK354.out) hb)
       have n5_:=Aside0.mk (blk_below (g:=gb355) (o:=.cells #[.slice none 0 0,.slice none 0 0] 26 (0,0)) (by exact BK355.out) hb)
       have n6_:=Aside0.mk (blk_below (g:=gb365) (o:=.cells #[.slice Ao9 t357.length co9,.slice Ao14 t360.length co14] 26 (0,0)) (by exact BK365.out) hb)
       have n7_:=Aside0.mk (IsS69.below (by repeat (((with_reducible (exact HI356.out))))) hb)
       have n8_:=Aside0.mk (below_step (by repeat (((with_reducible (exact HB.out))))) hb)
       have n9_:=Aside0.mk (hbox)
       have n10_:=Aside0.mk ((by rw [hg]; exact (below_size (by repeat (((with_reducible (exact HB.out)))))) : w.heap.size ≤ gb379))
       have n11_:=Aside0.mk ((by rw [hg]; exact (below_size (by repeat (((with_reducible (exact HB.out)))))) : w.heap.size ≤ gb379))
       have n12_:=Aside0.mk ((by rw [hg]; exact Nat.ne_of_lt (blk_lt (g:=gb354) (o:=.cells #[.slice none 0 0,.slice none 0 0] 26 (0,0)) (by exact BK354.out)) : gb354 ≠ gb379))
       have n13_:=Aside0.mk ((by rw [hg]; exact Nat.ne_of_gt (blk_lt (g:=gb354) (o:=.cells #[.slice none 0 0,.slice none 0 0] 26 (0,0)) (by exact BK354.out)) : gb379 ≠ gb354))
       have n14_:=Aside0.mk ((by rw [hg]; exact Nat.ne_of_lt (blk_lt (g:=gb355) (o:=.cells #[.slice none 0 0,.slice none 0 0] 26 (0,0)) (by exact BK355.out)) : gb355 ≠ gb379))
       have n15_:=Aside0.mk ((by rw [hg]; exact Nat.ne_of_gt (blk_lt (g:=gb355) (o:=.cells #[.slice none 0 0,.slice none 0 0] 26 (0,0)) (by exact BK355.out)) : gb379 ≠ gb355))
       have n16_:=Aside0.mk ((by rw [hg]; exact Nat.ne_of_lt (blk_lt (g:=gb365) (o:=.cells #[.slice Ao9 t357.length co9,.slice Ao14 t360.length co14] 26 (0,0)) (by exact BK365.out)) : gb365 ≠ gb379))
       have n17_:=Aside0.mk ((by rw [hg]; exact Nat.ne_of_gt (blk_lt (g:=gb365) (o:=.cells #[.slice Ao9 t357.length co9,.slice Ao14 t360.length co14] 26 (0,0)) (by exact BK365.out)) : gb379 ≠ gb365))
       have n18_:=Aside0.mk ((by rw [hg]; exact Nat.ne_of_lt (IsS69.lt (show IsS69 w _ gb356 l0 t371 t372 from by repeat (((with_reducible (exact HI356.out)))))) : gb356 ≠ gb379))
       have n19_:=Aside0.mk ((by rw [hg]; exact Nat.ne_of_gt (IsS69.lt (show IsS69 w _ gb356 l0 t371 t372 from by repeat (((with_reducible (exact HI356.out)))))) : gb379 ≠ gb356))
       clear HO_366000
       clear HO_366001
       clear HO375
       clear HO378
       clear BK354
       clear BK355
       clear BK365
       clear HI356
       clear HB
       have HO_366000:=n0_
       have HO_366001:=n1_
       have HO375:=n2_
       have HO378:=n3_
       have BK354:=n4_
       have BK355:=n5_
       have BK365:=n6_
       have HI356:=n7_
       have HB:=n8_
       have BK379:=n9_
       have GW379:=n10_
       have GE379:=n11_
       have NB354_379:=n12_
       have NB379_354:=n13_
       have NB355_379:=n14_
       have NB379_355:=n15_
       have NB365_379:=n16_
       have NB379_365:=n17_
       have NB356_379:=n18_
       have NB379_356:=n19_
       clear n0_ n1_ n2_ n3_ n4_ n5_ n6_ n7_ n8_ n9_ n10_ n11_ n12_ n13_ n14_ n15_ n16_ n17_ n18_ n19_
       clear hb hbox hg
       refine hK.out _ _ ⟨(blk_cell BK365.out 0).trans rfl,(blk_cell BK365.out 1).trans rfl⟩ (fun hHeld => ?_)
       clear hK K
       refine norm_ (a':=?_) ?_ ?_
       rotate_left
       ·show Act.put _ (some 6) _ = _
        simp only [Act.put,List.setIfInBounds_toArray,List.set_cons_zero,List.set_cons_succ,i64_w,i32_w]
        rfl
       exact norm_ (by simp only [putAll,Act.put,List.setIfInBounds_toArray,List.set_cons_zero,List.set_cons_succ]) (hCont (v374,v377,gb379) _ ⟨hHeld,(by exact Kd.R_mono HO375.out (fun _ hk => ⟨hk.1.1,⟨hk.1.2,hk.2⟩⟩)),(by exact Kd.R_mono HO378.out (fun _ hk => ⟨hk.1.1,⟨hk.1.2,hk.2⟩⟩)),(by exact Kd.R_mono HO_366000.out (fun _ hk => ⟨hk.1.2,⟨hk.2,hk.1.1⟩⟩)),(by exact Kd.Q_mono HO_366001.out (fun _ hk => ⟨hk.1.2,⟨hk.2,hk.1.1⟩⟩)),(by exact BK354.out),(by exact BK355.out),(by exact BK365.out),(by exact BK379.out),GW379.out,GE379.out,NB356_379.out,NB379_356.out,NB354_379.out,NB379_354.out,NB355_379.out,NB379_355.out,NB365_379.out,NB379_365.out,(by repeat (((with_reducible (exact HI356.out))))),(by repeat (((with_reducible (exact HB.out)))))⟩)
      ·skip
       refine box_step ?hg (N:=6) ?hd (cs:=#[.slice none 0 0,.slice none 0 0]) (t:=26) ?hr ?_; (case hd => rfl); (case hg => rfl); (case hr => (go_simp; done))
       intro gb379 hg w36 hbox hb
       have n0_:=Aside0.mk (Kd.R_below (by exact HO_366000.out) hb)
       have n1_:=Aside0.mk (Kd.Q_below (by exact HO_366001.out) hb)
       have n2_:=Aside0.mk (blk_below (g:=gb354) (o:=.cells #[.slice none 0 0,.slice none 0 0] 26 (0,0)) (by exact BK354.out) hb)
       have n3_:=Aside0.mk (blk_below (g:=gb355) (o:=.cells #[.slice none 0 0,.slice none 0 0] 26 (0,0)) (by exact BK355.out) hb)
       have n4_:=Aside0.mk (blk_below (g:=gb365) (o:=.cells #[.slice Ao9 t357.length co9,.slice Ao14 t360.length co14] 26 (0,0)) (by exact BK365.out) hb)
       have n5_:=Aside0.mk (IsS69.below (by repeat (((with_reducible (exact HI356.out))))) hb)
       have n6_:=Aside0.mk (below_step (by repeat (((with_reducible (exact HB.out))))) hb)
       have n7_:=Aside0.mk (hbox)
       have n8_:=Aside0.mk ((by rw [hg]; exact (below_size (by repeat (((with_reducible (exact HB.out)))))) : w.heap.size ≤ gb379))
       have n9_:=Aside0.mk ((by rw [hg]; exact (below_size (by repeat (((with_reducible (exact HB.out)))))) : w.heap.size ≤ gb379))
       have n10_:=Aside0.mk ((by rw [hg]; exact Nat.ne_of_lt (blk_lt (g:=gb354) (o:=.cells #[.slice none 0 0,.slice none 0 0] 26 (0,0)) (by exact BK354.out)) : gb354 ≠ gb379))
       have n11_:=Aside0.mk ((by rw [hg]; exact Nat.ne_of_gt (blk_lt (g:=gb354) (o:=.cells #[.slice none 0 0,.slice none 0 0] 26 (0,0)) (by exact BK354.out)) : gb379 ≠ gb354))
       have n12_:=Aside0.mk ((by rw [hg]; exact Nat.ne_of_lt (blk_lt (g:=gb355) (o:=.cells #[.slice none 0 0,.slice none 0 0] 26 (0,0)) (by exact BK355.out)) : gb355 ≠ gb379))
       have n13_:=Aside0.mk ((by rw [hg]; exact Nat.ne_of_gt (blk_lt (g:=gb355) (o:=.cells #[.slice none 0 0,.slice none 0 0] 26 (0,0)) (by exact BK355.out)) : gb379 ≠ gb355))
       have n14_:=Aside0.mk ((by rw [hg]; exact Nat.ne_of_lt (blk_lt (g:=gb365) (o:=.cells #[.slice Ao9 t357.length co9,.slice Ao14 t360.length co14] 26 (0,0)) (by exact BK365.out)) : gb365 ≠ gb379))
       have n15_:=Aside0.mk ((by rw [hg]; exact Nat.ne_of_gt (blk_lt (g:=gb365) (o:=.cells #[.slice Ao9 t357.length co9,.slice Ao14 t360.length co14] 26 (0,0)) (by exact BK365.out)) : gb379 ≠ gb365))
       have n16_:=Aside0.mk ((by rw [hg]; exact Nat.ne_of_lt (IsS69.lt (show IsS69 w _ gb356 l0 t371 t372 from by repeat (((with_reducible (exact HI356.out)))))) : gb356 ≠ gb379))
       have n17_:=Aside0.mk ((by rw [hg]; exact Nat.ne_of_gt (IsS69.lt (show IsS69 w _ gb356 l0 t371 t372 from by repeat (((with_reducible (exact HI356.out)))))) : gb379 ≠ gb356))
       clear HO_366000
       clear HO_366001
       clear BK354
       clear BK355
       clear BK365
       clear HI356
       clear HB
       have HO_366000:=n0_
       have HO_366001:=n1_
       have BK354:=n2_
       have BK355:=n3_
       have BK365:=n4_
       have HI356:=n5_
       have HB:=n6_
       have BK379:=n7_
       have GW379:=n8_
       have GE379:=n9_
       have NB354_379:=n10_
       have NB379_354:=n11_
       have NB355_379:=n12_
       have NB379_355:=n13_
       have NB365_379:=n14_
       have NB379_365:=n15_
       have NB356_379:=n16_
       have NB379_356:=n17_
       clear n0_ n1_ n2_ n3_ n4_ n5_ n6_ n7_ n8_ n9_ n10_ n11_ n12_ n13_ n14_ n15_ n16_ n17_
       clear hb hbox hg
       refine hK.out _ _ ⟨(blk_cell BK365.out 0).trans rfl,(blk_cell BK365.out 1).trans rfl⟩ (fun hHeld => ?_)
       clear hK K
       refine norm_ (a':=?_) ?_ ?_
       rotate_left
       ·show Act.put _ (some 6) _ = _
        simp only [Act.put,List.setIfInBounds_toArray,List.set_cons_zero,List.set_cons_succ,i64_w,i32_w]
        rfl
       refine one_ (i:=6) (N:=some 25) #[true,true,true,true,true,true,true,true,false] rfl rfl (one_of HT_.out (by kernel_rfl)) (by decide) (fun K hK => ?_)
       refine goes_ Tryz.func43 (by kernel_rfl) rfl #[.agg #[.slice Ao9 t357.length co9,.slice Ao14 t360.length co14],.int .i64 t370] (by rfl) rfl rfl (by (try simp only [List.map_toArray,List.map_cons,List.map_nil]); (rfl)) ?_
       with_reducible refine (spec_l3Turn.calls _ _ t357 _ _ t360 t370 t373 t376 _ ?side1 ?side2 ?side3 ?side4 A31.out).mono ?_
       (case side1 => repeat ((exact (Kd.R_reads' HO_366000.out).2.2)))
       (case side2 => exact (Kd.R_reads' HO_366000.out).2.1)
       (case side3 => repeat ((exact (Kd.Q_reads' HO_366001.out).2.2)))
       (case side4 => exact (Kd.Q_reads' HO_366001.out).2.1)
       rintro e w37 ⟨v374,v377,rfl,ho0,ho1,hb⟩
       refine ⟨_,rfl,?_⟩
       have n0_:=Aside0.mk (Kd.R_mono (Kd.R_told (Kd.R_told (Kd.R_old (by exact HO_366000.out) hb) (Kd.R_base ho0)) (Kd.R_base ho1)) (fun _ h_ => h_.1))
       have n1_:=Aside0.mk (Kd.Q_mono (Kd.Q_told (Kd.Q_told (Kd.Q_old (by exact HO_366001.out) hb) (Kd.R_base ho0)) (Kd.R_base ho1)) (fun _ h_ => h_.1))
       have n2_:=Aside0.mk (Kd.R_lower (Kd.R_new' (Kd.R_new' ho0 (Kd.R_lt (by exact HO_366000.out))) (Kd.Q_lt (by exact HO_366001.out))) (below_size (by repeat (((with_reducible (exact HB.out)))))))
       have n3_:=Aside0.mk (Kd.R_lower (Kd.R_new' (Kd.R_new' ho1 (Kd.R_lt (by exact HO_366000.out))) (Kd.Q_lt (by exact HO_366001.out))) (below_size (by repeat (((with_reducible (exact HB.out)))))))
       have n4_:=Aside0.mk (blk_below (g:=gb354) (o:=.cells #[.slice none 0 0,.slice none 0 0] 26 (0,0)) (by exact BK354.out) hb)
       have n5_:=Aside0.mk (blk_below (g:=gb355) (o:=.cells #[.slice none 0 0,.slice none 0 0] 26 (0,0)) (by exact BK355.out) hb)
       have n6_:=Aside0.mk (blk_below (g:=gb365) (o:=.cells #[.slice Ao9 t357.length co9,.slice Ao14 t360.length co14] 26 (0,0)) (by exact BK365.out) hb)
       have n7_:=Aside0.mk (IsS69.below (by repeat (((with_reducible (exact HI356.out))))) hb)
       have n8_:=Aside0.mk (blk_below (g:=gb379) (o:=.cells #[.slice none 0 0,.slice none 0 0] 26 (0,0)) (by exact BK379.out) hb)
       have n9_:=Aside0.mk (below_step (by repeat (((with_reducible (exact HB.out))))) hb)
       clear HO_366000
       clear HO_366001
       clear BK354
       clear BK355
       clear BK365
       clear HI356
       clear BK379
       clear HB
       have HO_366000:=n0_
       have HO_366001:=n1_
       have HO375:=n2_
       have HO378:=n3_
       have BK354:=n4_
       have BK355:=n5_
       have BK365:=n6_
       have HI356:=n7_
       have BK379:=n8_
       have HB:=n9_
       clear n0_ n1_ n2_ n3_ n4_ n5_ n6_ n7_ n8_ n9_
       (try clear hb)
       (try clear hb2)
       (try clear hk)
       (try clear hi)
       (try clear ho0)
       (try clear ho1)
       refine hK.out _ _ ⟨(blk_cell BK365.out 0).trans rfl,(blk_cell BK365.out 1).trans rfl⟩ (fun hHeld => ?_)
       clear hK K
       refine norm_ (a':=?_) ?_ ?_
       rotate_left
       ·show Act.put _ (some 25) _ = _
        simp only [Act.put,List.setIfInBounds_toArray,List.set_cons_zero,List.set_cons_succ,i64_w,i32_w]
        rfl
       exact norm_ (by simp only [putAll,Act.put,List.setIfInBounds_toArray,List.set_cons_zero,List.set_cons_succ]) (hCont (v374,v377,gb379) _ ⟨hHeld,(by exact Kd.R_mono HO375.out (fun _ hk => ⟨hk.1.1,⟨hk.1.2,hk.2⟩⟩)),(by exact Kd.R_mono HO378.out (fun _ hk => ⟨hk.1.1,⟨hk.1.2,hk.2⟩⟩)),(by exact Kd.R_mono HO_366000.out (fun _ hk => ⟨hk.1.2,⟨hk.2,hk.1.1⟩⟩)),(by exact Kd.Q_mono HO_366001.out (fun _ hk => ⟨hk.1.2,⟨hk.2,hk.1.1⟩⟩)),(by exact BK354.out),(by exact BK355.out),(by exact BK365.out),(by exact BK379.out),GW379.out,GE379.out,NB356_379.out,NB379_356.out,NB354_379.out,NB379_354.out,NB355_379.out,NB379_355.out,NB365_379.out,NB379_365.out,(by repeat (((with_reducible (exact HI356.out))))),(by repeat (((with_reducible (exact HB.out)))))⟩)
     ·skip
      refine box_step ?hg (N:=6) ?hd (cs:=#[.slice none 0 0,.slice none 0 0]) (t:=26) ?hr ?_; (case hd => rfl); (case hg => rfl); (case hr => (go_simp; done))
      intro gb379 hg w35 hbox hb
      have n0_:=Aside0.mk (Kd.R_below (by exact HO_366000.out) hb)
      have n1_:=Aside0.mk (Kd.Q_below (by exact HO_366001.out) hb)
      have n2_:=Aside0.mk (blk_below (g:=gb354) (o:=.cells #[.slice none 0 0,.slice none 0 0] 26 (0,0)) (by exact BK354.out) hb)
      have n3_:=Aside0.mk (blk_below (g:=gb355) (o:=.cells #[.slice none 0 0,.slice none 0 0] 26 (0,0)) (by exact BK355.out) hb)
      have n4_:=Aside0.mk (blk_below (g:=gb365) (o:=.cells #[.slice Ao9 t357.length co9,.slice Ao14 t360.length co14] 26 (0,0)) (by exact BK365.out) hb)
      have n5_:=Aside0.mk (IsS69.below (by repeat (((with_reducible (exact HI356.out))))) hb)
      have n6_:=Aside0.mk (below_step (by repeat (((with_reducible (exact HB.out))))) hb)
      have n7_:=Aside0.mk (hbox)
      have n8_:=Aside0.mk ((by rw [hg]; exact (below_size (by repeat (((with_reducible (exact HB.out)))))) : w.heap.size ≤ gb379))
      have n9_:=Aside0.mk ((by rw [hg]; exact (below_size (by repeat (((with_reducible (exact HB.out)))))) : w.heap.size ≤ gb379))
      have n10_:=Aside0.mk ((by rw [hg]; exact Nat.ne_of_lt (blk_lt (g:=gb354) (o:=.cells #[.slice none 0 0,.slice none 0 0] 26 (0,0)) (by exact BK354.out)) : gb354 ≠ gb379))
      have n11_:=Aside0.mk ((by rw [hg]; exact Nat.ne_of_gt (blk_lt (g:=gb354) (o:=.cells #[.slice none 0 0,.slice none 0 0] 26 (0,0)) (by exact BK354.out)) : gb379 ≠ gb354))
      have n12_:=Aside0.mk ((by rw [hg]; exact Nat.ne_of_lt (blk_lt (g:=gb355) (o:=.cells #[.slice none 0 0,.slice none 0 0] 26 (0,0)) (by exact BK355.out)) : gb355 ≠ gb379))
      have n13_:=Aside0.mk ((by rw [hg]; exact Nat.ne_of_gt (blk_lt (g:=gb355) (o:=.cells #[.slice none 0 0,.slice none 0 0] 26 (0,0)) (by exact BK355.out)) : gb379 ≠ gb355))
      have n14_:=Aside0.mk ((by rw [hg]; exact Nat.ne_of_lt (blk_lt (g:=gb365) (o:=.cells #[.slice Ao9 t357.length co9,.slice Ao14 t360.length co14] 26 (0,0)) (by exact BK365.out)) : gb365 ≠ gb379))
      have n15_:=Aside0.mk ((by rw [hg]; exact Nat.ne_of_gt (blk_lt (g:=gb365) (o:=.cells #[.slice Ao9 t357.length co9,.slice Ao14 t360.length co14] 26 (0,0)) (by exact BK365.out)) : gb379 ≠ gb365))
      have n16_:=Aside0.mk ((by rw [hg]; exact Nat.ne_of_lt (IsS69.lt (show IsS69 w _ gb356 l0 x357001_2 x357002_2 from by repeat (((with_reducible (exact HI356.out)))))) : gb356 ≠ gb379))
      have n17_:=Aside0.mk ((by rw [hg]; exact Nat.ne_of_gt (IsS69.lt (show IsS69 w _ gb356 l0 x357001_2 x357002_2 from by repeat (((with_reducible (exact HI356.out)))))) : gb379 ≠ gb356))
      clear HO_366000
      clear HO_366001
      clear BK354
      clear BK355
      clear BK365
      clear HI356
      clear HB
      have HO_366000:=n0_
      have HO_366001:=n1_
      have BK354:=n2_
      have BK355:=n3_
      have BK365:=n4_
      have HI356:=n5_
      have HB:=n6_
      have BK379:=n7_
      have GW379:=n8_
      have GE379:=n9_
      have NB354_379:=n10_
      have NB379_354:=n11_
      have NB355_379:=n12_
      have NB379_355:=n13_
      have NB365_379:=n14_
      have NB379_365:=n15_
      have NB356_379:=n16_
      have NB379_356:=n17_
      clear n0_ n1_ n2_ n3_ n4_ n5_ n6_ n7_ n8_ n9_ n10_ n11_ n12_ n13_ n14_ n15_ n16_ n17_
      clear hb hbox hg
      refine hK.out _ _ ⟨(blk_cell BK365.out 0).trans rfl,(blk_cell BK365.out 1).trans rfl⟩ (fun hHeld => ?_)
      clear hK K
      refine norm_ (a':=?_) ?_ ?_
      rotate_left
      ·show Act.put _ (some 6) _ = _
       simp only [Act.put,List.setIfInBounds_toArray,List.set_cons_zero,List.set_cons_succ,i64_w,i32_w]
       rfl
      refine one_ (i:=5) (N:=some 24) #[true,true,true,true,true,true,false,true,false] rfl rfl (one_of HT_.out (by kernel_rfl)) (by decide) (fun K hK => ?_)
      refine goes_ Tryz.func47 (by kernel_rfl) rfl #[.pointer (some ⟨gb356,0,none⟩),.int .i64 (t357.length : Int)] (by rfl) rfl rfl (by (try simp only [List.map_toArray,List.map_cons,List.map_nil]); (rfl)) ?_
      with_reducible refine (spec_l1Cur_pick.calls gb356 l0 x357001_2 x357002_2 (t357.length : Int) t370 t371 t372 w _ ?side1 ?side2 A30.out).mono ?_
      (case side1 => repeat (((with_reducible (exact HI356.out)))))
      (case side2 => repeat (((with_reducible (exact HB.out)))))
      rintro e w36 ⟨rfl,hi,hb,hk⟩
      refine ⟨_,rfl,?_⟩
      have n0_:=Aside0.mk (Kd.R_mono (Kd.R_keep (IsS69.apart (show IsS69 w _ gb356 l0 x357001_2 x357002_2 from by repeat (((with_reducible (exact HI356.out))))) (by exact HO_366000.out) (by decide)) hk (fun _ h => h.2)) (fun _ h => h.1))
      have n1_:=Aside0.mk (Kd.Q_mono (Kd.Q_keep (IsS69.apartQ (show IsS69 w _ gb356 l0 x357001_2 x357002_2 from by repeat (((with_reducible (exact HI356.out))))) (by exact HO_366001.out) (by decide)) hk (fun _ h => h.2)) (fun _ h => h.1))
      have n2_:=Aside0.mk (KeepBut.blk hk (g':=gb354) (o:=.cells #[.slice none 0 0,.slice none 0 0] 26 (0,0)) (by exact BK354.out) NB354_356.out (by simp))
      have n3_:=Aside0.mk (KeepBut.blk hk (g':=gb355) (o:=.cells #[.slice none 0 0,.slice none 0 0] 26 (0,0)) (by exact BK355.out) NB355_356.out (by simp))
      have n4_:=Aside0.mk (KeepBut.blk hk (g':=gb365) (o:=.cells #[.slice Ao9 t357.length co9,.slice Ao14 t360.length co14] 26 (0,0)) (by exact BK365.out) NB365_356.out (by simp))
      have n5_:=Aside0.mk (KeepBut.blk hk (g':=gb379) (o:=.cells #[.slice none 0 0,.slice none 0 0] 26 (0,0)) (by exact BK379.out) NB379_356.out (by simp))
      have n6_:=Aside0.mk (hb)
      have n7_:=Aside0.mk (hi)
      clear HO_366000
      clear HO_366001
      clear BK354
      clear BK355
      clear BK365
      clear BK379
      clear HB
      clear HI356
      have HO_366000:=n0_
      have HO_366001:=n1_
      have BK354:=n2_
      have BK355:=n3_
      have BK365:=n4_
      have BK379:=n5_
      have HB:=n6_
      have HI356:=n7_
      clear n0_ n1_ n2_ n3_ n4_ n5_ n6_ n7_
      (try clear hb)
      (try clear hb2)
      (try clear hk)
      (try clear hi)
      refine hK.out _ _ ⟨(blk_cell BK365.out 0).trans rfl,(blk_cell BK365.out 1).trans rfl⟩ (fun hHeld => ?_)
      clear hK K
      refine norm_ (a':=?_) ?_ ?_
      rotate_left
      ·show Act.put _ (some 24) _ = _
       simp only [Act.put,List.setIfInBounds_toArray,List.set_cons_zero,List.set_cons_succ,i64_w,i32_w]
       rfl
      refine one_ (i:=6) (N:=some 25) #[true,true,true,true,true,true,true,true,false] rfl rfl (one_of HT_.out (by kernel_rfl)) (by decide) (fun K hK => ?_)
      refine goes_ Tryz.func43 (by kernel_rfl) rfl #[.agg #[.slice Ao9 t357.length co9,.slice Ao14 t360.length co14],.int .i64 t370] (by rfl) rfl rfl (by (try simp only [List.map_toArray,List.map_cons,List.map_nil]); (rfl)) ?_
      with_reducible refine (spec_l3Turn.calls _ _ t357 _ _ t360 t370 t373 t376 _ ?side1 ?side2 ?side3 ?side4 A31.out).mono ?_
      (case side1 => repeat ((exact (Kd.R_reads' HO_366000.out).2.2)))
      (case side2 => exact (Kd.R_reads' HO_366000.out).2.1)
      (case side3 => repeat ((exact (Kd.Q_reads' HO_366001.out).2.2)))
      (case side4 => exact (Kd.Q_reads' HO_366001.out).2.1)
      rintro e w37 ⟨v374,v377,rfl,ho0,ho1,hb⟩
      refine ⟨_,rfl,?_⟩
      have n0_:=Aside0.mk (Kd.R_mono (Kd.R_told (Kd.R_told (Kd.R_old (by exact HO_366000.out) hb) (Kd.R_base ho0)) (Kd.R_base ho1)) (fun _ h_ => h_.1))
      have n1_:=Aside0.mk (Kd.Q_mono (Kd.Q_told (Kd.Q_told (Kd.Q_old (by exact HO_366001.out) hb) (Kd.R_base ho0)) (Kd.R_base ho1)) (fun _ h_ => h_.1))
      have n2_:=Aside0.mk (Kd.R_lower (Kd.R_new' (Kd.R_new' ho0 (Kd.R_lt (by exact HO_366000.out))) (Kd.Q_lt (by exact HO_366001.out))) (below_size (by repeat (((with_reducible (exact HB.out)))))))
      have n3_:=Aside0.mk (Kd.R_lower (Kd.R_new' (Kd.R_new' ho1 (Kd.R_lt (by exact HO_366000.out))) (Kd.Q_lt (by exact HO_366001.out))) (below_size (by repeat (((with_reducible (exact HB.out)))))))
      have n4_:=Aside0.mk (blk_below (g:=gb354) (o:=.cells #[.slice none 0 0,.slice none 0 0] 26 (0,0)) (by exact BK354.out) hb)
      have n5_:=Aside0.mk (blk_below (g:=gb355) (o:=.cells #[.slice none 0 0,.slice none 0 0] 26 (0,0)) (by exact BK355.out) hb)
      have n6_:=Aside0.mk (blk_below (g:=gb365) (o:=.cells #[.slice Ao9 t357.length co9,.slice Ao14 t360.length co14] 26 (0,0)) (by exact BK365.out) hb)
      have n7_:=Aside0.mk (IsS69.below (by repeat (((with_reducible (exact HI356.out))))) hb)
      have n8_:=Aside0.mk (blk_below (g:=gb379) (o:=.cells #[.slice none 0 0,.slice none 0 0] 26 (0,0)) (by exact BK379.out) hb)
      have n9_:=Aside0.mk (below_step (by repeat (((with_reducible (exact HB.out))))) hb)
      clear HO_366000
      clear HO_366001
      clear BK354
      clear BK355
      clear BK365
      clear HI356
      clear BK379
      clear HB
      have HO_366000:=n0_
      have HO_366001:=n1_
      have HO375:=n2_
      have HO378:=n3_
      have BK354:=n4_
      have BK355:=n5_
      have BK365:=n6_
      have HI356:=n7_
      have BK379:=n8_
      have HB:=n9_
      clear n0_ n1_ n2_ n3_ n4_ n5_ n6_ n7_ n8_ n9_
      (try clear hb)
      (try clear hb2)
      (try clear hk)
      (try clear hi)
      (try clear ho0)
      (try clear ho1)
      refine hK.out _ _ ⟨(blk_cell BK365.out 0).trans rfl,(blk_cell BK365.out 1).trans rfl⟩ (fun hHeld => ?_)
      clear hK K
      refine norm_ (a':=?_) ?_ ?_
      rotate_left
      ·show Act.put _ (some 25) _ = _
       simp only [Act.put,List.setIfInBounds_toArray,List.set_cons_zero,List.set_cons_succ,i64_w,i32_w]
       rfl
      exact norm_ (by simp only [putAll,Act.put,List.setIfInBounds_toArray,List.set_cons_zero,List.set_cons_succ]) (hCont (v374,v377,gb379) _ ⟨hHeld,(by exact Kd.R_mono HO375.out (fun _ hk => ⟨hk.1.1,⟨hk.1.2,hk.2⟩⟩)),(by exact Kd.R_mono HO378.out (fun _ hk => ⟨hk.1.1,⟨hk.1.2,hk.2⟩⟩)),(by exact Kd.R_mono HO_366000.out (fun _ hk => ⟨hk.1.2,⟨hk.2,hk.1.1⟩⟩)),(by exact Kd.Q_mono HO_366001.out (fun _ hk => ⟨hk.1.2,⟨hk.2,hk.1.1⟩⟩)),(by exact BK354.out),(by exact BK355.out),(by exact BK365.out),(by exact BK379.out),GW379.out,GE379.out,NB356_379.out,NB379_356.out,NB354_379.out,NB379_354.out,NB355_379.out,NB379_355.out,NB365_379.out,NB379_365.out,(by repeat (((with_reducible (exact HI356.out))))),(by repeat (((with_reducible (exact HB.out)))))⟩)
    rintro ⟨v374,v377,gb379⟩ w38 ⟨hS_,h0_,h1_,h2_,h3_,h4_,h5_,h6_,h7_,h8_,h9_,h10_,h11_,h12_,h13_,h14_,h15_,h16_,h17_,h18_,h19_⟩
    have n0_ : Aside0 (Kd.R (Kd.int .i64) 3 w38 w.heap.size (fun k_ => some k_ ≠ (v377 : Value).ownBlock ∧ some k_ ≠ (.slice Ao9 t357.length co9 : Value).ownBlock ∧ some k_ ≠ (.slice Ao14 t360.length co14 : Value).ownBlock) v374 t373):=⟨h0_⟩
    have n1_ : Aside0 (Kd.R (Kd.int .i64) 3 w38 w.heap.size (fun k_ => some k_ ≠ (v374 : Value).ownBlock ∧ some k_ ≠ (.slice Ao9 t357.length co9 : Value).ownBlock ∧ some k_ ≠ (.slice Ao14 t360.length co14 : Value).ownBlock) v377 t376):=⟨h1_⟩
    have n2_ : Aside0 (Kd.R (Kd.int .i64) 3 w38 w.heap.size (fun k_ => some k_ ≠ (v374 : Value).ownBlock ∧ some k_ ≠ (v377 : Value).ownBlock ∧ some k_ ≠ (.slice Ao14 t360.length co14 : Value).ownBlock) (.slice Ao9 t357.length co9) t357):=⟨h2_⟩
    have n3_ : Aside0 (Kd.Q (Kd.int .i64) 3 w38 w.heap.size (fun k_ => some k_ ≠ (v374 : Value).ownBlock ∧ some k_ ≠ (v377 : Value).ownBlock ∧ some k_ ≠ (.slice Ao9 t357.length co9 : Value).ownBlock) (.slice Ao14 t360.length co14) t360):=⟨h3_⟩
    have n4_ : Aside0 (w38.heap[gb354]? = some (.cells #[.slice none 0 0,.slice none 0 0] 26 (0,0))):=⟨h4_⟩
    have n5_ : Aside0 (w38.heap[gb355]? = some (.cells #[.slice none 0 0,.slice none 0 0] 26 (0,0))):=⟨h5_⟩
    have n6_ : Aside0 (w38.heap[gb365]? = some (.cells #[.slice Ao9 t357.length co9,.slice Ao14 t360.length co14] 26 (0,0))):=⟨h6_⟩
    have n7_ : Aside0 (w38.heap[gb379]? = some (.cells #[.slice none 0 0,.slice none 0 0] 26 (0,0))):=⟨h7_⟩
    have n8_ : Aside0 (w.heap.size ≤ gb379):=⟨h8_⟩
    have n9_ : Aside0 (w.heap.size ≤ gb379):=⟨h9_⟩
    have n10_ : Aside0 (gb356 ≠ gb379):=⟨h10_⟩
    have n11_ : Aside0 (gb379 ≠ gb356):=⟨h11_⟩
    have n12_ : Aside0 (gb354 ≠ gb379):=⟨h12_⟩
    have n13_ : Aside0 (gb379 ≠ gb354):=⟨h13_⟩
    have n14_ : Aside0 (gb355 ≠ gb379):=⟨h14_⟩
    have n15_ : Aside0 (gb379 ≠ gb355):=⟨h15_⟩
    have n16_ : Aside0 (gb365 ≠ gb379):=⟨h16_⟩
    have n17_ : Aside0 (gb379 ≠ gb365):=⟨h17_⟩
    have n18_ : Aside0 (IsS69 w w38 gb356 l0 t371 t372):=⟨h18_⟩
    have n19_ : Aside0 (Below w.heap.size w w38):=⟨h19_⟩
    clear HO_366000
    clear HO_366001
    clear BK354
    clear BK355
    clear BK365
    clear HI356
    clear HB
    clear h0_ h1_ h2_ h3_ h4_ h5_ h6_ h7_ h8_ h9_ h10_ h11_ h12_ h13_ h14_ h15_ h16_ h17_ h18_ h19_
    have HO375:=n0_
    have HO378:=n1_
    have HO_366000:=n2_
    have HO_366001:=n3_
    have BK354:=n4_
    have BK355:=n5_
    have BK365:=n6_
    have BK379:=n7_
    have GW379:=n8_
    have GE379:=n9_
    have NB356_379:=n10_
    have NB379_356:=n11_
    have NB354_379:=n12_
    have NB379_354:=n13_
    have NB355_379:=n14_
    have NB379_355:=n15_
    have NB365_379:=n16_
    have NB379_365:=n17_
    have HI356:=n18_
    have HB:=n19_
    clear n0_ n1_ n2_ n3_ n4_ n5_ n6_ n7_ n8_ n9_ n10_ n11_ n12_ n13_ n14_ n15_ n16_ n17_ n18_ n19_
    have hHeld : w38.cell? ⟨gb365,0,none⟩ = some (.slice Ao9 t357.length co9) ∧ w38.cell? ⟨gb365,1,none⟩ = some (.slice Ao14 t360.length co14):=hS_
    obtain ⟨Ao39,co39,eo39⟩:=Kd.R_slice HO375.out
    (subst eo39)
    obtain ⟨Ao41,co41,eo41⟩:=Kd.R_slice HO378.out
    (subst eo41)
    refine norm_ (a':=?_) ?_ ?_
    rotate_left
    ·simp only [putAll,Act.put,List.setIfInBounds_toArray,List.set_cons_zero,List.set_cons_succ]
     rfl
    refine one_ (i:=8) (N:=none) #[true,true,true,true,true,true,true,true,true] rfl rfl (one_of HT_.out (by kernel_rfl)) (by decide) (fun K hK => ?_)
    have hs40 : w38.cell? ⟨gb379,0,none⟩ = some (.slice none 0 0):=(blk_cell BK379.out 0).trans rfl
    have hfs40:=blk_frozen BK379.out 0
    have hns40_0:=NB354_379.out
    have hns40_1:=NB355_379.out
    have hns40_2:=NB365_379.out
    have hms40_0:=NB379_354.out
    have hms40_1:=NB379_355.out
    have hms40_2:=NB379_365.out
    have hs42 : w38.cell? ⟨gb379,1,none⟩ = some (.slice none 0 0):=(blk_cell BK379.out 1).trans rfl
    have hfs42:=blk_frozen BK379.out 1
    have hns42_0:=NB354_379.out
    have hns42_1:=NB355_379.out
    have hns42_2:=NB365_379.out
    have hms42_0:=NB379_354.out
    have hms42_1:=NB379_355.out
    have hms42_2:=NB379_365.out
    refine skip_ (w1:=?_) (by rfl) rfl ?_ ?_
    rotate_left
    ·go_simp
     rfl
    refine hK.out _ _ ⟨((cell_far (p:=⟨gb379,_,none⟩) NB365_379.out _).trans (((cell_far (p:=⟨gb379,_,none⟩) NB365_379.out _).trans (hHeld.1)))),((cell_far (p:=⟨gb379,_,none⟩) NB365_379.out _).trans (((cell_far (p:=⟨gb379,_,none⟩) NB365_379.out _).trans (hHeld.2))))⟩ (fun hHeld => ?_)
    clear hK K
    refine done_ (done_of HT_.out (by kernel_rfl)) ?_
    go_upto_if 27 with ((((with_reducible refine gate_callee (f:=46) rfl ?_); refine goesL_ (some 27) rfl rfl Tryz.func46 (by kernel_rfl) rfl #[.pointer (some ⟨gb356,0,none⟩),.int .i64 3] rfl (by (try simp only [List.map_toArray,List.map_cons,List.map_nil]); (rfl)) ?_; (with_reducible refine (spec_l1Cur_one.calls gb356 l0 t371 t372 3 t380 t381 t382 w _ ?side1 ?side2 A32.out).mono ?_); (case side1 => repeat (with_reducible first|exact HI356.out|refine IsS69.far ?_ NB356_379.out _)); (case side2 => repeat (with_reducible first|exact HB.out|refine below_set ?_ GE379.out)); rintro e w43 ⟨rfl,hi,hb,hk⟩; refine ⟨_,rfl,?_⟩; have n0_:=Aside0.mk (Kd.R_mono (Kd.R_keep (IsS69.apart (show IsS69 w _ gb356 l0 t371 t372 from by repeat (with_reducible first|exact HI356.out|refine IsS69.far ?_ NB356_379.out _)) (by exact (Kd.R_mono (Kd.R_far (p:=⟨gb379,1,none⟩) (Kd.R_far (p:=⟨gb379,0,none⟩) (Kd.R_types HO_366000.out BK379.out (by decide)) (fun _ hk => hk.2) (.slice Ao39 t373.length co39)) (fun _ hk => hk.2) (.slice Ao41 t376.length co41)) (fun _ h_ => h_.1))) (by decide)) hk (fun _ h => h.2)) (fun _ h => h.1)); have n1_:=Aside0.mk (Kd.Q_mono (Kd.Q_keep (IsS69.apartQ (show IsS69 w _ gb356 l0 t371 t372 from by repeat (with_reducible first|exact HI356.out|refine IsS69.far ?_ NB356_379.out _)) (by exact (Kd.Q_mono (Kd.Q_far (p:=⟨gb379,1,none⟩) (Kd.Q_far (p:=⟨gb379,0,none⟩) (Kd.Q_types HO_366001.out BK379.out (by decide)) (fun _ hk => hk.2) (.slice Ao39 t373.length co39)) (fun _ hk => hk.2) (.slice Ao41 t376.length co41)) (fun _ h_ => h_.1))) (by decide)) hk (fun _ h => h.2)) (fun _ h => h.1)); have n2_:=Aside0.mk (KeepBut.blk hk (g':=gb354) (o:=.cells #[.slice none 0 0,.slice none 0 0] 26 (0,0)) (by refine blk_far ?_ NB354_379.out _; refine blk_far ?_ NB354_379.out _; exact BK354.out) NB354_356.out (by simp)); have n3_:=Aside0.mk (KeepBut.blk hk (g':=gb355) (o:=.cells #[.slice none 0 0,.slice none 0 0] 26 (0,0)) (by refine blk_far ?_ NB355_379.out _; refine blk_far ?_ NB355_379.out _; exact BK355.out) NB355_356.out (by simp)); have n4_:=Aside0.mk (KeepBut.blk hk (g':=gb365) (o:=.cells #[.slice Ao9 t357.length co9,.slice Ao14 t360.length co14] 26 (0,0)) (by refine blk_far ?_ NB365_379.out _; refine blk_far ?_ NB365_379.out _; exact BK365.out) NB365_356.out (by simp)); have n5_:=Aside0.mk (Kd.R_mono (Kd.R_keep (IsS69.apart (show IsS69 w _ gb356 l0 t371 t372 from by repeat (with_reducible first|exact HI356.out|refine IsS69.far ?_ NB356_379.out _)) (by exact (Kd.R_mono (Kd.R_far (p:=⟨gb379,1,none⟩) (Kd.R_far (p:=⟨gb379,0,none⟩) (Kd.R_types HO375.out BK379.out (by decide)) (fun _ hk => hk.2) (.slice Ao39 t373.length co39)) (fun _ hk => hk.2) (.slice Ao41 t376.length co41)) (fun _ h_ => h_.1))) (by decide)) hk (fun _ h => h.2)) (fun _ h => h.1)); have n6_:=Aside0.mk (Kd.R_mono (Kd.R_keep (IsS69.apart (show IsS69 w _ gb356 l0 t371 t372 from by repeat (with_reducible first|exact HI356.out|refine IsS69.far ?_ NB356_379.out _)) (by exact (Kd.R_mono (Kd.R_far (p:=⟨gb379,1,none⟩) (Kd.R_far (p:=⟨gb379,0,none⟩) (Kd.R_types HO378.out BK379.out (by decide)) (fun _ hk => hk.2) (.slice Ao39 t373.length co39)) (fun _ hk => hk.2) (.slice Ao41 t376.length co41)) (fun _ h_ => h_.1))) (by decide)) hk (fun _ h => h.2)) (fun _ h => h.1)); have n7_:=Aside0.mk (KeepBut.blk hk (g':=gb379) (o:=.cells #[.slice Ao39 t373.length co39,.slice Ao41 t376.length co41] 26 (0,0)) (by refine blk_put (cs:=#[.slice Ao39 t373.length co39,.slice none 0 0]) ?_ 1 _ rfl; refine blk_put (cs:=#[.slice none 0 0,.slice none 0 0]) ?_ 0 _ rfl; exact BK379.out) NB379_356.out (by simp)); have n8_:=Aside0.mk (hb); have n9_:=Aside0.mk (hi); clear HO_366000; clear HO_366001; clear BK354; clear BK355; clear BK365; clear HO375; clear HO378; clear BK379; clear HB; clear HI356; have HO_366000:=n0_; have HO_366001:=n1_; have BK354:=n2_; have BK355:=n3_; have BK365:=n4_; have HO375:=n5_; have HO378:=n6_; have BK379:=n7_; have HB:=n8_; have HI356:=n9_; clear n0_ n1_ n2_ n3_ n4_ n5_ n6_ n7_ n8_ n9_; (try clear hb); (try clear hb2); (try clear hk); (try clear hi))))
    (try simp only [Act.put,List.setIfInBounds_toArray,List.set_cons_zero,List.set_cons_succ])
    go_cut [] (fun wc => ∃ (kq : Nat) (x366000_32 : List Int) (x366001_32 : List Int) (x380000_32 : List Int) (x380001_32 : List Int) (u366000 : Value) (u366001 : Value) (u380000 : Value) (u380001 : Value),Aside0 (spec_DrawSameCycle.j1 kq x366000_32 x366001_32 x380000_32 x380001_32 = some (r1,r2,r3,r4)) ∧ Aside0 (kq ≤ kj2) ∧ Aside0 (Kd.R (Kd.int .i64) 3 wc w.heap.size (fun k_ => some k_ ≠ (u366001 : Value).ownBlock ∧ some k_ ≠ (u380000 : Value).ownBlock ∧ some k_ ≠ (u380001 : Value).ownBlock) u366000 x366000_32) ∧ Aside0 (Kd.Q (Kd.int .i64) 3 wc w.heap.size (fun k_ => some k_ ≠ (u366000 : Value).ownBlock ∧ some k_ ≠ (u380000 : Value).ownBlock ∧ some k_ ≠ (u380001 : Value).ownBlock) u366001 x366001_32) ∧ Aside0 (Kd.R (Kd.int .i64) 3 wc w.heap.size (fun k_ => some k_ ≠ (u366000 : Value).ownBlock ∧ some k_ ≠ (u366001 : Value).ownBlock ∧ some k_ ≠ (u380001 : Value).ownBlock) u380000 x380000_32) ∧ Aside0 (Kd.Q (Kd.int .i64) 3 wc w.heap.size (fun k_ => some k_ ≠ (u366000 : Value).ownBlock ∧ some k_ ≠ (u366001 : Value).ownBlock ∧ some k_ ≠ (u380000 : Value).ownBlock) u380001 x380001_32) ∧ Aside0 (wc.heap[gb354]? = some (.cells #[(.slice none 0 0),(.slice none 0 0)] 26 (0,0))) ∧ Aside0 (wc.heap[gb355]? = some (.cells #[(.slice none 0 0),(.slice none 0 0)] 26 (0,0))) ∧ Aside0 (wc.heap[gb365]? = some (.cells #[u366000,u366001] 26 (0,0))) ∧ Aside0 (wc.heap[gb379]? = some (.cells #[u380000,u380001] 26 (0,0))) ∧ Aside0 (Below w.heap.size w wc))
    case first =>
     have H:=HC33.out
     clear HC33
     by_cases c44 : t380 = true
     ·subst c44
      have H1 : ((spec_l1Cur_among.f l0 t381 t382 ([1,2,3] : List Int)).bind fun bt386 => (if 0 < (t376.length : Int) then (spec_DrawSameCycle.j1 kj2 t357 t360 t373 (t376.set (0 : Int).toNat bt386.1)) else (none))) = some (r1,r2,r3,r4):=by rw [if_pos rfl] at H; exact H
      clear H
      have H:=H1
      clear H1
      obtain ⟨y383,hy383⟩ : ∃ y_ : List Int,y_ = ([1,2,3] : List Int):=⟨_,rfl⟩
      replace H : ((spec_l1Cur_among.f l0 t381 t382 y383).bind fun bt386 => (if 0 < (t376.length : Int) then (spec_DrawSameCycle.j1 kj2 t357 t360 t373 (t376.set (0 : Int).toNat bt386.1)) else (none))) = some (r1,r2,r3,r4):=by (rw [hy383]; with_reducible exact H)
      have Ny383:=Aside0.mk hy383
      clear hy383
      replace H:=Option.bind_eq_some_iff.mp H
      obtain ⟨⟨t386,t387,t388⟩,A450,H⟩:=H
      replace H : (if 0 < (t376.length : Int) then (spec_DrawSameCycle.j1 kj2 t357 t360 t373 (t376.set (0 : Int).toNat t386)) else (none)) = some (r1,r2,r3,r4):=H
      have A45:=Aside0.mk A450
      clear A450
      by_cases c46 : 0 < (t376.length : Int)
      ·rw [if_pos c46] at H
       have c46b0 : decide (0 < (t376.length : Int)) = true:=decide_eq_true c46
       have c46b1 : decide (0 < t376.length) = true:=decide_eq_true (by omega)
       clear c46
       (skip)
       obtain ⟨y389,hy389⟩ : ∃ y_ : List Int,y_ = (t376.set (0 : Int).toNat t386):=⟨_,rfl⟩
       replace H : (spec_DrawSameCycle.j1 kj2 t357 t360 t373 y389) = some (r1,r2,r3,r4):=by (rw [hy389]; with_reducible exact H)
       have Ny389:=Aside0.mk hy389
       clear hy389
       have H':=Aside0.mk H
       clear H
       try go_wp2
       have n0_:=Aside0.mk (Kd.R_drew HO_366000.out)
       have n1_:=Aside0.mk (Kd.Q_drew HO_366001.out)
       have n2_:=Aside0.mk (Kd.R_drew HO375.out)
       have n3_:=Aside0.mk (Kd.R_drew HO378.out)
       have n4_:=Aside0.mk (blk_drew BK354.out)
       have n5_:=Aside0.mk (blk_drew BK355.out)
       have n6_:=Aside0.mk (blk_drew BK365.out)
       have n7_:=Aside0.mk (blk_drew BK379.out)
       have n8_:=Aside0.mk (IsS69.drew HI356.out)
       have n9_:=Aside0.mk (below_drew1 HB.out)
       clear HO_366000
       clear HO_366001
       clear HO375
       clear HO378
       clear BK354
       clear BK355
       clear BK365
       clear BK379
       clear HI356
       clear HB
       have HO_366000:=n0_
       have HO_366001:=n1_
       have HO375:=n2_
       have HO378:=n3_
       have BK354:=n4_
       have BK355:=n5_
       have BK365:=n6_
       have BK379:=n7_
       have HI356:=n8_
       have HB:=n9_
       clear n0_ n1_ n2_ n3_ n4_ n5_ n6_ n7_ n8_ n9_
       refine start_ (n:=7) (S:=fun w' => w'.cell? ⟨gb379,0,none⟩ = some (.slice Ao39 t373.length co39) ∧ w'.cell? ⟨gb379,1,none⟩ = some (.slice Ao41 t376.length co41)) (ds:=[6]) #[false,false,false,false,false,false,false] (by kernel_rfl) rfl rfl ⟨(blk_cell BK379.out 0).trans rfl,(blk_cell BK379.out 1).trans rfl⟩ (fun hHeld => ?_)
       generalize w43.drew = w48 at HO_366000 HO_366001 HO375 HO378 BK354 BK355 BK365 BK379 HI356 HB hHeld ⊢
       refine pure_ (i:=0) (N:=some 28) (v:=?_) (a':=?_) #[true,false,false,false,false,false,false] rfl rfl (by kernel_rfl) (fun _ _ _ h => h) (Or.inl ⟨by rfl,?_⟩) ?_ ?_
       rotate_left
       ·intro w'
        go_simp
        with_reducible rfl
       rotate_left
       ·simp only [Act.put,List.setIfInBounds_toArray,List.set_cons_zero,List.set_cons_succ,i64_w,i32_w]
        rfl
       refine pure_ (i:=2) (N:=some 30) (v:=?_) (a':=?_) #[true,false,true,false,false,false,false] rfl rfl (by kernel_rfl) (fun _ _ _ h => h) (Or.inl ⟨by rfl,?_⟩) ?_ ?_
       rotate_left
       ·intro w'
        go_simp
        with_reducible rfl
       rotate_left
       ·simp only [Act.put,List.setIfInBounds_toArray,List.set_cons_zero,List.set_cons_succ,i64_w,i32_w]
        rfl
       refine take_ (i:=1) (N:=some 29) (v:=?_) (a':=?_) #[true,true,true,false,false,false,false] rfl rfl (by kernel_rfl) (fun _ _ _ h => h) (Or.inl ⟨by rfl,?_⟩) hHeld ?_ ?_
       rotate_left
       ·rintro w' ⟨s0,s1⟩
        go_simp
        with_reducible rfl
       rotate_left
       ·simp only [Act.put,List.setIfInBounds_toArray,List.set_cons_zero,List.set_cons_succ,i64_w,i32_w]
        rfl
       refine one_ (i:=3) (N:=some 31) #[true,true,true,true,false,false,false] rfl rfl (by kernel_rfl) (by decide) (fun K hK => ?_)
       refine Kd.R_lit_step (Kd.int .i64) _ 3 ?hg (N:=31) ?hd (xs:=([1,2,3] : List Int)) (inner:=[.int .i64 1,.int .i64 2,.int .i64 3]) (ok:=fun _ => True) (okp:=fun _ => True) ?hr ?hp (fun _ hk => hk) trivial (Below.refl _ _) (Nat.le_refl _) (by simp) ?_; (case hd => rfl); (case hg => rfl); (case hr => (go_simp; done)); (case hp => exact (Reps.one (show Kd.M (Kd.int .i64) _ _ _ 1 [.int .i64 1] from rfl) (Reps.one (show Kd.M (Kd.int .i64) _ _ _ 2 [.int .i64 2] from rfl) (Reps.one (show Kd.M (Kd.int .i64) _ _ _ 3 [.int .i64 3] from rfl) (Reps.none _ _)))))
       intro v384 w49 ho50 hb hg_ hnew_
       clear hg_ hnew_
       (rw [← Ny383.out] at ho50)
       have n0_:=Aside0.mk (Kd.R_elder' (by exact HO_366000.out) (Kd.R_base ho50) hb)
       have n1_:=Aside0.mk (Kd.Q_elder' (by exact HO_366001.out) (Kd.R_base ho50) hb)
       have n2_:=Aside0.mk (Kd.R_elder' (by exact HO375.out) (Kd.R_base ho50) hb)
       have n3_:=Aside0.mk (Kd.R_elder' (by exact HO378.out) (Kd.R_base ho50) hb)
       have n4_:=Aside0.mk (Kd.R_lower (Kd.R_new' (Kd.R_new' (Kd.R_new' (Kd.R_new' ho50 (Kd.R_lt (by exact HO_366000.out))) (Kd.Q_lt (by exact HO_366001.out))) (Kd.R_lt (by exact HO375.out))) (Kd.R_lt (by exact HO378.out))) (below_size (by repeat (((with_reducible (exact HB.out)))))))
       have n5_:=Aside0.mk (blk_below (g:=gb354) (o:=.cells #[.slice none 0 0,.slice none 0 0] 26 (0,0)) (by exact BK354.out) hb)
       have n6_:=Aside0.mk (blk_below (g:=gb355) (o:=.cells #[.slice none 0 0,.slice none 0 0] 26 (0,0)) (by exact BK355.out) hb)
       have n7_:=Aside0.mk (blk_below (g:=gb365) (o:=.cells #[.slice Ao9 t357.length co9,.slice Ao14 t360.length co14] 26 (0,0)) (by exact BK365.out) hb)
       have n8_:=Aside0.mk (IsS69.below (by repeat (((with_reducible (exact HI356.out))))) hb)
       have n9_:=Aside0.mk (blk_below (g:=gb379) (o:=.cells #[.slice Ao39 t373.length co39,.slice Ao41 t376.length co41] 26 (0,0)) (by exact BK379.out) hb)
       have n10_:=Aside0.mk (below_step (by repeat (((with_reducible (exact HB.out))))) hb)
       clear HO_366000
       clear HO_366001
       clear HO375
       clear HO378
       clear BK354
       clear BK355
       clear BK365
       clear HI356
       clear BK379
       clear HB
       have HO_366000:=n0_
       have HO_366001:=n1_
       have HO375:=n2_
       have HO378:=n3_
       have HO385:=n4_
       have BK354:=n5_
       have BK355:=n6_
       have BK365:=n7_
       have HI356:=n8_
       have BK379:=n9_
       have HB:=n10_
       clear n0_ n1_ n2_ n3_ n4_ n5_ n6_ n7_ n8_ n9_ n10_
       clear hb ho50
       obtain ⟨Ao51,co51,eo51⟩:=Kd.R_slice HO385.out
       (subst eo51)
       refine hK.out _ _ ⟨(blk_cell BK379.out 0).trans rfl,(blk_cell BK379.out 1).trans rfl⟩ (fun hHeld => ?_)
       clear hK K
       refine norm_ (a':=?_) ?_ ?_
       rotate_left
       ·show Act.put _ (some 31) _ = _
        simp only [Act.put,List.setIfInBounds_toArray,List.set_cons_zero,List.set_cons_succ,i64_w,i32_w]
        rfl
       refine one_ (i:=4) (N:=some 32) #[true,true,true,true,true,false,false] rfl rfl (by kernel_rfl) (by decide) (fun K hK => ?_)
       refine goes_ Tryz.func48 (by kernel_rfl) rfl #[.pointer (some ⟨gb356,0,none⟩),.slice Ao51 y383.length co51] (by rfl) rfl rfl (by (try simp only [List.map_toArray,List.map_cons,List.map_nil]); (rfl)) ?_
       with_reducible refine (spec_l1Cur_among.calls gb356 l0 t381 t382 _ _ y383 t386 t387 t388 w _ ?side1 ?side2 ?side3 ?side4 ?side5 A45.out).mono ?_
       (case side1 => repeat (((with_reducible (exact HI356.out)))))
       (case side2 => repeat (((with_reducible (exact HB.out)))))
       (case side3 => repeat ((exact (Kd.R_reads' HO385.out).2.2)))
       (case side4 => exact (Kd.R_reads' HO385.out).2.1)
       (case side5 => exact far_slice (IsS69.own_ne HI356.out HO385.out (by decide)))
       rintro e w52 ⟨rfl,hi,hb,hk⟩
       refine ⟨_,rfl,?_⟩
       have n0_:=Aside0.mk (Kd.R_mono (Kd.R_keep (IsS69.apart (show IsS69 w _ gb356 l0 t381 t382 from by repeat (((with_reducible (exact HI356.out))))) (by exact HO_366000.out) (by decide)) hk (fun _ h => h.2)) (fun _ h => h.1))
       have n1_:=Aside0.mk (Kd.Q_mono (Kd.Q_keep (IsS69.apartQ (show IsS69 w _ gb356 l0 t381 t382 from by repeat (((with_reducible (exact HI356.out))))) (by exact HO_366001.out) (by decide)) hk (fun _ h => h.2)) (fun _ h => h.1))
       have n2_:=Aside0.mk (KeepBut.blk hk (g':=gb354) (o:=.cells #[.slice none 0 0,.slice none 0 0] 26 (0,0)) (by exact BK354.out) NB354_356.out (by simp))
       have n3_:=Aside0.mk (KeepBut.blk hk (g':=gb355) (o:=.cells #[.slice none 0 0,.slice none 0 0] 26 (0,0)) (by exact BK355.out) NB355_356.out (by simp))
       have n4_:=Aside0.mk (KeepBut.blk hk (g':=gb365) (o:=.cells #[.slice Ao9 t357.length co9,.slice Ao14 t360.length co14] 26 (0,0)) (by exact BK365.out) NB365_356.out (by simp))
       have n5_:=Aside0.mk (Kd.R_mono (Kd.R_keep (IsS69.apart (show IsS69 w _ gb356 l0 t381 t382 from by repeat (((with_reducible (exact HI356.out))))) (by exact HO375.out) (by decide)) hk (fun _ h => h.2)) (fun _ h => h.1))
       have n6_:=Aside0.mk (Kd.R_mono (Kd.R_keep (IsS69.apart (show IsS69 w _ gb356 l0 t381 t382 from by repeat (((with_reducible (exact HI356.out))))) (by exact HO378.out) (by decide)) hk (fun _ h => h.2)) (fun _ h => h.1))
       have n7_:=Aside0.mk (KeepBut.blk hk (g':=gb379) (o:=.cells #[.slice Ao39 t373.length co39,.slice Ao41 t376.length co41] 26 (0,0)) (by exact BK379.out) NB379_356.out (by simp))
       have n8_:=Aside0.mk (Kd.R_mono (Kd.R_keep (IsS69.apart (show IsS69 w _ gb356 l0 t381 t382 from by repeat (((with_reducible (exact HI356.out))))) (by exact HO385.out) (by decide)) hk (fun _ h => h.2)) (fun _ h => h.1))
       have n9_:=Aside0.mk (hb)
       have n10_:=Aside0.mk (hi)
       clear HO_366000
       clear HO_366001
       clear BK354
       clear BK355
       clear BK365
       clear HO375
       clear HO378
       clear BK379
       clear HO385
       clear HB
       clear HI356
       have HO_366000:=n0_
       have HO_366001:=n1_
       have BK354:=n2_
       have BK355:=n3_
       have BK365:=n4_
       have HO375:=n5_
       have HO378:=n6_
       have BK379:=n7_
       have HO385:=n8_
       have HB:=n9_
       have HI356:=n10_
       clear n0_ n1_ n2_ n3_ n4_ n5_ n6_ n7_ n8_ n9_ n10_
       (try clear hb)
       (try clear hb2)
       (try clear hk)
       (try clear hi)
       have p47 : 0 ≤ (0 : Int):=(by omega)
       have q47 : (0 : Int) < ((t376.length : Int) : Int):=of_decide_eq_true (by (with_reducible assumption))
       have qi47 : (0 < t376.length) = True:=eq_true (by omega)
       obtain ⟨go47,co47,eo47,gb47,gl47,cl47,HG47⟩:=Kd.R_form HO378.out (by omega)
       (cases eo47)
       have GB47:=Aside0.mk gb47
       have GG47:=Aside0.mk HG47
       clear gb47 gl47 HG47
       obtain ⟨hx47_0,hf47_0⟩:=Kd.R_celln 0 HO378.out (0 : Int) p47 q47
       (try rw [show (0 : Int).toNat = 0 from rfl] at hx47_0)
       (try simp only [Nat.reduceMul,Nat.zero_mul,Nat.zero_add,Nat.reduceAdd] at hx47_0)
       (try rw [show (0 : Int).toNat = 0 from rfl] at hf47_0)
       (try simp only [Nat.reduceMul,Nat.zero_mul,Nat.zero_add,Nat.reduceAdd] at hf47_0)
       replace p47:=eq_true p47
       replace q47:=eq_true q47
       have HN356_go47:=Aside0.mk (show gb356 ≠ go47 from by have h_:=IsS69.own_ne HI356.out HO378.out (by decide); intro e_; exact h_ (by rw [e_]; rfl))
       have HP53:=Kd.R_putn HO378.out (0 : Int) t386
       rw [← Ny389.out] at HP53
       have HQ53:=Aside0.mk HP53
       clear HP53
       refine hK.out _ _ ⟨(blk_cell BK379.out 0).trans rfl,(blk_cell BK379.out 1).trans rfl⟩ (fun hHeld => ?_)
       clear hK K
       refine norm_ (a':=?_) ?_ ?_
       rotate_left
       ·show Act.put _ (some 32) _ = _
        simp only [Act.put,List.setIfInBounds_toArray,List.set_cons_zero,List.set_cons_succ,i64_w,i32_w]
        rfl
       refine pure_ (i:=5) (N:=some 33) (v:=?_) (a':=?_) #[true,true,true,true,true,true,false] rfl rfl (by kernel_rfl) (fun _ _ _ h => h) (Or.inl ⟨by rfl,?_⟩) ?_ ?_
       rotate_left
       ·intro w'
        go_simp
        with_reducible rfl
       rotate_left
       ·simp only [Act.put,List.setIfInBounds_toArray,List.set_cons_zero,List.set_cons_succ,i64_w,i32_w]
        rfl
       refine last_ (i:=6) (N:=none) #[true,true,true,true,true,true,true] rfl rfl (by kernel_rfl) (by decide) (fun K hK => ?_)
       refine skip_ (w1:=?_) (by rfl) rfl ?_ ?_
       rotate_left
       ·go_simp
        rfl
       refine hK.out _ _ ?_
       clear hK K
       refine done_ (by kernel_rfl) ?_
       try go_wp2
       go_meet
       case rel => exact ⟨_,(t357),(t360),(t373),(y389),(.slice Ao9 t357.length co9),(.slice Ao14 t360.length co14),(.slice Ao39 t373.length co39),(.slice (some ⟨go47,0,none⟩) t376.length co41),H',⟨by have:=HJ2.out; (omega)⟩,⟨by exact Kd.R_mono (Kd.R_far (p:=⟨go47,0,none⟩) (Kd.R_mono HO_366000.out (fun k_ hk => (⟨hk,fun e_ => hk.1.2.1 (by rw [e_]; rfl)⟩ : _ ∧ k_ ≠ go47))) (fun _ hk => hk.2) (.int .i64 t386)) (fun _ hk => ⟨hk.1.1.2.2,⟨hk.1.1.1,hk.1.1.2.1⟩⟩)⟩,⟨by exact Kd.Q_mono (Kd.Q_far (p:=⟨go47,0,none⟩) (Kd.Q_mono HO_366001.out (fun k_ hk => (⟨hk,fun e_ => hk.1.2.1 (by rw [e_]; rfl)⟩ : _ ∧ k_ ≠ go47))) (fun _ hk => hk.2) (.int .i64 t386)) (fun _ hk => ⟨hk.1.1.2.2,⟨hk.1.1.1,hk.1.1.2.1⟩⟩)⟩,⟨by exact Kd.R_mono (Kd.R_far (p:=⟨go47,0,none⟩) (Kd.R_mono HO375.out (fun k_ hk => (⟨hk,fun e_ => hk.1.1 (by rw [e_]; rfl)⟩ : _ ∧ k_ ≠ go47))) (fun _ hk => hk.2) (.int .i64 t386)) (fun _ hk => ⟨hk.1.1.2.1,⟨hk.1.1.2.2,hk.1.1.1⟩⟩)⟩,⟨Kd.Q_of_R (by exact Kd.R_mono HQ53.out (fun _ hk => ⟨hk.1.2.1,⟨hk.1.2.2,hk.1.1⟩⟩))⟩,⟨by refine blk_far ?_ (by have h_:=Kd.R_ne HO378.out BK354.out (by decide); intro e_; exact h_ (by rw [e_]; rfl)) _; exact BK354.out⟩,⟨by refine blk_far ?_ (by have h_:=Kd.R_ne HO378.out BK355.out (by decide); intro e_; exact h_ (by rw [e_]; rfl)) _; exact BK355.out⟩,⟨by refine blk_far ?_ (by have h_:=Kd.R_ne HO378.out BK365.out (by decide); intro e_; exact h_ (by rw [e_]; rfl)) _; exact BK365.out⟩,⟨by refine blk_far ?_ (by have h_:=Kd.R_ne HO378.out BK379.out (by decide); intro e_; exact h_ (by rw [e_]; rfl)) _; exact BK379.out⟩,⟨by repeat (with_reducible first|exact HB.out|refine below_set ?_ GB47.out)⟩⟩
      ·rw [if_neg c46] at H
       exact absurd H (by simp)
     ·replace c44:=Bool.eq_false_iff.mpr c44
      subst c44
      have H1 : (spec_DrawSameCycle.j1 kj2 t357 t360 t373 t376) = some (r1,r2,r3,r4):=by rw [if_neg (show ¬ (false = true) by decide)] at H; exact H
      clear H
      have H:=H1
      clear H1
      have H':=Aside0.mk H
      clear H
      go_wp2
      go_meet
      case rel => exact ⟨_,(t357),(t360),(t373),(t376),(.slice Ao9 t357.length co9),(.slice Ao14 t360.length co14),(.slice Ao39 t373.length co39),(.slice Ao41 t376.length co41),H',⟨by have:=HJ2.out; (omega)⟩,⟨by exact Kd.R_mono HO_366000.out (fun _ hk => ⟨hk.2.2,⟨hk.1,hk.2.1⟩⟩)⟩,⟨by exact Kd.Q_mono HO_366001.out (fun _ hk => ⟨hk.2.2,⟨hk.1,hk.2.1⟩⟩)⟩,⟨by exact Kd.R_mono HO375.out (fun _ hk => ⟨hk.2.1,⟨hk.2.2,hk.1⟩⟩)⟩,⟨Kd.Q_of_R (by exact Kd.R_mono HO378.out (fun _ hk => ⟨hk.2.1,⟨hk.2.2,hk.1⟩⟩))⟩,⟨by exact BK354.out⟩,⟨by exact BK355.out⟩,⟨by exact BK365.out⟩,⟨by exact BK379.out⟩,⟨by repeat (((with_reducible (exact HB.out))))⟩⟩
    case rest =>
     clear HC33
     try clear p2
     try clear c4
     try clear p4
     try clear q4
     try clear hx4
     try clear qi4
     try clear hf4
     try clear c43
     try clear c44
     try clear c46
     try clear c46b0
     try clear c46b1
     try clear c47
     try clear p47
     try clear q47
     try clear hx47
     try clear qi47
     try clear hf47
     try clear c48
     try clear hx47_0
     try clear p47
     try clear q47
     obtain ⟨kq,x366000_32,x366001_32,x380000_32,x380001_32,u366000,u366001,u380000,u380001,HA,HJ32,HO_366000,HO_366001,HO_380000,HO_380001,BK354,BK355,BK365,BK379,HB⟩:=hcut
     cases kq with
     | zero => exact absurd HA.out (by simp [spec_DrawSameCycle.j1])
     | succ kj32 =>
      have H:=HA.out
      clear HA
      simp only [spec_DrawSameCycle.j1] at H
      simp only [Option.some.injEq,Prod.mk.injEq] at H
      obtain ⟨rfl,rfl,rfl,rfl⟩:=H
      try go_wp2
      have n0_:=Aside0.mk (Kd.R_drew HO_366000.out)
      have n1_:=Aside0.mk (Kd.Q_drew HO_366001.out)
      have n2_:=Aside0.mk (Kd.R_drew HO_380000.out)
      have n3_:=Aside0.mk (Kd.Q_drew HO_380001.out)
      have n4_:=Aside0.mk (blk_drew BK354.out)
      have n5_:=Aside0.mk (blk_drew BK355.out)
      have n6_:=Aside0.mk (blk_drew BK365.out)
      have n7_:=Aside0.mk (blk_drew BK379.out)
      have n8_:=Aside0.mk (below_drew1 HB.out)
      clear HO_366000
      clear HO_366001
      clear HO_380000
      clear HO_380001
      clear BK354
      clear BK355
      clear BK365
      clear BK379
      clear HB
      have HO_366000:=n0_
      have HO_366001:=n1_
      have HO_380000:=n2_
      have HO_380001:=n3_
      have BK354:=n4_
      have BK355:=n5_
      have BK365:=n6_
      have BK379:=n7_
      have HB:=n8_
      clear n0_ n1_ n2_ n3_ n4_ n5_ n6_ n7_ n8_
      obtain ⟨Ao55,co55,eo55⟩:=Kd.R_slice HO_366000.out
      (subst eo55)
      obtain ⟨Ao57,co57,eo57,_⟩:=Kd.Q_slice HO_366001.out
      (subst eo57)
      obtain ⟨Ao59,co59,eo59⟩:=Kd.R_slice HO_380000.out
      (subst eo59)
      obtain ⟨Ao61,co61,eo61,_⟩:=Kd.Q_slice HO_380001.out
      (subst eo61)
      refine start_ (n:=4) (S:=fun w' => w'.cell? ⟨gb365,0,none⟩ = some (.slice Ao55 x366000_32.length co55) ∧ w'.cell? ⟨gb365,1,none⟩ = some (.slice Ao57 x366001_32.length co57) ∧ w'.cell? ⟨gb379,0,none⟩ = some (.slice Ao59 x380000_32.length co59) ∧ w'.cell? ⟨gb379,1,none⟩ = some (.slice Ao61 x380001_32.length co61)) (ds:=[]) #[false,false,false,false] (by kernel_rfl) rfl rfl ⟨(blk_cell BK365.out 0).trans rfl,(blk_cell BK365.out 1).trans rfl,(blk_cell BK379.out 0).trans rfl,(blk_cell BK379.out 1).trans rfl⟩ (fun hHeld => ?_)
      generalize wc.drew = w54 at HO_366000 HO_366001 HO_380000 HO_380001 BK354 BK355 BK365 BK379 HB hHeld ⊢
      refine take_ (i:=0) (N:=some 34) (v:=?_) (a':=?_) #[true,false,false,false] rfl rfl (by kernel_rfl) (fun _ _ _ h => h) (Or.inl ⟨by rfl,?_⟩) hHeld ?_ ?_
      rotate_left
      ·rintro w' ⟨s0,s1,s2,s3⟩
       go_simp
       with_reducible rfl
      rotate_left
      ·simp only [Act.put,List.setIfInBounds_toArray,List.set_cons_zero,List.set_cons_succ,i64_w,i32_w]
       rfl
      refine take_ (i:=1) (N:=some 35) (v:=?_) (a':=?_) #[true,true,false,false] rfl rfl (by kernel_rfl) (fun _ _ _ h => h) (Or.inl ⟨by rfl,?_⟩) hHeld ?_ ?_
      rotate_left
      ·rintro w' ⟨s0,s1,s2,s3⟩
       go_simp
       with_reducible rfl
      rotate_left
      ·simp only [Act.put,List.setIfInBounds_toArray,List.set_cons_zero,List.set_cons_succ,i64_w,i32_w]
       rfl
      refine one_ (i:=2) (N:=none) #[true,true,true,false] rfl rfl (by kernel_rfl) (by decide) (fun K hK => ?_)
      have hs56 : w54.cell? ⟨gb354,0,none⟩ = some (.slice none 0 0):=(blk_cell BK354.out 0).trans rfl
      have hfs56:=blk_frozen BK354.out 0
      have hns56_1:=NB355_354.out
      have hns56_2:=NB365_354.out
      have hns56_3:=NB379_354.out
      have hms56_1:=NB354_355.out
      have hms56_2:=NB354_365.out
      have hms56_3:=NB354_379.out
      have hs58 : w54.cell? ⟨gb354,1,none⟩ = some (.slice none 0 0):=(blk_cell BK354.out 1).trans rfl
      have hfs58:=blk_frozen BK354.out 1
      have hns58_1:=NB355_354.out
      have hns58_2:=NB365_354.out
      have hns58_3:=NB379_354.out
      have hms58_1:=NB354_355.out
      have hms58_2:=NB354_365.out
      have hms58_3:=NB354_379.out
      refine skip_ (w1:=?_) (by rfl) rfl ?_ ?_
      rotate_left
      ·go_simp
       rfl
      refine hK.out _ _ ⟨((cell_far (p:=⟨gb354,_,none⟩) NB365_354.out _).trans (((cell_far (p:=⟨gb354,_,none⟩) NB365_354.out _).trans (hHeld.1)))),((cell_far (p:=⟨gb354,_,none⟩) NB365_354.out _).trans (((cell_far (p:=⟨gb354,_,none⟩) NB365_354.out _).trans (hHeld.2.1)))),((cell_far (p:=⟨gb354,_,none⟩) NB379_354.out _).trans (((cell_far (p:=⟨gb354,_,none⟩) NB379_354.out _).trans (hHeld.2.2.1)))),((cell_far (p:=⟨gb354,_,none⟩) NB379_354.out _).trans (((cell_far (p:=⟨gb354,_,none⟩) NB379_354.out _).trans (hHeld.2.2.2))))⟩ (fun hHeld => ?_)
      clear hK K
      refine one_ (i:=3) (N:=none) #[true,true,true,true] rfl rfl (by kernel_rfl) (by decide) (fun K hK => ?_)
      have hs60 : w54.cell? ⟨gb355,0,none⟩ = some (.slice none 0 0):=(blk_cell BK355.out 0).trans rfl
      have hfs60:=blk_frozen BK355.out 0
      have hns60_0:=NB354_355.out
      have hns60_2:=NB365_355.out
      have hns60_3:=NB379_355.out
      have hms60_0:=NB355_354.out
      have hms60_2:=NB355_365.out
      have hms60_3:=NB355_379.out
      have hs62 : w54.cell? ⟨gb355,1,none⟩ = some (.slice none 0 0):=(blk_cell BK355.out 1).trans rfl
      have hfs62:=blk_frozen BK355.out 1
      have hns62_0:=NB354_355.out
      have hns62_2:=NB365_355.out
      have hns62_3:=NB379_355.out
      have hms62_0:=NB355_354.out
      have hms62_2:=NB355_365.out
      have hms62_3:=NB355_379.out
      refine skip_ (w1:=?_) (by rfl) rfl ?_ ?_
      rotate_left
      ·go_simp
       rfl
      refine hK.out _ _ ⟨((cell_far (p:=⟨gb355,_,none⟩) NB365_355.out _).trans (((cell_far (p:=⟨gb355,_,none⟩) NB365_355.out _).trans (hHeld.1)))),((cell_far (p:=⟨gb355,_,none⟩) NB365_355.out _).trans (((cell_far (p:=⟨gb355,_,none⟩) NB365_355.out _).trans (hHeld.2.1)))),((cell_far (p:=⟨gb355,_,none⟩) NB379_355.out _).trans (((cell_far (p:=⟨gb355,_,none⟩) NB379_355.out _).trans (hHeld.2.2.1)))),((cell_far (p:=⟨gb355,_,none⟩) NB379_355.out _).trans (((cell_far (p:=⟨gb355,_,none⟩) NB379_355.out _).trans (hHeld.2.2.2))))⟩ (fun hHeld => ?_)
      clear hK K
      refine done_ (by kernel_rfl) ?_
      try go_wp2
      refine bodyPost_ret (results_cc rfl _ _ gb354 gb355 26 26 #[.slice Ao55 x366000_32.length co55,.slice Ao57 x366001_32.length co57] #[.slice Ao59 x380000_32.length co59,.slice Ao61 x380001_32.length co61] (0,0) (0,0) _ _ rfl (by refine blk_far ?_ NB354_355.out _; refine blk_far ?_ NB354_355.out _; refine blk_put (cs:=#[.slice Ao55 x366000_32.length co55,.slice none 0 0]) ?_ 1 _ rfl; refine blk_put (cs:=#[.slice none 0 0,.slice none 0 0]) ?_ 0 _ rfl; exact BK354.out) Tryz.underlying26 rfl (by kernel_rfl) rfl (by refine blk_put (cs:=#[.slice Ao59 x380000_32.length co59,.slice none 0 0]) ?_ 1 _ rfl; refine blk_put (cs:=#[.slice none 0 0,.slice none 0 0]) ?_ 0 _ rfl; refine blk_far ?_ NB355_354.out _; refine blk_far ?_ NB355_354.out _; exact BK355.out) Tryz.underlying26 rfl (by kernel_rfl)) rfl ?_
      exact ⟨_,_,_,_,by (rfl),by exact Kd.R_mono (Kd.R_far (p:=⟨gb355,1,none⟩) (Kd.R_far (p:=⟨gb355,0,none⟩) (Kd.R_far (p:=⟨gb354,1,none⟩) (Kd.R_far (p:=⟨gb354,0,none⟩) (Kd.R_types (Kd.R_types HO_366000.out BK354.out (by decide)) BK355.out (by decide)) (fun _ hk => hk.1.2) (.slice Ao55 x366000_32.length co55)) (fun _ hk => hk.1.2) (.slice Ao57 x366001_32.length co57)) (fun _ hk => hk.2) (.slice Ao59 x380000_32.length co59)) (fun _ hk => hk.2) (.slice Ao61 x380001_32.length co61)) (fun _ hk => ⟨hk.1.1.1,⟨hk.1.1.2.1,hk.1.1.2.2⟩⟩),by exact Kd.Q_mono (Kd.Q_far (p:=⟨gb355,1,none⟩) (Kd.Q_far (p:=⟨gb355,0,none⟩) (Kd.Q_far (p:=⟨gb354,1,none⟩) (Kd.Q_far (p:=⟨gb354,0,none⟩) (Kd.Q_types (Kd.Q_types HO_366001.out BK354.out (by decide)) BK355.out (by decide)) (fun _ hk => hk.1.2) (.slice Ao55 x366000_32.length co55)) (fun _ hk => hk.1.2) (.slice Ao57 x366001_32.length co57)) (fun _ hk => hk.2) (.slice Ao59 x380000_32.length co59)) (fun _ hk => hk.2) (.slice Ao61 x380001_32.length co61)) (fun _ hk => ⟨hk.1.1.1,⟨hk.1.1.2.1,hk.1.1.2.2⟩⟩),by exact Kd.R_mono (Kd.R_far (p:=⟨gb355,1,none⟩) (Kd.R_far (p:=⟨gb355,0,none⟩) (Kd.R_far (p:=⟨gb354,1,none⟩) (Kd.R_far (p:=⟨gb354,0,none⟩) (Kd.R_types (Kd.R_types HO_380000.out BK354.out (by decide)) BK355.out (by decide)) (fun _ hk => hk.1.2) (.slice Ao55 x366000_32.length co55)) (fun _ hk => hk.1.2) (.slice Ao57 x366001_32.length co57)) (fun _ hk => hk.2) (.slice Ao59 x380000_32.length co59)) (fun _ hk => hk.2) (.slice Ao61 x380001_32.length co61)) (fun _ hk => ⟨hk.1.1.1,⟨hk.1.1.2.1,hk.1.1.2.2⟩⟩),by exact Kd.Q_mono (Kd.Q_far (p:=⟨gb355,1,none⟩) (Kd.Q_far (p:=⟨gb355,0,none⟩) (Kd.Q_far (p:=⟨gb354,1,none⟩) (Kd.Q_far (p:=⟨gb354,0,none⟩) (Kd.Q_types (Kd.Q_types HO_380001.out BK354.out (by decide)) BK355.out (by decide)) (fun _ hk => hk.1.2) (.slice Ao55 x366000_32.length co55)) (fun _ hk => hk.1.2) (.slice Ao57 x366001_32.length co57)) (fun _ hk => hk.2) (.slice Ao59 x380000_32.length co59)) (fun _ hk => hk.2) (.slice Ao61 x380001_32.length co61)) (fun _ hk => ⟨hk.1.1.1,⟨hk.1.1.2.1,hk.1.1.2.2⟩⟩),by repeat (with_reducible first|exact HB.out|refine below_set ?_ GE354.out|refine below_set ?_ GE355.out)⟩
   ·replace c29:=Bool.eq_false_iff.mpr c29
    subst c29
    have H1 : ((spec_l1Cur_anyRotation.f kj2 l0 x357001_2 x357002_2).bind fun bt390 => (some (t357,t360,bt390.1,bt390.2.1))) = some (r1,r2,r3,r4):=by rw [if_neg (show ¬ (false = true) by decide)] at H; exact H
    clear H
    have H:=H1
    clear H1
    replace H:=Option.bind_eq_some_iff.mp H
    obtain ⟨⟨t390,t393,t396,t397⟩,A630,H⟩:=H
    replace H : (some (t357,t360,t390,t393)) = some (r1,r2,r3,r4):=H
    have A63:=Aside0.mk A630
    clear A630
    simp only [Option.some.injEq,Prod.mk.injEq] at H
    obtain ⟨rfl,rfl,rfl,rfl⟩:=H
    try go_wp2
    have n0_:=Aside0.mk (Kd.R_drew HO_366000.out)
    have n1_:=Aside0.mk (Kd.Q_drew HO_366001.out)
    have n2_:=Aside0.mk (blk_drew BK354.out)
    have n3_:=Aside0.mk (blk_drew BK355.out)
    have n4_:=Aside0.mk (blk_drew BK365.out)
    have n5_:=Aside0.mk (IsS69.drew HI356.out)
    have n6_:=Aside0.mk (below_drew1 HB.out)
    clear HO_366000
    clear HO_366001
    clear BK354
    clear BK355
    clear BK365
    clear HI356
    clear HB
    have HO_366000:=n0_
    have HO_366001:=n1_
    have BK354:=n2_
    have BK355:=n3_
    have BK365:=n4_
    have HI356:=n5_
    have HB:=n6_
    clear n0_ n1_ n2_ n3_ n4_ n5_ n6_
    refine start_ (n:=5) (S:=fun w' => w'.cell? ⟨gb365,0,none⟩ = some (.slice Ao9 t357.length co9) ∧ w'.cell? ⟨gb365,1,none⟩ = some (.slice Ao14 t360.length co14)) (ds:=[]) #[false,false,false,false,false] (by kernel_rfl) rfl rfl ⟨(blk_cell BK365.out 0).trans rfl,(blk_cell BK365.out 1).trans rfl⟩ (fun hHeld => ?_)
    generalize wc.drew = w64 at HO_366000 HO_366001 BK354 BK355 BK365 HI356 HB hHeld ⊢
    refine pure_ (i:=1) (N:=some 37) (v:=?_) (a':=?_) #[false,true,false,false,false] rfl rfl (by kernel_rfl) (fun _ _ _ h => h) (Or.inl ⟨by rfl,?_⟩) ?_ ?_
    rotate_left
    ·intro w'
     go_simp
     with_reducible rfl
    rotate_left
    ·simp only [Act.put,List.setIfInBounds_toArray,List.set_cons_zero,List.set_cons_succ,i64_w,i32_w]
     rfl
    refine take_ (i:=0) (N:=some 36) (v:=?_) (a':=?_) #[true,true,false,false,false] rfl rfl (by kernel_rfl) (fun _ _ _ h => h) (Or.inl ⟨by rfl,?_⟩) hHeld ?_ ?_
    rotate_left
    ·rintro w' ⟨s0,s1⟩
     go_simp
     with_reducible rfl
    rotate_left
    ·simp only [Act.put,List.setIfInBounds_toArray,List.set_cons_zero,List.set_cons_succ,i64_w,i32_w]
     rfl
    refine one_ (i:=2) (N:=some 38) #[true,true,true,false,false] rfl rfl (by kernel_rfl) (by decide) (fun K hK => ?_)
    refine goes_ Tryz.func45 (by kernel_rfl) rfl #[.pointer (some ⟨gb356,0,none⟩)] (by rfl) rfl rfl (by (try simp only [List.map_toArray,List.map_cons,List.map_nil]); (rfl)) ?_
    with_reducible refine (spec_l1Cur_anyRotation.calls kj2 gb356 l0 x357001_2 x357002_2 t390 t393 t396 t397 w _ ?side1 ?side2 A63.out).mono ?_
    (case side1 => repeat (((with_reducible (exact HI356.out)))))
    (case side2 => repeat (((with_reducible (exact HB.out)))))
    rintro e w65 ⟨v391,v394,rfl,ho0,ho1,hi,hb,hk⟩
    refine ⟨_,rfl,?_⟩
    have n0_:=Aside0.mk (Kd.R_mono (Kd.R_told (Kd.R_told (Kd.R_oldK (IsS69.apart (show IsS69 w _ gb356 l0 x357001_2 x357002_2 from by repeat (((with_reducible (exact HI356.out))))) (by exact HO_366000.out) (by decide)) hk) (Kd.R_base ho0)) (Kd.Q_base ho1)) (fun _ h_ => h_.1))
    have n1_:=Aside0.mk (Kd.Q_mono (Kd.Q_told (Kd.Q_told (Kd.Q_oldK (IsS69.apartQ (show IsS69 w _ gb356 l0 x357001_2 x357002_2 from by repeat (((with_reducible (exact HI356.out))))) (by exact HO_366001.out) (by decide)) hk) (Kd.R_base ho0)) (Kd.Q_base ho1)) (fun _ h_ => h_.1))
    have n2_:=Aside0.mk (KeepBut.blk hk (g':=gb354) (o:=.cells #[.slice none 0 0,.slice none 0 0] 26 (0,0)) (by exact BK354.out) NB354_356.out (by simp))
    have n3_:=Aside0.mk (KeepBut.blk hk (g':=gb355) (o:=.cells #[.slice none 0 0,.slice none 0 0] 26 (0,0)) (by exact BK355.out) NB355_356.out (by simp))
    have n4_:=Aside0.mk (KeepBut.blk hk (g':=gb365) (o:=.cells #[.slice Ao9 t357.length co9,.slice Ao14 t360.length co14] 26 (0,0)) (by exact BK365.out) NB365_356.out (by simp))
    have n5_:=Aside0.mk (Kd.R_lower (Kd.R_new' (Kd.R_new' ho0 (Kd.R_lt (by exact HO_366000.out))) (Kd.Q_lt (by exact HO_366001.out))) (below_size (by repeat (((with_reducible (exact HB.out)))))))
    have n6_:=Aside0.mk (Kd.Q_lower (Kd.Q_new' (Kd.Q_new' ho1 (Kd.R_lt (by exact HO_366000.out))) (Kd.Q_lt (by exact HO_366001.out))) (below_size (by repeat (((with_reducible (exact HB.out)))))))
    have n7_:=Aside0.mk (hb)
    have n8_:=Aside0.mk (hi)
    clear HO_366000
    clear HO_366001
    clear BK354
    clear BK355
    clear BK365
    clear HB
    clear HI356
    have HO_366000:=n0_
    have HO_366001:=n1_
    have BK354:=n2_
    have BK355:=n3_
    have BK365:=n4_
    have HO392:=n5_
    have HO395:=n6_
    have HB:=n7_
    have HI356:=n8_
    clear n0_ n1_ n2_ n3_ n4_ n5_ n6_ n7_ n8_
    (try clear hb)
    (try clear hb2)
    (try clear hk)
    (try clear hi)
    (try clear ho0)
    (try clear ho1)
    obtain ⟨Ao68,co68,eo68⟩:=Kd.R_slice HO392.out
    (subst eo68)
    obtain ⟨Ao70,co70,eo70,_⟩:=Kd.Q_slice HO395.out
    (subst eo70)
    refine hK.out _ _ ⟨(blk_cell BK365.out 0).trans rfl,(blk_cell BK365.out 1).trans rfl⟩ (fun hHeld => ?_)
    clear hK K
    refine norm_ (a':=?_) ?_ ?_
    rotate_left
    ·show Act.put _ (some 38) _ = _
     simp only [Act.put,List.setIfInBounds_toArray,List.set_cons_zero,List.set_cons_succ,i64_w,i32_w]
     rfl
    refine one_ (i:=3) (N:=none) #[true,true,true,true,false] rfl rfl (by kernel_rfl) (by decide) (fun K hK => ?_)
    have hs66 : w65.cell? ⟨gb354,0,none⟩ = some (.slice none 0 0):=(blk_cell BK354.out 0).trans rfl
    have hfs66:=blk_frozen BK354.out 0
    have hns66_1:=NB355_354.out
    have hns66_2:=NB365_354.out
    have hms66_1:=NB354_355.out
    have hms66_2:=NB354_365.out
    have hs67 : w65.cell? ⟨gb354,1,none⟩ = some (.slice none 0 0):=(blk_cell BK354.out 1).trans rfl
    have hfs67:=blk_frozen BK354.out 1
    have hns67_1:=NB355_354.out
    have hns67_2:=NB365_354.out
    have hms67_1:=NB354_355.out
    have hms67_2:=NB354_365.out
    refine skip_ (w1:=?_) (by rfl) rfl ?_ ?_
    rotate_left
    ·go_simp
     rfl
    refine hK.out _ _ ⟨((cell_far (p:=⟨gb354,_,none⟩) NB365_354.out _).trans (((cell_far (p:=⟨gb354,_,none⟩) NB365_354.out _).trans (hHeld.1)))),((cell_far (p:=⟨gb354,_,none⟩) NB365_354.out _).trans (((cell_far (p:=⟨gb354,_,none⟩) NB365_354.out _).trans (hHeld.2))))⟩ (fun hHeld => ?_)
    clear hK K
    refine one_ (i:=4) (N:=none) #[true,true,true,true,true] rfl rfl (by kernel_rfl) (by decide) (fun K hK => ?_)
    have hs69 : w65.cell? ⟨gb355,0,none⟩ = some (.slice none 0 0):=(blk_cell BK355.out 0).trans rfl
    have hfs69:=blk_frozen BK355.out 0
    have hns69_0:=NB354_355.out
    have hns69_2:=NB365_355.out
    have hms69_0:=NB355_354.out
    have hms69_2:=NB355_365.out
    have hs71 : w65.cell? ⟨gb355,1,none⟩ = some (.slice none 0 0):=(blk_cell BK355.out 1).trans rfl
    have hfs71:=blk_frozen BK355.out 1
    have hns71_0:=NB354_355.out
    have hns71_2:=NB365_355.out
    have hms71_0:=NB355_354.out
    have hms71_2:=NB355_365.out
    refine skip_ (w1:=?_) (by rfl) rfl ?_ ?_
    rotate_left
    ·go_simp
     rfl
    refine hK.out _ _ ⟨((cell_far (p:=⟨gb355,_,none⟩) NB365_355.out _).trans (((cell_far (p:=⟨gb355,_,none⟩) NB365_355.out _).trans (hHeld.1)))),((cell_far (p:=⟨gb355,_,none⟩) NB365_355.out _).trans (((cell_far (p:=⟨gb355,_,none⟩) NB365_355.out _).trans (hHeld.2))))⟩ (fun hHeld => ?_)
    clear hK K
    refine done_ (by kernel_rfl) ?_
    try go_wp2
    refine bodyPost_ret (results_cc rfl _ _ gb354 gb355 26 26 #[.slice Ao9 t357.length co9,.slice Ao14 t360.length co14] #[.slice Ao68 t390.length co68,.slice Ao70 t393.length co70] (0,0) (0,0) _ _ rfl (by refine blk_far ?_ NB354_355.out _; refine blk_far ?_ NB354_355.out _; refine blk_put (cs:=#[.slice Ao9 t357.length co9,.slice none 0 0]) ?_ 1 _ rfl; refine blk_put (cs:=#[.slice none 0 0,.slice none 0 0]) ?_ 0 _ rfl; exact BK354.out) Tryz.underlying26 rfl (by kernel_rfl) rfl (by refine blk_put (cs:=#[.slice Ao68 t390.length co68,.slice none 0 0]) ?_ 1 _ rfl; refine blk_put (cs:=#[.slice none 0 0,.slice none 0 0]) ?_ 0 _ rfl; refine blk_far ?_ NB355_354.out _; refine blk_far ?_ NB355_354.out _; exact BK355.out) Tryz.underlying26 rfl (by kernel_rfl)) rfl ?_
    exact ⟨_,_,_,_,by (rfl),by exact Kd.R_mono (Kd.R_far (p:=⟨gb355,1,none⟩) (Kd.R_far (p:=⟨gb355,0,none⟩) (Kd.R_far (p:=⟨gb354,1,none⟩) (Kd.R_far (p:=⟨gb354,0,none⟩) (Kd.R_types (Kd.R_types HO_366000.out BK354.out (by decide)) BK355.out (by decide)) (fun _ hk => hk.1.2) (.slice Ao9 t357.length co9)) (fun _ hk => hk.1.2) (.slice Ao14 t360.length co14)) (fun _ hk => hk.2) (.slice Ao68 t390.length co68)) (fun _ hk => hk.2) (.slice Ao70 t393.length co70)) (fun _ hk => ⟨hk.1.1.1.1,⟨hk.1.1.1.2,hk.1.1.2⟩⟩),by exact Kd.Q_mono (Kd.Q_far (p:=⟨gb355,1,none⟩) (Kd.Q_far (p:=⟨gb355,0,none⟩) (Kd.Q_far (p:=⟨gb354,1,none⟩) (Kd.Q_far (p:=⟨gb354,0,none⟩) (Kd.Q_types (Kd.Q_types HO_366001.out BK354.out (by decide)) BK355.out (by decide)) (fun _ hk => hk.1.2) (.slice Ao9 t357.length co9)) (fun _ hk => hk.1.2) (.slice Ao14 t360.length co14)) (fun _ hk => hk.2) (.slice Ao68 t390.length co68)) (fun _ hk => hk.2) (.slice Ao70 t393.length co70)) (fun _ hk => ⟨hk.1.1.1.1,⟨hk.1.1.1.2,hk.1.1.2⟩⟩),by exact Kd.R_mono (Kd.R_far (p:=⟨gb355,1,none⟩) (Kd.R_far (p:=⟨gb355,0,none⟩) (Kd.R_far (p:=⟨gb354,1,none⟩) (Kd.R_far (p:=⟨gb354,0,none⟩) (Kd.R_types (Kd.R_types HO392.out BK354.out (by decide)) BK355.out (by decide)) (fun _ hk => hk.1.2) (.slice Ao9 t357.length co9)) (fun _ hk => hk.1.2) (.slice Ao14 t360.length co14)) (fun _ hk => hk.2) (.slice Ao68 t390.length co68)) (fun _ hk => hk.2) (.slice Ao70 t393.length co70)) (fun _ hk => ⟨hk.1.1.1.2,⟨hk.1.1.2,hk.1.1.1.1⟩⟩),by exact Kd.Q_mono (Kd.Q_far (p:=⟨gb355,1,none⟩) (Kd.Q_far (p:=⟨gb355,0,none⟩) (Kd.Q_far (p:=⟨gb354,1,none⟩) (Kd.Q_far (p:=⟨gb354,0,none⟩) (Kd.Q_types (Kd.Q_types HO395.out BK354.out (by decide)) BK355.out (by decide)) (fun _ hk => hk.1.2) (.slice Ao9 t357.length co9)) (fun _ hk => hk.1.2) (.slice Ao14 t360.length co14)) (fun _ hk => hk.2) (.slice Ao68 t390.length co68)) (fun _ hk => hk.2) (.slice Ao70 t393.length co70)) (fun _ hk => ⟨hk.1.1.1.2,⟨hk.1.1.2,hk.1.1.1.1⟩⟩),by repeat (with_reducible first|exact HB.out|refine below_set ?_ GE354.out|refine below_set ?_ GE355.out)⟩

end Go.Proofs.YtfindomajbjacaaGreatDoor.X
