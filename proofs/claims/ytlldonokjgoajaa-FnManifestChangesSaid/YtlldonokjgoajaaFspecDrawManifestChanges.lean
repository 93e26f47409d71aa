-- Written by a program of ours (wip/bin/xprint.py,over the kit's print.py) out of the translation. Not trusted: Lean checks it.
import Derived.Test.YtlldonokjgoajaaX0
import Derived.Test.YtlldonokjgoajaaFbCur
import Derived.Test.YtlldonokjgoajaaFbGood
import Derived.Test.YtlldonokjgoajaaFspecl1Curcontainers
namespace Go.Proofs.Ytlldonokjgoajaa.X
open Go.RowKit Go.Proofs.YtlldonokjgoajaaW.PrintWords Go.Proofs.YtlldonokjgoajaaW.PrintLast Go.Proofs.YtlldonokjgoajaaW.PrintMore
attribute [local go_sem] max2_int min2_int max_two min_two max_three min_three max_four min_four   -- for this text's walks alone
set_option linter.unusedVariables false
set_option linter.unusedSimpArgs false

/-! ### spec_DrawManifestChanges: function 78 -/
mutual
def spec_DrawManifestChanges.l0 : Nat → List (S89) → List (S89) → Int → List Int → Int → Int → Option ((List (S89)) × (List (S89)))
 | 0,_,_,_,_,_,_ => none
 | k + 1,x5,x6,x7,x1344000,x1344001,x1344002 => if x7 < (x5.length : Int) then (if 0 ≤ x7 then ((spec_l1Cur_one.f x1344000 x1344001 x1344002 4).bind fun bt1356 => (if bt1356.1 = true then (spec_DrawManifestChanges.j1 k x5 x6 x7 true x1344000 bt1356.2.1 bt1356.2.2 ((rd_T89 x5 x7).f0) ((rd_T89 x5 x7).f1) ((rd_T89 x5 x7).f2) ((rd_T89 x5 x7).f3) ((rd_T89 x5 x7).f4)) else ((spec_l2Find.f k x6 ((rd_T89 x5 x7).f0)).bind fun t1359 => (spec_DrawManifestChanges.j1 k x5 x6 x7 (decide (t1359 ≥ 0)) x1344000 bt1356.2.1 bt1356.2.2 ((rd_T89 x5 x7).f0) ((rd_T89 x5 x7).f1) ((rd_T89 x5 x7).f2) ((rd_T89 x5 x7).f3) ((rd_T89 x5 x7).f4))))) else (none)) else (some (x5,x6))
def spec_DrawManifestChanges.j1 : Nat → List (S89) → List (S89) → Int → Bool → List Int → Int → Int → ByteArray → Int → Int → Int → Int → Option ((List (S89)) × (List (S89)))
 | 0,_,_,_,_,_,_,_,_,_,_,_,_ => none
 | k + 1,x5,x6,x7,x34,x1344000,x1344001,x1344002,x1356000,x1356001,x1356002,x1356003,x1356004 => if x34 = true then (spec_DrawManifestChanges.l0 k x5 x6 (wrap64 (x7 + 1)) x1344000 x1344001 x1344002) else ((spec_l1Cur_one.f x1344000 x1344001 x1344002 3).bind fun bt1360 => (if bt1360.1 = true then ((spec_l1Cur_among.f x1344000 bt1360.2.1 bt1360.2.2 ([1,500,9000] : List Int)).bind fun bt1366 => (if x6.length < 2932031007402 then (spec_DrawManifestChanges.l0 k x5 (x6 ++ [(⟨x1356000,x1356001,bt1366.1,x1356003,x1356004⟩ : S89)]) (wrap64 (x7 + 1)) x1344000 bt1366.2.1 bt1366.2.2) else (none))) else (if x6.length < 2932031007402 then (spec_DrawManifestChanges.l0 k x5 (x6 ++ [(⟨x1356000,x1356001,x1356002,x1356003,x1356004⟩ : S89)]) (wrap64 (x7 + 1)) x1344000 bt1360.2.1 bt1360.2.2) else (none))))
end
def spec_DrawManifestChanges.f (k : Nat) (l0 : List Int) : Option ((List (S89)) × (List (S89))):=(spec_l1Cur_containers.f k l0 0 0).bind fun bt1344 => ((spec_l1Cur_containers.f k l0 bt1344.2.1 bt1344.2.2).bind fun bt1349 => (spec_DrawManifestChanges.l0 k bt1344.1 bt1349.1 0 l0 bt1349.2.1 bt1349.2.2))
theorem spec_DrawManifestChanges.mono_l : ∀ k,(∀ y0 y1 y2 y3 y4 y5,LeO (spec_DrawManifestChanges.l0 k y0 y1 y2 y3 y4 y5) (spec_DrawManifestChanges.l0 (k + 1) y0 y1 y2 y3 y4 y5)) ∧ (∀ y0 y1 y2 y3 y4 y5 y6 y7 y8 y9 y10 y11,LeO (spec_DrawManifestChanges.j1 k y0 y1 y2 y3 y4 y5 y6 y7 y8 y9 y10 y11) (spec_DrawManifestChanges.j1 (k + 1) y0 y1 y2 y3 y4 y5 y6 y7 y8 y9 y10 y11))
 | 0 => ⟨fun _ _ _ _ _ _ r h => by simp [spec_DrawManifestChanges.l0] at h,fun _ _ _ _ _ _ _ _ _ _ _ _ r h => by simp [spec_DrawManifestChanges.j1] at h⟩
 | k + 1 => by
  obtain ⟨ih0,ih1⟩:=spec_DrawManifestChanges.mono_l k
  refine ⟨?_,?_⟩
  ·intro y0 y1 y2 y3 y4 y5
   unfold spec_DrawManifestChanges.l0
   repeat' first
   | (with_reducible exact ih0 _ _ _ _ _ _)
   | (with_reducible exact ih1 _ _ _ _ _ _ _ _ _ _ _ _)
   | (with_reducible exact spec_l1Cur_containers.mono _ _ _ _)
   | (with_reducible exact spec_l2Find.mono _ _ _)
   | (with_reducible exact LeO.refl _)
   | (with_reducible exact LeO.none _)
   | (with_reducible refine LeO.ite ?_ ?_)
   | (with_reducible refine LeO.bind ?_ (fun _ => ?_))
   | exact ih0 _ _ _ _ _ _
   | exact ih1 _ _ _ _ _ _ _ _ _ _ _ _
   | exact spec_l1Cur_containers.mono _ _ _ _
   | exact spec_l2Find.mono _ _ _
   | exact LeO.none _
   | refine LeO.ite ?_ ?_
   | refine LeO.bind ?_ (fun _ => ?_)
  ·intro y0 y1 y2 y3 y4 y5 y6 y7 y8 y9 y10 y11
   unfold spec_DrawManifestChanges.j1
   repeat' first
   | (with_reducible exact ih0 _ _ _ _ _ _)
   | (with_reducible exact ih1 _ _ _ _ _ _ _ _ _ _ _ _)
   | (with_reducible exact spec_l1Cur_containers.mono _ _ _ _)
   | (with_reducible exact spec_l2Find.mono _ _ _)
   | (with_reducible exact LeO.refl _)
   | (with_reducible exact LeO.none _)
   | (with_reducible refine LeO.ite ?_ ?_)
   | (with_reducible refine LeO.bind ?_ (fun _ => ?_))
   | exact ih0 _ _ _ _ _ _
   | exact ih1 _ _ _ _ _ _ _ _ _ _ _ _
   | exact spec_l1Cur_containers.mono _ _ _ _
   | exact spec_l2Find.mono _ _ _
   | exact LeO.none _
   | refine LeO.ite ?_ ?_
   | refine LeO.bind ?_ (fun _ => ?_)
theorem spec_DrawManifestChanges.mono : ∀ a0 k,LeO (spec_DrawManifestChanges.f k a0) (spec_DrawManifestChanges.f (k + 1) a0):=by
 intro a0 k
 obtain ⟨ih0,ih1⟩:=spec_DrawManifestChanges.mono_l k
 unfold spec_DrawManifestChanges.f
 repeat' first
   | (with_reducible exact ih0 _ _ _ _ _ _)
   | (with_reducible exact ih1 _ _ _ _ _ _ _ _ _ _ _ _)
   | (with_reducible exact spec_l1Cur_containers.mono _ _ _ _)
   | (with_reducible exact spec_l2Find.mono _ _ _)
   | (with_reducible exact LeO.refl _)
   | (with_reducible exact LeO.none _)
   | (with_reducible refine LeO.ite ?_ ?_)
   | (with_reducible refine LeO.bind ?_ (fun _ => ?_))
   | exact ih0 _ _ _ _ _ _
   | exact ih1 _ _ _ _ _ _ _ _ _ _ _ _
   | exact spec_l1Cur_containers.mono _ _ _ _
   | exact spec_l2Find.mono _ _ _
   | exact LeO.none _
   | refine LeO.ite ?_ ?_
   | refine LeO.bind ?_ (fun _ => ?_)
set_option maxHeartbeats 8000000 in
set_option maxRecDepth 100000 in
theorem spec_DrawManifestChanges.calls (k : Nat) (A0 : Option Addr) (c0 : Nat) (l0 : List Int) (r1 : List (S89)) (r2 : List (S89)) (w : World) (hr0 : Kd.C (Kd.int .u8) w A0 l0.length l0) (hc0 : l0.length ≤ c0) (h : spec_DrawManifestChanges.f k l0 = some (r1,r2)) :
  Calls Try.prog 78 #[.slice A0 l0.length c0] w fun e w' => ∃ v0_ v1_ : Value,e = .returned (.tuple #[v0_,v1_]) ∧ Kd.R k89 89 w' w.heap.size (fun k_ => some k_ ≠ (v1_ : Value).ownBlock) v0_ r1 ∧ Kd.R k89 89 w' w.heap.size (fun k_ => some k_ ≠ (v0_ : Value).ownBlock) v1_ r2 ∧ Below w.heap.size w w':=by
 have hu112:=Try.underlying112
 have hu89:=Try.underlying89
 have HR0:=Aside0.mk hr0
 have HC0:=Aside0.mk hc0
 clear hr0 hc0
 have HB:=Aside0.mk (Below.refl w.heap.size w)
 have H : ((spec_l1Cur_containers.f k l0 0 0).bind fun bt1344 => ((spec_l1Cur_containers.f k l0 bt1344.2.1 bt1344.2.2).bind fun bt1349 => (spec_DrawManifestChanges.l0 k bt1344.1 bt1349.1 0 l0 bt1349.2.1 bt1349.2.2))) = some (r1,r2):=h
 clear h
 replace H:=Option.bind_eq_some_iff.mp H
 obtain ⟨⟨t1344,t1347,t1348⟩,A20,H⟩:=H
 replace H : ((spec_l1Cur_containers.f k l0 t1347 t1348).bind fun bt1349 => (spec_DrawManifestChanges.l0 k t1344 bt1349.1 0 l0 bt1349.2.1 bt1349.2.2)) = some (r1,r2):=H
 have A2:=Aside0.mk A20
 clear A20
 replace H:=Option.bind_eq_some_iff.mp H
 obtain ⟨⟨t1349,t1352,t1353⟩,A30,H⟩:=H
 replace H : (spec_DrawManifestChanges.l0 k t1344 t1349 0 l0 t1352 t1353) = some (r1,r2):=H
 have A3:=Aside0.mk A30
 clear A30
 have H':=Aside0.mk H
 clear H
 go_enter Try.func78,Try.ntmps78
 go_wp2_with (first|((with_reducible refine gate_dst (N:=11) rfl ?_); refine box_event ?hg (N:=11) ?hd (cs:=#[.slice A0 l0.length c0,.int .i64 0,.int .u64 0]) (t:=112) ?hr ?_; (case hd => rfl); (case hg => rfl); (case hr => (go_simp; done)); intro gb1343 hg w4 hbox hb; have n0_:=Aside0.mk (below_step (by repeat (((with_reducible (exact HB.out))))) hb); have n1_:=Aside0.mk ((show IsS112 w w4 gb1343 l0 0 0 from ⟨_,_,hbox,(by rw [hg]; exact (below_size (by repeat (((with_reducible (exact HB.out))))))),HR0.out⟩)); clear HB; have HB:=n0_; have HI1343:=n1_; clear n0_ n1_; clear hb hbox hg)|((with_reducible refine gate_callee (f:=150) rfl ?_); refine goesL_ (some 13) rfl rfl Try.func150 (by kernel_rfl) rfl #[.pointer (some ⟨gb1343,0,none⟩)] rfl (by (try simp only [List.map_toArray,List.map_cons,List.map_nil]); (rfl)) ?_; (with_reducible refine (spec_l1Cur_containers.calls k gb1343 l0 0 0 t1344 t1347 t1348 w _ ?side1 ?side2 A2.out).mono ?_); (case side1 => repeat (((with_reducible (exact HI1343.out))))); (case side2 => repeat (((with_reducible (exact HB.out))))); rintro e w5 ⟨v1345,rfl,ho0,hi,hb,hk⟩; refine ⟨_,rfl,?_⟩; have n0_:=Aside0.mk (Kd.R_lower ho0 (below_size (by repeat (((with_reducible (exact HB.out))))))); have n1_:=Aside0.mk (hb); have n2_:=Aside0.mk (hi); clear HB; clear HI1343; have HO1346:=n0_; have HB:=n1_; have HI1343:=n2_; clear n0_ n1_ n2_; (try clear hb); (try clear hb2); (try clear hk); (try clear hi); (try clear ho0))|((with_reducible refine gate_callee (f:=150) rfl ?_); refine goesL_ (some 15) rfl rfl Try.func150 (by kernel_rfl) rfl #[.pointer (some ⟨gb1343,0,none⟩)] rfl (by (try simp only [List.map_toArray,List.map_cons,List.map_nil]); (rfl)) ?_; (with_reducible refine (spec_l1Cur_containers.calls k gb1343 l0 t1347 t1348 t1349 t1352 t1353 w _ ?side1 ?side2 A3.out).mono ?_); (case side1 => repeat (((with_reducible (exact HI1343.out))))); (case side2 => repeat (((with_reducible (exact HB.out))))); rintro e w6 ⟨v1350,rfl,ho0,hi,hb,hk⟩; refine ⟨_,rfl,?_⟩; have n0_:=Aside0.mk (Kd.R_mono (Kd.R_told (Kd.R_oldK (IsS112.apart (show IsS112 w _ gb1343 l0 t1347 t1348 from by repeat (((with_reducible (exact HI1343.out))))) (by exact HO1346.out) (by decide)) hk) (Kd.R_base ho0)) (fun _ h_ => h_.1)); have n1_:=Aside0.mk (Kd.R_lower (Kd.R_new' ho0 (Kd.R_lt (by exact HO1346.out))) (below_size (by repeat (((with_reducible (exact HB.out))))))); have n2_:=Aside0.mk (hb); have n3_:=Aside0.mk (hi); clear HO1346; clear HB; clear HI1343; have HO1346:=n0_; have HO1351:=n1_; have HB:=n2_; have HI1343:=n3_; clear n0_ n1_ n2_ n3_; (try clear hb); (try clear hb2); (try clear hk); (try clear hi); (try clear ho0)))
 go_loopg [6,7] k (fun kq v6 v7 w' => ∃ (x6_1 : List (S89)) (x7_1 : Int) (x1344001_1 : Int) (x1344002_1 : Int),v7 = .int .i64 x7_1 ∧ Aside0 (spec_DrawManifestChanges.l0 kq t1344 x6_1 x7_1 l0 x1344001_1 x1344002_1 = some (r1,r2)) ∧ Aside0 (kq ≤ k) ∧ Aside0 (Kd.R k89 89 w' w.heap.size (fun k_ => some k_ ≠ (v6 : Value).ownBlock) v1345 t1344) ∧ Aside0 (Kd.R k89 89 w' w.heap.size (fun k_ => some k_ ≠ (v1345 : Value).ownBlock) v6 x6_1) ∧ Aside0 (IsS112 w w' gb1343 l0 x1344001_1 x1344002_1) ∧ Aside0 (Below w.heap.size w w'))
 case atStart => exact ⟨(t1349),(0),(t1352),(t1353),(by (rfl)),H',⟨Nat.le_refl _⟩,⟨by exact Kd.R_mono HO1346.out (fun _ hk => hk.2)⟩,⟨by exact Kd.R_mono HO1351.out (fun _ hk => hk.2)⟩,⟨by repeat (((with_reducible (exact HI1343.out))))⟩,⟨by repeat (((with_reducible (exact HB.out))))⟩⟩
 case round =>
  clear H'
  try clear c1
  try clear p2
  obtain ⟨x6_1,x7_1,x1344001_1,x1344002_1,rfl,HA,HK1,HO_5,HO_6,HI1343,HB⟩:=hrel
  cases gk with
  | zero => exact absurd HA.out (by simp [spec_DrawManifestChanges.l0])
  | succ k1 =>
   have H:=HA.out
   clear HA
   simp only [spec_DrawManifestChanges.l0] at H
   by_cases c7 : x7_1 < (t1344.length : Int)
   ·rw [if_pos c7] at H
    have c7b0 : decide (x7_1 < (t1344.length : Int)) = true:=decide_eq_true c7
    clear c7
    by_cases c8 : 0 ≤ x7_1
    ·rw [if_pos c8] at H
     have c8b0 : decide (0 ≤ x7_1) = true:=decide_eq_true c8
     clear c8
     have HC9:=Aside0.mk H
     clear H
     obtain ⟨Ao10,co10,eo10⟩:=Kd.R_slice HO_5.out
     subst eo10
     have p1354 : 0 ≤ (x7_1 : Int):=of_decide_eq_true (by (with_reducible assumption))
     have q1354 : x7_1 < (t1344.length : Int):=of_decide_eq_true (by (with_reducible assumption))
     obtain ⟨ad1354,e1354,hx1354_0,hx1354_1,hx1354_2,hx1354_3,hx1354_4⟩:=at_T89 (Kd.R_reads' HO_5.out).2.2 x7_1 p1354 q1354
     cases e1354
     replace p1354:=eq_true p1354
     replace q1354:=eq_true q1354
     go_upto_region 8 with ((((with_reducible refine gate_dst (N:=8) rfl ?_); refine box_event ?hg (N:=8) ?hd (cs:=#[.string (⟨#[]⟩ : ByteArray),.int .i64 0,.int .i64 0,.int .i64 0,.int .i64 0]) (t:=89) ?hr ?_; (case hd => rfl); (case hg => rfl); (case hr => (go_simp; done)); intro gb1355 hg w11 hbox hb; have n0_:=Aside0.mk (Kd.R_below (Kd.R_elderB (by exact HO_5.out) gb1355 (Nat.le_of_eq hg.symm)) hb); have n1_:=Aside0.mk (Kd.R_below (Kd.R_elderB (by exact HO_6.out) gb1355 (Nat.le_of_eq hg.symm)) hb); have n2_:=Aside0.mk (IsS112.below (by repeat (((with_reducible (exact HI1343.out))))) hb); have n3_:=Aside0.mk (below_step (by repeat (((with_reducible (exact HB.out))))) hb); have n4_:=Aside0.mk (hbox); have n5_:=Aside0.mk ((by rw [hg]; exact (below_size (by repeat (((with_reducible (exact HB.out)))))) : w.heap.size ≤ gb1355)); have n6_:=Aside0.mk ((by rw [hg]; exact (below_size (by repeat (((with_reducible (exact HB.out)))))) : w.heap.size ≤ gb1355)); have n7_:=Aside0.mk ((by rw [hg]; exact Nat.ne_of_lt (IsS112.lt (show IsS112 w _ gb1343 l0 x1344001_1 x1344002_1 from by repeat (((with_reducible (exact HI1343.out)))))) : gb1343 ≠ gb1355)); have n8_:=Aside0.mk ((by rw [hg]; exact Nat.ne_of_gt (IsS112.lt (show IsS112 w _ gb1343 l0 x1344001_1 x1344002_1 from by repeat (((with_reducible (exact HI1343.out)))))) : gb1355 ≠ gb1343)); clear HO_5; clear HO_6; clear HI1343; clear HB; have HO_5:=n0_; have HO_6:=n1_; have HI1343:=n2_; have HB:=n3_; have BK1355:=n4_; have GW1355:=n5_; have GE1355:=n6_; have NB1343_1355:=n7_; have NB1355_1343:=n8_; clear n0_ n1_ n2_ n3_ n4_ n5_ n6_ n7_ n8_; clear hb hbox hg; have hnb12:=NB1355_1343.out; have hnc12:=NB1343_1355.out; have hcz13_0 : w11.cell? ⟨gb1355,0,none⟩ = some (.string (⟨#[]⟩ : ByteArray)):=(blk_cell BK1355.out 0).trans rfl; have hcz13_1 : w11.cell? ⟨gb1355,1,none⟩ = some (.int .i64 0):=(blk_cell BK1355.out 1).trans rfl; have hcz13_2 : w11.cell? ⟨gb1355,2,none⟩ = some (.int .i64 0):=(blk_cell BK1355.out 2).trans rfl; have hcz13_3 : w11.cell? ⟨gb1355,3,none⟩ = some (.int .i64 0):=(blk_cell BK1355.out 3).trans rfl; have hcz13_4 : w11.cell? ⟨gb1355,4,none⟩ = some (.int .i64 0):=(blk_cell BK1355.out 4).trans rfl; have hfz13_0:=blk_frozen BK1355.out 0; have hfz13_1:=blk_frozen BK1355.out 1; have hfz13_2:=blk_frozen BK1355.out 2; have hfz13_3:=blk_frozen BK1355.out 3; have hfz13_4:=blk_frozen BK1355.out 4)))
     (try simp only [Act.put,List.setIfInBounds_toArray,List.set_cons_zero,List.set_cons_succ])
     go_cut [34] (fun v34 wc => ∃ (kq : Nat) (x34_8 : Bool) (x1344001_8 : Int) (x1344002_8 : Int),v34 = .bool x34_8 ∧ Aside0 (spec_DrawManifestChanges.j1 kq t1344 x6_1 x7_1 x34_8 l0 x1344001_8 x1344002_8 ((rd_T89 t1344 x7_1).f0) ((rd_T89 t1344 x7_1).f1) ((rd_T89 t1344 x7_1).f2) ((rd_T89 t1344 x7_1).f3) ((rd_T89 t1344 x7_1).f4) = some (r1,r2)) ∧ Aside0 (kq ≤ k1) ∧ Aside0 (Kd.R k89 89 wc w.heap.size (fun k_ => some k_ ≠ (u6 : Value).ownBlock ∧ k_ ≠ gb1355) (.slice (some ad1354) t1344.length co10) t1344) ∧ Aside0 (Kd.R k89 89 wc w.heap.size (fun k_ => some k_ ≠ ((.slice (some ad1354) t1344.length co10) : Value).ownBlock ∧ k_ ≠ gb1355) u6 x6_1) ∧ Aside0 (wc.heap[gb1355]? = some (.cells #[.string ((rd_T89 t1344 x7_1).f0),.int .i64 ((rd_T89 t1344 x7_1).f1),.int .i64 ((rd_T89 t1344 x7_1).f2),.int .i64 ((rd_T89 t1344 x7_1).f3),.int .i64 ((rd_T89 t1344 x7_1).f4)] 89 (0,0))) ∧ Aside0 (IsS112 w wc gb1343 l0 x1344001_8 x1344002_8) ∧ Aside0 (Below w.heap.size w wc))
     case first =>
      have H:=HC9.out
      clear HC9
      replace H:=Option.bind_eq_some_iff.mp H
      obtain ⟨⟨t1356,t1357,t1358⟩,A140,H⟩:=H
      replace H : (if t1356 = true then (spec_DrawManifestChanges.j1 k1 t1344 x6_1 x7_1 true l0 t1357 t1358 ((rd_T89 t1344 x7_1).f0) ((rd_T89 t1344 x7_1).f1) ((rd_T89 t1344 x7_1).f2) ((rd_T89 t1344 x7_1).f3) ((rd_T89 t1344 x7_1).f4)) else ((spec_l2Find.f k1 x6_1 ((rd_T89 t1344 x7_1).f0)).bind fun t1359 => (spec_DrawManifestChanges.j1 k1 t1344 x6_1 x7_1 (decide (t1359 ≥ 0)) l0 t1357 t1358 ((rd_T89 t1344 x7_1).f0) ((rd_T89 t1344 x7_1).f1) ((rd_T89 t1344 x7_1).f2) ((rd_T89 t1344 x7_1).f3) ((rd_T89 t1344 x7_1).f4)))) = some (r1,r2):=H
      have A14:=Aside0.mk A140
      clear A140
      by_cases c15 : t1356 = true
      ·subst c15
       have H1 : (spec_DrawManifestChanges.j1 k1 t1344 x6_1 x7_1 true l0 t1357 t1358 ((rd_T89 t1344 x7_1).f0) ((rd_T89 t1344 x7_1).f1) ((rd_T89 t1344 x7_1).f2) ((rd_T89 t1344 x7_1).f3) ((rd_T89 t1344 x7_1).f4)) = some (r1,r2):=by rw [if_pos rfl] at H; exact H
       clear H
       have H:=H1
       clear H1
       have H':=Aside0.mk H
       clear H
       go_wp2_with ((((with_reducible refine gate_callee (f:=151) rfl ?_); refine goesL_ (some 27) rfl rfl Try.func151 (by kernel_rfl) rfl #[.pointer (some ⟨gb1343,0,none⟩),.int .i64 4] rfl (by (try simp only [List.map_toArray,List.map_cons,List.map_nil]); (rfl)) ?_; (with_reducible refine (spec_l1Cur_one.calls gb1343 l0 x1344001_1 x1344002_1 4 true t1357 t1358 w _ ?side1 ?side2 A14.out).mono ?_); (case side1 => repeat (with_reducible first|exact HI1343.out|refine IsS112.far ?_ NB1343_1355.out _)); (case side2 => repeat (with_reducible first|exact HB.out|refine below_set ?_ GE1355.out)); rintro e w16 ⟨rfl,hi,hb,hk⟩; refine ⟨_,rfl,?_⟩; have n0_:=Aside0.mk (Kd.R_mono (Kd.R_keep (IsS112.apart (show IsS112 w _ gb1343 l0 x1344001_1 x1344002_1 from by repeat (with_reducible first|exact HI1343.out|refine IsS112.far ?_ NB1343_1355.out _)) (by exact (Kd.R_mono (Kd.R_far (p:=⟨gb1355,4,none⟩) (Kd.R_far (p:=⟨gb1355,3,none⟩) (Kd.R_far (p:=⟨gb1355,2,none⟩) (Kd.R_far (p:=⟨gb1355,1,none⟩) (Kd.R_far (p:=⟨gb1355,0,none⟩) (Kd.R_mono HO_5.out (fun k_ hk => (⟨hk,hk.2⟩ : _ ∧ k_ ≠ gb1355))) (fun _ hk => hk.2) (.string ((rd_T89 t1344 x7_1).f0))) (fun _ hk => hk.2) (.int .i64 ((rd_T89 t1344 x7_1).f1))) (fun _ hk => hk.2) (.int .i64 ((rd_T89 t1344 x7_1).f2))) (fun _ hk => hk.2) (.int .i64 ((rd_T89 t1344 x7_1).f3))) (fun _ hk => hk.2) (.int .i64 ((rd_T89 t1344 x7_1).f4))) (fun _ h_ => h_.1))) (by decide)) hk (fun _ h => h.2)) (fun _ h => h.1)); have n1_:=Aside0.mk (Kd.R_mono (Kd.R_keep (IsS112.apart (show IsS112 w _ gb1343 l0 x1344001_1 x1344002_1 from by repeat (with_reducible first|exact HI1343.out|refine IsS112.far ?_ NB1343_1355.out _)) (by exact (Kd.R_mono (Kd.R_far (p:=⟨gb1355,4,none⟩) (Kd.R_far (p:=⟨gb1355,3,none⟩) (Kd.R_far (p:=⟨gb1355,2,none⟩) (Kd.R_far (p:=⟨gb1355,1,none⟩) (Kd.R_far (p:=⟨gb1355,0,none⟩) (Kd.R_mono HO_6.out (fun k_ hk => (⟨hk,hk.2⟩ : _ ∧ k_ ≠ gb1355))) (fun _ hk => hk.2) (.string ((rd_T89 t1344 x7_1).f0))) (fun _ hk => hk.2) (.int .i64 ((rd_T89 t1344 x7_1).f1))) (fun _ hk => hk.2) (.int .i64 ((rd_T89 t1344 x7_1).f2))) (fun _ hk => hk.2) (.int .i64 ((rd_T89 t1344 x7_1).f3))) (fun _ hk => hk.2) (.int .i64 ((rd_T89 t1344 x7_1).f4))) (fun _ h_ => h_.1))) (by decide)) hk (fun _ h => h.2)) (fun _ h => h.1)); have n2_:=Aside0.mk (KeepBut.blk hk (g':=gb1355) (o:=.cells #[.string ((rd_T89 t1344 x7_1).f0),.int .i64 ((rd_T89 t1344 x7_1).f1),.int .i64 ((rd_T89 t1344 x7_1).f2),.int .i64 ((rd_T89 t1344 x7_1).f3),.int .i64 ((rd_T89 t1344 x7_1).f4)] 89 (0,0)) (by refine blk_put (cs:=#[.string ((rd_T89 t1344 x7_1).f0),.int .i64 ((rd_T89 t1344 x7_1).f1),.int .i64 ((rd_T89 t1344 x7_1).f2),.int .i64 ((rd_T89 t1344 x7_1).f3),.int .i64 0]) ?_ 4 _ rfl; refine blk_put (cs:=#[.string ((rd_T89 t1344 x7_1).f0),.int .i64 ((rd_T89 t1344 x7_1).f1),.int .i64 ((rd_T89 t1344 x7_1).f2),.int .i64 0,.int .i64 0]) ?_ 3 _ rfl; refine blk_put (cs:=#[.string ((rd_T89 t1344 x7_1).f0),.int .i64 ((rd_T89 t1344 x7_1).f1),.int .i64 0,.int .i64 0,.int .i64 0]) ?_ 2 _ rfl; refine blk_put (cs:=#[.string ((rd_T89 t1344 x7_1).f0),.int .i64 0,.int .i64 0,.int .i64 0,.int .i64 0]) ?_ 1 _ rfl; refine blk_put (cs:=#[.string (⟨#[]⟩ : ByteArray),.int .i64 0,.int .i64 0,.int .i64 0,.int .i64 0]) ?_ 0 _ rfl; exact BK1355.out) NB1355_1343.out (by simp)); have n3_:=Aside0.mk (hb); have n4_:=Aside0.mk (hi); clear HO_5; clear HO_6; clear BK1355; clear HB; clear HI1343; have HO_5:=n0_; have HO_6:=n1_; have BK1355:=n2_; have HB:=n3_; have HI1343:=n4_; clear n0_ n1_ n2_ n3_ n4_; (try clear hb); (try clear hb2); (try clear hk); (try clear hi))))
       go_meet
       case rel => exact ⟨_,(true),(t1357),(t1358),(by (rfl)),H',⟨by have:=HK1.out; (omega)⟩,⟨by exact HO_5.out⟩,⟨by exact HO_6.out⟩,⟨by exact BK1355.out⟩,⟨by repeat (((with_reducible (exact HI1343.out))))⟩,⟨by repeat (((with_reducible (exact HB.out))))⟩⟩
      ·replace c15:=Bool.eq_false_iff.mpr c15
       subst c15
       have H1 : ((spec_l2Find.f k1 x6_1 ((rd_T89 t1344 x7_1).f0)).bind fun t1359 => (spec_DrawManifestChanges.j1 k1 t1344 x6_1 x7_1 (decide (t1359 ≥ 0)) l0 t1357 t1358 ((rd_T89 t1344 x7_1).f0) ((rd_T89 t1344 x7_1).f1) ((rd_T89 t1344 x7_1).f2) ((rd_T89 t1344 x7_1).f3) ((rd_T89 t1344 x7_1).f4))) = some (r1,r2):=by rw [if_neg (show ¬ (false = true) by decide)] at H; exact H
       clear H
       have H:=H1
       clear H1
       replace H:=Option.bind_eq_some_iff.mp H
       obtain ⟨t1359,A170,H⟩:=H
       replace H : (spec_DrawManifestChanges.j1 k1 t1344 x6_1 x7_1 (decide (t1359 ≥ 0)) l0 t1357 t1358 ((rd_T89 t1344 x7_1).f0) ((rd_T89 t1344 x7_1).f1) ((rd_T89 t1344 x7_1).f2) ((rd_T89 t1344 x7_1).f3) ((rd_T89 t1344 x7_1).f4)) = some (r1,r2):=H
       have A17:=Aside0.mk A170
       clear A170
       have H':=Aside0.mk H
       clear H
       go_wp2_with (first|((with_reducible refine gate_callee (f:=151) rfl ?_); refine goesL_ (some 27) rfl rfl Try.func151 (by kernel_rfl) rfl #[.pointer (some ⟨gb1343,0,none⟩),.int .i64 4] rfl (by (try simp only [List.map_toArray,List.map_cons,List.map_nil]); (rfl)) ?_; (with_reducible refine (spec_l1Cur_one.calls gb1343 l0 x1344001_1 x1344002_1 4 false t1357 t1358 w _ ?side1 ?side2 A14.out).mono ?_); (case side1 => repeat (with_reducible first|exact HI1343.out|refine IsS112.far ?_ NB1343_1355.out _)); (case side2 => repeat (with_reducible first|exact HB.out|refine below_set ?_ GE1355.out)); rintro e w18 ⟨rfl,hi,hb,hk⟩; refine ⟨_,rfl,?_⟩; have n0_:=Aside0.mk (Kd.R_mono (Kd.R_keep (IsS112.apart (show IsS112 w _ gb1343 l0 x1344001_1 x1344002_1 from by repeat (with_reducible first|exact HI1343.out|refine IsS112.far ?_ NB1343_1355.out _)) (by exact (Kd.R_mono (Kd.R_far (p:=⟨gb1355,4,none⟩) (Kd.R_far (p:=⟨gb1355,3,none⟩) (Kd.R_far (p:=⟨gb1355,2,none⟩) (Kd.R_far (p:=⟨gb1355,1,none⟩) (Kd.R_far (p:=⟨gb1355,0,none⟩) (Kd.R_mono HO_5.out (fun k_ hk => (⟨hk,hk.2⟩ : _ ∧ k_ ≠ gb1355))) (fun _ hk => hk.2) (.string ((rd_T89 t1344 x7_1).f0))) (fun _ hk => hk.2) (.int .i64 ((rd_T89 t1344 x7_1).f1))) (fun _ hk => hk.2) (.int .i64 ((rd_T89 t1344 x7_1).f2))) (fun _ hk => hk.2) (.int .i64 ((rd_T89 t1344 x7_1).f3))) (fun _ hk => hk.2) (.int .i64 ((rd_T89 t1344 x7_1).f4))) (fun _ h_ => h_.1))) (by decide)) hk (fun _ h => h.2)) (fun _ h => h.1)); have n1_:=Aside0.mk (Kd.R_mono (Kd.R_keep (IsS112.apart (show IsS112 w _ gb1343 l0 x1344001_1 x1344002_1 from by repeat (with_reducible first|exact HI1343.out|refine IsS112.far ?_ NB1343_1355.out _)) (by exact (Kd.R_mono (Kd.R_far (p:=⟨gb1355,4,none⟩) (Kd.R_far (p:=⟨gb1355,3,none⟩) (Kd.R_far (p:=⟨gb1355,2,none⟩) (Kd.R_far (p:=⟨gb1355,1,none⟩) (Kd.R_far (p:=⟨gb1355,0,none⟩) (Kd.R_mono HO_6.out (fun k_ hk => (⟨hk,hk.2⟩ : _ ∧ k_ ≠ gb1355))) (fun _ hk => hk.2) (.string ((rd_T89 t1344 x7_1).f0))) (fun _ hk => hk.2) (.int .i64 ((rd_T89 t1344 x7_1).f1))) (fun _ hk => hk.2) (.int .i64 ((rd_T89 t1344 x7_1).f2))) (fun _ hk => hk.2) (.int .i64 ((rd_T89 t1344 x7_1).f3))) (fun _ hk => hk.2) (.int .i64 ((rd_T89 t1344 x7_1).f4))) (fun _ h_ => h_.1))) (by decide)) hk (fun _ h => h.2)) (fun _ h => h.1)); have n2_:=Aside0.mk (KeepBut.blk hk (g':=gb1355) (o:=.cells #[.string ((rd_T89 t1344 x7_1).f0),.int .i64 ((rd_T89 t1344 x7_1).f1),.int .i64 ((rd_T89 t1344 x7_1).f2),.int .i64 ((rd_T89 t1344 x7_1).f3),.int .i64 ((rd_T89 t1344 x7_1).f4)] 89 (0,0)) (by refine blk_put (cs:=#[.string ((rd_T89 t1344 x7_1).f0),.int .i64 ((rd_T89 t1344 x7_1).f1),.int .i64 ((rd_T89 t1344 x7_1).f2),.int .i64 ((rd_T89 t1344 x7_1).f3),.int .i64 0]) ?_ 4 _ rfl; refine blk_put (cs:=#[.string ((rd_T89 t1344 x7_1).f0),.int .i64 ((rd_T89 t1344 x7_1).f1),.int .i64 ((rd_T89 t1344 x7_1).f2),.int .i64 0,.int .i64 0]) ?_ 3 _ rfl; refine blk_put (cs:=#[.string ((rd_T89 t1344 x7_1).f0),.int .i64 ((rd_T89 t1344 x7_1).f1),.int .i64 0,.int .i64 0,.int .i64 0]) ?_ 2 _ rfl; refine blk_put (cs:=#[.string ((rd_T89 t1344 x7_1).f0),.int .i64 0,.int .i64 0,.int .i64 0,.int .i64 0]) ?_ 1 _ rfl; refine blk_put (cs:=#[.string (⟨#[]⟩ : ByteArray),.int .i64 0,.int .i64 0,.int .i64 0,.int .i64 0]) ?_ 0 _ rfl; exact BK1355.out) NB1355_1343.out (by simp)); have n3_:=Aside0.mk (hb); have n4_:=Aside0.mk (hi); clear HO_5; clear HO_6; clear BK1355; clear HB; clear HI1343; have HO_5:=n0_; have HO_6:=n1_; have BK1355:=n2_; have HB:=n3_; have HI1343:=n4_; clear n0_ n1_ n2_ n3_ n4_; (try clear hb); (try clear hb2); (try clear hk); (try clear hi); have hnb19:=NB1355_1343.out; have hnc19:=NB1343_1355.out; have hcz20_0 : w18.cell? ⟨gb1355,0,none⟩ = some (.string ((rd_T89 t1344 x7_1).f0)):=(blk_cell BK1355.out 0).trans rfl; have hcz20_1 : w18.cell? ⟨gb1355,1,none⟩ = some (.int .i64 ((rd_T89 t1344 x7_1).f1)):=(blk_cell BK1355.out 1).trans rfl; have hcz20_2 : w18.cell? ⟨gb1355,2,none⟩ = some (.int .i64 ((rd_T89 t1344 x7_1).f2)):=(blk_cell BK1355.out 2).trans rfl; have hcz20_3 : w18.cell? ⟨gb1355,3,none⟩ = some (.int .i64 ((rd_T89 t1344 x7_1).f3)):=(blk_cell BK1355.out 3).trans rfl; have hcz20_4 : w18.cell? ⟨gb1355,4,none⟩ = some (.int .i64 ((rd_T89 t1344 x7_1).f4)):=(blk_cell BK1355.out 4).trans rfl; have hfz20_0:=blk_frozen BK1355.out 0; have hfz20_1:=blk_frozen BK1355.out 1; have hfz20_2:=blk_frozen BK1355.out 2; have hfz20_3:=blk_frozen BK1355.out 3; have hfz20_4:=blk_frozen BK1355.out 4; obtain ⟨Ao21,co21,eo21⟩:=Kd.R_slice HO_6.out; subst eo21)|(go_at_call 152; (with_reducible refine (spec_l2Find.calls k1 _ _ x6_1 ((rd_T89 t1344 x7_1).f0) t1359 _ ?side1 ?side2 A17.out).mono ?_); (case side1 => repeat ((exact (Kd.R_reads' HO_6.out).2.2))); (case side2 => exact (Kd.R_reads' HO_6.out).2.1); rintro e w' ⟨rfl,⟨nd,rfl⟩⟩))
       go_meet
       case rel => exact ⟨_,(decide (t1359 ≥ 0)),(t1357),(t1358),(by (rfl)),H',⟨by have:=HK1.out; (omega)⟩,⟨by (with_reducible repeat (apply Kd.R_drewN)); exact HO_5.out⟩,⟨by (with_reducible repeat (apply Kd.R_drewN)); exact HO_6.out⟩,⟨by (with_reducible repeat (refine blk_drewN ?_ _)); exact BK1355.out⟩,⟨by repeat (with_reducible first|exact HI1343.out|apply IsS112.drewN)⟩,⟨by repeat (with_reducible first|exact HB.out|apply pw_below_drewN)⟩⟩
     case rest =>
      clear HC9
      try clear c1
      try clear p1
      try clear q1
      try clear hx1
      try clear p2
      try clear c7
      try clear c7b0
      try clear c8
      try clear c8b0
      try clear c12
      try clear p13
      try clear q13
      try clear hx13
      try clear c15
      try clear c19
      try clear hcz13_0
      try clear hcz13_1
      try clear hcz13_2
      try clear hcz13_3
      try clear hcz13_4
      try clear hcz20_0
      try clear hcz20_1
      try clear hcz20_2
      try clear hcz20_3
      try clear hcz20_4
      try clear hfz13_0
      try clear hfz13_1
      try clear hfz13_2
      try clear hfz13_3
      try clear hfz13_4
      try clear hfz20_0
      try clear hfz20_1
      try clear hfz20_2
      try clear hfz20_3
      try clear hfz20_4
      try clear hx1354_0
      try clear hx1354_1
      try clear hx1354_2
      try clear hx1354_3
      try clear hx1354_4
      try clear p1354
      try clear p2
      try clear q1354
      obtain ⟨kq,x34_8,x1344001_8,x1344002_8,rfl,HA,HJ8,HO_5,HO_6,BK1355,HI1343,HB⟩:=hcut
      cases kq with
      | zero => exact absurd HA.out (by simp [spec_DrawManifestChanges.j1])
      | succ kj8 =>
       have H:=HA.out
       clear HA
       simp only [spec_DrawManifestChanges.j1] at H
       by_cases c22 : x34_8 = true
       ·subst c22
        have H1 : (spec_DrawManifestChanges.l0 kj8 t1344 x6_1 (wrap64 (x7_1 + 1)) l0 x1344001_8 x1344002_8) = some (r1,r2):=by rw [if_pos rfl] at H; exact H
        clear H
        have H:=H1
        clear H1
        have H':=Aside0.mk H
        clear H
        go_wp2
        go_roundg kj8
        case measure => have:=HK1.out; have:=HJ8.out; omega
        case rel => exact ⟨(x6_1),(wrap64 (x7_1 + 1)),(x1344001_8),(x1344002_8),(by (rfl)),H',⟨by have:=HK1.out; have:=HJ8.out; omega⟩,⟨by exact Kd.R_mono HO_5.out (fun _ hk => hk.1)⟩,⟨by exact Kd.R_mono HO_6.out (fun _ hk => hk.1)⟩,⟨by repeat (((with_reducible (exact HI1343.out))))⟩,⟨by repeat (((with_reducible (exact HB.out))))⟩⟩
       ·replace c22:=Bool.eq_false_iff.mpr c22
        subst c22
        have H1 : ((spec_l1Cur_one.f l0 x1344001_8 x1344002_8 3).bind fun bt1360 => (if bt1360.1 = true then ((spec_l1Cur_among.f l0 bt1360.2.1 bt1360.2.2 ([1,500,9000] : List Int)).bind fun bt1366 => (if x6_1.length < 2932031007402 then (spec_DrawManifestChanges.l0 kj8 t1344 (x6_1 ++ [(⟨((rd_T89 t1344 x7_1).f0),((rd_T89 t1344 x7_1).f1),bt1366.1,((rd_T89 t1344 x7_1).f3),((rd_T89 t1344 x7_1).f4)⟩ : S89)]) (wrap64 (x7_1 + 1)) l0 bt1366.2.1 bt1366.2.2) else (none))) else (if x6_1.length < 2932031007402 then (spec_DrawManifestChanges.l0 kj8 t1344 (x6_1 ++ [(⟨((rd_T89 t1344 x7_1).f0),((rd_T89 t1344 x7_1).f1),((rd_T89 t1344 x7_1).f2),((rd_T89 t1344 x7_1).f3),((rd_T89 t1344 x7_1).f4)⟩ : S89)]) (wrap64 (x7_1 + 1)) l0 bt1360.2.1 bt1360.2.2) else (none)))) = some (r1,r2):=by rw [if_neg (show ¬ (false = true) by decide)] at H; exact H
        clear H
        have H:=H1
        clear H1
        replace H:=Option.bind_eq_some_iff.mp H
        obtain ⟨⟨t1360,t1361,t1362⟩,A230,H⟩:=H
        replace H : (if t1360 = true then ((spec_l1Cur_among.f l0 t1361 t1362 ([1,500,9000] : List Int)).bind fun bt1366 => (if x6_1.length < 2932031007402 then (spec_DrawManifestChanges.l0 kj8 t1344 (x6_1 ++ [(⟨((rd_T89 t1344 x7_1).f0),((rd_T89 t1344 x7_1).f1),bt1366.1,((rd_T89 t1344 x7_1).f3),((rd_T89 t1344 x7_1).f4)⟩ : S89)]) (wrap64 (x7_1 + 1)) l0 bt1366.2.1 bt1366.2.2) else (none))) else (if x6_1.length < 2932031007402 then (spec_DrawManifestChanges.l0 kj8 t1344 (x6_1 ++ [(⟨((rd_T89 t1344 x7_1).f0),((rd_T89 t1344 x7_1).f1),((rd_T89 t1344 x7_1).f2),((rd_T89 t1344 x7_1).f3),((rd_T89 t1344 x7_1).f4)⟩ : S89)]) (wrap64 (x7_1 + 1)) l0 t1361 t1362) else (none))) = some (r1,r2):=H
        have A23:=Aside0.mk A230
        clear A230
        by_cases c24 : t1360 = true
        ·subst c24
         have H1 : ((spec_l1Cur_among.f l0 t1361 t1362 ([1,500,9000] : List Int)).bind fun bt1366 => (if x6_1.length < 2932031007402 then (spec_DrawManifestChanges.l0 kj8 t1344 (x6_1 ++ [(⟨((rd_T89 t1344 x7_1).f0),((rd_T89 t1344 x7_1).f1),bt1366.1,((rd_T89 t1344 x7_1).f3),((rd_T89 t1344 x7_1).f4)⟩ : S89)]) (wrap64 (x7_1 + 1)) l0 bt1366.2.1 bt1366.2.2) else (none))) = some (r1,r2):=by rw [if_pos rfl] at H; exact H
         clear H
         have H:=H1
         clear H1
         obtain ⟨y1363,hy1363⟩ : ∃ y_ : List Int,y_ = ([1,500,9000] : List Int):=⟨_,rfl⟩
         replace H : ((spec_l1Cur_among.f l0 t1361 t1362 y1363).bind fun bt1366 => (if x6_1.length < 2932031007402 then (spec_DrawManifestChanges.l0 kj8 t1344 (x6_1 ++ [(⟨((rd_T89 t1344 x7_1).f0),((rd_T89 t1344 x7_1).f1),bt1366.1,((rd_T89 t1344 x7_1).f3),((rd_T89 t1344 x7_1).f4)⟩ : S89)]) (wrap64 (x7_1 + 1)) l0 bt1366.2.1 bt1366.2.2) else (none))) = some (r1,r2):=by (rw [hy1363]; with_reducible exact H)
         have Ny1363:=Aside0.mk hy1363
         clear hy1363
         replace H:=Option.bind_eq_some_iff.mp H
         obtain ⟨⟨t1366,t1367,t1368⟩,A250,H⟩:=H
         replace H : (if x6_1.length < 2932031007402 then (spec_DrawManifestChanges.l0 kj8 t1344 (x6_1 ++ [(⟨((rd_T89 t1344 x7_1).f0),((rd_T89 t1344 x7_1).f1),t1366,((rd_T89 t1344 x7_1).f3),((rd_T89 t1344 x7_1).f4)⟩ : S89)]) (wrap64 (x7_1 + 1)) l0 t1367 t1368) else (none)) = some (r1,r2):=H
         have A25:=Aside0.mk A250
         clear A250
         by_cases c26 : x6_1.length < 2932031007402
         ·rw [if_pos c26] at H
          have LMc26:=Aside0.mk c26
          clear c26
          obtain ⟨y1369,hy1369⟩ : ∃ y_ : List (S89),y_ = (x6_1 ++ [(⟨((rd_T89 t1344 x7_1).f0),((rd_T89 t1344 x7_1).f1),t1366,((rd_T89 t1344 x7_1).f3),((rd_T89 t1344 x7_1).f4)⟩ : S89)]):=⟨_,rfl⟩
          replace H : (spec_DrawManifestChanges.l0 kj8 t1344 y1369 (wrap64 (x7_1 + 1)) l0 t1367 t1368) = some (r1,r2):=by (rw [hy1369]; with_reducible exact H)
          have Ny1369:=Aside0.mk hy1369
          clear hy1369
          have H':=Aside0.mk H
          clear H
          go_wp2_with (first|((with_reducible refine gate_callee (f:=151) rfl ?_); refine goesL_ (some 36) rfl rfl Try.func151 (by kernel_rfl) rfl #[.pointer (some ⟨gb1343,0,none⟩),.int .i64 3] rfl (by (try simp only [List.map_toArray,List.map_cons,List.map_nil]); (rfl)) ?_; (with_reducible refine (spec_l1Cur_one.calls gb1343 l0 x1344001_8 x1344002_8 3 true t1361 t1362 w _ ?side1 ?side2 A23.out).mono ?_); (case side1 => repeat (((with_reducible (exact HI1343.out))))); (case side2 => repeat (((with_reducible (exact HB.out))))); rintro e w27 ⟨rfl,hi,hb,hk⟩; refine ⟨_,rfl,?_⟩; have n0_:=Aside0.mk (Kd.R_mono (Kd.R_keep (IsS112.apart (show IsS112 w _ gb1343 l0 x1344001_8 x1344002_8 from by repeat (((with_reducible (exact HI1343.out))))) (by exact HO_5.out) (by decide)) hk (fun _ h => h.2)) (fun _ h => h.1)); have n1_:=Aside0.mk (Kd.R_mono (Kd.R_keep (IsS112.apart (show IsS112 w _ gb1343 l0 x1344001_8 x1344002_8 from by repeat (((with_reducible (exact HI1343.out))))) (by exact HO_6.out) (by decide)) hk (fun _ h => h.2)) (fun _ h => h.1)); have n2_:=Aside0.mk (KeepBut.blk hk (g':=gb1355) (o:=.cells #[.string ((rd_T89 t1344 x7_1).f0),.int .i64 ((rd_T89 t1344 x7_1).f1),.int .i64 ((rd_T89 t1344 x7_1).f2),.int .i64 ((rd_T89 t1344 x7_1).f3),.int .i64 ((rd_T89 t1344 x7_1).f4)] 89 (0,0)) (by exact BK1355.out) NB1355_1343.out (by simp)); have n3_:=Aside0.mk (hb); have n4_:=Aside0.mk (hi); clear HO_5; clear HO_6; clear BK1355; clear HB; clear HI1343; have HO_5:=n0_; have HO_6:=n1_; have BK1355:=n2_; have HB:=n3_; have HI1343:=n4_; clear n0_ n1_ n2_ n3_ n4_; (try clear hb); (try clear hb2); (try clear hk); (try clear hi))|((with_reducible refine gate_dst (N:=38) rfl ?_); refine Kd.R_lit (Kd.int .i64) _ 3 ?hg (N:=38) ?hd (xs:=([1,500,9000] : List Int)) (inner:=[.int .i64 1,.int .i64 500,.int .i64 9000]) (ok:=fun _ => True) (okp:=fun _ => True) ?hr ?hp (fun _ hk => hk) trivial (Below.refl _ _) (Nat.le_refl _) (by simp) ?_; (case hd => rfl); (case hg => rfl); (case hr => (go_simp; done)); (case hp => exact (Reps.one (show Kd.M (Kd.int .i64) _ _ _ 1 [.int .i64 1] from rfl) (Reps.one (show Kd.M (Kd.int .i64) _ _ _ 500 [.int .i64 500] from rfl) (Reps.one (show Kd.M (Kd.int .i64) _ _ _ 9000 [.int .i64 9000] from rfl) (Reps.none _ _))))); intro v1364 w28 ho29 hb hg_ hnew_; clear hg_ hnew_; (rw [← Ny1363.out] at ho29); have n0_:=Aside0.mk (Kd.R_below (by exact HO_5.out) hb); have n1_:=Aside0.mk (Kd.R_below (by exact HO_6.out) hb); have n2_:=Aside0.mk (Kd.R_lower ho29 (below_size (by repeat (((with_reducible (exact HB.out))))))); have n3_:=Aside0.mk (blk_below (g:=gb1355) (o:=.cells #[.string ((rd_T89 t1344 x7_1).f0),.int .i64 ((rd_T89 t1344 x7_1).f1),.int .i64 ((rd_T89 t1344 x7_1).f2),.int .i64 ((rd_T89 t1344 x7_1).f3),.int .i64 ((rd_T89 t1344 x7_1).f4)] 89 (0,0)) (by exact BK1355.out) hb); have n4_:=Aside0.mk (IsS112.below (by repeat (((with_reducible (exact HI1343.out))))) hb); have n5_:=Aside0.mk (below_step (by repeat (((with_reducible (exact HB.out))))) hb); clear HO_5; clear HO_6; clear BK1355; clear HI1343; clear HB; have HO_5:=n0_; have HO_6:=n1_; have HO1365:=n2_; have BK1355:=n3_; have HI1343:=n4_; have HB:=n5_; clear n0_ n1_ n2_ n3_ n4_ n5_; clear hb ho29; obtain ⟨Ao30,co30,eo30⟩:=Kd.R_slice HO1365.out; subst eo30)|((with_reducible refine gate_callee (f:=114) rfl ?_); refine goesL_ (some 39) rfl rfl Try.func114 (by kernel_rfl) rfl #[.pointer (some ⟨gb1343,0,none⟩),.slice Ao30 y1363.length co30] rfl (by (try simp only [List.map_toArray,List.map_cons,List.map_nil]); (rfl)) ?_; (with_reducible refine (spec_l1Cur_among.calls gb1343 l0 t1361 t1362 _ _ y1363 t1366 t1367 t1368 w _ ?side1 ?side2 ?side3 ?side4 ?side5 A25.out).mono ?_); (case side1 => repeat (((with_reducible (exact HI1343.out))))); (case side2 => repeat (((with_reducible (exact HB.out))))); (case side3 => repeat ((exact (Kd.R_reads' HO1365.out).2.2))); (case side4 => exact (Kd.R_reads' HO1365.out).2.1); (case side5 => exact far_slice (IsS112.own_ne HI1343.out HO1365.out (by decide))); rintro e w31 ⟨rfl,hi,hb,hk⟩; refine ⟨_,rfl,?_⟩; have n0_:=Aside0.mk (Kd.R_mono (Kd.R_keep (IsS112.apart (show IsS112 w _ gb1343 l0 t1361 t1362 from by repeat (((with_reducible (exact HI1343.out))))) (by exact HO_5.out) (by decide)) hk (fun _ h => h.2)) (fun _ h => h.1)); have n1_:=Aside0.mk (Kd.R_mono (Kd.R_keep (IsS112.apart (show IsS112 w _ gb1343 l0 t1361 t1362 from by repeat (((with_reducible (exact HI1343.out))))) (by exact HO_6.out) (by decide)) hk (fun _ h => h.2)) (fun _ h => h.1)); have n2_:=Aside0.mk (KeepBut.blk hk (g':=gb1355) (o:=.cells #[.string ((rd_T89 t1344 x7_1).f0),.int .i64 ((rd_T89 t1344 x7_1).f1),.int .i64 ((rd_T89 t1344 x7_1).f2),.int .i64 ((rd_T89 t1344 x7_1).f3),.int .i64 ((rd_T89 t1344 x7_1).f4)] 89 (0,0)) (by exact BK1355.out) NB1355_1343.out (by simp)); have n3_:=Aside0.mk (Kd.R_mono (Kd.R_keep (IsS112.apart (show IsS112 w _ gb1343 l0 t1361 t1362 from by repeat (((with_reducible (exact HI1343.out))))) (by exact HO1365.out) (by decide)) hk (fun _ h => h.2)) (fun _ h => h.1)); have n4_:=Aside0.mk (hb); have n5_:=Aside0.mk (hi); clear HO_5; clear HO_6; clear BK1355; clear HO1365; clear HB; clear HI1343; have HO_5:=n0_; have HO_6:=n1_; have BK1355:=n2_; have HO1365:=n3_; have HB:=n4_; have HI1343:=n5_; clear n0_ n1_ n2_ n3_ n4_ n5_; (try clear hb); (try clear hb2); (try clear hk); (try clear hi); have hnb32:=NB1355_1343.out; have hnc32:=NB1343_1355.out; have hcz33_0 : w31.cell? ⟨gb1355,0,none⟩ = some (.string ((rd_T89 t1344 x7_1).f0)):=(blk_cell BK1355.out 0).trans rfl; have hcz33_1 : w31.cell? ⟨gb1355,1,none⟩ = some (.int .i64 ((rd_T89 t1344 x7_1).f1)):=(blk_cell BK1355.out 1).trans rfl; have hcz33_2 : w31.cell? ⟨gb1355,2,none⟩ = some (.int .i64 ((rd_T89 t1344 x7_1).f2)):=(blk_cell BK1355.out 2).trans rfl; have hcz33_3 : w31.cell? ⟨gb1355,3,none⟩ = some (.int .i64 ((rd_T89 t1344 x7_1).f3)):=(blk_cell BK1355.out 3).trans rfl; have hcz33_4 : w31.cell? ⟨gb1355,4,none⟩ = some (.int .i64 ((rd_T89 t1344 x7_1).f4)):=(blk_cell BK1355.out 4).trans rfl; have hfz33_0:=blk_frozen BK1355.out 0; have hfz33_1:=blk_frozen BK1355.out 1; have hfz33_2:=blk_frozen BK1355.out 2; have hfz33_3:=blk_frozen BK1355.out 3; have hfz33_4:=blk_frozen BK1355.out 4)|((with_reducible refine gate_builtin (b:=.append) (xs:=#[.tmp 41,.tmp 43]) rfl ?_); at_builtin; refine Kd.R_append k89 (w0:=w) w.heap.size rfl (.tmp 41) (.tmp 43) 74 89 (.agg #[(.string ⟨#[]⟩),(.int .i64 0),(.int .i64 0),(.int .i64 0),(.int .i64 0)]) 48 rfl Try.underlying74 info89 rfl (by decide) (by omega) u6 x6_1 (⟨((rd_T89 t1344 x7_1).f0),((rd_T89 t1344 x7_1).f1),t1366,((rd_T89 t1344 x7_1).f3),((rd_T89 t1344 x7_1).f4)⟩ : S89) [.string ((rd_T89 t1344 x7_1).f0),.int .i64 ((rd_T89 t1344 x7_1).f1),.int .i64 t1366,.int .i64 ((rd_T89 t1344 x7_1).f3),.int .i64 ((rd_T89 t1344 x7_1).f4)] (fun k_ => some k_ ≠ (.slice (some ad1354) t1344.length co10 : Value).ownBlock ∧ k_ ≠ gb1355) (fun _ => False) rfl (by (go_simp; done)) ?aP (fun _ hk => hk.elim) ?aF ?aO ?aB ?aS ?aL ?_; (case aP => exact k89_mkM _ _ _ (⟨((rd_T89 t1344 x7_1).f0),((rd_T89 t1344 x7_1).f1),t1366,((rd_T89 t1344 x7_1).f3),((rd_T89 t1344 x7_1).f4)⟩ : S89)); (case aB => exact (by repeat (with_reducible first|exact HB.out|refine below_set ?_ GE1355.out))); (case aF => exact (fun k_ hk => ⟨Kd.fresh' (Kd.R_lt (by exact (Kd.R_mono (Kd.R_far (p:=⟨gb1355,2,none⟩) (Kd.R_mono HO_5.out (fun k_ hk => (⟨hk,hk.2⟩ : _ ∧ k_ ≠ gb1355))) (fun _ hk => hk.2) (.int .i64 t1366)) (fun _ h_ => h_.1)))) k_ hk,Kd.freshB (g:=gb1355) (o:=.cells #[.string ((rd_T89 t1344 x7_1).f0),.int .i64 ((rd_T89 t1344 x7_1).f1),.int .i64 t1366,.int .i64 ((rd_T89 t1344 x7_1).f3),.int .i64 ((rd_T89 t1344 x7_1).f4)] 89 (0,0)) (by refine blk_put (cs:=#[.string ((rd_T89 t1344 x7_1).f0),.int .i64 ((rd_T89 t1344 x7_1).f1),.int .i64 ((rd_T89 t1344 x7_1).f2),.int .i64 ((rd_T89 t1344 x7_1).f3),.int .i64 ((rd_T89 t1344 x7_1).f4)]) ?_ 2 _ rfl; exact BK1355.out) k_ hk⟩)); (case aO => exact (by exact Kd.R_mono (Kd.R_far (p:=⟨gb1355,2,none⟩) (Kd.R_mono HO_6.out (fun k_ hk => (⟨hk,hk.2⟩ : _ ∧ k_ ≠ gb1355))) (fun _ hk => hk.2) (.int .i64 t1366)) (fun _ hk => ⟨hk.1.1,hk.1.2⟩))); (case aS => exact (below_size (by repeat (with_reducible first|exact HB.out|refine below_set ?_ GE1355.out)))); (case aL => have:=LMc26.out; omega); intro v1370 w34 ho hb hg hat; rw [← Ny1369.out] at ho; have n0_:=Aside0.mk (Kd.R_after (ok:=(fun k_ => k_ ≠ gb1355)) (by exact Kd.R_mono (Kd.R_far (p:=⟨gb1355,2,none⟩) (Kd.R_mono HO_5.out (fun k_ hk => (⟨hk,hk.2⟩ : _ ∧ k_ ≠ gb1355))) (fun _ hk => hk.2) (.int .i64 t1366)) (fun _ hk => ⟨hk.1.2,hk.1.1⟩)) hg hat); have n1_:=Aside0.mk (blk_grown (g:=gb1355) (o:=.cells #[.string ((rd_T89 t1344 x7_1).f0),.int .i64 ((rd_T89 t1344 x7_1).f1),.int .i64 t1366,.int .i64 ((rd_T89 t1344 x7_1).f3),.int .i64 ((rd_T89 t1344 x7_1).f4)] 89 (0,0)) (by refine blk_put (cs:=#[.string ((rd_T89 t1344 x7_1).f0),.int .i64 ((rd_T89 t1344 x7_1).f1),.int .i64 ((rd_T89 t1344 x7_1).f2),.int .i64 ((rd_T89 t1344 x7_1).f3),.int .i64 ((rd_T89 t1344 x7_1).f4)]) ?_ 2 _ rfl; exact BK1355.out) hg (Kd.R_away HO_6.out (fun _ hk => hk.2))); have n2_:=Aside0.mk (IsS112.grown (IsS112.far (p:=⟨gb1355,2,none⟩) HI1343.out NB1343_1355.out (.int .i64 t1366)) hg (IsS112.own_ne HI1343.out HO_6.out (by decide))); have n3_:=Aside0.mk (Kd.R_over' (by exact (Kd.R_mono (Kd.R_far (p:=⟨gb1355,2,none⟩) (Kd.R_types HO1365.out BK1355.out (by decide)) (fun _ hk => hk.2) (.int .i64 t1366)) (fun _ h_ => h_.1))) (Kd.R_typed (by exact (Kd.R_mono (Kd.R_far (p:=⟨gb1355,2,none⟩) (Kd.R_mono HO_6.out (fun k_ hk => (⟨hk,hk.2⟩ : _ ∧ k_ ≠ gb1355))) (fun _ hk => hk.2) (.int .i64 t1366)) (fun _ h_ => h_.1)))) (by decide) hg); have n4_:=Aside0.mk (hb); have n5_:=Aside0.mk (ho); clear HO_5; clear BK1355; clear HI1343; clear HO1365; clear HB; clear HO_6; have HO_5:=n0_; have BK1355:=n1_; have HI1343:=n2_; have HO1365:=n3_; have HB:=n4_; have HO1371:=n5_; clear n0_ n1_ n2_ n3_ n4_ n5_; clear ho hb hg hat))
          go_roundg kj8
          case measure => have:=HK1.out; have:=HJ8.out; omega
          case rel => exact ⟨(y1369),(wrap64 (x7_1 + 1)),(t1367),(t1368),(by (rfl)),H',⟨by have:=HK1.out; have:=HJ8.out; omega⟩,⟨by exact Kd.R_mono HO_5.out (fun _ hk => hk.2)⟩,⟨by exact Kd.R_mono HO1371.out (fun _ hk => hk.1)⟩,⟨by repeat (((with_reducible (exact HI1343.out))))⟩,⟨by repeat (((with_reducible (exact HB.out))))⟩⟩
         ·rw [if_neg c26] at H
          exact absurd H (by simp)
        ·replace c24:=Bool.eq_false_iff.mpr c24
         subst c24
         have H1 : (if x6_1.length < 2932031007402 then (spec_DrawManifestChanges.l0 kj8 t1344 (x6_1 ++ [(⟨((rd_T89 t1344 x7_1).f0),((rd_T89 t1344 x7_1).f1),((rd_T89 t1344 x7_1).f2),((rd_T89 t1344 x7_1).f3),((rd_T89 t1344 x7_1).f4)⟩ : S89)]) (wrap64 (x7_1 + 1)) l0 t1361 t1362) else (none)) = some (r1,r2):=by rw [if_neg (show ¬ (false = true) by decide)] at H; exact H
         clear H
         have H:=H1
         clear H1
         by_cases c35 : x6_1.length < 2932031007402
         ·rw [if_pos c35] at H
          have LMc35:=Aside0.mk c35
          clear c35
          obtain ⟨y1372,hy1372⟩ : ∃ y_ : List (S89),y_ = (x6_1 ++ [(⟨((rd_T89 t1344 x7_1).f0),((rd_T89 t1344 x7_1).f1),((rd_T89 t1344 x7_1).f2),((rd_T89 t1344 x7_1).f3),((rd_T89 t1344 x7_1).f4)⟩ : S89)]):=⟨_,rfl⟩
          replace H : (spec_DrawManifestChanges.l0 kj8 t1344 y1372 (wrap64 (x7_1 + 1)) l0 t1361 t1362) = some (r1,r2):=by (rw [hy1372]; with_reducible exact H)
          have Ny1372:=Aside0.mk hy1372
          clear hy1372
          have H':=Aside0.mk H
          clear H
          go_wp2_with (first|((with_reducible refine gate_callee (f:=151) rfl ?_); refine goesL_ (some 36) rfl rfl Try.func151 (by kernel_rfl) rfl #[.pointer (some ⟨gb1343,0,none⟩),.int .i64 3] rfl (by (try simp only [List.map_toArray,List.map_cons,List.map_nil]); (rfl)) ?_; (with_reducible refine (spec_l1Cur_one.calls gb1343 l0 x1344001_8 x1344002_8 3 false t1361 t1362 w _ ?side1 ?side2 A23.out).mono ?_); (case side1 => repeat (((with_reducible (exact HI1343.out))))); (case side2 => repeat (((with_reducible (exact HB.out))))); rintro e w36 ⟨rfl,hi,hb,hk⟩; refine ⟨_,rfl,?_⟩; have n0_:=Aside0.mk (Kd.R_mono (Kd.R_keep (IsS112.apart (show IsS112 w _ gb1343 l0 x1344001_8 x1344002_8 from by repeat (((with_reducible (exact HI1343.out))))) (by exact HO_5.out) (by decide)) hk (fun _ h => h.2)) (fun _ h => h.1)); have n1_:=Aside0.mk (Kd.R_mono (Kd.R_keep (IsS112.apart (show IsS112 w _ gb1343 l0 x1344001_8 x1344002_8 from by repeat (((with_reducible (exact HI1343.out))))) (by exact HO_6.out) (by decide)) hk (fun _ h => h.2)) (fun _ h => h.1)); have n2_:=Aside0.mk (KeepBut.blk hk (g':=gb1355) (o:=.cells #[.string ((rd_T89 t1344 x7_1).f0),.int .i64 ((rd_T89 t1344 x7_1).f1),.int .i64 ((rd_T89 t1344 x7_1).f2),.int .i64 ((rd_T89 t1344 x7_1).f3),.int .i64 ((rd_T89 t1344 x7_1).f4)] 89 (0,0)) (by exact BK1355.out) NB1355_1343.out (by simp)); have n3_:=Aside0.mk (hb); have n4_:=Aside0.mk (hi); clear HO_5; clear HO_6; clear BK1355; clear HB; clear HI1343; have HO_5:=n0_; have HO_6:=n1_; have BK1355:=n2_; have HB:=n3_; have HI1343:=n4_; clear n0_ n1_ n2_ n3_ n4_; (try clear hb); (try clear hb2); (try clear hk); (try clear hi); have hnb37:=NB1355_1343.out; have hnc37:=NB1343_1355.out; have hcz38_0 : w36.cell? ⟨gb1355,0,none⟩ = some (.string ((rd_T89 t1344 x7_1).f0)):=(blk_cell BK1355.out 0).trans rfl; have hcz38_1 : w36.cell? ⟨gb1355,1,none⟩ = some (.int .i64 ((rd_T89 t1344 x7_1).f1)):=(blk_cell BK1355.out 1).trans rfl; have hcz38_2 : w36.cell? ⟨gb1355,2,none⟩ = some (.int .i64 ((rd_T89 t1344 x7_1).f2)):=(blk_cell BK1355.out 2).trans rfl; have hcz38_3 : w36.cell? ⟨gb1355,3,none⟩ = some (.int .i64 ((rd_T89 t1344 x7_1).f3)):=(blk_cell BK1355.out 3).trans rfl; have hcz38_4 : w36.cell? ⟨gb1355,4,none⟩ = some (.int .i64 ((rd_T89 t1344 x7_1).f4)):=(blk_cell BK1355.out 4).trans rfl; have hfz38_0:=blk_frozen BK1355.out 0; have hfz38_1:=blk_frozen BK1355.out 1; have hfz38_2:=blk_frozen BK1355.out 2; have hfz38_3:=blk_frozen BK1355.out 3; have hfz38_4:=blk_frozen BK1355.out 4)|((with_reducible refine gate_builtin (b:=.append) (xs:=#[.tmp 41,.tmp 43]) rfl ?_); at_builtin; refine Kd.R_append k89 (w0:=w) w.heap.size rfl (.tmp 41) (.tmp 43) 74 89 (.agg #[(.string ⟨#[]⟩),(.int .i64 0),(.int .i64 0),(.int .i64 0),(.int .i64 0)]) 48 rfl Try.underlying74 info89 rfl (by decide) (by omega) u6 x6_1 (⟨((rd_T89 t1344 x7_1).f0),((rd_T89 t1344 x7_1).f1),((rd_T89 t1344 x7_1).f2),((rd_T89 t1344 x7_1).f3),((rd_T89 t1344 x7_1).f4)⟩ : S89) [.string ((rd_T89 t1344 x7_1).f0),.int .i64 ((rd_T89 t1344 x7_1).f1),.int .i64 ((rd_T89 t1344 x7_1).f2),.int .i64 ((rd_T89 t1344 x7_1).f3),.int .i64 ((rd_T89 t1344 x7_1).f4)] (fun k_ => some k_ ≠ (.slice (some ad1354) t1344.length co10 : Value).ownBlock ∧ k_ ≠ gb1355) (fun _ => False) rfl rfl ?aP (fun _ hk => hk.elim) ?aF ?aO ?aB ?aS ?aL ?_; (case aP => exact k89_mkM _ _ _ (⟨((rd_T89 t1344 x7_1).f0),((rd_T89 t1344 x7_1).f1),((rd_T89 t1344 x7_1).f2),((rd_T89 t1344 x7_1).f3),((rd_T89 t1344 x7_1).f4)⟩ : S89)); (case aB => exact (by repeat (((with_reducible (exact HB.out)))))); (case aF => exact (fun k_ hk => ⟨Kd.fresh' (Kd.R_lt (by exact HO_5.out)) k_ hk,Kd.freshB (g:=gb1355) (o:=.cells #[.string ((rd_T89 t1344 x7_1).f0),.int .i64 ((rd_T89 t1344 x7_1).f1),.int .i64 ((rd_T89 t1344 x7_1).f2),.int .i64 ((rd_T89 t1344 x7_1).f3),.int .i64 ((rd_T89 t1344 x7_1).f4)] 89 (0,0)) (by exact BK1355.out) k_ hk⟩)); (case aO => exact (by exact HO_6.out)); (case aS => exact (below_size (by repeat (((with_reducible (exact HB.out))))))); (case aL => have:=LMc35.out; omega); intro v1373 w39 ho hb hg hat; rw [← Ny1372.out] at ho; have n0_:=Aside0.mk (Kd.R_after (ok:=(fun k_ => k_ ≠ gb1355)) (by exact Kd.R_mono HO_5.out (fun _ hk => ⟨hk.2,hk.1⟩)) hg hat); have n1_:=Aside0.mk (blk_grown (g:=gb1355) (o:=.cells #[.string ((rd_T89 t1344 x7_1).f0),.int .i64 ((rd_T89 t1344 x7_1).f1),.int .i64 ((rd_T89 t1344 x7_1).f2),.int .i64 ((rd_T89 t1344 x7_1).f3),.int .i64 ((rd_T89 t1344 x7_1).f4)] 89 (0,0)) (by exact BK1355.out) hg (Kd.R_away HO_6.out (fun _ hk => hk.2))); have n2_:=Aside0.mk (IsS112.grown (by repeat (((with_reducible (exact HI1343.out))))) hg (IsS112.own_ne HI1343.out HO_6.out (by decide))); have n3_:=Aside0.mk (hb); have n4_:=Aside0.mk (ho); clear HO_5; clear BK1355; clear HI1343; clear HB; clear HO_6; have HO_5:=n0_; have BK1355:=n1_; have HI1343:=n2_; have HB:=n3_; have HO1374:=n4_; clear n0_ n1_ n2_ n3_ n4_; clear ho hb hg hat))
          go_roundg kj8
          case measure => have:=HK1.out; have:=HJ8.out; omega
          case rel => exact ⟨(y1372),(wrap64 (x7_1 + 1)),(t1361),(t1362),(by (rfl)),H',⟨by have:=HK1.out; have:=HJ8.out; omega⟩,⟨by exact Kd.R_mono HO_5.out (fun _ hk => hk.2)⟩,⟨by exact Kd.R_mono HO1374.out (fun _ hk => hk.1)⟩,⟨by repeat (((with_reducible (exact HI1343.out))))⟩,⟨by repeat (((with_reducible (exact HB.out))))⟩⟩
         ·rw [if_neg c35] at H
          exact absurd H (by simp)
    ·rw [if_neg c8] at H
     exact absurd H (by simp)
   ·rw [if_neg c7] at H
    have c7b0 : decide (x7_1 < (t1344.length : Int)) = false:=decide_eq_false c7
    clear c7
    simp only [Option.some.injEq,Prod.mk.injEq] at H
    obtain ⟨rfl,rfl⟩:=H
    obtain ⟨Ao40,co40,eo40⟩:=Kd.R_slice HO_5.out
    subst eo40
    go_wp2
    go_ret2
    exact ⟨_,_,by (rfl),by exact HO_5.out,by exact HO_6.out,by repeat (((with_reducible (exact HB.out))))⟩

end Go.Proofs.Ytlldonokjgoajaa.X
