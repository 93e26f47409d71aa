-- Written by a program of ours (wip/bin/xprint.py,over the kit's print.py) out of the translation. Not trusted: Lean checks it.
import Derived.Test.YtlldonokjgoajaaX0
import Derived.Test.YtlldonokjgoajaaFbCur
import Derived.Test.YtlldonokjgoajaaFspecl1CuranyRotation
namespace Go.Proofs.Ytlldonokjgoajaa.X
open Go.RowKit Go.Proofs.YtlldonokjgoajaaW.PrintWords Go.Proofs.YtlldonokjgoajaaW.PrintLast Go.Proofs.YtlldonokjgoajaaW.PrintMore
def lb539 : Nat → Nat → List Bool
 | 0,_ => []
 | n+1,m => (m%2==1) :: lb539 n (m/2)
def b539 (n m : Nat) : Array Bool := ⟨lb539 n m⟩
attribute [local go_sem] max2_int min2_int max_two min_two max_three min_three max_four min_four   -- for this text's walks alone
set_option linter.unusedVariables false
set_option linter.unusedSimpArgs false

/-! ### spec_DrawBestLoading: function 18 -/
def spec_DrawBestLoading.f (k : Nat) (l0 : List Int) : Option (List Int × List Int × Int × Int):=(spec_l1Cur_anyRotation.f k l0 0 0).bind fun bt296 => ((spec_l1Cur_pick.f l0 bt296.2.2.1 bt296.2.2.2 6).bind fun bt305 => ((spec_l1Cur_pick.f l0 bt305.2.1 bt305.2.2 6).bind fun bt308 => (some (bt296.1,bt296.2.1,wrap64 (1 + bt305.1),wrap64 (1 + bt308.1)))))
theorem spec_DrawBestLoading.mono : ∀ a0 k,LeO (spec_DrawBestLoading.f k a0) (spec_DrawBestLoading.f (k + 1) a0):=by
 intro a0 k
 unfold spec_DrawBestLoading.f
 repeat' first
   | (with_reducible exact spec_l1Cur_anyRotation.mono _ _ _ _)
   | (with_reducible exact LeO.refl _)
   | (with_reducible exact LeO.none _)
   | (with_reducible refine LeO.ite ?_ ?_)
   | (with_reducible refine LeO.bind ?_ (fun _ => ?_))
   | exact spec_l1Cur_anyRotation.mono _ _ _ _
   | exact LeO.none _
   | refine LeO.ite ?_ ?_
   | refine LeO.bind ?_ (fun _ => ?_)
def spec_DrawBestLoading.T3 : Bool × List (List Nat × List Nat):=(true,[([],[]),([],[]),([1],[1]),([2],[2]),([],[]),([4,2],[4]),([5],[5]),([0,5,0],[0]),([3,7,0,1,2,3,7],[3]),([6,8,0,1,2,3,4,5,6,7,8],[6])])
def spec_DrawBestLoading.B3 : List Nat:=[0,0,2,6,0,22,54,55,191,511]
theorem spec_DrawBestLoading.tab3 : rtab .any (opsOf Try.f18 3) = spec_DrawBestLoading.T3:=by kernel_rfl
theorem spec_DrawBestLoading.bits3 : waitsOk spec_DrawBestLoading.T3.2 spec_DrawBestLoading.B3 = true:=by kernel_rfl
set_option maxHeartbeats 8000000 in
set_option maxRecDepth 100000 in
theorem spec_DrawBestLoading.calls (k : Nat) (A0 : Option Addr) (c0 : Nat) (l0 : List Int) (r1 : List Int) (r2 : List Int) (r3 : Int) (r4 : Int) (w : World) (hr0 : Kd.C (Kd.int .u8) w A0 l0.length l0) (hc0 : l0.length ≤ c0) (h : spec_DrawBestLoading.f k l0 = some (r1,r2,r3,r4)) :
  Calls Try.prog 18 #[.slice A0 l0.length c0] w fun e w' => ∃ v0_ v1_ : Value,e = .returned (.tuple #[.agg #[v0_,v1_],.int .i64 r3,.int .i64 r4]) ∧ Kd.R (Kd.int .i64) 3 w' w.heap.size (fun k_ => some k_ ≠ (v1_ : Value).ownBlock) v0_ r1 ∧ Kd.Q (Kd.int .i64) 3 w' w.heap.size (fun k_ => some k_ ≠ (v0_ : Value).ownBlock) v1_ r2 ∧ Below w.heap.size w w':=by
 have hu26:=Try.underlying26
 have hu112:=Try.underlying112
 have HR0:=Aside0.mk hr0
 have HC0:=Aside0.mk hc0
 clear hr0 hc0
 have HB:=Aside0.mk (Below.refl w.heap.size w)
 have H : ((spec_l1Cur_anyRotation.f k l0 0 0).bind fun bt296 => ((spec_l1Cur_pick.f l0 bt296.2.2.1 bt296.2.2.2 6).bind fun bt305 => ((spec_l1Cur_pick.f l0 bt305.2.1 bt305.2.2 6).bind fun bt308 => (some (bt296.1,bt296.2.1,wrap64 (1 + bt305.1),wrap64 (1 + bt308.1)))))) = some (r1,r2,r3,r4):=h
 clear h
 replace H:=Option.bind_eq_some_iff.mp H
 obtain ⟨⟨t296,t299,t302,t303⟩,A20,H⟩:=H
 replace H : ((spec_l1Cur_pick.f l0 t302 t303 6).bind fun bt305 => ((spec_l1Cur_pick.f l0 bt305.2.1 bt305.2.2 6).bind fun bt308 => (some (t296,t299,wrap64 (1 + bt305.1),wrap64 (1 + bt308.1))))) = some (r1,r2,r3,r4):=H
 have A2:=Aside0.mk A20
 clear A20
 replace H:=Option.bind_eq_some_iff.mp H
 obtain ⟨⟨t305,t306,t307⟩,A30,H⟩:=H
 replace H : ((spec_l1Cur_pick.f l0 t306 t307 6).bind fun bt308 => (some (t296,t299,wrap64 (1 + t305),wrap64 (1 + bt308.1)))) = some (r1,r2,r3,r4):=H
 have A3:=Aside0.mk A30
 clear A30
 replace H:=Option.bind_eq_some_iff.mp H
 obtain ⟨⟨t308,t309,t310⟩,A40,H⟩:=H
 replace H : (some (t296,t299,wrap64 (1 + t305),wrap64 (1 + t308))) = some (r1,r2,r3,r4):=H
 have A4:=Aside0.mk A40
 clear A40
 simp only [Option.some.injEq,Prod.mk.injEq] at H
 obtain ⟨rfl,rfl,rfl,rfl⟩:=H
 go_enter Try.func18,Try.ntmps18
 try go_wp2_with (first|((with_reducible refine gate_dst (N:=2) rfl ?_); refine box_event ?hg (N:=2) ?hd (cs:=#[.slice none 0 0,.slice none 0 0]) (t:=26) ?hr ?_; (case hd => rfl); (case hg => rfl); (case hr => first|(go_simp; done)|(go_simp; rfl)); intro gb294 hg w5 hbox hb; have n0_:=Aside0.mk (below_step (by repeat (first|(with_reducible first|exact HB.out|apply below_alloc|apply pw_below_drewN|apply below_drew1)|exact HB.out)) hb); have n1_:=Aside0.mk (hbox); have n2_:=Aside0.mk ((by rw [hg]; exact (below_size (by repeat (first|(with_reducible first|exact HB.out|apply below_alloc|apply pw_below_drewN|apply below_drew1)|exact HB.out))) : w.heap.size ≤ gb294)); have n3_:=Aside0.mk ((by rw [hg]; exact (below_size (by repeat (first|(with_reducible first|exact HB.out|apply below_alloc|apply pw_below_drewN|apply below_drew1)|exact HB.out))) : w.heap.size ≤ gb294)); clear HB; have HB:=n0_; have BK294:=n1_; have GW294:=n2_; have GE294:=n3_; clear n0_ n1_ n2_ n3_; clear hb hbox hg)|((with_reducible refine gate_dst (N:=9) rfl ?_); refine box_event ?hg (N:=9) ?hd (cs:=#[.slice A0 l0.length c0,.int .i64 0,.int .u64 0]) (t:=112) ?hr ?_; (case hd => rfl); (case hg => rfl); (case hr => first|(go_simp; done)|(go_simp; rfl)); intro gb295 hg w6 hbox hb; have n0_:=Aside0.mk (blk_below (g:=gb294) (o:=.cells #[.slice none 0 0,.slice none 0 0] 26 (0,0)) (by (with_reducible repeat (first|refine blk_drewN ?_ _|refine blk_drew ?_|refine blk_alloc ?_ _)); exact BK294.out) hb); have n1_:=Aside0.mk (below_step (by repeat (first|(with_reducible first|exact HB.out|apply below_alloc|apply pw_below_drewN|apply below_drew1|refine below_set ?_ GE294.out)|exact HB.out)) hb); have n2_:=Aside0.mk ((show IsS112 w w6 gb295 l0 0 0 from ⟨_,_,hbox,(by rw [hg]; exact (below_size (by repeat (first|(with_reducible first|exact HB.out|apply below_alloc|apply pw_below_drewN|apply below_drew1|refine below_set ?_ GE294.out)|exact HB.out)))),HR0.out⟩)); have n3_:=Aside0.mk ((by rw [hg]; exact Nat.ne_of_lt (blk_lt (g:=gb294) (o:=.cells #[.slice none 0 0,.slice none 0 0] 26 (0,0)) (by (with_reducible repeat (first|refine blk_drewN ?_ _|refine blk_drew ?_|refine blk_alloc ?_ _)); exact BK294.out)) : gb294 ≠ gb295)); have n4_:=Aside0.mk ((by rw [hg]; exact Nat.ne_of_gt (blk_lt (g:=gb294) (o:=.cells #[.slice none 0 0,.slice none 0 0] 26 (0,0)) (by (with_reducible repeat (first|refine blk_drewN ?_ _|refine blk_drew ?_|refine blk_alloc ?_ _)); exact BK294.out)) : gb295 ≠ gb294)); clear BK294; clear HB; have BK294:=n0_; have HB:=n1_; have HI295:=n2_; have NB294_295:=n3_; have NB295_294:=n4_; clear n0_ n1_ n2_ n3_ n4_; clear hb hbox hg)|((with_reducible refine gate_callee (f:=90) rfl ?_); refine goesL_ (some 11) rfl rfl Try.func90 (by kernel_rfl) rfl #[.pointer (some ⟨gb295,0,none⟩)] rfl (by (try simp only [List.map_toArray,List.map_cons,List.map_nil]); first|done|rfl|(simp only [List.length_drop,List.length_take]; rfl)) ?_; (with_reducible refine (spec_l1Cur_anyRotation.calls k gb295 l0 0 0 t296 t299 t302 t303 w _ ?side1 ?side2 A2.out).mono ?_); (case side1 => repeat (first|(with_reducible first|exact HI295.out|apply IsS112.alloc|apply IsS112.drewN|apply IsS112.drew|apply IsS112.set_1|apply IsS112.set_2|refine IsS112.far ?_ NB295_294.out _)|exact HI295.out)); (case side2 => repeat (first|(with_reducible first|exact HB.out|apply below_alloc|apply pw_below_drewN|apply below_drew1|refine below_set ?_ (IsS112.ge HI295.out)|refine below_set ?_ GE294.out)|exact HB.out)); rintro e w7 ⟨v297,v300,rfl,ho0,ho1,hi,hb,hk⟩; refine ⟨_,rfl,?_⟩; have n0_:=Aside0.mk (KeepBut.blk hk (g':=gb294) (o:=.cells #[.slice none 0 0,.slice none 0 0] 26 (0,0)) (by (with_reducible repeat (first|refine blk_drewN ?_ _|refine blk_drew ?_|refine blk_alloc ?_ _)); exact BK294.out) NB294_295.out (by simp)); have n1_:=Aside0.mk (Kd.R_lower ho0 (below_size (by repeat (first|(with_reducible first|exact HB.out|apply below_alloc|apply pw_below_drewN|apply below_drew1|refine below_set ?_ (IsS112.ge HI295.out)|refine below_set ?_ GE294.out)|exact HB.out)))); have n2_:=Aside0.mk (Kd.Q_lower ho1 (below_size (by repeat (first|(with_reducible first|exact HB.out|apply below_alloc|apply pw_below_drewN|apply below_drew1|refine below_set ?_ (IsS112.ge HI295.out)|refine below_set ?_ GE294.out)|exact HB.out)))); have n3_:=Aside0.mk (hb); have n4_:=Aside0.mk (hi); clear BK294; clear HB; clear HI295; have BK294:=n0_; have HO298:=n1_; have HO301:=n2_; have HB:=n3_; have HI295:=n4_; clear n0_ n1_ n2_ n3_ n4_; (try clear hb); (try clear hb2); (try clear hk); (try clear hi); (try clear ho0); (try clear ho1))|((with_reducible refine gate_dst (N:=6) rfl ?_); refine box_event ?hg (N:=6) ?hd (cs:=#[.slice none 0 0,.slice none 0 0]) (t:=26) ?hr ?_; (case hd => rfl); (case hg => rfl); (case hr => first|(go_simp; done)|(go_simp; rfl)); intro gb304 hg w8 hbox hb; have n0_:=Aside0.mk (Kd.R_below (by (with_reducible repeat (first|apply Kd.R_alloc|apply Kd.R_drewN|apply Kd.R_drew)); exact HO298.out) hb); have n1_:=Aside0.mk (Kd.Q_below (by (with_reducible repeat (first|apply Kd.Q_alloc|apply Kd.Q_drewN|apply Kd.Q_drew)); exact HO301.out) hb); have n2_:=Aside0.mk (blk_below (g:=gb294) (o:=.cells #[.slice none 0 0,.slice none 0 0] 26 (0,0)) (by (with_reducible repeat (first|refine blk_drewN ?_ _|refine blk_drew ?_|refine blk_alloc ?_ _)); exact BK294.out) hb); have n3_:=Aside0.mk (IsS112.below (by repeat (first|(with_reducible first|exact HI295.out|apply IsS112.alloc|apply IsS112.drewN|apply IsS112.drew|apply IsS112.set_1|apply IsS112.set_2|refine IsS112.far ?_ NB295_294.out _)|exact HI295.out)) hb); have n4_:=Aside0.mk (below_step (by repeat (first|(with_reducible first|exact HB.out|apply below_alloc|apply pw_below_drewN|apply below_drew1|refine below_set ?_ (IsS112.ge HI295.out)|refine below_set ?_ GE294.out)|exact HB.out)) hb); have n5_:=Aside0.mk (hbox); have n6_:=Aside0.mk ((by rw [hg]; exact (below_size (by repeat (first|(with_reducible first|exact HB.out|apply below_alloc|apply pw_below_drewN|apply below_drew1|refine below_set ?_ (IsS112.ge HI295.out)|refine below_set ?_ GE294.out)|exact HB.out))) : w.heap.size ≤ gb304)); have n7_:=Aside0.mk ((by rw [hg]; exact (below_size (by repeat (first|(with_reducible first|exact HB.out|apply below_alloc|apply pw_below_drewN|apply below_drew1|refine below_set ?_ (IsS112.ge HI295.out)|refine below_set ?_ GE294.out)|exact HB.out))) : w.heap.size ≤ gb304)); have n8_:=Aside0.mk ((by rw [hg]; exact Nat.ne_of_lt (blk_lt (g:=gb294) (o:=.cells #[.slice none 0 0,.slice none 0 0] 26 (0,0)) (by (with_reducible repeat (first|refine blk_drewN ?_ _|refine blk_drew ?_|refine blk_alloc ?_ _)); exact BK294.out)) : gb294 ≠ gb304)); have n9_:=Aside0.mk ((by rw [hg]; exact Nat.ne_of_gt (blk_lt (g:=gb294) (o:=.cells #[.slice none 0 0,.slice none 0 0] 26 (0,0)) (by (with_reducible repeat (first|refine blk_drewN ?_ _|refine blk_drew ?_|refine blk_alloc ?_ _)); exact BK294.out)) : gb304 ≠ gb294)); have n10_:=Aside0.mk ((by rw [hg]; exact Nat.ne_of_lt (IsS112.lt (show IsS112 w _ gb295 l0 t302 t303 from by repeat (first|(with_reducible first|exact HI295.out|apply IsS112.alloc|apply IsS112.drewN|apply IsS112.drew|apply IsS112.set_1|apply IsS112.set_2|refine IsS112.far ?_ NB295_294.out _)|exact HI295.out))) : gb295 ≠ gb304)); have n11_:=Aside0.mk ((by rw [hg]; exact Nat.ne_of_gt (IsS112.lt (show IsS112 w _ gb295 l0 t302 t303 from by repeat (first|(with_reducible first|exact HI295.out|apply IsS112.alloc|apply IsS112.drewN|apply IsS112.drew|apply IsS112.set_1|apply IsS112.set_2|refine IsS112.far ?_ NB295_294.out _)|exact HI295.out))) : gb304 ≠ gb295)); clear HO298; clear HO301; clear BK294; clear HI295; clear HB; have HO298:=n0_; have HO301:=n1_; have BK294:=n2_; have HI295:=n3_; have HB:=n4_; have BK304:=n5_; have GW304:=n6_; have GE304:=n7_; have NB294_304:=n8_; have NB304_294:=n9_; have NB295_304:=n10_; have NB304_295:=n11_; clear n0_ n1_ n2_ n3_ n4_ n5_ n6_ n7_ n8_ n9_ n10_ n11_; clear hb hbox hg; obtain ⟨Ao9,co9,eo9⟩:=Kd.R_slice HO298.out; subst eo9; have hnb10:=NB304_294.out; have hnc10:=NB294_304.out; have hnb11:=NB304_295.out; have hnc11:=NB295_304.out; have hcz12_0 : w8.cell? ⟨gb304,0,none⟩ = some (.slice none 0 0):=(blk_cell BK304.out 0).trans rfl; have hcz12_1 : w8.cell? ⟨gb304,1,none⟩ = some (.slice none 0 0):=(blk_cell BK304.out 1).trans rfl; have hfz12_0:=blk_frozen BK304.out 0; have hfz12_1:=blk_frozen BK304.out 1; obtain ⟨Ao13,co13,eo13,_⟩:=Kd.Q_slice HO301.out; subst eo13))
 have n0_ : Aside0 (Kd.R (Kd.int .i64) 3 ((w8.setCell ⟨gb304,0,none⟩ (.slice Ao9 t296.length co9)).setCell ⟨gb304,1,none⟩ (.slice Ao13 t299.length co13)) w.heap.size (fun k_ => some k_ ≠ (.slice Ao13 t299.length co13 : Value).ownBlock) (.slice Ao9 t296.length co9) t296):=⟨by (with_reducible repeat (first|apply Kd.R_alloc|apply Kd.R_drewN|apply Kd.R_drew)); exact Kd.R_mono (Kd.R_far (p:=⟨gb304,1,none⟩) (Kd.R_far (p:=⟨gb304,0,none⟩) (Kd.R_types HO298.out BK304.out (by decide)) (fun _ hk => hk.2) (.slice Ao9 t296.length co9)) (fun _ hk => hk.2) (.slice Ao13 t299.length co13)) (fun _ hk => hk.1)⟩
 have n1_ : Aside0 (Kd.Q (Kd.int .i64) 3 ((w8.setCell ⟨gb304,0,none⟩ (.slice Ao9 t296.length co9)).setCell ⟨gb304,1,none⟩ (.slice Ao13 t299.length co13)) w.heap.size (fun k_ => some k_ ≠ (.slice Ao9 t296.length co9 : Value).ownBlock) (.slice Ao13 t299.length co13) t299):=⟨by (with_reducible repeat (first|apply Kd.Q_alloc|apply Kd.Q_drewN|apply Kd.Q_drew)); exact Kd.Q_mono (Kd.Q_far (p:=⟨gb304,1,none⟩) (Kd.Q_far (p:=⟨gb304,0,none⟩) (Kd.Q_types HO301.out BK304.out (by decide)) (fun _ hk => hk.2) (.slice Ao9 t296.length co9)) (fun _ hk => hk.2) (.slice Ao13 t299.length co13)) (fun _ hk => hk.1)⟩
 have n2_ : Aside0 (((w8.setCell ⟨gb304,0,none⟩ (.slice Ao9 t296.length co9)).setCell ⟨gb304,1,none⟩ (.slice Ao13 t299.length co13)).heap[gb294]? = some (.cells #[.slice none 0 0,.slice none 0 0] 26 (0,0))):=⟨by (with_reducible repeat (first|refine blk_drewN ?_ _|refine blk_drew ?_|refine blk_alloc ?_ _)); refine blk_far ?_ NB294_304.out _; (with_reducible repeat (first|refine blk_drewN ?_ _|refine blk_drew ?_|refine blk_alloc ?_ _)); refine blk_far ?_ NB294_304.out _; (with_reducible repeat (first|refine blk_drewN ?_ _|refine blk_drew ?_|refine blk_alloc ?_ _)); exact BK294.out⟩
 have n3_ : Aside0 (((w8.setCell ⟨gb304,0,none⟩ (.slice Ao9 t296.length co9)).setCell ⟨gb304,1,none⟩ (.slice Ao13 t299.length co13)).heap[gb304]? = some (.cells #[.slice Ao9 t296.length co9,.slice Ao13 t299.length co13] 26 (0,0))):=⟨by (with_reducible repeat (first|refine blk_drewN ?_ _|refine blk_drew ?_|refine blk_alloc ?_ _)); refine blk_put (cs:=#[.slice Ao9 t296.length co9,.slice none 0 0]) ?_ 1 _ rfl; (with_reducible repeat (first|refine blk_drewN ?_ _|refine blk_drew ?_|refine blk_alloc ?_ _)); refine blk_put (cs:=#[.slice none 0 0,.slice none 0 0]) ?_ 0 _ rfl; (with_reducible repeat (first|refine blk_drewN ?_ _|refine blk_drew ?_|refine blk_alloc ?_ _)); exact BK304.out⟩
 have n4_ : Aside0 (IsS112 w ((w8.setCell ⟨gb304,0,none⟩ (.slice Ao9 t296.length co9)).setCell ⟨gb304,1,none⟩ (.slice Ao13 t299.length co13)) gb295 l0 t302 t303):=⟨by repeat (first|(with_reducible first|exact HI295.out|apply IsS112.alloc|apply IsS112.drewN|apply IsS112.drew|apply IsS112.set_1|apply IsS112.set_2|refine IsS112.far ?_ NB295_294.out _|refine IsS112.far ?_ NB295_304.out _)|exact HI295.out)⟩
 have n5_ : Aside0 (Below w.heap.size w ((w8.setCell ⟨gb304,0,none⟩ (.slice Ao9 t296.length co9)).setCell ⟨gb304,1,none⟩ (.slice Ao13 t299.length co13))):=⟨by repeat (first|(with_reducible first|exact HB.out|apply below_alloc|apply pw_below_drewN|apply below_drew1|refine below_set ?_ (IsS112.ge HI295.out)|refine below_set ?_ GE294.out|refine below_set ?_ GE304.out)|exact HB.out)⟩
 (try clear HO298)
 (try clear HO301)
 (try clear BK294)
 (try clear BK304)
 (try clear HI295)
 (try clear HB)
 generalize ((w8.setCell ⟨gb304,0,none⟩ (.slice Ao9 t296.length co9)).setCell ⟨gb304,1,none⟩ (.slice Ao13 t299.length co13)) = w14 at n0_ n1_ n2_ n3_ n4_ n5_ ⊢
 have HO298:=n0_
 have HO301:=n1_
 have BK294:=n2_
 have BK304:=n3_
 have HI295:=n4_
 have HB:=n5_
 clear n0_ n1_ n2_ n3_ n4_ n5_
 have n0_:=Aside0.mk (Kd.R_drew HO298.out)
 have n1_:=Aside0.mk (Kd.Q_drew HO301.out)
 have n2_:=Aside0.mk (blk_drew BK294.out)
 have n3_:=Aside0.mk (blk_drew BK304.out)
 have n4_:=Aside0.mk (IsS112.drew HI295.out)
 have n5_:=Aside0.mk (below_drew1 HB.out)
 clear HO298
 clear HO301
 clear BK294
 clear BK304
 clear HI295
 clear HB
 have HO298:=n0_
 have HO301:=n1_
 have BK294:=n2_
 have BK304:=n3_
 have HI295:=n4_
 have HB:=n5_
 clear n0_ n1_ n2_ n3_ n4_ n5_
 refine start_ (n:=10) (S:=fun w' => w'.cell? ⟨gb304,0,none⟩ = some (.slice Ao9 t296.length co9) ∧ w'.cell? ⟨gb304,1,none⟩ = some (.slice Ao13 t299.length co13)) (ds:=[]) (b539 10 0) (by kernel_rfl) rfl rfl ⟨(blk_cell BK304.out 0).trans rfl,(blk_cell BK304.out 1).trans rfl⟩ (fun hHeld => ?_); refine with_tabW spec_DrawBestLoading.tab3 spec_DrawBestLoading.bits3 (fun HT_ HW_ => ?_)
 generalize w14.drew = w15 at HO298 HO301 BK294 BK304 HI295 HB hHeld ⊢
 refine pure_ (i:=1) (N:=some 13) (v:=?_) (a':=?_) (b539 10 2) rfl rfl (any_of HT_.out (by kernel_rfl)) (fun _ _ _ h => h) (Or.inl ⟨by rfl,?_⟩) ?_ ?_
 rotate_left
 ·intro w'
  go_simp
  with_reducible rfl
 rotate_left
 ·simp only [Act.put,List.setIfInBounds_toArray,List.set_cons_zero,List.set_cons_succ,i64_w,i32_w]
  rfl
 refine pure_ (i:=4) (N:=some 16) (v:=?_) (a':=?_) (b539 10 18) rfl rfl (any_of HT_.out (by kernel_rfl)) (fun _ _ _ h => h) (Or.inl ⟨by rfl,?_⟩) ?_ ?_
 rotate_left
 ·intro w'
  go_simp
  with_reducible rfl
 rotate_left
 ·simp only [Act.put,List.setIfInBounds_toArray,List.set_cons_zero,List.set_cons_succ,i64_w,i32_w]
  rfl
 refine take_ (i:=0) (N:=some 12) (v:=?_) (a':=?_) (b539 10 19) rfl rfl (take_ofW HT_.out HW_.out (by kernel_rfl)) (fun _ _ _ h => h) (Or.inl ⟨by rfl,?_⟩) hHeld ?_ ?_
 rotate_left
 ·rintro w' ⟨s0,s1⟩
  go_simp
  with_reducible rfl
 rotate_left
 ·simp only [Act.put,List.setIfInBounds_toArray,List.set_cons_zero,List.set_cons_succ,i64_w,i32_w]
  rfl
 refine one_ (i:=2) (N:=some 14) (b539 10 23) rfl rfl (one_of HT_.out (by kernel_rfl)) (by decide) (fun K hK => ?_)
 refine goes_ Try.func97 (by kernel_rfl) rfl #[.pointer (some ⟨gb295,0,none⟩),.int .i64 6] (by rfl) rfl rfl (by (try simp only [List.map_toArray,List.map_cons,List.map_nil]); first|done|rfl|(simp only [List.length_drop,List.length_take]; rfl)) ?_
 with_reducible refine (spec_l1Cur_pick.calls gb295 l0 t302 t303 6 t305 t306 t307 w _ ?side1 ?side2 A3.out).mono ?_
 (case side1 => repeat (first|(with_reducible first|exact HI295.out|apply IsS112.alloc|apply IsS112.drewN|apply IsS112.drew|apply IsS112.set_1|apply IsS112.set_2|refine IsS112.far ?_ NB295_294.out _|refine IsS112.far ?_ NB295_304.out _)|exact HI295.out))
 (case side2 => repeat (first|(with_reducible first|exact HB.out|apply below_alloc|apply pw_below_drewN|apply below_drew1|refine below_set ?_ (IsS112.ge HI295.out)|refine below_set ?_ GE294.out|refine below_set ?_ GE304.out)|exact HB.out))
 rintro e w16 ⟨rfl,hi,hb,hk⟩
 refine ⟨_,rfl,?_⟩
 have n0_:=Aside0.mk (KeepBut.blk hk (g':=gb294) (o:=.cells #[.slice none 0 0,.slice none 0 0] 26 (0,0)) (by (with_reducible repeat (first|refine blk_drewN ?_ _|refine blk_drew ?_|refine blk_alloc ?_ _)); exact BK294.out) NB294_295.out (by simp))
 have n1_:=Aside0.mk (Kd.R_mono (Kd.R_keep (IsS112.apart (show IsS112 w _ gb295 l0 t302 t303 from by repeat (first|(with_reducible first|exact HI295.out|apply IsS112.alloc|apply IsS112.drewN|apply IsS112.drew|apply IsS112.set_1|apply IsS112.set_2|refine IsS112.far ?_ NB295_294.out _|refine IsS112.far ?_ NB295_304.out _)|exact HI295.out)) (by (with_reducible repeat (first|apply Kd.R_alloc|apply Kd.R_drewN|apply Kd.R_drew)); exact HO298.out) (by decide)) hk (fun _ h => h.2)) (fun _ h => h.1))
 have n2_:=Aside0.mk (Kd.Q_mono (Kd.Q_keep (IsS112.apartQ (show IsS112 w _ gb295 l0 t302 t303 from by repeat (first|(with_reducible first|exact HI295.out|apply IsS112.alloc|apply IsS112.drewN|apply IsS112.drew|apply IsS112.set_1|apply IsS112.set_2|refine IsS112.far ?_ NB295_294.out _|refine IsS112.far ?_ NB295_304.out _)|exact HI295.out)) (by (with_reducible repeat (first|apply Kd.Q_alloc|apply Kd.Q_drewN|apply Kd.Q_drew)); exact HO301.out) (by decide)) hk (fun _ h => h.2)) (fun _ h => h.1))
 have n3_:=Aside0.mk (KeepBut.blk hk (g':=gb304) (o:=.cells #[.slice Ao9 t296.length co9,.slice Ao13 t299.length co13] 26 (0,0)) (by (with_reducible repeat (first|refine blk_drewN ?_ _|refine blk_drew ?_|refine blk_alloc ?_ _)); exact BK304.out) NB304_295.out (by simp))
 have n4_:=Aside0.mk (hb)
 have n5_:=Aside0.mk (hi)
 clear BK294
 clear HO298
 clear HO301
 clear BK304
 clear HB
 clear HI295
 have BK294:=n0_
 have HO298:=n1_
 have HO301:=n2_
 have BK304:=n3_
 have HB:=n4_
 have HI295:=n5_
 clear n0_ n1_ n2_ n3_ n4_ n5_
 (try clear hb)
 (try clear hb2)
 (try clear hk)
 (try clear hi)
 refine hK.out _ _ ⟨(blk_cell BK304.out 0).trans rfl,(blk_cell BK304.out 1).trans rfl⟩ (fun hHeld => ?_)
 clear hK K
 refine norm_ (a':=?_) ?_ ?_
 rotate_left
 ·show Act.put _ (some 14) _ = _
  simp only [Act.put,List.setIfInBounds_toArray,List.set_cons_zero,List.set_cons_succ,i64_w,i32_w]
  rfl
 refine pure_ (i:=3) (N:=some 15) (v:=?_) (a':=?_) (b539 10 31) rfl rfl (any_of HT_.out (by kernel_rfl)) (fun _ _ _ h => h) (Or.inl ⟨by rfl,?_⟩) ?_ ?_
 rotate_left
 ·intro w'
  go_simp
  with_reducible rfl
 rotate_left
 ·simp only [Act.put,List.setIfInBounds_toArray,List.set_cons_zero,List.set_cons_succ,i64_w,i32_w]
  rfl
 refine one_ (i:=5) (N:=some 17) (b539 10 63) rfl rfl (one_of HT_.out (by kernel_rfl)) (by decide) (fun K hK => ?_)
 refine goes_ Try.func97 (by kernel_rfl) rfl #[.pointer (some ⟨gb295,0,none⟩),.int .i64 6] (by rfl) rfl rfl (by (try simp only [List.map_toArray,List.map_cons,List.map_nil]); first|done|rfl|(simp only [List.length_drop,List.length_take]; rfl)) ?_
 with_reducible refine (spec_l1Cur_pick.calls gb295 l0 t306 t307 6 t308 t309 t310 w _ ?side1 ?side2 A4.out).mono ?_
 (case side1 => repeat (first|(with_reducible first|exact HI295.out|apply IsS112.alloc|apply IsS112.drewN|apply IsS112.drew|apply IsS112.set_1|apply IsS112.set_2|refine IsS112.far ?_ NB295_294.out _|refine IsS112.far ?_ NB295_304.out _)|exact HI295.out))
 (case side2 => repeat (first|(with_reducible first|exact HB.out|apply below_alloc|apply pw_below_drewN|apply below_drew1|refine below_set ?_ (IsS112.ge HI295.out)|refine below_set ?_ GE294.out|refine below_set ?_ GE304.out)|exact HB.out))
 rintro e w17 ⟨rfl,hi,hb,hk⟩
 refine ⟨_,rfl,?_⟩
 have n0_:=Aside0.mk (KeepBut.blk hk (g':=gb294) (o:=.cells #[.slice none 0 0,.slice none 0 0] 26 (0,0)) (by (with_reducible repeat (first|refine blk_drewN ?_ _|refine blk_drew ?_|refine blk_alloc ?_ _)); exact BK294.out) NB294_295.out (by simp))
 have n1_:=Aside0.mk (Kd.R_mono (Kd.R_keep (IsS112.apart (show IsS112 w _ gb295 l0 t306 t307 from by repeat (first|(with_reducible first|exact HI295.out|apply IsS112.alloc|apply IsS112.drewN|apply IsS112.drew|apply IsS112.set_1|apply IsS112.set_2|refine IsS112.far ?_ NB295_294.out _|refine IsS112.far ?_ NB295_304.out _)|exact HI295.out)) (by (with_reducible repeat (first|apply Kd.R_alloc|apply Kd.R_drewN|apply Kd.R_drew)); exact HO298.out) (by decide)) hk (fun _ h => h.2)) (fun _ h => h.1))
 have n2_:=Aside0.mk (Kd.Q_mono (Kd.Q_keep (IsS112.apartQ (show IsS112 w _ gb295 l0 t306 t307 from by repeat (first|(with_reducible first|exact HI295.out|apply IsS112.alloc|apply IsS112.drewN|apply IsS112.drew|apply IsS112.set_1|apply IsS112.set_2|refine IsS112.far ?_ NB295_294.out _|refine IsS112.far ?_ NB295_304.out _)|exact HI295.out)) (by (with_reducible repeat (first|apply Kd.Q_alloc|apply Kd.Q_drewN|apply Kd.Q_drew)); exact HO301.out) (by decide)) hk (fun _ h => h.2)) (fun _ h => h.1))
 have n3_:=Aside0.mk (KeepBut.blk hk (g':=gb304) (o:=.cells #[.slice Ao9 t296.length co9,.slice Ao13 t299.length co13] 26 (0,0)) (by (with_reducible repeat (first|refine blk_drewN ?_ _|refine blk_drew ?_|refine blk_alloc ?_ _)); exact BK304.out) NB304_295.out (by simp))
 have n4_:=Aside0.mk (hb)
 have n5_:=Aside0.mk (hi)
 clear BK294
 clear HO298
 clear HO301
 clear BK304
 clear HB
 clear HI295
 have BK294:=n0_
 have HO298:=n1_
 have HO301:=n2_
 have BK304:=n3_
 have HB:=n4_
 have HI295:=n5_
 clear n0_ n1_ n2_ n3_ n4_ n5_
 (try clear hb)
 (try clear hb2)
 (try clear hk)
 (try clear hi)
 refine hK.out _ _ ⟨(blk_cell BK304.out 0).trans rfl,(blk_cell BK304.out 1).trans rfl⟩ (fun hHeld => ?_)
 clear hK K
 refine norm_ (a':=?_) ?_ ?_
 rotate_left
 ·show Act.put _ (some 17) _ = _
  simp only [Act.put,List.setIfInBounds_toArray,List.set_cons_zero,List.set_cons_succ,i64_w,i32_w]
  rfl
 refine pure_ (i:=6) (N:=some 18) (v:=?_) (a':=?_) (b539 10 127) rfl rfl (any_of HT_.out (by kernel_rfl)) (fun _ _ _ h => h) (Or.inl ⟨by rfl,?_⟩) ?_ ?_
 rotate_left
 ·intro w'
  go_simp
  with_reducible rfl
 rotate_left
 ·simp only [Act.put,List.setIfInBounds_toArray,List.set_cons_zero,List.set_cons_succ,i64_w,i32_w]
  rfl
 refine one_ (i:=7) (N:=none) (b539 10 255) rfl rfl (one_of HT_.out (by kernel_rfl)) (by decide) (fun K hK => ?_)
 have hs18 : w17.cell? ⟨gb294,0,none⟩ = some (.slice none 0 0):=(blk_cell BK294.out 0).trans rfl
 have hfs18:=blk_frozen BK294.out 0
 have hns18_1:=NB304_294.out
 have hms18_1:=NB294_304.out
 have hs19 : w17.cell? ⟨gb294,1,none⟩ = some (.slice none 0 0):=(blk_cell BK294.out 1).trans rfl
 have hfs19:=blk_frozen BK294.out 1
 have hns19_1:=NB304_294.out
 have hms19_1:=NB294_304.out
 refine skip_ (w1:=?_) (by rfl) rfl ?_ ?_
 rotate_left
 ·go_simp
  rfl
 refine hK.out _ _ ⟨((cell_far (p:=⟨gb294,_,none⟩) NB304_294.out _).trans (((cell_far (p:=⟨gb294,_,none⟩) NB304_294.out _).trans (hHeld.1)))),((cell_far (p:=⟨gb294,_,none⟩) NB304_294.out _).trans (((cell_far (p:=⟨gb294,_,none⟩) NB304_294.out _).trans (hHeld.2))))⟩ (fun hHeld => ?_)
 clear hK K
 refine pure_ (i:=8) (N:=some 3) (v:=?_) (a':=?_) (b539 10 511) rfl rfl (any_of HT_.out (by kernel_rfl)) (fun _ _ _ h => h) (Or.inl ⟨by rfl,?_⟩) ?_ ?_
 rotate_left
 ·intro w'
  go_simp
  with_reducible rfl
 rotate_left
 ·simp only [Act.put,List.setIfInBounds_toArray,List.set_cons_zero,List.set_cons_succ,i64_w,i32_w]
  rfl
 refine pure_ (i:=9) (N:=some 4) (v:=?_) (a':=?_) (b539 10 1023) rfl rfl (any_of HT_.out (by kernel_rfl)) (fun _ _ _ h => h) (Or.inl ⟨by rfl,?_⟩) ?_ ?_
 rotate_left
 ·intro w'
  go_simp
  with_reducible rfl
 rotate_left
 ·simp only [Act.put,List.setIfInBounds_toArray,List.set_cons_zero,List.set_cons_succ,i64_w,i32_w]
  rfl
 refine done_ (done_of HT_.out (by kernel_rfl)) ?_
 try go_wp2
 refine bodyPost_ret (results_ctt rfl _ _ gb294 26 #[.slice Ao9 t296.length co9,.slice Ao13 t299.length co13] (0,0) _ rfl (by (with_reducible repeat (first|refine blk_drewN ?_ _|refine blk_drew ?_|refine blk_alloc ?_ _)); refine blk_put (cs:=#[.slice Ao9 t296.length co9,.slice none 0 0]) ?_ 1 _ rfl; (with_reducible repeat (first|refine blk_drewN ?_ _|refine blk_drew ?_|refine blk_alloc ?_ _)); refine blk_put (cs:=#[.slice none 0 0,.slice none 0 0]) ?_ 0 _ rfl; (with_reducible repeat (first|refine blk_drewN ?_ _|refine blk_drew ?_|refine blk_alloc ?_ _)); exact BK294.out) Try.underlying26 rfl (by kernel_rfl)) rfl ?_
 exact ⟨_,_,by first|rfl|(simp [errW_none,errW_some] <;> rfl)|(simp [*,errW_none,errW_some] <;> rfl),by (with_reducible repeat (first|apply Kd.R_alloc|apply Kd.R_drewN|apply Kd.R_drew)); exact Kd.R_mono (Kd.R_far (p:=⟨gb294,1,none⟩) (Kd.R_far (p:=⟨gb294,0,none⟩) (Kd.R_types HO298.out BK294.out (by decide)) (fun _ hk => hk.2) (.slice Ao9 t296.length co9)) (fun _ hk => hk.2) (.slice Ao13 t299.length co13)) (fun _ hk => hk.1),by (with_reducible repeat (first|apply Kd.Q_alloc|apply Kd.Q_drewN|apply Kd.Q_drew)); exact Kd.Q_mono (Kd.Q_far (p:=⟨gb294,1,none⟩) (Kd.Q_far (p:=⟨gb294,0,none⟩) (Kd.Q_types HO301.out BK294.out (by decide)) (fun _ hk => hk.2) (.slice Ao9 t296.length co9)) (fun _ hk => hk.2) (.slice Ao13 t299.length co13)) (fun _ hk => hk.1),by repeat (first|(with_reducible first|exact HB.out|apply below_alloc|apply pw_below_drewN|apply below_drew1|refine below_set ?_ (IsS112.ge HI295.out)|refine below_set ?_ GE294.out|refine below_set ?_ GE304.out)|exact HB.out)⟩

end Go.Proofs.Ytlldonokjgoajaa.X
