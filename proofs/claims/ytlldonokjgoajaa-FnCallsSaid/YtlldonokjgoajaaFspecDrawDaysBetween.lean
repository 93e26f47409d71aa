-- Written by a program of ours (wip/bin/xprint.py,over the kit's print.py) out of the translation. Not trusted: Lean checks it.
import Derived.Test.YtlldonokjgoajaaX0
import Derived.Test.YtlldonokjgoajaaFbCur
import Derived.Test.YtlldonokjgoajaaFspecl1CuranyRotation
import Derived.Test.YtlldonokjgoajaaFspecl1Curcall
namespace Go.Proofs.Ytlldonokjgoajaa.X
open Go.RowKit Go.Proofs.YtlldonokjgoajaaW.PrintWords Go.Proofs.YtlldonokjgoajaaW.PrintLast Go.Proofs.YtlldonokjgoajaaW.PrintMore
attribute [local go_sem] max2_int min2_int max_two min_two max_three min_three max_four min_four   -- for this text's walks alone
set_option linter.unusedVariables false
set_option linter.unusedSimpArgs false

/-! ### spec_DrawDaysBetween: function 14 -/
def spec_DrawDaysBetween.f (k : Nat) (l0 : List Int) : Option (List Int × List Int × Int × Int):=(spec_l1Cur_anyRotation.f k l0 0 0).bind fun bt259 => ((spec_l1Cur_call.f l0 bt259.2.2.1 bt259.2.2.2 bt259.1 bt259.2.1).bind fun bt268 => ((spec_l1Cur_call.f l0 bt268.2.1 bt268.2.2 bt259.1 bt259.2.1).bind fun bt271 => (some (bt259.1,bt259.2.1,bt268.1,bt271.1))))
theorem spec_DrawDaysBetween.mono : ∀ a0 k,LeO (spec_DrawDaysBetween.f k a0) (spec_DrawDaysBetween.f (k + 1) a0):=by
 intro a0 k
 unfold spec_DrawDaysBetween.f
 repeat' first
   | (with_reducible exact spec_l1Cur_anyRotation.mono _ _ _ _)
   | (with_reducible exact LeO.refl _)
   | (with_reducible exact LeO.none _)
   | (with_reducible refine LeO.ite ?_ ?_)
   | (with_reducible refine LeO.bind ?_ (fun _ => ?_))
   | exact spec_l1Cur_anyRotation.mono _ _ _ _
   | exact LeO.none _
   | refine LeO.ite ?_ ?_
   | refine LeO.bind ?_ (fun _ => ?_)
def spec_DrawDaysBetween.T4 : Bool × List (List Nat × List Nat):=(true,[([],[]),([],[]),([],[]),([],[]),([2,3],[2,3]),([0,4,0],[0]),([1,5,0,1,5],[1]),([4,6,0,1,2,3,4,5,6],[4])])
def spec_DrawDaysBetween.B4 : List Nat:=[0,0,0,0,12,29,63,127]
theorem spec_DrawDaysBetween.tab4 : rtab .any (opsOf Try.f14 4) = spec_DrawDaysBetween.T4:=by kernel_rfl
theorem spec_DrawDaysBetween.bits4 : waitsOk spec_DrawDaysBetween.T4.2 spec_DrawDaysBetween.B4 = true:=by kernel_rfl
set_option maxHeartbeats 8000000 in
set_option maxRecDepth 100000 in
theorem spec_DrawDaysBetween.calls (k : Nat) (A0 : Option Addr) (c0 : Nat) (l0 : List Int) (r1 : List Int) (r2 : List Int) (r3 : Int) (r4 : Int) (w : World) (hr0 : Kd.C (Kd.int .u8) w A0 l0.length l0) (hc0 : l0.length ≤ c0) (h : spec_DrawDaysBetween.f k l0 = some (r1,r2,r3,r4)) :
  Calls Try.prog 14 #[.slice A0 l0.length c0] w fun e w' => ∃ v0_ v1_ : Value,e = .returned (.tuple #[.agg #[v0_,v1_],.int .i64 r3,.int .i64 r4]) ∧ Kd.R (Kd.int .i64) 3 w' w.heap.size (fun k_ => some k_ ≠ (v1_ : Value).ownBlock) v0_ r1 ∧ Kd.Q (Kd.int .i64) 3 w' w.heap.size (fun k_ => some k_ ≠ (v0_ : Value).ownBlock) v1_ r2 ∧ Below w.heap.size w w':=by
 have hu26:=Try.underlying26
 have hu112:=Try.underlying112
 have HR0:=Aside0.mk hr0
 have HC0:=Aside0.mk hc0
 clear hr0 hc0
 have HB:=Aside0.mk (Below.refl w.heap.size w)
 have H : ((spec_l1Cur_anyRotation.f k l0 0 0).bind fun bt259 => ((spec_l1Cur_call.f l0 bt259.2.2.1 bt259.2.2.2 bt259.1 bt259.2.1).bind fun bt268 => ((spec_l1Cur_call.f l0 bt268.2.1 bt268.2.2 bt259.1 bt259.2.1).bind fun bt271 => (some (bt259.1,bt259.2.1,bt268.1,bt271.1))))) = some (r1,r2,r3,r4):=h
 clear h
 replace H:=Option.bind_eq_some_iff.mp H
 obtain ⟨⟨t259,t262,t265,t266⟩,A20,H⟩:=H
 replace H : ((spec_l1Cur_call.f l0 t265 t266 t259 t262).bind fun bt268 => ((spec_l1Cur_call.f l0 bt268.2.1 bt268.2.2 t259 t262).bind fun bt271 => (some (t259,t262,bt268.1,bt271.1)))) = some (r1,r2,r3,r4):=H
 have A2:=Aside0.mk A20
 clear A20
 replace H:=Option.bind_eq_some_iff.mp H
 obtain ⟨⟨t268,t269,t270⟩,A30,H⟩:=H
 replace H : ((spec_l1Cur_call.f l0 t269 t270 t259 t262).bind fun bt271 => (some (t259,t262,t268,bt271.1))) = some (r1,r2,r3,r4):=H
 have A3:=Aside0.mk A30
 clear A30
 replace H:=Option.bind_eq_some_iff.mp H
 obtain ⟨⟨t271,t272,t273⟩,A40,H⟩:=H
 replace H : (some (t259,t262,t268,t271)) = some (r1,r2,r3,r4):=H
 have A4:=Aside0.mk A40
 clear A40
 simp only [Option.some.injEq,Prod.mk.injEq] at H
 obtain ⟨rfl,rfl,rfl,rfl⟩:=H
 go_enter Try.func14,Try.ntmps14
 try go_wp2_with (first|((with_reducible refine gate_dst (N:=2) rfl ?_); refine box_event ?hg (N:=2) ?hd (cs:=#[.slice none 0 0,.slice none 0 0]) (t:=26) ?hr ?_; (case hd => rfl); (case hg => rfl); (case hr => first|(go_simp; done)|(go_simp; rfl)); intro gb257 hg w5 hbox hb; have n0_:=Aside0.mk (below_step (by repeat (first|(with_reducible first|exact HB.out|apply below_alloc|apply pw_below_drewN|apply below_drew1)|exact HB.out)) hb); have n1_:=Aside0.mk (hbox); have n2_:=Aside0.mk ((by rw [hg]; exact (below_size (by repeat (first|(with_reducible first|exact HB.out|apply below_alloc|apply pw_below_drewN|apply below_drew1)|exact HB.out))) : w.heap.size ≤ gb257)); have n3_:=Aside0.mk ((by rw [hg]; exact (below_size (by repeat (first|(with_reducible first|exact HB.out|apply below_alloc|apply pw_below_drewN|apply below_drew1)|exact HB.out))) : w.heap.size ≤ gb257)); clear HB; have HB:=n0_; have BK257:=n1_; have GW257:=n2_; have GE257:=n3_; clear n0_ n1_ n2_ n3_; clear hb hbox hg)|((with_reducible refine gate_dst (N:=10) rfl ?_); refine box_event ?hg (N:=10) ?hd (cs:=#[.slice A0 l0.length c0,.int .i64 0,.int .u64 0]) (t:=112) ?hr ?_; (case hd => rfl); (case hg => rfl); (case hr => first|(go_simp; done)|(go_simp; rfl)); intro gb258 hg w6 hbox hb; have n0_:=Aside0.mk (blk_below (g:=gb257) (o:=.cells #[.slice none 0 0,.slice none 0 0] 26 (0,0)) (by (with_reducible repeat (first|refine blk_drewN ?_ _|refine blk_drew ?_|refine blk_alloc ?_ _)); exact BK257.out) hb); have n1_:=Aside0.mk (below_step (by repeat (first|(with_reducible first|exact HB.out|apply below_alloc|apply pw_below_drewN|apply below_drew1|refine below_set ?_ GE257.out)|exact HB.out)) hb); have n2_:=Aside0.mk ((show IsS112 w w6 gb258 l0 0 0 from ⟨_,_,hbox,(by rw [hg]; exact (below_size (by repeat (first|(with_reducible first|exact HB.out|apply below_alloc|apply pw_below_drewN|apply below_drew1|refine below_set ?_ GE257.out)|exact HB.out)))),HR0.out⟩)); have n3_:=Aside0.mk ((by rw [hg]; exact Nat.ne_of_lt (blk_lt (g:=gb257) (o:=.cells #[.slice none 0 0,.slice none 0 0] 26 (0,0)) (by (with_reducible repeat (first|refine blk_drewN ?_ _|refine blk_drew ?_|refine blk_alloc ?_ _)); exact BK257.out)) : gb257 ≠ gb258)); have n4_:=Aside0.mk ((by rw [hg]; exact Nat.ne_of_gt (blk_lt (g:=gb257) (o:=.cells #[.slice none 0 0,.slice none 0 0] 26 (0,0)) (by (with_reducible repeat (first|refine blk_drewN ?_ _|refine blk_drew ?_|refine blk_alloc ?_ _)); exact BK257.out)) : gb258 ≠ gb257)); clear BK257; clear HB; have BK257:=n0_; have HB:=n1_; have HI258:=n2_; have NB257_258:=n3_; have NB258_257:=n4_; clear n0_ n1_ n2_ n3_ n4_; clear hb hbox hg)|((with_reducible refine gate_callee (f:=90) rfl ?_); refine goesL_ (some 12) rfl rfl Try.func90 (by kernel_rfl) rfl #[.pointer (some ⟨gb258,0,none⟩)] rfl (by (try simp only [List.map_toArray,List.map_cons,List.map_nil]); first|done|rfl|(simp only [List.length_drop,List.length_take]; rfl)) ?_; (with_reducible refine (spec_l1Cur_anyRotation.calls k gb258 l0 0 0 t259 t262 t265 t266 w _ ?side1 ?side2 A2.out).mono ?_); (case side1 => repeat (first|(with_reducible first|exact HI258.out|apply IsS112.alloc|apply IsS112.drewN|apply IsS112.drew|apply IsS112.set_1|apply IsS112.set_2|refine IsS112.far ?_ NB258_257.out _)|exact HI258.out)); (case side2 => repeat (first|(with_reducible first|exact HB.out|apply below_alloc|apply pw_below_drewN|apply below_drew1|refine below_set ?_ (IsS112.ge HI258.out)|refine below_set ?_ GE257.out)|exact HB.out)); rintro e w7 ⟨v260,v263,rfl,ho0,ho1,hi,hb,hk⟩; refine ⟨_,rfl,?_⟩; have n0_:=Aside0.mk (KeepBut.blk hk (g':=gb257) (o:=.cells #[.slice none 0 0,.slice none 0 0] 26 (0,0)) (by (with_reducible repeat (first|refine blk_drewN ?_ _|refine blk_drew ?_|refine blk_alloc ?_ _)); exact BK257.out) NB257_258.out (by simp)); have n1_:=Aside0.mk (Kd.R_lower ho0 (below_size (by repeat (first|(with_reducible first|exact HB.out|apply below_alloc|apply pw_below_drewN|apply below_drew1|refine below_set ?_ (IsS112.ge HI258.out)|refine below_set ?_ GE257.out)|exact HB.out)))); have n2_:=Aside0.mk (Kd.Q_lower ho1 (below_size (by repeat (first|(with_reducible first|exact HB.out|apply below_alloc|apply pw_below_drewN|apply below_drew1|refine below_set ?_ (IsS112.ge HI258.out)|refine below_set ?_ GE257.out)|exact HB.out)))); have n3_:=Aside0.mk (hb); have n4_:=Aside0.mk (hi); clear BK257; clear HB; clear HI258; have BK257:=n0_; have HO261:=n1_; have HO264:=n2_; have HB:=n3_; have HI258:=n4_; clear n0_ n1_ n2_ n3_ n4_; (try clear hb); (try clear hb2); (try clear hk); (try clear hi); (try clear ho0); (try clear ho1))|((with_reducible refine gate_dst (N:=6) rfl ?_); refine box_event ?hg (N:=6) ?hd (cs:=#[.slice none 0 0,.slice none 0 0]) (t:=26) ?hr ?_; (case hd => rfl); (case hg => rfl); (case hr => first|(go_simp; done)|(go_simp; rfl)); intro gb267 hg w8 hbox hb; have n0_:=Aside0.mk (Kd.R_below (by (with_reducible repeat (first|apply Kd.R_alloc|apply Kd.R_drewN|apply Kd.R_drew)); exact HO261.out) hb); have n1_:=Aside0.mk (Kd.Q_below (by (with_reducible repeat (first|apply Kd.Q_alloc|apply Kd.Q_drewN|apply Kd.Q_drew)); exact HO264.out) hb); have n2_:=Aside0.mk (blk_below (g:=gb257) (o:=.cells #[.slice none 0 0,.slice none 0 0] 26 (0,0)) (by (with_reducible repeat (first|refine blk_drewN ?_ _|refine blk_drew ?_|refine blk_alloc ?_ _)); exact BK257.out) hb); have n3_:=Aside0.mk (IsS112.below (by repeat (first|(with_reducible first|exact HI258.out|apply IsS112.alloc|apply IsS112.drewN|apply IsS112.drew|apply IsS112.set_1|apply IsS112.set_2|refine IsS112.far ?_ NB258_257.out _)|exact HI258.out)) hb); have n4_:=Aside0.mk (below_step (by repeat (first|(with_reducible first|exact HB.out|apply below_alloc|apply pw_below_drewN|apply below_drew1|refine below_set ?_ (IsS112.ge HI258.out)|refine below_set ?_ GE257.out)|exact HB.out)) hb); have n5_:=Aside0.mk (hbox); have n6_:=Aside0.mk ((by rw [hg]; exact (below_size (by repeat (first|(with_reducible first|exact HB.out|apply below_alloc|apply pw_below_drewN|apply below_drew1|refine below_set ?_ (IsS112.ge HI258.out)|refine below_set ?_ GE257.out)|exact HB.out))) : w.heap.size ≤ gb267)); have n7_:=Aside0.mk ((by rw [hg]; exact (below_size (by repeat (first|(with_reducible first|exact HB.out|apply below_alloc|apply pw_below_drewN|apply below_drew1|refine below_set ?_ (IsS112.ge HI258.out)|refine below_set ?_ GE257.out)|exact HB.out))) : w.heap.size ≤ gb267)); have n8_:=Aside0.mk ((by rw [hg]; exact Nat.ne_of_lt (blk_lt (g:=gb257) (o:=.cells #[.slice none 0 0,.slice none 0 0] 26 (0,0)) (by (with_reducible repeat (first|refine blk_drewN ?_ _|refine blk_drew ?_|refine blk_alloc ?_ _)); exact BK257.out)) : gb257 ≠ gb267)); have n9_:=Aside0.mk ((by rw [hg]; exact Nat.ne_of_gt (blk_lt (g:=gb257) (o:=.cells #[.slice none 0 0,.slice none 0 0] 26 (0,0)) (by (with_reducible repeat (first|refine blk_drewN ?_ _|refine blk_drew ?_|refine blk_alloc ?_ _)); exact BK257.out)) : gb267 ≠ gb257)); have n10_:=Aside0.mk ((by rw [hg]; exact Nat.ne_of_lt (IsS112.lt (show IsS112 w _ gb258 l0 t265 t266 from by repeat (first|(with_reducible first|exact HI258.out|apply IsS112.alloc|apply IsS112.drewN|apply IsS112.drew|apply IsS112.set_1|apply IsS112.set_2|refine IsS112.far ?_ NB258_257.out _)|exact HI258.out))) : gb258 ≠ gb267)); have n11_:=Aside0.mk ((by rw [hg]; exact Nat.ne_of_gt (IsS112.lt (show IsS112 w _ gb258 l0 t265 t266 from by repeat (first|(with_reducible first|exact HI258.out|apply IsS112.alloc|apply IsS112.drewN|apply IsS112.drew|apply IsS112.set_1|apply IsS112.set_2|refine IsS112.far ?_ NB258_257.out _)|exact HI258.out))) : gb267 ≠ gb258)); clear HO261; clear HO264; clear BK257; clear HI258; clear HB; have HO261:=n0_; have HO264:=n1_; have BK257:=n2_; have HI258:=n3_; have HB:=n4_; have BK267:=n5_; have GW267:=n6_; have GE267:=n7_; have NB257_267:=n8_; have NB267_257:=n9_; have NB258_267:=n10_; have NB267_258:=n11_; clear n0_ n1_ n2_ n3_ n4_ n5_ n6_ n7_ n8_ n9_ n10_ n11_; clear hb hbox hg; obtain ⟨Ao9,co9,eo9⟩:=Kd.R_slice HO261.out; subst eo9; have hnb10:=NB267_257.out; have hnc10:=NB257_267.out; have hnb11:=NB267_258.out; have hnc11:=NB258_267.out; have hcz12_0 : w8.cell? ⟨gb267,0,none⟩ = some (.slice none 0 0):=(blk_cell BK267.out 0).trans rfl; have hcz12_1 : w8.cell? ⟨gb267,1,none⟩ = some (.slice none 0 0):=(blk_cell BK267.out 1).trans rfl; have hfz12_0:=blk_frozen BK267.out 0; have hfz12_1:=blk_frozen BK267.out 1; obtain ⟨Ao13,co13,eo13,_⟩:=Kd.Q_slice HO264.out; subst eo13)|((with_reducible refine gate_callee (f:=91) rfl ?_); refine goesL_ (some 15) rfl rfl Try.func91 (by kernel_rfl) rfl #[.pointer (some ⟨gb258,0,none⟩),.agg #[.slice Ao9 t259.length co9,.slice Ao13 t262.length co13]] rfl (by (try simp only [List.map_toArray,List.map_cons,List.map_nil]); first|done|rfl|(simp only [List.length_drop,List.length_take]; rfl)) ?_; (with_reducible refine (spec_l1Cur_call.calls gb258 l0 t265 t266 _ _ t259 _ _ t262 t268 t269 t270 w _ ?side1 ?side2 ?side3 ?side4 ?side5 ?side6 ?side7 ?side8 A3.out).mono ?_); (case side1 => repeat (first|(with_reducible first|exact HI258.out|apply IsS112.alloc|apply IsS112.drewN|apply IsS112.drew|apply IsS112.set_1|apply IsS112.set_2|refine IsS112.far ?_ NB258_257.out _|refine IsS112.far ?_ NB258_267.out _)|exact HI258.out)); (case side2 => repeat (first|(with_reducible first|exact HB.out|apply below_alloc|apply pw_below_drewN|apply below_drew1|refine below_set ?_ (IsS112.ge HI258.out)|refine below_set ?_ GE257.out|refine below_set ?_ GE267.out)|exact HB.out)); (case side3 => refine (Kd.R_reads' (e:=3) (base:=w.heap.size) (ok:=fun k_ => some k_ ≠ (.slice Ao13 t262.length co13 : Value).ownBlock) (n:=t259.length) (c:=co9) ?_).2.2; exact (by (with_reducible repeat (first|apply Kd.R_alloc|apply Kd.R_drewN|apply Kd.R_drew)); exact (Kd.R_mono (Kd.R_far (p:=⟨gb267,1,none⟩) (Kd.R_far (p:=⟨gb267,0,none⟩) (Kd.R_types HO261.out BK267.out (by decide)) (fun _ hk => hk.2) (.slice Ao9 t259.length co9)) (fun _ hk => hk.2) (.slice Ao13 t262.length co13)) (fun _ h_ => h_.1)))); (case side4 => exact (Kd.R_reads' HO261.out).2.1); (case side5 => exact far_slice (IsS112.own_ne HI258.out HO261.out (by decide))); (case side6 => refine (Kd.Q_reads' (e:=3) (base:=w.heap.size) (ok:=fun k_ => some k_ ≠ (.slice Ao9 t259.length co9 : Value).ownBlock) (n:=t262.length) (c:=co13) ?_).2.2; exact (by (with_reducible repeat (first|apply Kd.Q_alloc|apply Kd.Q_drewN|apply Kd.Q_drew)); exact (Kd.Q_mono (Kd.Q_far (p:=⟨gb267,1,none⟩) (Kd.Q_far (p:=⟨gb267,0,none⟩) (Kd.Q_types HO264.out BK267.out (by decide)) (fun _ hk => hk.2) (.slice Ao9 t259.length co9)) (fun _ hk => hk.2) (.slice Ao13 t262.length co13)) (fun _ h_ => h_.1)))); (case side7 => exact (Kd.Q_reads' HO264.out).2.1); (case side8 => exact far_slice (IsS112.own_neQ HI258.out HO264.out (by decide))); rintro e w14 ⟨rfl,hi,hb,hk⟩; refine ⟨_,rfl,?_⟩; have n0_:=Aside0.mk (KeepBut.blk hk (g':=gb257) (o:=.cells #[.slice none 0 0,.slice none 0 0] 26 (0,0)) (by (with_reducible repeat (first|refine blk_drewN ?_ _|refine blk_drew ?_|refine blk_alloc ?_ _)); refine blk_far ?_ NB257_267.out _; (with_reducible repeat (first|refine blk_drewN ?_ _|refine blk_drew ?_|refine blk_alloc ?_ _)); refine blk_far ?_ NB257_267.out _; (with_reducible repeat (first|refine blk_drewN ?_ _|refine blk_drew ?_|refine blk_alloc ?_ _)); exact BK257.out) NB257_258.out (by simp)); have n1_:=Aside0.mk (Kd.R_mono (Kd.R_keep (IsS112.apart (show IsS112 w _ gb258 l0 t265 t266 from by repeat (first|(with_reducible first|exact HI258.out|apply IsS112.alloc|apply IsS112.drewN|apply IsS112.drew|apply IsS112.set_1|apply IsS112.set_2|refine IsS112.far ?_ NB258_257.out _|refine IsS112.far ?_ NB258_267.out _)|exact HI258.out)) (by (with_reducible repeat (first|apply Kd.R_alloc|apply Kd.R_drewN|apply Kd.R_drew)); exact (Kd.R_mono (Kd.R_far (p:=⟨gb267,1,none⟩) (Kd.R_far (p:=⟨gb267,0,none⟩) (Kd.R_types HO261.out BK267.out (by decide)) (fun _ hk => hk.2) (.slice Ao9 t259.length co9)) (fun _ hk => hk.2) (.slice Ao13 t262.length co13)) (fun _ h_ => h_.1))) (by decide)) hk (fun _ h => h.2)) (fun _ h => h.1)); have n2_:=Aside0.mk (Kd.Q_mono (Kd.Q_keep (IsS112.apartQ (show IsS112 w _ gb258 l0 t265 t266 from by repeat (first|(with_reducible first|exact HI258.out|apply IsS112.alloc|apply IsS112.drewN|apply IsS112.drew|apply IsS112.set_1|apply IsS112.set_2|refine IsS112.far ?_ NB258_257.out _|refine IsS112.far ?_ NB258_267.out _)|exact HI258.out)) (by (with_reducible repeat (first|apply Kd.Q_alloc|apply Kd.Q_drewN|apply Kd.Q_drew)); exact (Kd.Q_mono (Kd.Q_far (p:=⟨gb267,1,none⟩) (Kd.Q_far (p:=⟨gb267,0,none⟩) (Kd.Q_types HO264.out BK267.out (by decide)) (fun _ hk => hk.2) (.slice Ao9 t259.length co9)) (fun _ hk => hk.2) (.slice Ao13 t262.length co13)) (fun _ h_ => h_.1))) (by decide)) hk (fun _ h => h.2)) (fun _ h => h.1)); have n3_:=Aside0.mk (KeepBut.blk hk (g':=gb267) (o:=.cells #[.slice Ao9 t259.length co9,.slice Ao13 t262.length co13] 26 (0,0)) (by (with_reducible repeat (first|refine blk_drewN ?_ _|refine blk_drew ?_|refine blk_alloc ?_ _)); refine blk_put (cs:=#[.slice Ao9 t259.length co9,.slice none 0 0]) ?_ 1 _ rfl; (with_reducible repeat (first|refine blk_drewN ?_ _|refine blk_drew ?_|refine blk_alloc ?_ _)); refine blk_put (cs:=#[.slice none 0 0,.slice none 0 0]) ?_ 0 _ rfl; (with_reducible repeat (first|refine blk_drewN ?_ _|refine blk_drew ?_|refine blk_alloc ?_ _)); exact BK267.out) NB267_258.out (by simp)); have n4_:=Aside0.mk (hb); have n5_:=Aside0.mk (hi); clear BK257; clear HO261; clear HO264; clear BK267; clear HB; clear HI258; have BK257:=n0_; have HO261:=n1_; have HO264:=n2_; have BK267:=n3_; have HB:=n4_; have HI258:=n5_; clear n0_ n1_ n2_ n3_ n4_ n5_; (try clear hb); (try clear hb2); (try clear hk); (try clear hi)))
 have n0_:=Aside0.mk (Kd.R_drew HO261.out)
 have n1_:=Aside0.mk (Kd.Q_drew HO264.out)
 have n2_:=Aside0.mk (blk_drew BK257.out)
 have n3_:=Aside0.mk (blk_drew BK267.out)
 have n4_:=Aside0.mk (IsS112.drew HI258.out)
 have n5_:=Aside0.mk (below_drew1 HB.out)
 clear HO261
 clear HO264
 clear BK257
 clear BK267
 clear HI258
 clear HB
 have HO261:=n0_
 have HO264:=n1_
 have BK257:=n2_
 have BK267:=n3_
 have HI258:=n4_
 have HB:=n5_
 clear n0_ n1_ n2_ n3_ n4_ n5_
 refine start_ (n:=8) (S:=fun w' => w'.cell? ⟨gb267,0,none⟩ = some (.slice Ao9 t259.length co9) ∧ w'.cell? ⟨gb267,1,none⟩ = some (.slice Ao13 t262.length co13)) (ds:=[]) #[false,false,false,false,false,false,false,false] (by kernel_rfl) rfl rfl ⟨(blk_cell BK267.out 0).trans rfl,(blk_cell BK267.out 1).trans rfl⟩ (fun hHeld => ?_); refine with_tabW spec_DrawDaysBetween.tab4 spec_DrawDaysBetween.bits4 (fun HT_ HW_ => ?_)
 generalize w14.drew = w15 at HO261 HO264 BK257 BK267 HI258 HB hHeld ⊢
 refine pure_ (i:=1) (N:=some 17) (v:=?_) (a':=?_) #[false,true,false,false,false,false,false,false] rfl rfl (any_of HT_.out (by kernel_rfl)) (fun _ _ _ h => h) (Or.inl ⟨by rfl,?_⟩) ?_ ?_
 rotate_left
 ·intro w'
  go_simp
  with_reducible rfl
 rotate_left
 ·simp only [Act.put,List.setIfInBounds_toArray,List.set_cons_zero,List.set_cons_succ,i64_w,i32_w]
  rfl
 refine pure_ (i:=2) (N:=some 18) (v:=?_) (a':=?_) #[false,true,true,false,false,false,false,false] rfl rfl (any_of HT_.out (by kernel_rfl)) (fun _ _ _ h => h) (Or.inl ⟨by rfl,?_⟩) ?_ ?_
 rotate_left
 ·intro w'
  go_simp
  with_reducible rfl
 rotate_left
 ·simp only [Act.put,List.setIfInBounds_toArray,List.set_cons_zero,List.set_cons_succ,i64_w,i32_w]
  rfl
 refine take_ (i:=0) (N:=some 16) (v:=?_) (a':=?_) #[true,true,true,false,false,false,false,false] rfl rfl (take_ofW HT_.out HW_.out (by kernel_rfl)) (fun _ _ _ h => h) (Or.inl ⟨by rfl,?_⟩) hHeld ?_ ?_
 rotate_left
 ·rintro w' ⟨s0,s1⟩
  go_simp
  with_reducible rfl
 rotate_left
 ·simp only [Act.put,List.setIfInBounds_toArray,List.set_cons_zero,List.set_cons_succ,i64_w,i32_w]
  rfl
 refine take_ (i:=3) (N:=some 19) (v:=?_) (a':=?_) #[true,true,true,true,false,false,false,false] rfl rfl (take_ofW HT_.out HW_.out (by kernel_rfl)) (fun _ _ _ h => h) (Or.inl ⟨by rfl,?_⟩) hHeld ?_ ?_
 rotate_left
 ·rintro w' ⟨s0,s1⟩
  go_simp
  with_reducible rfl
 rotate_left
 ·simp only [Act.put,List.setIfInBounds_toArray,List.set_cons_zero,List.set_cons_succ,i64_w,i32_w]
  rfl
 refine one_ (i:=4) (N:=some 20) #[true,true,true,true,true,false,false,false] rfl rfl (one_of HT_.out (by kernel_rfl)) (by decide) (fun K hK => ?_)
 refine goes_ Try.func91 (by kernel_rfl) rfl #[.pointer (some ⟨gb258,0,none⟩),.agg #[.slice Ao9 t259.length co9,.slice Ao13 t262.length co13]] (by rfl) rfl rfl (by (try simp only [List.map_toArray,List.map_cons,List.map_nil]); first|done|rfl|(simp only [List.length_drop,List.length_take]; rfl)) ?_
 with_reducible refine (spec_l1Cur_call.calls gb258 l0 t269 t270 _ _ t259 _ _ t262 t271 t272 t273 w _ ?side1 ?side2 ?side3 ?side4 ?side5 ?side6 ?side7 ?side8 A4.out).mono ?_
 (case side1 => repeat (first|(with_reducible first|exact HI258.out|apply IsS112.alloc|apply IsS112.drewN|apply IsS112.drew|apply IsS112.set_1|apply IsS112.set_2|refine IsS112.far ?_ NB258_257.out _|refine IsS112.far ?_ NB258_267.out _)|exact HI258.out))
 (case side2 => repeat (first|(with_reducible first|exact HB.out|apply below_alloc|apply pw_below_drewN|apply below_drew1|refine below_set ?_ (IsS112.ge HI258.out)|refine below_set ?_ GE257.out|refine below_set ?_ GE267.out)|exact HB.out))
 (case side3 => repeat (first|exact (Kd.R_reads' HO261.out).2.2|(with_reducible refine Kd.C_alloc ?_ _)|(with_reducible refine Kd.C_drewN ?_ _)|(with_reducible refine Kd.C_drew ?_)))
 (case side4 => exact (Kd.R_reads' HO261.out).2.1)
 (case side5 => exact far_slice (IsS112.own_ne HI258.out HO261.out (by decide)))
 (case side6 => repeat (first|exact (Kd.Q_reads' HO264.out).2.2|(with_reducible refine Kd.C_alloc ?_ _)|(with_reducible refine Kd.C_drewN ?_ _)|(with_reducible refine Kd.C_drew ?_)))
 (case side7 => exact (Kd.Q_reads' HO264.out).2.1)
 (case side8 => exact far_slice (IsS112.own_neQ HI258.out HO264.out (by decide)))
 rintro e w16 ⟨rfl,hi,hb,hk⟩
 refine ⟨_,rfl,?_⟩
 have n0_:=Aside0.mk (KeepBut.blk hk (g':=gb257) (o:=.cells #[.slice none 0 0,.slice none 0 0] 26 (0,0)) (by (with_reducible repeat (first|refine blk_drewN ?_ _|refine blk_drew ?_|refine blk_alloc ?_ _)); exact BK257.out) NB257_258.out (by simp))
 have n1_:=Aside0.mk (Kd.R_mono (Kd.R_keep (IsS112.apart (show IsS112 w _ gb258 l0 t269 t270 from by repeat (first|(with_reducible first|exact HI258.out|apply IsS112.alloc|apply IsS112.drewN|apply IsS112.drew|apply IsS112.set_1|apply IsS112.set_2|refine IsS112.far ?_ NB258_257.out _|refine IsS112.far ?_ NB258_267.out _)|exact HI258.out)) (by (with_reducible repeat (first|apply Kd.R_alloc|apply Kd.R_drewN|apply Kd.R_drew)); exact HO261.out) (by decide)) hk (fun _ h => h.2)) (fun _ h => h.1))
 have n2_:=Aside0.mk (Kd.Q_mono (Kd.Q_keep (IsS112.apartQ (show IsS112 w _ gb258 l0 t269 t270 from by repeat (first|(with_reducible first|exact HI258.out|apply IsS112.alloc|apply IsS112.drewN|apply IsS112.drew|apply IsS112.set_1|apply IsS112.set_2|refine IsS112.far ?_ NB258_257.out _|refine IsS112.far ?_ NB258_267.out _)|exact HI258.out)) (by (with_reducible repeat (first|apply Kd.Q_alloc|apply Kd.Q_drewN|apply Kd.Q_drew)); exact HO264.out) (by decide)) hk (fun _ h => h.2)) (fun _ h => h.1))
 have n3_:=Aside0.mk (KeepBut.blk hk (g':=gb267) (o:=.cells #[.slice Ao9 t259.length co9,.slice Ao13 t262.length co13] 26 (0,0)) (by (with_reducible repeat (first|refine blk_drewN ?_ _|refine blk_drew ?_|refine blk_alloc ?_ _)); exact BK267.out) NB267_258.out (by simp))
 have n4_:=Aside0.mk (hb)
 have n5_:=Aside0.mk (hi)
 clear BK257
 clear HO261
 clear HO264
 clear BK267
 clear HB
 clear HI258
 have BK257:=n0_
 have HO261:=n1_
 have HO264:=n2_
 have BK267:=n3_
 have HB:=n4_
 have HI258:=n5_
 clear n0_ n1_ n2_ n3_ n4_ n5_
 (try clear hb)
 (try clear hb2)
 (try clear hk)
 (try clear hi)
 refine hK.out _ _ ⟨(blk_cell BK267.out 0).trans rfl,(blk_cell BK267.out 1).trans rfl⟩ (fun hHeld => ?_)
 clear hK K
 refine norm_ (a':=?_) ?_ ?_
 rotate_left
 ·show Act.put _ (some 20) _ = _
  simp only [Act.put,List.setIfInBounds_toArray,List.set_cons_zero,List.set_cons_succ,i64_w,i32_w]
  rfl
 refine one_ (i:=5) (N:=none) #[true,true,true,true,true,true,false,false] rfl rfl (one_of HT_.out (by kernel_rfl)) (by decide) (fun K hK => ?_)
 have hs17 : w16.cell? ⟨gb257,0,none⟩ = some (.slice none 0 0):=(blk_cell BK257.out 0).trans rfl
 have hfs17:=blk_frozen BK257.out 0
 have hns17_1:=NB267_257.out
 have hms17_1:=NB257_267.out
 have hs18 : w16.cell? ⟨gb257,1,none⟩ = some (.slice none 0 0):=(blk_cell BK257.out 1).trans rfl
 have hfs18:=blk_frozen BK257.out 1
 have hns18_1:=NB267_257.out
 have hms18_1:=NB257_267.out
 refine skip_ (w1:=?_) (by rfl) rfl ?_ ?_
 rotate_left
 ·go_simp
  rfl
 refine hK.out _ _ ⟨((cell_far (p:=⟨gb257,_,none⟩) NB267_257.out _).trans (((cell_far (p:=⟨gb257,_,none⟩) NB267_257.out _).trans (hHeld.1)))),((cell_far (p:=⟨gb257,_,none⟩) NB267_257.out _).trans (((cell_far (p:=⟨gb257,_,none⟩) NB267_257.out _).trans (hHeld.2))))⟩ (fun hHeld => ?_)
 clear hK K
 refine pure_ (i:=6) (N:=some 3) (v:=?_) (a':=?_) #[true,true,true,true,true,true,true,false] rfl rfl (any_of HT_.out (by kernel_rfl)) (fun _ _ _ h => h) (Or.inl ⟨by rfl,?_⟩) ?_ ?_
 rotate_left
 ·intro w'
  go_simp
  with_reducible rfl
 rotate_left
 ·simp only [Act.put,List.setIfInBounds_toArray,List.set_cons_zero,List.set_cons_succ,i64_w,i32_w]
  rfl
 refine pure_ (i:=7) (N:=some 4) (v:=?_) (a':=?_) #[true,true,true,true,true,true,true,true] rfl rfl (any_of HT_.out (by kernel_rfl)) (fun _ _ _ h => h) (Or.inl ⟨by rfl,?_⟩) ?_ ?_
 rotate_left
 ·intro w'
  go_simp
  with_reducible rfl
 rotate_left
 ·simp only [Act.put,List.setIfInBounds_toArray,List.set_cons_zero,List.set_cons_succ,i64_w,i32_w]
  rfl
 refine done_ (done_of HT_.out (by kernel_rfl)) ?_
 try go_wp2
 refine bodyPost_ret (results_ctt rfl _ _ gb257 26 #[.slice Ao9 t259.length co9,.slice Ao13 t262.length co13] (0,0) _ rfl (by (with_reducible repeat (first|refine blk_drewN ?_ _|refine blk_drew ?_|refine blk_alloc ?_ _)); refine blk_put (cs:=#[.slice Ao9 t259.length co9,.slice none 0 0]) ?_ 1 _ rfl; (with_reducible repeat (first|refine blk_drewN ?_ _|refine blk_drew ?_|refine blk_alloc ?_ _)); refine blk_put (cs:=#[.slice none 0 0,.slice none 0 0]) ?_ 0 _ rfl; (with_reducible repeat (first|refine blk_drewN ?_ _|refine blk_drew ?_|refine blk_alloc ?_ _)); exact BK257.out) Try.underlying26 rfl (by kernel_rfl)) rfl ?_
 exact ⟨_,_,by first|rfl|(simp [errW_none,errW_some] <;> rfl)|(simp [*,errW_none,errW_some] <;> rfl),by (with_reducible repeat (first|apply Kd.R_alloc|apply Kd.R_drewN|apply Kd.R_drew)); exact Kd.R_mono (Kd.R_far (p:=⟨gb257,1,none⟩) (Kd.R_far (p:=⟨gb257,0,none⟩) (Kd.R_types HO261.out BK257.out (by decide)) (fun _ hk => hk.2) (.slice Ao9 t259.length co9)) (fun _ hk => hk.2) (.slice Ao13 t262.length co13)) (fun _ hk => hk.1),by (with_reducible repeat (first|apply Kd.Q_alloc|apply Kd.Q_drewN|apply Kd.Q_drew)); exact Kd.Q_mono (Kd.Q_far (p:=⟨gb257,1,none⟩) (Kd.Q_far (p:=⟨gb257,0,none⟩) (Kd.Q_types HO264.out BK257.out (by decide)) (fun _ hk => hk.2) (.slice Ao9 t259.length co9)) (fun _ hk => hk.2) (.slice Ao13 t262.length co13)) (fun _ hk => hk.1),by repeat (first|(with_reducible first|exact HB.out|apply below_alloc|apply pw_below_drewN|apply below_drew1|refine below_set ?_ (IsS112.ge HI258.out)|refine below_set ?_ GE257.out|refine below_set ?_ GE267.out)|exact HB.out)⟩

end Go.Proofs.Ytlldonokjgoajaa.X
