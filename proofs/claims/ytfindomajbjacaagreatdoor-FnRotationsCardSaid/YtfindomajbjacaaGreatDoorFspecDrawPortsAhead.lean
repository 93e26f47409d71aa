-- Written by a program of ours (wip/bin/xprint.py,over the kit's print.py) out of the translation. Not trusted: Lean checks it.
import Derived.Test.YtfindomajbjacaaGreatDoorX0
import Derived.Test.YtfindomajbjacaaGreatDoorFbCur
import Derived.Test.YtfindomajbjacaaGreatDoorFspecl1CuranyRotation
import Derived.Test.YtfindomajbjacaaGreatDoorFspecl1Curcall
namespace Go.Proofs.YtfindomajbjacaaGreatDoor.X
open Go.RowKit Go.Proofs.YtfindomajbjacaaGreatDoorW.PrintWords Go.Proofs.YtfindomajbjacaaGreatDoorW.PrintLast Go.Proofs.YtfindomajbjacaaGreatDoorW.PrintMore
attribute [local go_sem] max2_int min2_int max_two min_two max_three min_three max_four min_four   -- for this text's walks alone
set_option linter.unusedVariables false
set_option linter.unusedSimpArgs false

/-! ### spec_DrawPortsAhead: function 31 -/
def spec_DrawPortsAhead.f (k : Nat) (l0 : List Int) : Option (List Int × List Int × Int):=(spec_l1Cur_anyRotation.f k l0 0 0).bind fun bt259 => ((spec_l1Cur_call.f l0 bt259.2.2.1 bt259.2.2.2 bt259.1 bt259.2.1).bind fun bt268 => (some (bt259.1,bt259.2.1,bt268.1)))
theorem spec_DrawPortsAhead.mono : ∀ a0 k,LeO (spec_DrawPortsAhead.f k a0) (spec_DrawPortsAhead.f (k + 1) a0):=by
 intro a0 k
 unfold spec_DrawPortsAhead.f
 repeat' first
   | (with_reducible exact spec_l1Cur_anyRotation.mono _ _ _ _)
   | (with_reducible exact LeO.refl _)
   | (with_reducible exact LeO.none _)
   | (with_reducible refine LeO.ite ?_ ?_)
   | (with_reducible refine LeO.bind ?_ (fun _ => ?_))
   | exact spec_l1Cur_anyRotation.mono _ _ _ _
   | exact LeO.none _
   | refine LeO.ite ?_ ?_
   | refine LeO.bind ?_ (fun _ => ?_)
set_option maxHeartbeats 8000000 in
set_option maxRecDepth 100000 in
theorem spec_DrawPortsAhead.calls (k : Nat) (A0 : Option Addr) (c0 : Nat) (l0 : List Int) (r1 : List Int) (r2 : List Int) (r3 : Int) (w : World) (hr0 : Kd.C (Kd.int .u8) w A0 l0.length l0) (hc0 : l0.length ≤ c0) (h : spec_DrawPortsAhead.f k l0 = some (r1,r2,r3)) :
  Calls Tryz.prog 31 #[.slice A0 l0.length c0] w fun e w' => ∃ v0_ v1_ : Value,e = .returned (.tuple #[.agg #[v0_,v1_],.int .i64 r3]) ∧ Kd.R (Kd.int .i64) 3 w' w.heap.size (fun k_ => some k_ ≠ (v1_ : Value).ownBlock) v0_ r1 ∧ Kd.Q (Kd.int .i64) 3 w' w.heap.size (fun k_ => some k_ ≠ (v0_ : Value).ownBlock) v1_ r2 ∧ Below w.heap.size w w':=by
 have hu26:=Tryz.underlying26
 have hu69:=Tryz.underlying69
 have HR0:=Aside0.mk hr0
 have HC0:=Aside0.mk hc0
 clear hr0 hc0
 have HB:=Aside0.mk (Below.refl w.heap.size w)
 have H : ((spec_l1Cur_anyRotation.f k l0 0 0).bind fun bt259 => ((spec_l1Cur_call.f l0 bt259.2.2.1 bt259.2.2.2 bt259.1 bt259.2.1).bind fun bt268 => (some (bt259.1,bt259.2.1,bt268.1)))) = some (r1,r2,r3):=h
 clear h
 replace H:=Option.bind_eq_some_iff.mp H
 obtain ⟨⟨t259,t262,t265,t266⟩,A20,H⟩:=H
 replace H : ((spec_l1Cur_call.f l0 t265 t266 t259 t262).bind fun bt268 => (some (t259,t262,bt268.1))) = some (r1,r2,r3):=H
 have A2:=Aside0.mk A20
 clear A20
 replace H:=Option.bind_eq_some_iff.mp H
 obtain ⟨⟨t268,t269,t270⟩,A30,H⟩:=H
 replace H : (some (t259,t262,t268)) = some (r1,r2,r3):=H
 have A3:=Aside0.mk A30
 clear A30
 simp only [Option.some.injEq,Prod.mk.injEq] at H
 obtain ⟨rfl,rfl,rfl⟩:=H
 go_enter Tryz.func31,Tryz.ntmps31
 try go_wp2_with (first|((with_reducible refine gate_dst (N:=2) rfl ?_); refine box_event ?hg (N:=2) ?hd (cs:=#[.slice none 0 0,.slice none 0 0]) (t:=26) ?hr ?_; (case hd => rfl); (case hg => rfl); (case hr => (go_simp; done)); intro gb257 hg w4 hbox hb; have n0_:=Aside0.mk (below_step (by repeat (((with_reducible (exact HB.out))))) hb); have n1_:=Aside0.mk (hbox); have n2_:=Aside0.mk ((by rw [hg]; exact (below_size (by repeat (((with_reducible (exact HB.out)))))) : w.heap.size ≤ gb257)); have n3_:=Aside0.mk ((by rw [hg]; exact (below_size (by repeat (((with_reducible (exact HB.out)))))) : w.heap.size ≤ gb257)); clear HB; have HB:=n0_; have BK257:=n1_; have GW257:=n2_; have GE257:=n3_; clear n0_ n1_ n2_ n3_; clear hb hbox hg)|((with_reducible refine gate_dst (N:=8) rfl ?_); refine box_event ?hg (N:=8) ?hd (cs:=#[.slice A0 l0.length c0,.int .i64 0,.int .u64 0]) (t:=69) ?hr ?_; (case hd => rfl); (case hg => rfl); (case hr => (go_simp; done)); intro gb258 hg w5 hbox hb; have n0_:=Aside0.mk (blk_below (g:=gb257) (o:=.cells #[.slice none 0 0,.slice none 0 0] 26 (0,0)) (by exact BK257.out) hb); have n1_:=Aside0.mk (below_step (by repeat (((with_reducible (exact HB.out))))) hb); have n2_:=Aside0.mk ((show IsS69 w w5 gb258 l0 0 0 from ⟨_,_,hbox,(by rw [hg]; exact (below_size (by repeat (((with_reducible (exact HB.out))))))),HR0.out⟩)); have n3_:=Aside0.mk ((by rw [hg]; exact Nat.ne_of_lt (blk_lt (g:=gb257) (o:=.cells #[.slice none 0 0,.slice none 0 0] 26 (0,0)) (by exact BK257.out)) : gb257 ≠ gb258)); have n4_:=Aside0.mk ((by rw [hg]; exact Nat.ne_of_gt (blk_lt (g:=gb257) (o:=.cells #[.slice none 0 0,.slice none 0 0] 26 (0,0)) (by exact BK257.out)) : gb258 ≠ gb257)); clear BK257; clear HB; have BK257:=n0_; have HB:=n1_; have HI258:=n2_; have NB257_258:=n3_; have NB258_257:=n4_; clear n0_ n1_ n2_ n3_ n4_; clear hb hbox hg)|((with_reducible refine gate_callee (f:=45) rfl ?_); refine goesL_ (some 10) rfl rfl Tryz.func45 (by kernel_rfl) rfl #[.pointer (some ⟨gb258,0,none⟩)] rfl (by (try simp only [List.map_toArray,List.map_cons,List.map_nil]); (rfl)) ?_; (with_reducible refine (spec_l1Cur_anyRotation.calls k gb258 l0 0 0 t259 t262 t265 t266 w _ ?side1 ?side2 A2.out).mono ?_); (case side1 => repeat (((with_reducible (exact HI258.out))))); (case side2 => repeat (((with_reducible (exact HB.out))))); rintro e w6 ⟨v260,v263,rfl,ho0,ho1,hi,hb,hk⟩; refine ⟨_,rfl,?_⟩; have n0_:=Aside0.mk (KeepBut.blk hk (g':=gb257) (o:=.cells #[.slice none 0 0,.slice none 0 0] 26 (0,0)) (by exact BK257.out) NB257_258.out (by simp)); have n1_:=Aside0.mk (Kd.R_lower ho0 (below_size (by repeat (((with_reducible (exact HB.out))))))); have n2_:=Aside0.mk (Kd.Q_lower ho1 (below_size (by repeat (((with_reducible (exact HB.out))))))); have n3_:=Aside0.mk (hb); have n4_:=Aside0.mk (hi); clear BK257; clear HB; clear HI258; have BK257:=n0_; have HO261:=n1_; have HO264:=n2_; have HB:=n3_; have HI258:=n4_; clear n0_ n1_ n2_ n3_ n4_; (try clear hb); (try clear hb2); (try clear hk); (try clear hi); (try clear ho0); (try clear ho1))|((with_reducible refine gate_dst (N:=5) rfl ?_); refine box_event ?hg (N:=5) ?hd (cs:=#[.slice none 0 0,.slice none 0 0]) (t:=26) ?hr ?_; (case hd => rfl); (case hg => rfl); (case hr => (go_simp; done)); intro gb267 hg w7 hbox hb; have n0_:=Aside0.mk (Kd.R_below (by exact HO261.out) hb); have n1_:=Aside0.mk (Kd.Q_below (by exact HO264.out) hb); have n2_:=Aside0.mk (blk_below (g:=gb257) (o:=.cells #[.slice none 0 0,.slice none 0 0] 26 (0,0)) (by exact BK257.out) hb); have n3_:=Aside0.mk (IsS69.below (by repeat (((with_reducible (exact HI258.out))))) hb); have n4_:=Aside0.mk (below_step (by repeat (((with_reducible (exact HB.out))))) hb); have n5_:=Aside0.mk (hbox); have n6_:=Aside0.mk ((by rw [hg]; exact (below_size (by repeat (((with_reducible (exact HB.out)))))) : w.heap.size ≤ gb267)); have n7_:=Aside0.mk ((by rw [hg]; exact (below_size (by repeat (((with_reducible (exact HB.out)))))) : w.heap.size ≤ gb267)); have n8_:=Aside0.mk ((by rw [hg]; exact Nat.ne_of_lt (blk_lt (g:=gb257) (o:=.cells #[.slice none 0 0,.slice none 0 0] 26 (0,0)) (by exact BK257.out)) : gb257 ≠ gb267)); have n9_:=Aside0.mk ((by rw [hg]; exact Nat.ne_of_gt (blk_lt (g:=gb257) (o:=.cells #[.slice none 0 0,.slice none 0 0] 26 (0,0)) (by exact BK257.out)) : gb267 ≠ gb257)); have n10_:=Aside0.mk ((by rw [hg]; exact Nat.ne_of_lt (IsS69.lt (show IsS69 w _ gb258 l0 t265 t266 from by repeat (((with_reducible (exact HI258.out)))))) : gb258 ≠ gb267)); have n11_:=Aside0.mk ((by rw [hg]; exact Nat.ne_of_gt (IsS69.lt (show IsS69 w _ gb258 l0 t265 t266 from by repeat (((with_reducible (exact HI258.out)))))) : gb267 ≠ gb258)); clear HO261; clear HO264; clear BK257; clear HI258; clear HB; have HO261:=n0_; have HO264:=n1_; have BK257:=n2_; have HI258:=n3_; have HB:=n4_; have BK267:=n5_; have GW267:=n6_; have GE267:=n7_; have NB257_267:=n8_; have NB267_257:=n9_; have NB258_267:=n10_; have NB267_258:=n11_; clear n0_ n1_ n2_ n3_ n4_ n5_ n6_ n7_ n8_ n9_ n10_ n11_; clear hb hbox hg; obtain ⟨Ao8,co8,eo8⟩:=Kd.R_slice HO261.out; subst eo8; have hnb9:=NB267_257.out; have hnc9:=NB257_267.out; have hnb10:=NB267_258.out; have hnc10:=NB258_267.out; have hcz11_0 : w7.cell? ⟨gb267,0,none⟩ = some (.slice none 0 0):=(blk_cell BK267.out 0).trans rfl; have hcz11_1 : w7.cell? ⟨gb267,1,none⟩ = some (.slice none 0 0):=(blk_cell BK267.out 1).trans rfl; have hfz11_0:=blk_frozen BK267.out 0; have hfz11_1:=blk_frozen BK267.out 1; obtain ⟨Ao12,co12,eo12,_⟩:=Kd.Q_slice HO264.out; subst eo12))
 have n0_ : Aside0 (Kd.R (Kd.int .i64) 3 ((w7.setCell ⟨gb267,0,none⟩ (.slice Ao8 t259.length co8)).setCell ⟨gb267,1,none⟩ (.slice Ao12 t262.length co12)) w.heap.size (fun k_ => some k_ ≠ (.slice Ao12 t262.length co12 : Value).ownBlock) (.slice Ao8 t259.length co8) t259):=⟨by exact Kd.R_mono (Kd.R_far (p:=⟨gb267,1,none⟩) (Kd.R_far (p:=⟨gb267,0,none⟩) (Kd.R_types HO261.out BK267.out (by decide)) (fun _ hk => hk.2) (.slice Ao8 t259.length co8)) (fun _ hk => hk.2) (.slice Ao12 t262.length co12)) (fun _ hk => hk.1)⟩
 have n1_ : Aside0 (Kd.Q (Kd.int .i64) 3 ((w7.setCell ⟨gb267,0,none⟩ (.slice Ao8 t259.length co8)).setCell ⟨gb267,1,none⟩ (.slice Ao12 t262.length co12)) w.heap.size (fun k_ => some k_ ≠ (.slice Ao8 t259.length co8 : Value).ownBlock) (.slice Ao12 t262.length co12) t262):=⟨by exact Kd.Q_mono (Kd.Q_far (p:=⟨gb267,1,none⟩) (Kd.Q_far (p:=⟨gb267,0,none⟩) (Kd.Q_types HO264.out BK267.out (by decide)) (fun _ hk => hk.2) (.slice Ao8 t259.length co8)) (fun _ hk => hk.2) (.slice Ao12 t262.length co12)) (fun _ hk => hk.1)⟩
 have n2_ : Aside0 (((w7.setCell ⟨gb267,0,none⟩ (.slice Ao8 t259.length co8)).setCell ⟨gb267,1,none⟩ (.slice Ao12 t262.length co12)).heap[gb257]? = some (.cells #[.slice none 0 0,.slice none 0 0] 26 (0,0))):=⟨by refine blk_far ?_ NB257_267.out _; refine blk_far ?_ NB257_267.out _; exact BK257.out⟩
 have n3_ : Aside0 (((w7.setCell ⟨gb267,0,none⟩ (.slice Ao8 t259.length co8)).setCell ⟨gb267,1,none⟩ (.slice Ao12 t262.length co12)).heap[gb267]? = some (.cells #[.slice Ao8 t259.length co8,.slice Ao12 t262.length co12] 26 (0,0))):=⟨by refine blk_put (cs:=#[.slice Ao8 t259.length co8,.slice none 0 0]) ?_ 1 _ rfl; refine blk_put (cs:=#[.slice none 0 0,.slice none 0 0]) ?_ 0 _ rfl; exact BK267.out⟩
 have n4_ : Aside0 (IsS69 w ((w7.setCell ⟨gb267,0,none⟩ (.slice Ao8 t259.length co8)).setCell ⟨gb267,1,none⟩ (.slice Ao12 t262.length co12)) gb258 l0 t265 t266):=⟨by repeat (with_reducible first|exact HI258.out|refine IsS69.far ?_ NB258_267.out _)⟩
 have n5_ : Aside0 (Below w.heap.size w ((w7.setCell ⟨gb267,0,none⟩ (.slice Ao8 t259.length co8)).setCell ⟨gb267,1,none⟩ (.slice Ao12 t262.length co12))):=⟨by repeat (with_reducible first|exact HB.out|refine below_set ?_ GE267.out)⟩
 (try clear HO261)
 (try clear HO264)
 (try clear BK257)
 (try clear BK267)
 (try clear HI258)
 (try clear HB)
 generalize ((w7.setCell ⟨gb267,0,none⟩ (.slice Ao8 t259.length co8)).setCell ⟨gb267,1,none⟩ (.slice Ao12 t262.length co12)) = w13 at n0_ n1_ n2_ n3_ n4_ n5_ ⊢
 have HO261:=n0_
 have HO264:=n1_
 have BK257:=n2_
 have BK267:=n3_
 have HI258:=n4_
 have HB:=n5_
 clear n0_ n1_ n2_ n3_ n4_ n5_
 have n0_:=Aside0.mk (Kd.R_drew HO261.out)
 have n1_:=Aside0.mk (Kd.Q_drew HO264.out)
 have n2_:=Aside0.mk (blk_drew BK257.out)
 have n3_:=Aside0.mk (blk_drew BK267.out)
 have n4_:=Aside0.mk (IsS69.drew HI258.out)
 have n5_:=Aside0.mk (below_drew1 HB.out)
 clear HO261
 clear HO264
 clear BK257
 clear BK267
 clear HI258
 clear HB
 have HO261:=n0_
 have HO264:=n1_
 have BK257:=n2_
 have BK267:=n3_
 have HI258:=n4_
 have HB:=n5_
 clear n0_ n1_ n2_ n3_ n4_ n5_
 refine start_ (n:=6) (S:=fun w' => w'.cell? ⟨gb267,0,none⟩ = some (.slice Ao8 t259.length co8) ∧ w'.cell? ⟨gb267,1,none⟩ = some (.slice Ao12 t262.length co12)) (ds:=[]) #[false,false,false,false,false,false] (by kernel_rfl) rfl rfl ⟨(blk_cell BK267.out 0).trans rfl,(blk_cell BK267.out 1).trans rfl⟩ (fun hHeld => ?_)
 generalize w13.drew = w14 at HO261 HO264 BK257 BK267 HI258 HB hHeld ⊢
 refine pure_ (i:=1) (N:=some 12) (v:=?_) (a':=?_) #[false,true,false,false,false,false] rfl rfl (by kernel_rfl) (fun _ _ _ h => h) (Or.inl ⟨by rfl,?_⟩) ?_ ?_
 rotate_left
 ·intro w'
  go_simp
  with_reducible rfl
 rotate_left
 ·simp only [Act.put,List.setIfInBounds_toArray,List.set_cons_zero,List.set_cons_succ,i64_w,i32_w]
  rfl
 refine take_ (i:=0) (N:=some 11) (v:=?_) (a':=?_) #[true,true,false,false,false,false] rfl rfl (by kernel_rfl) (fun _ _ _ h => h) (Or.inl ⟨by rfl,?_⟩) hHeld ?_ ?_
 rotate_left
 ·rintro w' ⟨s0,s1⟩
  go_simp
  with_reducible rfl
 rotate_left
 ·simp only [Act.put,List.setIfInBounds_toArray,List.set_cons_zero,List.set_cons_succ,i64_w,i32_w]
  rfl
 refine take_ (i:=2) (N:=some 13) (v:=?_) (a':=?_) #[true,true,true,false,false,false] rfl rfl (by kernel_rfl) (fun _ _ _ h => h) (Or.inl ⟨by rfl,?_⟩) hHeld ?_ ?_
 rotate_left
 ·rintro w' ⟨s0,s1⟩
  go_simp
  with_reducible rfl
 rotate_left
 ·simp only [Act.put,List.setIfInBounds_toArray,List.set_cons_zero,List.set_cons_succ,i64_w,i32_w]
  rfl
 refine one_ (i:=3) (N:=some 14) #[true,true,true,true,false,false] rfl rfl (by kernel_rfl) (by decide) (fun K hK => ?_)
 refine goes_ Tryz.func68 (by kernel_rfl) rfl #[.pointer (some ⟨gb258,0,none⟩),.agg #[.slice Ao8 t259.length co8,.slice Ao12 t262.length co12]] (by rfl) rfl rfl (by (try simp only [List.map_toArray,List.map_cons,List.map_nil]); (rfl)) ?_
 with_reducible refine (spec_l1Cur_call.calls gb258 l0 t265 t266 _ _ t259 _ _ t262 t268 t269 t270 w _ ?side1 ?side2 ?side3 ?side4 ?side5 ?side6 ?side7 ?side8 A3.out).mono ?_
 (case side1 => repeat (((with_reducible (exact HI258.out)))))
 (case side2 => repeat (((with_reducible (exact HB.out)))))
 (case side3 => repeat ((exact (Kd.R_reads' HO261.out).2.2)))
 (case side4 => exact (Kd.R_reads' HO261.out).2.1)
 (case side5 => exact far_slice (IsS69.own_ne HI258.out HO261.out (by decide)))
 (case side6 => repeat ((exact (Kd.Q_reads' HO264.out).2.2)))
 (case side7 => exact (Kd.Q_reads' HO264.out).2.1)
 (case side8 => exact far_slice (IsS69.own_neQ HI258.out HO264.out (by decide)))
 rintro e w15 ⟨rfl,hi,hb,hk⟩
 refine ⟨_,rfl,?_⟩
 have n0_:=Aside0.mk (KeepBut.blk hk (g':=gb257) (o:=.cells #[.slice none 0 0,.slice none 0 0] 26 (0,0)) (by exact BK257.out) NB257_258.out (by simp))
 have n1_:=Aside0.mk (Kd.R_mono (Kd.R_keep (IsS69.apart (show IsS69 w _ gb258 l0 t265 t266 from by repeat (((with_reducible (exact HI258.out))))) (by exact HO261.out) (by decide)) hk (fun _ h => h.2)) (fun _ h => h.1))
 have n2_:=Aside0.mk (Kd.Q_mono (Kd.Q_keep (IsS69.apartQ (show IsS69 w _ gb258 l0 t265 t266 from by repeat (((with_reducible (exact HI258.out))))) (by exact HO264.out) (by decide)) hk (fun _ h => h.2)) (fun _ h => h.1))
 have n3_:=Aside0.mk (KeepBut.blk hk (g':=gb267) (o:=.cells #[.slice Ao8 t259.length co8,.slice Ao12 t262.length co12] 26 (0,0)) (by exact BK267.out) NB267_258.out (by simp))
 have n4_:=Aside0.mk (hb)
 have n5_:=Aside0.mk (hi)
 clear BK257
 clear HO261
 clear HO264
 clear BK267
 clear HB
 clear HI258
 have BK257:=n0_
 have HO261:=n1_
 have HO264:=n2_
 have BK267:=n3_
 have HB:=n4_
 have HI258:=n5_
 clear n0_ n1_ n2_ n3_ n4_ n5_
 (try clear hb)
 (try clear hb2)
 (try clear hk)
 (try clear hi)
 refine hK.out _ _ ⟨(blk_cell BK267.out 0).trans rfl,(blk_cell BK267.out 1).trans rfl⟩ (fun hHeld => ?_)
 clear hK K
 refine norm_ (a':=?_) ?_ ?_
 rotate_left
 ·show Act.put _ (some 14) _ = _
  simp only [Act.put,List.setIfInBounds_toArray,List.set_cons_zero,List.set_cons_succ,i64_w,i32_w]
  rfl
 refine one_ (i:=4) (N:=none) #[true,true,true,true,true,false] rfl rfl (by kernel_rfl) (by decide) (fun K hK => ?_)
 have hs16 : w15.cell? ⟨gb257,0,none⟩ = some (.slice none 0 0):=(blk_cell BK257.out 0).trans rfl
 have hfs16:=blk_frozen BK257.out 0
 have hns16_1:=NB267_257.out
 have hms16_1:=NB257_267.out
 have hs17 : w15.cell? ⟨gb257,1,none⟩ = some (.slice none 0 0):=(blk_cell BK257.out 1).trans rfl
 have hfs17:=blk_frozen BK257.out 1
 have hns17_1:=NB267_257.out
 have hms17_1:=NB257_267.out
 refine skip_ (w1:=?_) (by rfl) rfl ?_ ?_
 rotate_left
 ·go_simp
  rfl
 refine hK.out _ _ ⟨((cell_far (p:=⟨gb257,_,none⟩) NB267_257.out _).trans (((cell_far (p:=⟨gb257,_,none⟩) NB267_257.out _).trans (hHeld.1)))),((cell_far (p:=⟨gb257,_,none⟩) NB267_257.out _).trans (((cell_far (p:=⟨gb257,_,none⟩) NB267_257.out _).trans (hHeld.2))))⟩ (fun hHeld => ?_)
 clear hK K
 refine pure_ (i:=5) (N:=some 3) (v:=?_) (a':=?_) #[true,true,true,true,true,true] rfl rfl (by kernel_rfl) (fun _ _ _ h => h) (Or.inl ⟨by rfl,?_⟩) ?_ ?_
 rotate_left
 ·intro w'
  go_simp
  with_reducible rfl
 rotate_left
 ·simp only [Act.put,List.setIfInBounds_toArray,List.set_cons_zero,List.set_cons_succ,i64_w,i32_w]
  rfl
 refine done_ (by kernel_rfl) ?_
 try go_wp2
 refine bodyPost_ret (results_ct rfl _ _ gb257 26 #[.slice Ao8 t259.length co8,.slice Ao12 t262.length co12] (0,0) _ rfl (by refine blk_put (cs:=#[.slice Ao8 t259.length co8,.slice none 0 0]) ?_ 1 _ rfl; refine blk_put (cs:=#[.slice none 0 0,.slice none 0 0]) ?_ 0 _ rfl; exact BK257.out) Tryz.underlying26 rfl (by kernel_rfl)) rfl ?_
 exact ⟨_,_,by (rfl),by exact Kd.R_mono (Kd.R_far (p:=⟨gb257,1,none⟩) (Kd.R_far (p:=⟨gb257,0,none⟩) (Kd.R_types HO261.out BK257.out (by decide)) (fun _ hk => hk.2) (.slice Ao8 t259.length co8)) (fun _ hk => hk.2) (.slice Ao12 t262.length co12)) (fun _ hk => hk.1),by exact Kd.Q_mono (Kd.Q_far (p:=⟨gb257,1,none⟩) (Kd.Q_far (p:=⟨gb257,0,none⟩) (Kd.Q_types HO264.out BK257.out (by decide)) (fun _ hk => hk.2) (.slice Ao8 t259.length co8)) (fun _ hk => hk.2) (.slice Ao12 t262.length co12)) (fun _ hk => hk.1),by repeat (with_reducible first|exact HB.out|refine below_set ?_ GE257.out)⟩

end Go.Proofs.YtfindomajbjacaaGreatDoor.X
