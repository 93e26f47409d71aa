-- Written by a program of ours (wip/bin/xprint.py,over the kit's print.py) out of the translation. Not trusted: Lean checks it.
import Derived.Test.YtlldonokjgoajaaX0
import Derived.Test.YtlldonokjgoajaaFbCur
import Derived.Test.YtlldonokjgoajaaFspecl1CuranyYard
import Derived.Test.YtlldonokjgoajaaGnumberIn
namespace Go.Proofs.Ytlldonokjgoajaa.X
open Go.RowKit Go.Proofs.YtlldonokjgoajaaW.PrintWords Go.Proofs.YtlldonokjgoajaaW.PrintLast Go.Proofs.YtlldonokjgoajaaW.PrintMore
attribute [local go_sem] max2_int min2_int max_two min_two max_three min_three max_four min_four   -- for this text's walks alone
set_option linter.unusedVariables false
set_option linter.unusedSimpArgs false

/-! ### spec_DrawPlaceOf: function 156 -/
def spec_DrawPlaceOf.f (k : Nat) (l0 : List Int) : Option ((List (List Int)) × Int):=(spec_l1Cur_anyYard.f k l0 0 0).bind fun bt1622 => ((spec_l1Cur_numberIn.f l0 bt1622.2.1 bt1622.2.2 bt1622.1).bind fun bt1628 => (some (bt1622.1,bt1628.1)))
theorem spec_DrawPlaceOf.mono : ∀ a0 k,LeO (spec_DrawPlaceOf.f k a0) (spec_DrawPlaceOf.f (k + 1) a0):=by
 intro a0 k
 unfold spec_DrawPlaceOf.f
 repeat' first
   | (with_reducible exact spec_l1Cur_anyYard.mono _ _ _ _)
   | (with_reducible exact LeO.refl _)
   | (with_reducible exact LeO.none _)
   | (with_reducible refine LeO.ite ?_ ?_)
   | (with_reducible refine LeO.bind ?_ (fun _ => ?_))
   | exact spec_l1Cur_anyYard.mono _ _ _ _
   | exact LeO.none _
   | refine LeO.ite ?_ ?_
   | refine LeO.bind ?_ (fun _ => ?_)
set_option maxHeartbeats 8000000 in
set_option maxRecDepth 100000 in
theorem spec_DrawPlaceOf.calls (k : Nat) (A0 : Option Addr) (c0 : Nat) (l0 : List Int) (r1 : List (List Int)) (r2 : Int) (w : World) (hr0 : Kd.C (Kd.int .u8) w A0 l0.length l0) (hc0 : l0.length ≤ c0) (h : spec_DrawPlaceOf.f k l0 = some (r1,r2)) :
  Calls Try.prog 156 #[.slice A0 l0.length c0] w fun e w' => ∃ v0_ : Value,e = .returned (.tuple #[.agg #[v0_],.int .i64 r2]) ∧ Kd.S (Kd.slice 3 (Kd.int .i64)) 24 w' w.heap.size (fun _ => True) v0_ r1 ∧ Below w.heap.size w w':=by
 have hu42:=Try.underlying42
 have hu112:=Try.underlying112
 have HR0:=Aside0.mk hr0
 have HC0:=Aside0.mk hc0
 clear hr0 hc0
 have HB:=Aside0.mk (Below.refl w.heap.size w)
 have H : ((spec_l1Cur_anyYard.f k l0 0 0).bind fun bt1622 => ((spec_l1Cur_numberIn.f l0 bt1622.2.1 bt1622.2.2 bt1622.1).bind fun bt1628 => (some (bt1622.1,bt1628.1)))) = some (r1,r2):=h
 clear h
 replace H:=Option.bind_eq_some_iff.mp H
 obtain ⟨⟨t1622,t1625,t1626⟩,A20,H⟩:=H
 replace H : ((spec_l1Cur_numberIn.f l0 t1625 t1626 t1622).bind fun bt1628 => (some (t1622,bt1628.1))) = some (r1,r2):=H
 have A2:=Aside0.mk A20
 clear A20
 replace H:=Option.bind_eq_some_iff.mp H
 obtain ⟨⟨t1628,t1629,t1630⟩,A30,H⟩:=H
 replace H : (some (t1622,t1628)) = some (r1,r2):=H
 have A3:=Aside0.mk A30
 clear A30
 simp only [Option.some.injEq,Prod.mk.injEq] at H
 obtain ⟨rfl,rfl⟩:=H
 go_enter Try.func156,Try.ntmps156
 try go_wp2_with (first|((with_reducible refine gate_dst (N:=2) rfl ?_); refine box_event ?hg (N:=2) ?hd (cs:=#[.slice none 0 0]) (t:=42) ?hr ?_; (case hd => rfl); (case hg => rfl); (case hr => (go_simp; done)); intro gb1620 hg w4 hbox hb; have n0_:=Aside0.mk (below_step (by repeat (((with_reducible (exact HB.out))))) hb); have n1_:=Aside0.mk (hbox); have n2_:=Aside0.mk ((by rw [hg]; exact (below_size (by repeat (((with_reducible (exact HB.out)))))) : w.heap.size ≤ gb1620)); have n3_:=Aside0.mk ((by rw [hg]; exact (below_size (by repeat (((with_reducible (exact HB.out)))))) : w.heap.size ≤ gb1620)); clear HB; have HB:=n0_; have BK1620:=n1_; have GW1620:=n2_; have GE1620:=n3_; clear n0_ n1_ n2_ n3_; clear hb hbox hg)|((with_reducible refine gate_dst (N:=8) rfl ?_); refine box_event ?hg (N:=8) ?hd (cs:=#[.slice A0 l0.length c0,.int .i64 0,.int .u64 0]) (t:=112) ?hr ?_; (case hd => rfl); (case hg => rfl); (case hr => (go_simp; done)); intro gb1621 hg w5 hbox hb; have n0_:=Aside0.mk (blk_below (g:=gb1620) (o:=.cells #[.slice none 0 0] 42 (0,0)) (by exact BK1620.out) hb); have n1_:=Aside0.mk (below_step (by repeat (((with_reducible (exact HB.out))))) hb); have n2_:=Aside0.mk ((show IsS112 w w5 gb1621 l0 0 0 from ⟨_,_,hbox,(by rw [hg]; exact (below_size (by repeat (((with_reducible (exact HB.out))))))),HR0.out⟩)); have n3_:=Aside0.mk ((by rw [hg]; exact Nat.ne_of_lt (blk_lt (g:=gb1620) (o:=.cells #[.slice none 0 0] 42 (0,0)) (by exact BK1620.out)) : gb1620 ≠ gb1621)); have n4_:=Aside0.mk ((by rw [hg]; exact Nat.ne_of_gt (blk_lt (g:=gb1620) (o:=.cells #[.slice none 0 0] 42 (0,0)) (by exact BK1620.out)) : gb1621 ≠ gb1620)); clear BK1620; clear HB; have BK1620:=n0_; have HB:=n1_; have HI1621:=n2_; have NB1620_1621:=n3_; have NB1621_1620:=n4_; clear n0_ n1_ n2_ n3_ n4_; clear hb hbox hg)|((with_reducible refine gate_callee (f:=113) rfl ?_); refine goesL_ (some 10) rfl rfl Try.func113 (by kernel_rfl) rfl #[.pointer (some ⟨gb1621,0,none⟩)] rfl (by (try simp only [List.map_toArray,List.map_cons,List.map_nil]); (rfl)) ?_; (with_reducible refine (spec_l1Cur_anyYard.calls k gb1621 l0 0 0 t1622 t1625 t1626 w _ ?side1 ?side2 A2.out).mono ?_); (case side1 => repeat (((with_reducible (exact HI1621.out))))); (case side2 => repeat (((with_reducible (exact HB.out))))); rintro e w6 ⟨v1623,rfl,ho0,hi,hb,hk⟩; refine ⟨_,rfl,?_⟩; have n0_:=Aside0.mk (KeepBut.blk hk (g':=gb1620) (o:=.cells #[.slice none 0 0] 42 (0,0)) (by exact BK1620.out) NB1620_1621.out (by simp)); have n1_:=Aside0.mk (Kd.S_lower ho0 (below_size (by repeat (((with_reducible (exact HB.out))))))); have n2_:=Aside0.mk (hb); have n3_:=Aside0.mk (hi); clear BK1620; clear HB; clear HI1621; have BK1620:=n0_; have HO1624:=n1_; have HB:=n2_; have HI1621:=n3_; clear n0_ n1_ n2_ n3_; (try clear hb); (try clear hb2); (try clear hk); (try clear hi); (try clear ho0))|((with_reducible refine gate_dst (N:=5) rfl ?_); refine box_event ?hg (N:=5) ?hd (cs:=#[.slice none 0 0]) (t:=42) ?hr ?_; (case hd => rfl); (case hg => rfl); (case hr => (go_simp; done)); intro gb1627 hg w7 hbox hb; have n0_:=Aside0.mk (Kd.S_below (by exact HO1624.out) hb); have n1_:=Aside0.mk (blk_below (g:=gb1620) (o:=.cells #[.slice none 0 0] 42 (0,0)) (by exact BK1620.out) hb); have n2_:=Aside0.mk (IsS112.below (by repeat (((with_reducible (exact HI1621.out))))) hb); have n3_:=Aside0.mk (below_step (by repeat (((with_reducible (exact HB.out))))) hb); have n4_:=Aside0.mk (hbox); have n5_:=Aside0.mk ((by rw [hg]; exact (below_size (by repeat (((with_reducible (exact HB.out)))))) : w.heap.size ≤ gb1627)); have n6_:=Aside0.mk ((by rw [hg]; exact (below_size (by repeat (((with_reducible (exact HB.out)))))) : w.heap.size ≤ gb1627)); have n7_:=Aside0.mk ((by rw [hg]; exact Nat.ne_of_lt (blk_lt (g:=gb1620) (o:=.cells #[.slice none 0 0] 42 (0,0)) (by exact BK1620.out)) : gb1620 ≠ gb1627)); have n8_:=Aside0.mk ((by rw [hg]; exact Nat.ne_of_gt (blk_lt (g:=gb1620) (o:=.cells #[.slice none 0 0] 42 (0,0)) (by exact BK1620.out)) : gb1627 ≠ gb1620)); have n9_:=Aside0.mk ((by rw [hg]; exact Nat.ne_of_lt (IsS112.lt (show IsS112 w _ gb1621 l0 t1625 t1626 from by repeat (((with_reducible (exact HI1621.out)))))) : gb1621 ≠ gb1627)); have n10_:=Aside0.mk ((by rw [hg]; exact Nat.ne_of_gt (IsS112.lt (show IsS112 w _ gb1621 l0 t1625 t1626 from by repeat (((with_reducible (exact HI1621.out)))))) : gb1627 ≠ gb1621)); clear HO1624; clear BK1620; clear HI1621; clear HB; have HO1624:=n0_; have BK1620:=n1_; have HI1621:=n2_; have HB:=n3_; have BK1627:=n4_; have GW1627:=n5_; have GE1627:=n6_; have NB1620_1627:=n7_; have NB1627_1620:=n8_; have NB1621_1627:=n9_; have NB1627_1621:=n10_; clear n0_ n1_ n2_ n3_ n4_ n5_ n6_ n7_ n8_ n9_ n10_; clear hb hbox hg; obtain ⟨Ao8,co8,eo8⟩:=Kd.S_slice HO1624.out; subst eo8; have hnb9:=NB1627_1620.out; have hnc9:=NB1620_1627.out; have hnb10:=NB1627_1621.out; have hnc10:=NB1621_1627.out; have hcz11_0 : w7.cell? ⟨gb1627,0,none⟩ = some (.slice none 0 0):=(blk_cell BK1627.out 0).trans rfl; have hfz11_0:=blk_frozen BK1627.out 0))
 have n0_ : Aside0 (Kd.S (Kd.slice 3 (Kd.int .i64)) 24 (w7.setCell ⟨gb1627,0,none⟩ (.slice Ao8 t1622.length co8)) w.heap.size (fun _ => True) (.slice Ao8 t1622.length co8) t1622):=⟨by exact Kd.S_mono (Kd.S_far (p:=⟨gb1627,0,none⟩) (Kd.S_types HO1624.out BK1627.out (by decide)) (fun _ hk => hk.2) (.slice Ao8 t1622.length co8)) (fun _ hk => trivial)⟩
 have n1_ : Aside0 ((w7.setCell ⟨gb1627,0,none⟩ (.slice Ao8 t1622.length co8)).heap[gb1620]? = some (.cells #[.slice none 0 0] 42 (0,0))):=⟨by refine blk_far ?_ NB1620_1627.out _; exact BK1620.out⟩
 have n2_ : Aside0 ((w7.setCell ⟨gb1627,0,none⟩ (.slice Ao8 t1622.length co8)).heap[gb1627]? = some (.cells #[.slice Ao8 t1622.length co8] 42 (0,0))):=⟨by refine blk_put (cs:=#[.slice none 0 0]) ?_ 0 _ rfl; exact BK1627.out⟩
 have n3_ : Aside0 (IsS112 w (w7.setCell ⟨gb1627,0,none⟩ (.slice Ao8 t1622.length co8)) gb1621 l0 t1625 t1626):=⟨by repeat (with_reducible first|exact HI1621.out|refine IsS112.far ?_ NB1621_1627.out _)⟩
 have n4_ : Aside0 (Below w.heap.size w (w7.setCell ⟨gb1627,0,none⟩ (.slice Ao8 t1622.length co8))):=⟨by repeat (with_reducible first|exact HB.out|refine below_set ?_ GE1627.out)⟩
 (try clear HO1624)
 (try clear BK1620)
 (try clear BK1627)
 (try clear HI1621)
 (try clear HB)
 generalize (w7.setCell ⟨gb1627,0,none⟩ (.slice Ao8 t1622.length co8)) = w12 at n0_ n1_ n2_ n3_ n4_ ⊢
 have HO1624:=n0_
 have BK1620:=n1_
 have BK1627:=n2_
 have HI1621:=n3_
 have HB:=n4_
 clear n0_ n1_ n2_ n3_ n4_
 have n0_:=Aside0.mk (Kd.S_drew HO1624.out)
 have n1_:=Aside0.mk (blk_drew BK1620.out)
 have n2_:=Aside0.mk (blk_drew BK1627.out)
 have n3_:=Aside0.mk (IsS112.drew HI1621.out)
 have n4_:=Aside0.mk (below_drew1 HB.out)
 clear HO1624
 clear BK1620
 clear BK1627
 clear HI1621
 clear HB
 have HO1624:=n0_
 have BK1620:=n1_
 have BK1627:=n2_
 have HI1621:=n3_
 have HB:=n4_
 clear n0_ n1_ n2_ n3_ n4_
 refine start_ (n:=6) (S:=fun w' => w'.cell? ⟨gb1627,0,none⟩ = some (.slice Ao8 t1622.length co8)) (ds:=[]) #[false,false,false,false,false,false] (by kernel_rfl) rfl rfl ((blk_cell BK1627.out 0).trans rfl) (fun hHeld => ?_)
 generalize w12.drew = w13 at HO1624 BK1620 BK1627 HI1621 HB hHeld ⊢
 refine pure_ (i:=1) (N:=some 12) (v:=?_) (a':=?_) #[false,true,false,false,false,false] rfl rfl (by kernel_rfl) (fun _ _ _ h => h) (Or.inl ⟨by rfl,?_⟩) ?_ ?_
 rotate_left
 ·intro w'
  go_simp
  with_reducible rfl
 rotate_left
 ·simp only [Act.put,List.setIfInBounds_toArray,List.set_cons_zero,List.set_cons_succ,i64_w,i32_w]
  rfl
 refine take_ (i:=0) (N:=some 11) (v:=?_) (a':=?_) #[true,true,false,false,false,false] rfl rfl (by kernel_rfl) (fun _ _ _ h => h) (Or.inl ⟨by rfl,?_⟩) hHeld ?_ ?_
 rotate_left
 ·intro w' s0
  go_simp
  with_reducible rfl
 rotate_left
 ·simp only [Act.put,List.setIfInBounds_toArray,List.set_cons_zero,List.set_cons_succ,i64_w,i32_w]
  rfl
 refine take_ (i:=2) (N:=some 13) (v:=?_) (a':=?_) #[true,true,true,false,false,false] rfl rfl (by kernel_rfl) (fun _ _ _ h => h) (Or.inl ⟨by rfl,?_⟩) hHeld ?_ ?_
 rotate_left
 ·intro w' s0
  go_simp
  with_reducible rfl
 rotate_left
 ·simp only [Act.put,List.setIfInBounds_toArray,List.set_cons_zero,List.set_cons_succ,i64_w,i32_w]
  rfl
 refine one_ (i:=3) (N:=some 14) #[true,true,true,true,false,false] rfl rfl (by kernel_rfl) (by decide) (fun K hK => ?_)
 refine goes_ Try.func184 (by kernel_rfl) rfl #[.pointer (some ⟨gb1621,0,none⟩),.agg #[.slice Ao8 t1622.length co8]] (by rfl) rfl rfl (by (try simp only [List.map_toArray,List.map_cons,List.map_nil]); (rfl)) ?_
 with_reducible refine (spec_l1Cur_numberIn.calls gb1621 l0 t1625 t1626 _ _ t1622 t1628 t1629 t1630 w _ ?side1 ?side2 ?side3 ?side4 A3.out).mono ?_
 (case side1 => repeat (((with_reducible (exact HI1621.out)))))
 (case side2 => repeat (((with_reducible (exact HB.out)))))
 (case side3 => exact Kd.C_foot_own ((Kd.S_R (IsS112.apartS (show IsS112 w _ gb1621 l0 t1625 t1626 from by repeat (((with_reducible (exact HI1621.out))))) (by exact HO1624.out) (by decide)))) (fun _ h_ => h_.2))
 (case side4 => exact (Kd.S_reads' HO1624.out).2.1)
 rintro e w14 ⟨rfl,hi,hb,hk⟩
 refine ⟨_,rfl,?_⟩
 have n0_:=Aside0.mk (KeepBut.blk hk (g':=gb1620) (o:=.cells #[.slice none 0 0] 42 (0,0)) (by exact BK1620.out) NB1620_1621.out (by simp))
 have n1_:=Aside0.mk (Kd.S_mono (Kd.S_keep (IsS112.apartS (show IsS112 w _ gb1621 l0 t1625 t1626 from by repeat (((with_reducible (exact HI1621.out))))) (by exact HO1624.out) (by decide)) hk (fun _ h => h.2)) (fun _ h => h.1))
 have n2_:=Aside0.mk (KeepBut.blk hk (g':=gb1627) (o:=.cells #[.slice Ao8 t1622.length co8] 42 (0,0)) (by exact BK1627.out) NB1627_1621.out (by simp))
 have n3_:=Aside0.mk (hb)
 have n4_:=Aside0.mk (hi)
 clear BK1620
 clear HO1624
 clear BK1627
 clear HB
 clear HI1621
 have BK1620:=n0_
 have HO1624:=n1_
 have BK1627:=n2_
 have HB:=n3_
 have HI1621:=n4_
 clear n0_ n1_ n2_ n3_ n4_
 (try clear hb)
 (try clear hb2)
 (try clear hk)
 (try clear hi)
 refine hK.out _ _ ((blk_cell BK1627.out 0).trans rfl) (fun hHeld => ?_)
 clear hK K
 refine norm_ (a':=?_) ?_ ?_
 rotate_left
 ·show Act.put _ (some 14) _ = _
  simp only [Act.put,List.setIfInBounds_toArray,List.set_cons_zero,List.set_cons_succ,i64_w,i32_w]
  rfl
 refine one_ (i:=4) (N:=none) #[true,true,true,true,true,false] rfl rfl (by kernel_rfl) (by decide) (fun K hK => ?_)
 have hs15 : w14.cell? ⟨gb1620,0,none⟩ = some (.slice none 0 0):=(blk_cell BK1620.out 0).trans rfl
 have hfs15:=blk_frozen BK1620.out 0
 have hns15_1:=NB1627_1620.out
 have hms15_1:=NB1620_1627.out
 refine skip_ (w1:=?_) (by rfl) rfl ?_ ?_
 rotate_left
 ·go_simp
  rfl
 refine hK.out _ _ (((cell_far (p:=⟨gb1620,_,none⟩) NB1627_1620.out _).trans (hHeld))) (fun hHeld => ?_)
 clear hK K
 refine pure_ (i:=5) (N:=some 3) (v:=?_) (a':=?_) #[true,true,true,true,true,true] rfl rfl (by kernel_rfl) (fun _ _ _ h => h) (Or.inl ⟨by rfl,?_⟩) ?_ ?_
 rotate_left
 ·intro w'
  go_simp
  with_reducible rfl
 rotate_left
 ·simp only [Act.put,List.setIfInBounds_toArray,List.set_cons_zero,List.set_cons_succ,i64_w,i32_w]
  rfl
 refine done_ (by kernel_rfl) ?_
 try go_wp2
 refine bodyPost_ret (results_ct rfl _ _ gb1620 42 #[.slice Ao8 t1622.length co8] (0,0) _ rfl (by refine blk_put (cs:=#[.slice none 0 0]) ?_ 0 _ rfl; exact BK1620.out) Try.underlying42 rfl (by kernel_rfl)) rfl ?_
 exact ⟨_,by (rfl),by exact Kd.S_mono (Kd.S_far (p:=⟨gb1620,0,none⟩) (Kd.S_types HO1624.out BK1620.out (by decide)) (fun _ hk => hk.2) (.slice Ao8 t1622.length co8)) (fun _ hk => trivial),by repeat (with_reducible first|exact HB.out|refine below_set ?_ GE1620.out)⟩

end Go.Proofs.Ytlldonokjgoajaa.X
