-- Written by a program of ours (wip/bin/xprint.py,over the kit's print.py) out of the translation. Not trusted: Lean checks it.
import Derived.Test.YtlldonokjgoajaaX0
import Derived.Test.YtlldonokjgoajaaFbCur
import Derived.Test.YtlldonokjgoajaaFspecl1CuranyYard
namespace Go.Proofs.Ytlldonokjgoajaa.X
open Go.RowKit Go.Proofs.YtlldonokjgoajaaW.PrintWords Go.Proofs.YtlldonokjgoajaaW.PrintLast Go.Proofs.YtlldonokjgoajaaW.PrintMore
attribute [local go_sem] max2_int min2_int max_two min_two max_three min_three max_four min_four   -- for this text's walks alone
set_option linter.unusedVariables false
set_option linter.unusedSimpArgs false

/-! ### spec_DrawMoveTop: function 86 -/
def spec_DrawMoveTop.f (k : Nat) (l0 : List Int) : Option ((List (List Int)) × Int × Int):=(spec_l1Cur_anyYard.f k l0 0 0).bind fun bt1606 => ((spec_l1Cur_pick.f l0 bt1606.2.1 bt1606.2.2 5).bind fun bt1611 => ((spec_l1Cur_pick.f l0 bt1611.2.1 bt1611.2.2 9).bind fun bt1614 => ((spec_l1Cur_pick.f l0 bt1614.2.1 bt1614.2.2 4).bind fun bt1617 => (some (bt1606.1,wrap64 (bt1611.1 - (wrap64 (Int.tdiv bt1614.1 8))),bt1617.1)))))
theorem spec_DrawMoveTop.mono : ∀ a0 k,LeO (spec_DrawMoveTop.f k a0) (spec_DrawMoveTop.f (k + 1) a0):=by
 intro a0 k
 unfold spec_DrawMoveTop.f
 repeat' first
   | (with_reducible exact spec_l1Cur_anyYard.mono _ _ _ _)
   | (with_reducible exact LeO.refl _)
   | (with_reducible exact LeO.none _)
   | (with_reducible refine LeO.ite ?_ ?_)
   | (with_reducible refine LeO.bind ?_ (fun _ => ?_))
   | exact spec_l1Cur_anyYard.mono _ _ _ _
   | exact LeO.none _
   | refine LeO.ite ?_ ?_
   | refine LeO.bind ?_ (fun _ => ?_)
set_option maxHeartbeats 8000000 in
set_option maxRecDepth 100000 in
theorem spec_DrawMoveTop.calls (k : Nat) (A0 : Option Addr) (c0 : Nat) (l0 : List Int) (r1 : List (List Int)) (r2 : Int) (r3 : Int) (w : World) (hr0 : Kd.C (Kd.int .u8) w A0 l0.length l0) (hc0 : l0.length ≤ c0) (h : spec_DrawMoveTop.f k l0 = some (r1,r2,r3)) :
  Calls Try.prog 86 #[.slice A0 l0.length c0] w fun e w' => ∃ v0_ : Value,e = .returned (.tuple #[.agg #[v0_],.int .i64 r2,.int .i64 r3]) ∧ Kd.S (Kd.slice 3 (Kd.int .i64)) 24 w' w.heap.size (fun _ => True) v0_ r1 ∧ Below w.heap.size w w':=by
 have hu42:=Try.underlying42
 have hu112:=Try.underlying112
 have HR0:=Aside0.mk hr0
 have HC0:=Aside0.mk hc0
 clear hr0 hc0
 have HB:=Aside0.mk (Below.refl w.heap.size w)
 have H : ((spec_l1Cur_anyYard.f k l0 0 0).bind fun bt1606 => ((spec_l1Cur_pick.f l0 bt1606.2.1 bt1606.2.2 5).bind fun bt1611 => ((spec_l1Cur_pick.f l0 bt1611.2.1 bt1611.2.2 9).bind fun bt1614 => ((spec_l1Cur_pick.f l0 bt1614.2.1 bt1614.2.2 4).bind fun bt1617 => (some (bt1606.1,wrap64 (bt1611.1 - (wrap64 (Int.tdiv bt1614.1 8))),bt1617.1)))))) = some (r1,r2,r3):=h
 clear h
 replace H:=Option.bind_eq_some_iff.mp H
 obtain ⟨⟨t1606,t1609,t1610⟩,A20,H⟩:=H
 replace H : ((spec_l1Cur_pick.f l0 t1609 t1610 5).bind fun bt1611 => ((spec_l1Cur_pick.f l0 bt1611.2.1 bt1611.2.2 9).bind fun bt1614 => ((spec_l1Cur_pick.f l0 bt1614.2.1 bt1614.2.2 4).bind fun bt1617 => (some (t1606,wrap64 (bt1611.1 - (wrap64 (Int.tdiv bt1614.1 8))),bt1617.1))))) = some (r1,r2,r3):=H
 have A2:=Aside0.mk A20
 clear A20
 replace H:=Option.bind_eq_some_iff.mp H
 obtain ⟨⟨t1611,t1612,t1613⟩,A30,H⟩:=H
 replace H : ((spec_l1Cur_pick.f l0 t1612 t1613 9).bind fun bt1614 => ((spec_l1Cur_pick.f l0 bt1614.2.1 bt1614.2.2 4).bind fun bt1617 => (some (t1606,wrap64 (t1611 - (wrap64 (Int.tdiv bt1614.1 8))),bt1617.1)))) = some (r1,r2,r3):=H
 have A3:=Aside0.mk A30
 clear A30
 replace H:=Option.bind_eq_some_iff.mp H
 obtain ⟨⟨t1614,t1615,t1616⟩,A40,H⟩:=H
 replace H : ((spec_l1Cur_pick.f l0 t1615 t1616 4).bind fun bt1617 => (some (t1606,wrap64 (t1611 - (wrap64 (Int.tdiv t1614 8))),bt1617.1))) = some (r1,r2,r3):=H
 have A4:=Aside0.mk A40
 clear A40
 replace H:=Option.bind_eq_some_iff.mp H
 obtain ⟨⟨t1617,t1618,t1619⟩,A50,H⟩:=H
 replace H : (some (t1606,wrap64 (t1611 - (wrap64 (Int.tdiv t1614 8))),t1617)) = some (r1,r2,r3):=H
 have A5:=Aside0.mk A50
 clear A50
 simp only [Option.some.injEq,Prod.mk.injEq] at H
 obtain ⟨rfl,rfl,rfl⟩:=H
 go_enter Try.func86,Try.ntmps86
 go_wp2_with (first|((with_reducible refine gate_dst (N:=2) rfl ?_); refine box_event ?hg (N:=2) ?hd (cs:=#[.slice none 0 0]) (t:=42) ?hr ?_; (case hd => rfl); (case hg => rfl); (case hr => (go_simp; done)); intro gb1604 hg w6 hbox hb; have n0_:=Aside0.mk (below_step (by repeat (((with_reducible (exact HB.out))))) hb); have n1_:=Aside0.mk (hbox); have n2_:=Aside0.mk ((by rw [hg]; exact (below_size (by repeat (((with_reducible (exact HB.out)))))) : w.heap.size ≤ gb1604)); have n3_:=Aside0.mk ((by rw [hg]; exact (below_size (by repeat (((with_reducible (exact HB.out)))))) : w.heap.size ≤ gb1604)); clear HB; have HB:=n0_; have BK1604:=n1_; have GW1604:=n2_; have GE1604:=n3_; clear n0_ n1_ n2_ n3_; clear hb hbox hg)|((with_reducible refine gate_dst (N:=8) rfl ?_); refine box_event ?hg (N:=8) ?hd (cs:=#[.slice A0 l0.length c0,.int .i64 0,.int .u64 0]) (t:=112) ?hr ?_; (case hd => rfl); (case hg => rfl); (case hr => (go_simp; done)); intro gb1605 hg w7 hbox hb; have n0_:=Aside0.mk (blk_below (g:=gb1604) (o:=.cells #[.slice none 0 0] 42 (0,0)) (by exact BK1604.out) hb); have n1_:=Aside0.mk (below_step (by repeat (((with_reducible (exact HB.out))))) hb); have n2_:=Aside0.mk ((show IsS112 w w7 gb1605 l0 0 0 from ⟨_,_,hbox,(by rw [hg]; exact (below_size (by repeat (((with_reducible (exact HB.out))))))),HR0.out⟩)); have n3_:=Aside0.mk ((by rw [hg]; exact Nat.ne_of_lt (blk_lt (g:=gb1604) (o:=.cells #[.slice none 0 0] 42 (0,0)) (by exact BK1604.out)) : gb1604 ≠ gb1605)); have n4_:=Aside0.mk ((by rw [hg]; exact Nat.ne_of_gt (blk_lt (g:=gb1604) (o:=.cells #[.slice none 0 0] 42 (0,0)) (by exact BK1604.out)) : gb1605 ≠ gb1604)); clear BK1604; clear HB; have BK1604:=n0_; have HB:=n1_; have HI1605:=n2_; have NB1604_1605:=n3_; have NB1605_1604:=n4_; clear n0_ n1_ n2_ n3_ n4_; clear hb hbox hg)|((with_reducible refine gate_callee (f:=113) rfl ?_); refine goesL_ (some 10) rfl rfl Try.func113 (by kernel_rfl) rfl #[.pointer (some ⟨gb1605,0,none⟩)] rfl (by (try simp only [List.map_toArray,List.map_cons,List.map_nil]); (rfl)) ?_; (with_reducible refine (spec_l1Cur_anyYard.calls k gb1605 l0 0 0 t1606 t1609 t1610 w _ ?side1 ?side2 A2.out).mono ?_); (case side1 => repeat (((with_reducible (exact HI1605.out))))); (case side2 => repeat (((with_reducible (exact HB.out))))); rintro e w8 ⟨v1607,rfl,ho0,hi,hb,hk⟩; refine ⟨_,rfl,?_⟩; have n0_:=Aside0.mk (KeepBut.blk hk (g':=gb1604) (o:=.cells #[.slice none 0 0] 42 (0,0)) (by exact BK1604.out) NB1604_1605.out (by simp)); have n1_:=Aside0.mk (Kd.S_lower ho0 (below_size (by repeat (((with_reducible (exact HB.out))))))); have n2_:=Aside0.mk (hb); have n3_:=Aside0.mk (hi); clear BK1604; clear HB; clear HI1605; have BK1604:=n0_; have HO1608:=n1_; have HB:=n2_; have HI1605:=n3_; clear n0_ n1_ n2_ n3_; (try clear hb); (try clear hb2); (try clear hk); (try clear hi); (try clear ho0))|((with_reducible refine gate_callee (f:=97) rfl ?_); refine goesL_ (some 12) rfl rfl Try.func97 (by kernel_rfl) rfl #[.pointer (some ⟨gb1605,0,none⟩),.int .i64 5] rfl (by (try simp only [List.map_toArray,List.map_cons,List.map_nil]); (rfl)) ?_; (with_reducible refine (spec_l1Cur_pick.calls gb1605 l0 t1609 t1610 5 t1611 t1612 t1613 w _ ?side1 ?side2 A3.out).mono ?_); (case side1 => repeat (((with_reducible (exact HI1605.out))))); (case side2 => repeat (((with_reducible (exact HB.out))))); rintro e w9 ⟨rfl,hi,hb,hk⟩; refine ⟨_,rfl,?_⟩; have n0_:=Aside0.mk (KeepBut.blk hk (g':=gb1604) (o:=.cells #[.slice none 0 0] 42 (0,0)) (by exact BK1604.out) NB1604_1605.out (by simp)); have n1_:=Aside0.mk (Kd.S_mono (Kd.S_keep (IsS112.apartS (show IsS112 w _ gb1605 l0 t1609 t1610 from by repeat (((with_reducible (exact HI1605.out))))) (by exact HO1608.out) (by decide)) hk (fun _ h => h.2)) (fun _ h => h.1)); have n2_:=Aside0.mk (hb); have n3_:=Aside0.mk (hi); clear BK1604; clear HO1608; clear HB; clear HI1605; have BK1604:=n0_; have HO1608:=n1_; have HB:=n2_; have HI1605:=n3_; clear n0_ n1_ n2_ n3_; (try clear hb); (try clear hb2); (try clear hk); (try clear hi))|((with_reducible refine gate_callee (f:=97) rfl ?_); refine goesL_ (some 14) rfl rfl Try.func97 (by kernel_rfl) rfl #[.pointer (some ⟨gb1605,0,none⟩),.int .i64 9] rfl (by (try simp only [List.map_toArray,List.map_cons,List.map_nil]); (rfl)) ?_; (with_reducible refine (spec_l1Cur_pick.calls gb1605 l0 t1612 t1613 9 t1614 t1615 t1616 w _ ?side1 ?side2 A4.out).mono ?_); (case side1 => repeat (((with_reducible (exact HI1605.out))))); (case side2 => repeat (((with_reducible (exact HB.out))))); rintro e w10 ⟨rfl,hi,hb,hk⟩; refine ⟨_,rfl,?_⟩; have n0_:=Aside0.mk (KeepBut.blk hk (g':=gb1604) (o:=.cells #[.slice none 0 0] 42 (0,0)) (by exact BK1604.out) NB1604_1605.out (by simp)); have n1_:=Aside0.mk (Kd.S_mono (Kd.S_keep (IsS112.apartS (show IsS112 w _ gb1605 l0 t1612 t1613 from by repeat (((with_reducible (exact HI1605.out))))) (by exact HO1608.out) (by decide)) hk (fun _ h => h.2)) (fun _ h => h.1)); have n2_:=Aside0.mk (hb); have n3_:=Aside0.mk (hi); clear BK1604; clear HO1608; clear HB; clear HI1605; have BK1604:=n0_; have HO1608:=n1_; have HB:=n2_; have HI1605:=n3_; clear n0_ n1_ n2_ n3_; (try clear hb); (try clear hb2); (try clear hk); (try clear hi))|((with_reducible refine gate_callee (f:=97) rfl ?_); refine goesL_ (some 18) rfl rfl Try.func97 (by kernel_rfl) rfl #[.pointer (some ⟨gb1605,0,none⟩),.int .i64 4] rfl (by (try simp only [List.map_toArray,List.map_cons,List.map_nil]); (rfl)) ?_; (with_reducible refine (spec_l1Cur_pick.calls gb1605 l0 t1615 t1616 4 t1617 t1618 t1619 w _ ?side1 ?side2 A5.out).mono ?_); (case side1 => repeat (((with_reducible (exact HI1605.out))))); (case side2 => repeat (((with_reducible (exact HB.out))))); rintro e w11 ⟨rfl,hi,hb,hk⟩; refine ⟨_,rfl,?_⟩; have n0_:=Aside0.mk (KeepBut.blk hk (g':=gb1604) (o:=.cells #[.slice none 0 0] 42 (0,0)) (by exact BK1604.out) NB1604_1605.out (by simp)); have n1_:=Aside0.mk (Kd.S_mono (Kd.S_keep (IsS112.apartS (show IsS112 w _ gb1605 l0 t1615 t1616 from by repeat (((with_reducible (exact HI1605.out))))) (by exact HO1608.out) (by decide)) hk (fun _ h => h.2)) (fun _ h => h.1)); have n2_:=Aside0.mk (hb); have n3_:=Aside0.mk (hi); clear BK1604; clear HO1608; clear HB; clear HI1605; have BK1604:=n0_; have HO1608:=n1_; have HB:=n2_; have HI1605:=n3_; clear n0_ n1_ n2_ n3_; (try clear hb); (try clear hb2); (try clear hk); (try clear hi); obtain ⟨Ao12,co12,eo12⟩:=Kd.S_slice HO1608.out; subst eo12; have hnb13:=NB1604_1605.out; have hnc13:=NB1605_1604.out; have hcz14_0 : w11.cell? ⟨gb1604,0,none⟩ = some (.slice none 0 0):=(blk_cell BK1604.out 0).trans rfl; have hfz14_0:=blk_frozen BK1604.out 0))
 refine bodyPost_ret (results_ctt rfl _ _ gb1604 42 #[.slice Ao12 t1606.length co12] (0,0) _ rfl (by refine blk_put (cs:=#[.slice none 0 0]) ?_ 0 _ rfl; exact BK1604.out) Try.underlying42 rfl (by kernel_rfl)) rfl ?_
 exact ⟨_,by (rfl),by exact Kd.S_mono (Kd.S_far (p:=⟨gb1604,0,none⟩) (Kd.S_types HO1608.out BK1604.out (by decide)) (fun _ hk => hk.2) (.slice Ao12 t1606.length co12)) (fun _ hk => trivial),by repeat (with_reducible first|exact HB.out|refine below_set ?_ GE1604.out)⟩

end Go.Proofs.Ytlldonokjgoajaa.X
