-- Written by a program of ours (wip/bin/xprint.py,over the kit's print.py) out of the translation. Not trusted: Lean checks it.
import Derived.Test.YtlldonokjgoajaaX0
import Derived.Test.YtlldonokjgoajaaFbYard
namespace Go.Proofs.Ytlldonokjgoajaa.X
open Go.RowKit Go.Proofs.YtlldonokjgoajaaW.PrintWords Go.Proofs.YtlldonokjgoajaaW.PrintLast Go.Proofs.YtlldonokjgoajaaW.PrintMore
def lb3ab : Nat → Nat → List Bool
 | 0,_ => []
 | n+1,m => (m%2==1) :: lb3ab n (m/2)
def b3ab (n m : Nat) : Array Bool := ⟨lb3ab n m⟩
attribute [local go_sem] max2_int min2_int max_two min_two max_three min_three max_four min_four   -- for this text's walks alone
set_option linter.unusedVariables false
set_option linter.unusedSimpArgs false

/-! ### spec_PutBox: function 38 -/
def spec_PutBox.f (k : Nat) (l0_0 : List (List Int)) (a1 : Int) (a2 : Int) : Option ((List (List Int)) × Bool):=(spec_l5Stack.f k l0_0 a1).bind fun t656 => (if t656 = true then ((spec_l5Own.f k l0_0).bind fun t657 => (if 0 ≤ a1 then (if a1 < (t657.length : Int) then (if (rd_L2 t657 a1).length < 17592186044416 then ((some (t657.set (a1 : Int).toNat ((rd_L2 t657 a1) ++ [a2]) : List (List Int))).bind fun y665 => ((spec_l5Good.f k y665).bind fun t666 => (if t666 = true then (some (y665,true)) else (some (([] : List (List Int)),false))))) else (none)) else (none)) else (none))) else (some (([] : List (List Int)),false)))
theorem spec_PutBox.mono : ∀ a0 a1 a2 k,LeO (spec_PutBox.f k a0 a1 a2) (spec_PutBox.f (k + 1) a0 a1 a2):=by
 intro a0 a1 a2 k
 unfold spec_PutBox.f
 repeat' first
   | (with_reducible exact spec_l5Good.mono _ _)
   | (with_reducible exact spec_l5Own.mono _ _)
   | (with_reducible exact spec_l5Stack.mono _ _ _)
   | (with_reducible exact LeO.refl _)
   | (with_reducible exact LeO.none _)
   | (with_reducible refine LeO.ite ?_ ?_)
   | (with_reducible refine LeO.bind ?_ (fun _ => ?_))
   | exact spec_l5Good.mono _ _
   | exact spec_l5Own.mono _ _
   | exact spec_l5Stack.mono _ _ _
   | exact LeO.none _
   | refine LeO.ite ?_ ?_
   | refine LeO.bind ?_ (fun _ => ?_)
def spec_PutBox.T4 : Bool × List (List Nat × List Nat):=(true,[([],[]),([0],[0]),([],[]),([],[]),([3],[3]),([],[]),([4,5],[4,5]),([6],[6]),([],[]),([8],[8]),([7,9],[7,9]),([1,2,0,1,2,3,4,5,6,7,8,9,10],[1,2]),([11,10,10,0,1,2,3,4,5,6,7,8,9,10],[10,11])])
def spec_PutBox.B4 : List Nat:=[0,1,0,0,8,0,56,120,0,256,1016,2047,4095]
theorem spec_PutBox.tab4 : rtab .any (opsOf Try.f38 4) = spec_PutBox.T4:=by kernel_rfl
theorem spec_PutBox.bits4 : waitsOk spec_PutBox.T4.2 spec_PutBox.B4 = true:=by kernel_rfl
set_option maxHeartbeats 8000000 in
set_option maxRecDepth 100000 in
theorem spec_PutBox.calls (k : Nat) (A0_0 : Option Addr) (c0_0 : Nat) (l0_0 : List (List Int)) (a1 : Int) (a2 : Int) (r1 : List (List Int)) (r2 : Bool) (w : World) (hr0_0 : Kd.C (Kd.slice 3 (Kd.int .i64)) w A0_0 l0_0.length l0_0) (hc0_0 : l0_0.length ≤ c0_0) (h : spec_PutBox.f k l0_0 a1 a2 = some (r1,r2)) :
  Calls Try.prog 38 #[.agg #[.slice A0_0 l0_0.length c0_0],.int .i64 a1,.int .i64 a2] w fun e w' => ∃ v0_ : Value,e = .returned (.tuple #[.agg #[v0_],.bool r2]) ∧ Kd.S (Kd.slice 3 (Kd.int .i64)) 24 w' w.heap.size (fun _ => True) v0_ r1 ∧ Below w.heap.size w w':=by
 have hu42:=Try.underlying42
 have HR0_0:=Aside0.mk hr0_0
 have HC0_0:=Aside0.mk hc0_0
 clear hr0_0 hc0_0
 have HB:=Aside0.mk (Below.refl w.heap.size w)
 have H : ((spec_l5Stack.f k l0_0 a1).bind fun t656 => (if t656 = true then ((spec_l5Own.f k l0_0).bind fun t657 => (if 0 ≤ a1 then (if a1 < (t657.length : Int) then (if (rd_L2 t657 a1).length < 17592186044416 then ((some (t657.set (a1 : Int).toNat ((rd_L2 t657 a1) ++ [a2]) : List (List Int))).bind fun y665 => ((spec_l5Good.f k y665).bind fun t666 => (if t666 = true then (some (y665,true)) else (some (([] : List (List Int)),false))))) else (none)) else (none)) else (none))) else (some (([] : List (List Int)),false)))) = some (r1,r2):=h
 clear h
 replace H:=Option.bind_eq_some_iff.mp H
 obtain ⟨t656,A40,H⟩:=H
 replace H : (if t656 = true then ((spec_l5Own.f k l0_0).bind fun t657 => (if 0 ≤ a1 then (if a1 < (t657.length : Int) then (if (rd_L2 t657 a1).length < 17592186044416 then ((some (t657.set (a1 : Int).toNat ((rd_L2 t657 a1) ++ [a2]) : List (List Int))).bind fun y665 => ((spec_l5Good.f k y665).bind fun t666 => (if t666 = true then (some (y665,true)) else (some (([] : List (List Int)),false))))) else (none)) else (none)) else (none))) else (some (([] : List (List Int)),false))) = some (r1,r2):=H
 have A4:=Aside0.mk A40
 clear A40
 by_cases c5 : t656 = true
 ·subst c5
  have H1 : ((spec_l5Own.f k l0_0).bind fun t657 => (if 0 ≤ a1 then (if a1 < (t657.length : Int) then (if (rd_L2 t657 a1).length < 17592186044416 then ((some (t657.set (a1 : Int).toNat ((rd_L2 t657 a1) ++ [a2]) : List (List Int))).bind fun y665 => ((spec_l5Good.f k y665).bind fun t666 => (if t666 = true then (some (y665,true)) else (some (([] : List (List Int)),false))))) else (none)) else (none)) else (none))) = some (r1,r2):=by rw [if_pos rfl] at H; exact H
  clear H
  have H:=H1
  clear H1
  replace H:=Option.bind_eq_some_iff.mp H
  obtain ⟨t657,A60,H⟩:=H
  replace H : (if 0 ≤ a1 then (if a1 < (t657.length : Int) then (if (rd_L2 t657 a1).length < 17592186044416 then ((some (t657.set (a1 : Int).toNat ((rd_L2 t657 a1) ++ [a2]) : List (List Int))).bind fun y665 => ((spec_l5Good.f k y665).bind fun t666 => (if t666 = true then (some (y665,true)) else (some (([] : List (List Int)),false))))) else (none)) else (none)) else (none)) = some (r1,r2):=H
  have A6:=Aside0.mk A60
  clear A60
  by_cases c7 : 0 ≤ a1
  ·rw [if_pos c7] at H
   have c7b0 : decide (0 ≤ a1) = true:=decide_eq_true c7
   clear c7
   by_cases c8 : a1 < (t657.length : Int)
   ·rw [if_pos c8] at H
    have c8b0 : decide (a1 < (t657.length : Int)) = true:=decide_eq_true c8
    clear c8
    by_cases c9 : (rd_L2 t657 a1).length < 17592186044416
    ·rw [if_pos c9] at H
     have LMc9:=Aside0.mk c9
     clear c9
     obtain ⟨y662,hy662⟩ : ∃ y_ : List Int,y_ = ((rd_L2 t657 a1) ++ [a2]):=⟨_,rfl⟩
     replace H : ((some (t657.set (a1 : Int).toNat y662 : List (List Int))).bind fun y665 => ((spec_l5Good.f k y665).bind fun t666 => (if t666 = true then (some (y665,true)) else (some (([] : List (List Int)),false))))) = some (r1,r2):=by first|(rw [hy662]; with_reducible exact H)|(have H2_:=(Option.bind_some _ _).symm.trans H; rw [hy662]; with_reducible exact H2_)|(have H2_:=(Option.bind_some _ _).symm.trans H; with_reducible exact H2_)|with_reducible exact H|(rw [hy662]; exact H)|exact H
     have Ny662:=Aside0.mk hy662
     clear hy662
     obtain ⟨y665,hy665⟩ : ∃ y_ : List (List Int),y_ = (t657.set (a1 : Int).toNat y662):=⟨_,rfl⟩
     replace H : ((spec_l5Good.f k y665).bind fun t666 => (if t666 = true then (some (y665,true)) else (some (([] : List (List Int)),false)))) = some (r1,r2):=by first|(rw [hy665]; with_reducible exact H)|(have H2_:=(Option.bind_some _ _).symm.trans H; rw [hy665]; with_reducible exact H2_)|(have H2_:=(Option.bind_some _ _).symm.trans H; with_reducible exact H2_)|with_reducible exact H|(rw [hy665]; exact H)|exact H
     have Ny665:=Aside0.mk hy665
     clear hy665
     replace H:=Option.bind_eq_some_iff.mp H
     obtain ⟨t666,A110,H⟩:=H
     replace H : (if t666 = true then (some (y665,true)) else (some (([] : List (List Int)),false))) = some (r1,r2):=H
     have A11:=Aside0.mk A110
     clear A110
     by_cases c12 : t666 = true
     ·subst c12
      have H1 : (some (y665,true)) = some (r1,r2):=by rw [if_pos rfl] at H; exact H
      clear H
      have H:=H1
      clear H1
      simp only [Option.some.injEq,Prod.mk.injEq] at H
      obtain ⟨rfl,rfl⟩:=H
      go_enter Try.func38,Try.ntmps38
      try go_wp2_with (first|((with_reducible refine gate_dst (N:=3) rfl ?_); refine box_event ?hg (N:=3) ?hd (cs:=#[.slice A0_0 l0_0.length c0_0]) (t:=42) ?hr ?_; (case hd => rfl); (case hg => rfl); (case hr => first|(go_simp; done)|(go_simp; rfl)); intro gb654 hg w13 hbox hb; have n0_:=Aside0.mk (below_step (by repeat (first|(with_reducible first|exact HB.out|apply below_alloc|apply pw_below_drewN|apply below_drew1)|exact HB.out)) hb); have n1_:=Aside0.mk (hbox); have n2_:=Aside0.mk ((by rw [hg]; exact (below_size (by repeat (first|(with_reducible first|exact HB.out|apply below_alloc|apply pw_below_drewN|apply below_drew1)|exact HB.out))) : w.heap.size ≤ gb654)); have n3_:=Aside0.mk ((by rw [hg]; exact (below_size (by repeat (first|(with_reducible first|exact HB.out|apply below_alloc|apply pw_below_drewN|apply below_drew1)|exact HB.out))) : w.heap.size ≤ gb654)); clear HB; have HB:=n0_; have BK654:=n1_; have GW654:=n2_; have GE654:=n3_; clear n0_ n1_ n2_ n3_; clear hb hbox hg)|((with_reducible refine gate_dst (N:=6) rfl ?_); refine box_event ?hg (N:=6) ?hd (cs:=#[.slice none 0 0]) (t:=42) ?hr ?_; (case hd => rfl); (case hg => rfl); (case hr => first|(go_simp; done)|(go_simp; rfl)); intro gb655 hg w14 hbox hb; have n0_:=Aside0.mk (blk_below (g:=gb654) (o:=.cells #[.slice A0_0 l0_0.length c0_0] 42 (0,0)) (by (with_reducible repeat (first|refine blk_drewN ?_ _|refine blk_drew ?_|refine blk_alloc ?_ _)); exact BK654.out) hb); have n1_:=Aside0.mk (below_step (by repeat (first|(with_reducible first|exact HB.out|apply below_alloc|apply pw_below_drewN|apply below_drew1|refine below_set ?_ GE654.out)|exact HB.out)) hb); have n2_:=Aside0.mk (hbox); have n3_:=Aside0.mk ((by rw [hg]; exact (below_size (by repeat (first|(with_reducible first|exact HB.out|apply below_alloc|apply pw_below_drewN|apply below_drew1|refine below_set ?_ GE654.out)|exact HB.out))) : w.heap.size ≤ gb655)); have n4_:=Aside0.mk ((by rw [hg]; exact (below_size (by repeat (first|(with_reducible first|exact HB.out|apply below_alloc|apply pw_below_drewN|apply below_drew1|refine below_set ?_ GE654.out)|exact HB.out))) : w.heap.size ≤ gb655)); have n5_:=Aside0.mk ((by rw [hg]; exact Nat.ne_of_lt (blk_lt (g:=gb654) (o:=.cells #[.slice A0_0 l0_0.length c0_0] 42 (0,0)) (by (with_reducible repeat (first|refine blk_drewN ?_ _|refine blk_drew ?_|refine blk_alloc ?_ _)); exact BK654.out)) : gb654 ≠ gb655)); have n6_:=Aside0.mk ((by rw [hg]; exact Nat.ne_of_gt (blk_lt (g:=gb654) (o:=.cells #[.slice A0_0 l0_0.length c0_0] 42 (0,0)) (by (with_reducible repeat (first|refine blk_drewN ?_ _|refine blk_drew ?_|refine blk_alloc ?_ _)); exact BK654.out)) : gb655 ≠ gb654)); clear BK654; clear HB; have BK654:=n0_; have HB:=n1_; have BK655:=n2_; have GW655:=n3_; have GE655:=n4_; have NB654_655:=n5_; have NB655_654:=n6_; clear n0_ n1_ n2_ n3_ n4_ n5_ n6_; clear hb hbox hg; have hnb15:=NB654_655.out; have hnc15:=NB655_654.out; have hcz16_0 : w14.cell? ⟨gb654,0,none⟩ = some (.slice A0_0 l0_0.length c0_0):=(blk_cell BK654.out 0).trans rfl; have hfz16_0:=blk_frozen BK654.out 0)|((with_reducible refine gate_callee (f:=104) rfl ?_); refine goesL_ (some 11) rfl rfl Try.func104 (by kernel_rfl) rfl #[.agg #[.slice A0_0 l0_0.length c0_0],.int .i64 a1] rfl (by (try simp only [List.map_toArray,List.map_cons,List.map_nil]); first|done|rfl|(simp only [List.length_drop,List.length_take]; rfl)) ?_; (with_reducible refine (spec_l5Stack.calls k _ _ l0_0 a1 true _ ?side1 ?side2 A4.out).mono ?_); (case side1 => repeat (first|exact (Kd.C_below HR0_0.out HB.out)|(with_reducible refine Kd.C_alloc ?_ _)|(with_reducible refine Kd.C_drewN ?_ _)|(with_reducible refine Kd.C_drew ?_))); (case side2 => exact HC0_0.out); rintro e w17 ⟨rfl,hb⟩; refine ⟨_,rfl,?_⟩; have n0_:=Aside0.mk (blk_below (g:=gb654) (o:=.cells #[.slice A0_0 l0_0.length c0_0] 42 (0,0)) (by (with_reducible repeat (first|refine blk_drewN ?_ _|refine blk_drew ?_|refine blk_alloc ?_ _)); exact BK654.out) hb); have n1_:=Aside0.mk (blk_below (g:=gb655) (o:=.cells #[.slice none 0 0] 42 (0,0)) (by (with_reducible repeat (first|refine blk_drewN ?_ _|refine blk_drew ?_|refine blk_alloc ?_ _)); exact BK655.out) hb); have n2_:=Aside0.mk (below_step (by repeat (first|(with_reducible first|exact HB.out|apply below_alloc|apply pw_below_drewN|apply below_drew1|refine below_set ?_ GE654.out|refine below_set ?_ GE655.out)|exact HB.out)) hb); clear BK654; clear BK655; clear HB; have BK654:=n0_; have BK655:=n1_; have HB:=n2_; clear n0_ n1_ n2_; (try clear hb); (try clear hb2); (try clear hk); (try clear hi); have hcz18_0 : w17.cell? ⟨gb654,0,none⟩ = some (.slice A0_0 l0_0.length c0_0):=(blk_cell BK654.out 0).trans rfl; have hfz18_0:=blk_frozen BK654.out 0)|((with_reducible refine gate_callee (f:=115) rfl ?_); refine goesL_ (some 15) rfl rfl Try.func115 (by kernel_rfl) rfl #[.agg #[.slice A0_0 l0_0.length c0_0]] rfl (by (try simp only [List.map_toArray,List.map_cons,List.map_nil]); first|done|rfl|(simp only [List.length_drop,List.length_take]; rfl)) ?_; (with_reducible refine (spec_l5Own.calls k _ _ l0_0 t657 _ ?side1 ?side2 A6.out).mono ?_); (case side1 => repeat (first|exact (Kd.C_below HR0_0.out HB.out)|(with_reducible refine Kd.C_alloc ?_ _)|(with_reducible refine Kd.C_drewN ?_ _)|(with_reducible refine Kd.C_drew ?_))); (case side2 => exact HC0_0.out); rintro e w19 ⟨v658,rfl,ho0,hb⟩; refine ⟨_,rfl,?_⟩; have n0_:=Aside0.mk (Kd.S_lower ho0 (below_size (by repeat (first|(with_reducible first|exact HB.out|apply below_alloc|apply pw_below_drewN|apply below_drew1|refine below_set ?_ GE654.out|refine below_set ?_ GE655.out)|exact HB.out)))); have n1_:=Aside0.mk (blk_below (g:=gb654) (o:=.cells #[.slice A0_0 l0_0.length c0_0] 42 (0,0)) (by (with_reducible repeat (first|refine blk_drewN ?_ _|refine blk_drew ?_|refine blk_alloc ?_ _)); exact BK654.out) hb); have n2_:=Aside0.mk (blk_below (g:=gb655) (o:=.cells #[.slice none 0 0] 42 (0,0)) (by (with_reducible repeat (first|refine blk_drewN ?_ _|refine blk_drew ?_|refine blk_alloc ?_ _)); exact BK655.out) hb); have n3_:=Aside0.mk (below_step (by repeat (first|(with_reducible first|exact HB.out|apply below_alloc|apply pw_below_drewN|apply below_drew1|refine below_set ?_ GE654.out|refine below_set ?_ GE655.out)|exact HB.out)) hb); clear BK654; clear BK655; clear HB; have HO659:=n0_; have BK654:=n1_; have BK655:=n2_; have HB:=n3_; clear n0_ n1_ n2_ n3_; (try clear hb); (try clear hb2); (try clear hk); (try clear hi); (try clear ho0))|((with_reducible refine gate_dst (N:=8) rfl ?_); refine box_event ?hg (N:=8) ?hd (cs:=#[.slice none 0 0]) (t:=42) ?hr ?_; (case hd => rfl); (case hg => rfl); (case hr => first|(go_simp; done)|(go_simp; rfl)); intro gb660 hg w20 hbox hb; have n0_:=Aside0.mk (Kd.S_below (by (with_reducible repeat (first|apply Kd.S_alloc|apply Kd.S_drewN|apply Kd.S_drew)); exact HO659.out) hb); have n1_:=Aside0.mk (blk_below (g:=gb654) (o:=.cells #[.slice A0_0 l0_0.length c0_0] 42 (0,0)) (by (with_reducible repeat (first|refine blk_drewN ?_ _|refine blk_drew ?_|refine blk_alloc ?_ _)); exact BK654.out) hb); have n2_:=Aside0.mk (blk_below (g:=gb655) (o:=.cells #[.slice none 0 0] 42 (0,0)) (by (with_reducible repeat (first|refine blk_drewN ?_ _|refine blk_drew ?_|refine blk_alloc ?_ _)); exact BK655.out) hb); have n3_:=Aside0.mk (below_step (by repeat (first|(with_reducible first|exact HB.out|apply below_alloc|apply pw_below_drewN|apply below_drew1|refine below_set ?_ GE654.out|refine below_set ?_ GE655.out)|exact HB.out)) hb); have n4_:=Aside0.mk (hbox); have n5_:=Aside0.mk ((by rw [hg]; exact (below_size (by repeat (first|(with_reducible first|exact HB.out|apply below_alloc|apply pw_below_drewN|apply below_drew1|refine below_set ?_ GE654.out|refine below_set ?_ GE655.out)|exact HB.out))) : w.heap.size ≤ gb660)); have n6_:=Aside0.mk ((by rw [hg]; exact (below_size (by repeat (first|(with_reducible first|exact HB.out|apply below_alloc|apply pw_below_drewN|apply below_drew1|refine below_set ?_ GE654.out|refine below_set ?_ GE655.out)|exact HB.out))) : w.heap.size ≤ gb660)); have n7_:=Aside0.mk ((by rw [hg]; exact Nat.ne_of_lt (blk_lt (g:=gb654) (o:=.cells #[.slice A0_0 l0_0.length c0_0] 42 (0,0)) (by (with_reducible repeat (first|refine blk_drewN ?_ _|refine blk_drew ?_|refine blk_alloc ?_ _)); exact BK654.out)) : gb654 ≠ gb660)); have n8_:=Aside0.mk ((by rw [hg]; exact Nat.ne_of_gt (blk_lt (g:=gb654) (o:=.cells #[.slice A0_0 l0_0.length c0_0] 42 (0,0)) (by (with_reducible repeat (first|refine blk_drewN ?_ _|refine blk_drew ?_|refine blk_alloc ?_ _)); exact BK654.out)) : gb660 ≠ gb654)); have n9_:=Aside0.mk ((by rw [hg]; exact Nat.ne_of_lt (blk_lt (g:=gb655) (o:=.cells #[.slice none 0 0] 42 (0,0)) (by (with_reducible repeat (first|refine blk_drewN ?_ _|refine blk_drew ?_|refine blk_alloc ?_ _)); exact BK655.out)) : gb655 ≠ gb660)); have n10_:=Aside0.mk ((by rw [hg]; exact Nat.ne_of_gt (blk_lt (g:=gb655) (o:=.cells #[.slice none 0 0] 42 (0,0)) (by (with_reducible repeat (first|refine blk_drewN ?_ _|refine blk_drew ?_|refine blk_alloc ?_ _)); exact BK655.out)) : gb660 ≠ gb655)); clear HO659; clear BK654; clear BK655; clear HB; have HO659:=n0_; have BK654:=n1_; have BK655:=n2_; have HB:=n3_; have BK660:=n4_; have GW660:=n5_; have GE660:=n6_; have NB654_660:=n7_; have NB660_654:=n8_; have NB655_660:=n9_; have NB660_655:=n10_; clear n0_ n1_ n2_ n3_ n4_ n5_ n6_ n7_ n8_ n9_ n10_; clear hb hbox hg; obtain ⟨Ao21,co21,eo21⟩:=Kd.S_slice HO659.out; subst eo21; have hnb22:=NB660_654.out; have hnc22:=NB654_660.out; have hnb23:=NB660_655.out; have hnc23:=NB655_660.out; have hcz24_0 : w20.cell? ⟨gb660,0,none⟩ = some (.slice none 0 0):=(blk_cell BK660.out 0).trans rfl; have hfz24_0:=blk_frozen BK660.out 0))
      have n0_ : Aside0 (Kd.S (Kd.slice 3 (Kd.int .i64)) 24 (w20.setCell ⟨gb660,0,none⟩ (.slice Ao21 t657.length co21)) w.heap.size (fun _ => True) (.slice Ao21 t657.length co21) t657):=⟨by (with_reducible repeat (first|apply Kd.S_alloc|apply Kd.S_drewN|apply Kd.S_drew)); exact Kd.S_mono (Kd.S_far (p:=⟨gb660,0,none⟩) (Kd.S_types HO659.out BK660.out (by decide)) (fun _ hk => hk.2) (.slice Ao21 t657.length co21)) (fun _ hk => trivial)⟩
      have n1_ : Aside0 ((w20.setCell ⟨gb660,0,none⟩ (.slice Ao21 t657.length co21)).heap[gb654]? = some (.cells #[.slice A0_0 l0_0.length c0_0] 42 (0,0))):=⟨by (with_reducible repeat (first|refine blk_drewN ?_ _|refine blk_drew ?_|refine blk_alloc ?_ _)); refine blk_far ?_ NB654_660.out _; (with_reducible repeat (first|refine blk_drewN ?_ _|refine blk_drew ?_|refine blk_alloc ?_ _)); exact BK654.out⟩
      have n2_ : Aside0 ((w20.setCell ⟨gb660,0,none⟩ (.slice Ao21 t657.length co21)).heap[gb655]? = some (.cells #[.slice none 0 0] 42 (0,0))):=⟨by (with_reducible repeat (first|refine blk_drewN ?_ _|refine blk_drew ?_|refine blk_alloc ?_ _)); refine blk_far ?_ NB655_660.out _; (with_reducible repeat (first|refine blk_drewN ?_ _|refine blk_drew ?_|refine blk_alloc ?_ _)); exact BK655.out⟩
      have n3_ : Aside0 ((w20.setCell ⟨gb660,0,none⟩ (.slice Ao21 t657.length co21)).heap[gb660]? = some (.cells #[.slice Ao21 t657.length co21] 42 (0,0))):=⟨by (with_reducible repeat (first|refine blk_drewN ?_ _|refine blk_drew ?_|refine blk_alloc ?_ _)); refine blk_put (cs:=#[.slice none 0 0]) ?_ 0 _ rfl; (with_reducible repeat (first|refine blk_drewN ?_ _|refine blk_drew ?_|refine blk_alloc ?_ _)); exact BK660.out⟩
      have n4_ : Aside0 (Below w.heap.size w (w20.setCell ⟨gb660,0,none⟩ (.slice Ao21 t657.length co21))):=⟨by repeat (first|(with_reducible first|exact HB.out|apply below_alloc|apply pw_below_drewN|apply below_drew1|refine below_set ?_ GE654.out|refine below_set ?_ GE655.out|refine below_set ?_ GE660.out)|exact HB.out)⟩
      (try clear HO659)
      (try clear BK654)
      (try clear BK655)
      (try clear BK660)
      (try clear HB)
      generalize (w20.setCell ⟨gb660,0,none⟩ (.slice Ao21 t657.length co21)) = w25 at n0_ n1_ n2_ n3_ n4_ ⊢
      have HO659:=n0_
      have BK654:=n1_
      have BK655:=n2_
      have BK660:=n3_
      have HB:=n4_
      clear n0_ n1_ n2_ n3_ n4_
      have n0_:=Aside0.mk (Kd.S_drew HO659.out)
      have n1_:=Aside0.mk (blk_drew BK654.out)
      have n2_:=Aside0.mk (blk_drew BK655.out)
      have n3_:=Aside0.mk (blk_drew BK660.out)
      have n4_:=Aside0.mk (below_drew1 HB.out)
      clear HO659
      clear BK654
      clear BK655
      clear BK660
      clear HB
      have HO659:=n0_
      have BK654:=n1_
      have BK655:=n2_
      have BK660:=n3_
      have HB:=n4_
      clear n0_ n1_ n2_ n3_ n4_
      have p661 : 0 ≤ (a1 : Int):=of_decide_eq_true (by first|(with_reducible assumption)|assumption)
      have q661 : a1 < (t657.length : Int):=of_decide_eq_true (by first|(with_reducible assumption)|assumption)
      obtain ⟨ad661,A661_0,c661_0,e661,hx661_0,hl661_0,hi661_0⟩:=at_L2 (Kd.S_reads' HO659.out).2.2 a1 p661 q661
      cases e661
      obtain ⟨ce661,hce661,hMe661,hcc661⟩:=Kd.S_get HO659.out [] a1 p661 (by first|exact q661|exact of_decide_eq_true (by first|(with_reducible assumption)|assumption)|(have e_:=(Kd.S_reads' HO659.out).1; omega))
      obtain ⟨ve661_0,rfl,ge661_0⟩:=hMe661
      have hv661_0:=hcc661 0 _ rfl
      rw [Nat.add_zero,show ((Kd.slice 3 (Kd.int .i64))).sz = 1 from rfl,Nat.mul_one] at hv661_0
      replace hv661_0:=Option.some.inj (hv661_0.symm.trans hx661_0)
      rw [hv661_0] at ge661_0
      have HL661_0:=Aside0.mk (show Kd.R (Kd.int .i64) 3 _ _ _ _ (rd_L2 t657 a1) from ge661_0)
      clear hv661_0 ge661_0
      have HX661_0:=Aside0.mk hx661_0
      clear hcc661 hce661
      have HR661_0:=Aside0.mk hi661_0
      have HC661_0:=Aside0.mk hl661_0
      clear hi661_0 hl661_0
      replace p661:=eq_true p661
      replace q661:=eq_true q661
      obtain ⟨go27,co27,eo27,gb27,gl27,cl27,HG27⟩:=Kd.S_form HO659.out (by have h_ : (a1 : Int) < ((t657.length : Int) : Int):=of_decide_eq_true (by first|(with_reducible assumption)|assumption); have h2_ : 0 ≤ (a1 : Int):=(of_decide_eq_true (by first|(with_reducible assumption)|assumption)); omega)
      (first|cases eo27|(injection eo27 with ea_ en_ ec_; (first|subst ea_|(injection ea_ with ea_; subst ea_)); subst ec_; clear en_))
      have GB27:=Aside0.mk gb27
      have GG27:=Aside0.mk HG27
      clear gb27 gl27 HG27
      (first|simp only [add_plain] at hx661_0|skip)
      obtain ⟨oki27,ce27,hcl27,hM27,hcc27,_,_,hH27⟩:=Kd.S_elem HO659.out [] (a1 : Int) (of_decide_eq_true (by first|(with_reducible assumption)|assumption)) (by have h_ : (a1 : Int) < ((t657.length : Int) : Int):=of_decide_eq_true (by first|(with_reducible assumption)|assumption); first|exact h_|(have e_:=(Kd.S_reads' HO659.out).1; omega)|simpa using h_)
      obtain ⟨ve27_0,rfl,ge27_0⟩:=hM27
      have hv27:=hcc27 0 _ rfl
      have hX27:=HX661_0.out
      (try simp only [add_plain] at hX27)
      (try simp only [Nat.add_zero] at hv27)
      (try rw [show ((Kd.slice 3 (Kd.int .i64))).sz = 1 from rfl,Nat.mul_one] at hv27)
      replace hv27:=Option.some.inj (hv27.symm.trans hX27)
      subst hv27
      clear hX27 hcc27 hcl27
      have UU27:=Aside0.mk (show Kd.R (Kd.int .i64) 3 _ w.heap.size oki27 (.slice A661_0 (rd_L2 t657 a1).length c661_0) (rd_L2 t657 a1) from ge27_0)
      have HH27:=Aside0.mk hH27
      have HN27:=Aside0.mk (Kd.S_reads' HO659.out).1
      clear hH27 ge27_0
      refine start_ (n:=13) (S:=fun w' => w'.cell? ⟨gb660,0,none⟩ = some (.slice (some ⟨go27,0,none⟩) t657.length co21) ∧ w'.cell? ⟨go27,(a1).toNat,none⟩ = some (.slice A661_0 (rd_L2 t657 a1).length c661_0)) (ds:=[12]) (b3ab 13 0) (by kernel_rfl) rfl rfl ⟨(blk_cell BK660.out 0).trans rfl,hx661_0⟩ (fun hHeld => ?_); refine with_tabW spec_PutBox.tab4 spec_PutBox.bits4 (fun HT_ HW_ => ?_)
      generalize w25.drew = w26 at HO659 BK654 BK655 BK660 HB GG27 HH27 HL661_0 HR661_0 HX661_0 UU27 hx661_0 hHeld ⊢
      refine pure_ (i:=0) (N:=some 16) (v:=?_) (a':=?_) (b3ab 13 1) rfl rfl (any_of HT_.out (by kernel_rfl)) (fun _ _ _ h => h) (Or.inl ⟨by rfl,?_⟩) ?_ ?_
      rotate_left
      ·intro w'
       go_simp
       with_reducible rfl
      rotate_left
      ·simp only [Act.put,List.setIfInBounds_toArray,List.set_cons_zero,List.set_cons_succ,i64_w,i32_w]
       rfl
      refine pure_ (i:=2) (N:=some 18) (v:=?_) (a':=?_) (b3ab 13 5) rfl rfl (any_of HT_.out (by kernel_rfl)) (fun _ _ _ h => h) (Or.inl ⟨by rfl,?_⟩) ?_ ?_
      rotate_left
      ·intro w'
       go_simp
       with_reducible rfl
      rotate_left
      ·simp only [Act.put,List.setIfInBounds_toArray,List.set_cons_zero,List.set_cons_succ,i64_w,i32_w]
       rfl
      refine pure_ (i:=3) (N:=some 19) (v:=?_) (a':=?_) (b3ab 13 13) rfl rfl (any_of HT_.out (by kernel_rfl)) (fun _ _ _ h => h) (Or.inl ⟨by rfl,?_⟩) ?_ ?_
      rotate_left
      ·intro w'
       go_simp
       with_reducible rfl
      rotate_left
      ·simp only [Act.put,List.setIfInBounds_toArray,List.set_cons_zero,List.set_cons_succ,i64_w,i32_w]
       rfl
      refine pure_ (i:=5) (N:=some 21) (v:=?_) (a':=?_) (b3ab 13 45) rfl rfl (any_of HT_.out (by kernel_rfl)) (fun _ _ _ h => h) (Or.inl ⟨by rfl,?_⟩) ?_ ?_
      rotate_left
      ·intro w'
       go_simp
       with_reducible rfl
      rotate_left
      ·simp only [Act.put,List.setIfInBounds_toArray,List.set_cons_zero,List.set_cons_succ,i64_w,i32_w]
       rfl
      refine pure_ (i:=8) (N:=some 24) (v:=?_) (a':=?_) (b3ab 13 301) rfl rfl (any_of HT_.out (by kernel_rfl)) (fun _ _ _ h => h) (Or.inl ⟨by rfl,?_⟩) ?_ ?_
      rotate_left
      ·intro w'
       go_simp
       with_reducible rfl
      rotate_left
      ·simp only [Act.put,List.setIfInBounds_toArray,List.set_cons_zero,List.set_cons_succ,i64_w,i32_w]
       rfl
      refine take_ (i:=1) (N:=some 17) (v:=?_) (a':=?_) (b3ab 13 303) rfl rfl (take_ofW HT_.out HW_.out (by kernel_rfl)) (fun _ _ _ h => h) (Or.inl ⟨by rfl,?_⟩) hHeld ?_ ?_
      rotate_left
      ·rintro w' ⟨s0,s1⟩
       go_simp
       with_reducible rfl
      rotate_left
      ·simp only [Act.put,List.setIfInBounds_toArray,List.set_cons_zero,List.set_cons_succ,i64_w,i32_w]
       rfl
      refine take_ (i:=4) (N:=some 20) (v:=?_) (a':=?_) (b3ab 13 319) rfl rfl (take_ofW HT_.out HW_.out (by kernel_rfl)) (fun _ _ _ h => h) (Or.inl ⟨by rfl,?_⟩) hHeld ?_ ?_
      rotate_left
      ·rintro w' ⟨s0,s1⟩
       go_simp
       with_reducible rfl
      rotate_left
      ·simp only [Act.put,List.setIfInBounds_toArray,List.set_cons_zero,List.set_cons_succ,i64_w,i32_w]
       rfl
      refine pure_ (i:=6) (N:=some 22) (v:=?_) (a':=?_) (b3ab 13 383) rfl rfl (any_of HT_.out (by kernel_rfl)) (fun _ _ _ h => h) (Or.inl ⟨by rfl,?_⟩) ?_ ?_
      rotate_left
      ·intro w'
       go_simp
       with_reducible rfl
      rotate_left
      ·simp only [Act.put,List.setIfInBounds_toArray,List.set_cons_zero,List.set_cons_succ,i64_w,i32_w]
       rfl
      refine take_ (i:=7) (N:=some 23) (v:=?_) (a':=?_) (b3ab 13 511) rfl rfl (take_ofW HT_.out HW_.out (by kernel_rfl)) (fun _ _ _ h => h) (Or.inl ⟨by rfl,?_⟩) hHeld ?_ ?_
      rotate_left
      ·rintro w' ⟨s0,s1⟩
       go_simp
       with_reducible rfl
      rotate_left
      ·simp only [Act.put,List.setIfInBounds_toArray,List.set_cons_zero,List.set_cons_succ,i64_w,i32_w]
       rfl
      refine one_ (i:=9) (N:=some 25) (b3ab 13 1023) rfl rfl (one_of HT_.out (by kernel_rfl)) (by decide) (fun K hK => ?_)
      refine value_ (w1:=?_) (v:=?_) (by rfl) rfl ?_ ?_
      rotate_left 2
      ·go_simp
       constructor
       ·rfl
       ·rfl
      refine hK.out _ _ ⟨(blk_cell (blk_alloc BK660.out _) 0).trans rfl,(World.cell?_alloc_lt _ _ _ (World.block_lt_of_cell? _ _ (hHeld.2))).trans (hHeld.2)⟩ (fun hHeld => ?_)
      clear hK K
      refine norm_ (a':=?_) ?_ ?_
      rotate_left
      ·show Act.put _ (some 25) _ = _
       simp only [Act.put,List.setIfInBounds_toArray,List.set_cons_zero,List.set_cons_succ,i64_w,i32_w]
       rfl
      refine one_ (i:=10) (N:=some 26) (b3ab 13 2047) rfl rfl (one_of HT_.out (by kernel_rfl)) (by decide) (fun K hK => ?_)
      refine Kd.R_append_step (Kd.int .i64) (w0:=w) w.heap.size (by rfl) (.tmp 23) (.tmp 25) 24 3 (.int .i64 0) 8 rfl Try.underlying24 info3 rfl (by decide) (by omega) (.slice A661_0 (rd_L2 t657 a1).length c661_0) (rd_L2 t657 a1) a2 [.int .i64 a2] (fun k_ => oki27 k_ ∨ ((fun _ => True)) k_ ∧ w26.heap.size ≤ k_) (fun _ => False) rfl rfl ?aP (fun _ hk => hk.elim) ?aF ?aO ?aB ?aS ?aL ?_
      (case aP => exact rfl)
      (case aB => exact (by repeat (first|(with_reducible first|exact HB.out|apply below_alloc|apply pw_below_drewN|apply below_drew1|refine below_set ?_ GE654.out|refine below_set ?_ GE655.out|refine below_set ?_ GE660.out)|exact HB.out)))
      (case aF => exact (fun k_ hk => .inr ⟨trivial,hk⟩))
      (case aO => exact (by (with_reducible repeat (first|apply Kd.R_alloc|apply Kd.R_drewN|apply Kd.R_drew)); exact Kd.R_mono UU27.out (fun _ hk => .inl hk)))
      (case aS => exact (below_size (by repeat (first|(with_reducible first|exact HB.out|apply below_alloc|apply pw_below_drewN|apply below_drew1|refine below_set ?_ GE654.out|refine below_set ?_ GE655.out|refine below_set ?_ GE660.out)|exact HB.out))))
      (case aL => have:=LMc9.out; omega)
      intro v663 w28 ho hb hg hat
      (first|have HS1_:=cell_grown hg (hHeld.2) (by first|(rw [add_block]; exact (fun e_ => ((HL661_0.out.1 _ e_.symm).2) rfl))|(show some (Addr.add _ _).block ≠ _; rw [add_block]; exact (fun e_ => ((HL661_0.out.1 _ e_.symm).2) rfl))|exact (fun e_ => ((HL661_0.out.1 _ e_.symm).2) rfl))|have HS1_:=cell_grown hg (cell_unalloc (hHeld.2) (by first|(rw [add_block]; exact Kd.S_lt HO659.out _ rfl)|(show (Addr.add _ _).block < _; rw [add_block]; exact Kd.S_lt HO659.out _ rfl)|exact Kd.S_lt HO659.out _ rfl)) (by first|(rw [add_block]; exact (fun e_ => ((HL661_0.out.1 _ e_.symm).2) rfl))|(show some (Addr.add _ _).block ≠ _; rw [add_block]; exact (fun e_ => ((HL661_0.out.1 _ e_.symm).2) rfl))|exact (fun e_ => ((HL661_0.out.1 _ e_.symm).2) rfl)))
      rw [← Ny662.out] at ho
      have n0_:=Aside0.mk (blk_grown (g:=gb654) (o:=.cells #[.slice A0_0 l0_0.length c0_0] 42 (0,0)) (by (with_reducible repeat (first|refine blk_drewN ?_ _|refine blk_drew ?_|refine blk_alloc ?_ _)); exact BK654.out) hg (Kd.R_ne HL661_0.out BK654.out (by decide)))
      have n1_:=Aside0.mk (blk_grown (g:=gb655) (o:=.cells #[.slice none 0 0] 42 (0,0)) (by (with_reducible repeat (first|refine blk_drewN ?_ _|refine blk_drew ?_|refine blk_alloc ?_ _)); exact BK655.out) hg (Kd.R_ne HL661_0.out BK655.out (by decide)))
      have n2_:=Aside0.mk (blk_grown (g:=gb660) (o:=.cells #[.slice (some ⟨go27,0,none⟩) t657.length co21] 42 (0,0)) (by (with_reducible repeat (first|refine blk_drewN ?_ _|refine blk_drew ?_|refine blk_alloc ?_ _)); exact BK660.out) hg (Kd.R_ne HL661_0.out BK660.out (by decide)))
      have n3_:=Aside0.mk (hb)
      have n4_:=Aside0.mk (Kd.H_grown (Kd.H_widen (by repeat (first|exact HH27.out|refine Kd.H_alloc ?_ _|refine Kd.H_drewN ?_ _|refine Kd.H_drew ?_))) hg (fun k_ e_ => .inl (UU27.out.1 k_ e_)))
      have n5_:=Aside0.mk (ho)
      clear BK654
      clear BK655
      clear BK660
      clear HB
      clear HH27
      clear HO659
      clear UU27
      clear HL661_0
      have BK654:=n0_
      have BK655:=n1_
      have BK660:=n2_
      have HB:=n3_
      have HH27:=n4_
      have HO664:=n5_
      clear n0_ n1_ n2_ n3_ n4_ n5_
      clear ho hb hg hat
      have p10 : 0 ≤ (a1 : Int):=of_decide_eq_true (by first|(with_reducible assumption)|assumption)
      have q10 : (a1 : Int) < ((t657.length : Int) : Int):=of_decide_eq_true (by first|(with_reducible assumption)|assumption)
      replace p10:=eq_true p10
      replace q10:=eq_true q10
      obtain ⟨Ao31,co31,eo31⟩:=Kd.R_slice HO664.out
      (first|subst eo31|(injection eo31 with f1_ f2_ f3_; have f4_:=f1_.symm; have f5_:=f3_.symm; clear f1_ f2_ f3_; subst f4_; subst f5_))
      obtain ⟨_,_,hraw29,_,_,hcc29,_⟩:=Kd.H_raw HH27.out (of_decide_eq_true (by first|(with_reducible assumption)|assumption)) (by have h_ : (a1 : Int) < ((t657.length : Int) : Int):=of_decide_eq_true (by first|(with_reducible assumption)|assumption); first|exact h_|(have e_:=(HN27.out); omega)|simpa using h_)
      obtain ⟨_,hfr29⟩:=Kd.H_at HH27.out (of_decide_eq_true (by first|(with_reducible assumption)|assumption)) (by have h_ : (a1 : Int) < ((t657.length : Int) : Int):=of_decide_eq_true (by first|(with_reducible assumption)|assumption); first|exact h_|(have e_:=(HN27.out); omega)|simpa using h_)
      have hx29_0:=hcc29 0 _ rfl
      have hf29_0:=hfr29 0
      (try simp only [Nat.add_zero] at hx29_0 hf29_0)
      (try rw [show ((Kd.slice 3 (Kd.int .i64))).sz = 1 from rfl,Nat.mul_one] at hx29_0)
      (try rw [show ((Kd.slice 3 (Kd.int .i64))).sz = 1 from rfl,Nat.mul_one] at hf29_0)
      have HP29:=Kd.S_seg0 HH27.out (of_decide_eq_true (by first|(with_reducible assumption)|assumption)) (by have h_ : (a1 : Int) < ((t657.length : Int) : Int):=of_decide_eq_true (by first|(with_reducible assumption)|assumption); first|exact h_|(have e_:=(HN27.out); omega)|simpa using h_) (seg:=[.slice Ao31 y662.length co31]) (j:=0) (show 1 ≤ 1 from by decide) (x':=y662) (Kd.M_row HO664.out) (fun _ hk => hk)
      (try simp only [show ((Kd.slice 3 (Kd.int .i64))).sz = 1 from rfl,Nat.mul_one,Nat.add_zero] at HP29)
      clear hcc29 hfr29
      have HNB654_go27:=Aside0.mk (show gb654 ≠ go27 from by have h_:=Kd.R_ne hraw29 BK654.out (by decide); intro e_; exact h_ (by rw [e_]; rfl))
      have HNB655_go27:=Aside0.mk (show gb655 ≠ go27 from by have h_:=Kd.R_ne hraw29 BK655.out (by decide); intro e_; exact h_ (by rw [e_]; rfl))
      have HNB660_go27:=Aside0.mk (show gb660 ≠ go27 from by have h_:=Kd.R_ne hraw29 BK660.out (by decide); intro e_; exact h_ (by rw [e_]; rfl))
      have HS29:=HP29.1
      rw [← Ny665.out] at HS29
      have HQ29:=Aside0.mk HS29
      obtain ⟨_,hgg29⟩:=Kd.R_typed hraw29 go27 rfl
      have GG29_:=Aside0.mk hgg29
      clear HP29 HS29 hgg29
      refine hK.out _ _ ⟨(blk_cell BK660.out 0).trans rfl,HS1_⟩ (fun hHeld => ?_)
      clear hK K
      refine norm_ (a':=?_) ?_ ?_
      rotate_left
      ·show Act.put _ (some 26) _ = _
       simp only [Act.put,List.setIfInBounds_toArray,List.set_cons_zero,List.set_cons_succ,i64_w,i32_w]
       rfl
      refine pure_ (i:=11) (N:=some 27) (v:=?_) (a':=?_) (b3ab 13 4095) rfl rfl (any_of HT_.out (by kernel_rfl)) (fun _ _ _ h => h) (Or.inl ⟨by rfl,?_⟩) ?_ ?_
      rotate_left
      ·intro w'
       go_simp
       with_reducible rfl
      rotate_left
      ·simp only [Act.put,List.setIfInBounds_toArray,List.set_cons_zero,List.set_cons_succ,i64_w,i32_w]
       rfl
      refine last_ (i:=12) (N:=none) (b3ab 13 8191) rfl rfl (one_of HT_.out (by kernel_rfl)) (by decide) (fun K hK => ?_)
      refine skip_ (w1:=?_) (by rfl) rfl ?_ ?_
      rotate_left
      ·go_simp
       rfl
      refine hK.out _ _ ?_
      clear hK K
      refine done_ (done_of HT_.out (by kernel_rfl)) ?_
      have n0_ : Aside0 (Kd.S (Kd.slice 3 (Kd.int .i64)) 24 (w28.setCell ⟨go27,(a1 : Int).toNat,none⟩ (.slice Ao31 y662.length co31)) w.heap.size (fun _ => True) (.slice (some ⟨go27,0,none⟩) t657.length co21) y665):=⟨by (with_reducible repeat (first|apply Kd.S_alloc|apply Kd.S_drewN|apply Kd.S_drew)); exact HQ29.out⟩
      have n1_ : Aside0 ((w28.setCell ⟨go27,(a1 : Int).toNat,none⟩ (.slice Ao31 y662.length co31)).heap[gb654]? = some (.cells #[.slice A0_0 l0_0.length c0_0] 42 (0,0))):=⟨by (with_reducible repeat (first|refine blk_drewN ?_ _|refine blk_drew ?_|refine blk_alloc ?_ _)); refine blk_far ?_ HNB654_go27.out _; (with_reducible repeat (first|refine blk_drewN ?_ _|refine blk_drew ?_|refine blk_alloc ?_ _)); exact BK654.out⟩
      have n2_ : Aside0 ((w28.setCell ⟨go27,(a1 : Int).toNat,none⟩ (.slice Ao31 y662.length co31)).heap[gb655]? = some (.cells #[.slice none 0 0] 42 (0,0))):=⟨by (with_reducible repeat (first|refine blk_drewN ?_ _|refine blk_drew ?_|refine blk_alloc ?_ _)); refine blk_far ?_ HNB655_go27.out _; (with_reducible repeat (first|refine blk_drewN ?_ _|refine blk_drew ?_|refine blk_alloc ?_ _)); exact BK655.out⟩
      have n3_ : Aside0 ((w28.setCell ⟨go27,(a1 : Int).toNat,none⟩ (.slice Ao31 y662.length co31)).heap[gb660]? = some (.cells #[.slice (some ⟨go27,0,none⟩) t657.length co21] 42 (0,0))):=⟨by (with_reducible repeat (first|refine blk_drewN ?_ _|refine blk_drew ?_|refine blk_alloc ?_ _)); refine blk_far ?_ HNB660_go27.out _; (with_reducible repeat (first|refine blk_drewN ?_ _|refine blk_drew ?_|refine blk_alloc ?_ _)); exact BK660.out⟩
      have n4_ : Aside0 (Below w.heap.size w (w28.setCell ⟨go27,(a1 : Int).toNat,none⟩ (.slice Ao31 y662.length co31))):=⟨by repeat (first|(with_reducible first|exact HB.out|apply below_alloc|apply pw_below_drewN|apply below_drew1|refine below_set ?_ GB27.out|refine below_set ?_ GE654.out|refine below_set ?_ GE655.out|refine below_set ?_ GE660.out)|exact HB.out)⟩
      (try clear HO659)
      (try clear BK654)
      (try clear BK655)
      (try clear BK660)
      (try clear HB)
      generalize (w28.setCell ⟨go27,(a1 : Int).toNat,none⟩ (.slice Ao31 y662.length co31)) = w32 at n0_ n1_ n2_ n3_ n4_ ⊢
      have HO659:=n0_
      have BK654:=n1_
      have BK655:=n2_
      have BK660:=n3_
      have HB:=n4_
      clear n0_ n1_ n2_ n3_ n4_
      have hcz33_0 : w32.cell? ⟨gb660,0,none⟩ = some (.slice (some ⟨go27,0,none⟩) t657.length co21):=(blk_cell BK660.out 0).trans rfl
      have hfz33_0:=blk_frozen BK660.out 0
      try go_wp2_with (first|((with_reducible refine gate_callee (f:=116) rfl ?_); refine goesL_ (some 29) rfl rfl Try.func116 (by kernel_rfl) rfl #[.agg #[.slice (some ⟨go27,0,none⟩) y665.length co21]] rfl (by (try simp only [List.map_toArray,List.map_cons,List.map_nil]); first|done|(rw [show y665.length = t657.length from (Kd.S_reads' HO659.out).1.symm] <;> rfl)|rfl|(simp only [List.length_drop,List.length_take]; rfl)) ?_; (with_reducible refine (spec_l5Good.calls k _ _ y665 true _ ?side1 ?side2 A11.out).mono ?_); (case side1 => repeat (first|exact (Kd.S_reads' HO659.out).2.2|(with_reducible refine Kd.C_alloc ?_ _)|(with_reducible refine Kd.C_drewN ?_ _)|(with_reducible refine Kd.C_drew ?_))); (case side2 => rw [show y665.length = t657.length from (Kd.S_reads' HO659.out).1.symm]; exact (Kd.S_reads' HO659.out).2.1); rintro e w34 ⟨rfl,hb⟩; refine ⟨_,rfl,?_⟩; have n0_:=Aside0.mk (Kd.S_below (by (with_reducible repeat (first|apply Kd.S_alloc|apply Kd.S_drewN|apply Kd.S_drew)); exact HO659.out) hb); have n1_:=Aside0.mk (blk_below (g:=gb654) (o:=.cells #[.slice A0_0 l0_0.length c0_0] 42 (0,0)) (by (with_reducible repeat (first|refine blk_drewN ?_ _|refine blk_drew ?_|refine blk_alloc ?_ _)); exact BK654.out) hb); have n2_:=Aside0.mk (blk_below (g:=gb655) (o:=.cells #[.slice none 0 0] 42 (0,0)) (by (with_reducible repeat (first|refine blk_drewN ?_ _|refine blk_drew ?_|refine blk_alloc ?_ _)); exact BK655.out) hb); have n3_:=Aside0.mk (blk_below (g:=gb660) (o:=.cells #[.slice (some ⟨go27,0,none⟩) t657.length co21] 42 (0,0)) (by (with_reducible repeat (first|refine blk_drewN ?_ _|refine blk_drew ?_|refine blk_alloc ?_ _)); exact BK660.out) hb); have n4_:=Aside0.mk (below_step (by repeat (first|(with_reducible first|exact HB.out|apply below_alloc|apply pw_below_drewN|apply below_drew1|refine below_set ?_ GE654.out|refine below_set ?_ GE655.out|refine below_set ?_ GE660.out)|exact HB.out)) hb); clear HO659; clear BK654; clear BK655; clear BK660; clear HB; have HO659:=n0_; have BK654:=n1_; have BK655:=n2_; have BK660:=n3_; have HB:=n4_; clear n0_ n1_ n2_ n3_ n4_; (try clear hb); (try clear hb2); (try clear hk); (try clear hi); have hcz35_0 : w34.cell? ⟨gb660,0,none⟩ = some (.slice (some ⟨go27,0,none⟩) t657.length co21):=(blk_cell BK660.out 0).trans rfl; have hfz35_0:=blk_frozen BK660.out 0; have hcz36_0 : w34.cell? ⟨gb655,0,none⟩ = some (.slice none 0 0):=(blk_cell BK655.out 0).trans rfl; have hfz36_0:=blk_frozen BK655.out 0))
      refine bodyPost_ret (results_ct rfl _ _ gb655 42 #[.slice (some ⟨go27,0,none⟩) t657.length co21] (0,0) _ rfl (by (with_reducible repeat (first|refine blk_drewN ?_ _|refine blk_drew ?_|refine blk_alloc ?_ _)); refine blk_put (cs:=#[.slice none 0 0]) ?_ 0 _ rfl; (with_reducible repeat (first|refine blk_drewN ?_ _|refine blk_drew ?_|refine blk_alloc ?_ _)); exact BK655.out) Try.underlying42 rfl (by kernel_rfl)) rfl ?_
      exact ⟨_,by first|rfl|(simp [errW_none,errW_some] <;> rfl)|(simp [*,errW_none,errW_some] <;> rfl),by (with_reducible repeat (first|apply Kd.S_alloc|apply Kd.S_drewN|apply Kd.S_drew)); exact Kd.S_mono (Kd.S_far (p:=⟨gb655,0,none⟩) (Kd.S_types HO659.out BK655.out (by decide)) (fun _ hk => hk.2) (.slice (some ⟨go27,0,none⟩) t657.length co21)) (fun _ hk => trivial),by repeat (first|(with_reducible first|exact HB.out|apply below_alloc|apply pw_below_drewN|apply below_drew1|refine below_set ?_ GE654.out|refine below_set ?_ GE655.out|refine below_set ?_ GE660.out)|exact HB.out)⟩
     ·replace c12:=Bool.eq_false_iff.mpr c12
      subst c12
      have H1 : (some (([] : List (List Int)),false)) = some (r1,r2):=by rw [if_neg (show ¬ (false = true) by decide)] at H; exact H
      clear H
      have H:=H1
      clear H1
      simp only [Option.some.injEq,Prod.mk.injEq] at H
      obtain ⟨rfl,rfl⟩:=H
      go_enter Try.func38,Try.ntmps38
      try go_wp2_with (first|((with_reducible refine gate_dst (N:=3) rfl ?_); refine box_event ?hg (N:=3) ?hd (cs:=#[.slice A0_0 l0_0.length c0_0]) (t:=42) ?hr ?_; (case hd => rfl); (case hg => rfl); (case hr => first|(go_simp; done)|(go_simp; rfl)); intro gb654 hg w37 hbox hb; have n0_:=Aside0.mk (below_step (by repeat (first|(with_reducible first|exact HB.out|apply below_alloc|apply pw_below_drewN|apply below_drew1)|exact HB.out)) hb); have n1_:=Aside0.mk (hbox); have n2_:=Aside0.mk ((by rw [hg]; exact (below_size (by repeat (first|(with_reducible first|exact HB.out|apply below_alloc|apply pw_below_drewN|apply below_drew1)|exact HB.out))) : w.heap.size ≤ gb654)); have n3_:=Aside0.mk ((by rw [hg]; exact (below_size (by repeat (first|(with_reducible first|exact HB.out|apply below_alloc|apply pw_below_drewN|apply below_drew1)|exact HB.out))) : w.heap.size ≤ gb654)); clear HB; have HB:=n0_; have BK654:=n1_; have GW654:=n2_; have GE654:=n3_; clear n0_ n1_ n2_ n3_; clear hb hbox hg)|((with_reducible refine gate_dst (N:=6) rfl ?_); refine box_event ?hg (N:=6) ?hd (cs:=#[.slice none 0 0]) (t:=42) ?hr ?_; (case hd => rfl); (case hg => rfl); (case hr => first|(go_simp; done)|(go_simp; rfl)); intro gb655 hg w38 hbox hb; have n0_:=Aside0.mk (blk_below (g:=gb654) (o:=.cells #[.slice A0_0 l0_0.length c0_0] 42 (0,0)) (by (with_reducible repeat (first|refine blk_drewN ?_ _|refine blk_drew ?_|refine blk_alloc ?_ _)); exact BK654.out) hb); have n1_:=Aside0.mk (below_step (by repeat (first|(with_reducible first|exact HB.out|apply below_alloc|apply pw_below_drewN|apply below_drew1|refine below_set ?_ GE654.out)|exact HB.out)) hb); have n2_:=Aside0.mk (hbox); have n3_:=Aside0.mk ((by rw [hg]; exact (below_size (by repeat (first|(with_reducible first|exact HB.out|apply below_alloc|apply pw_below_drewN|apply below_drew1|refine below_set ?_ GE654.out)|exact HB.out))) : w.heap.size ≤ gb655)); have n4_:=Aside0.mk ((by rw [hg]; exact (below_size (by repeat (first|(with_reducible first|exact HB.out|apply below_alloc|apply pw_below_drewN|apply below_drew1|refine below_set ?_ GE654.out)|exact HB.out))) : w.heap.size ≤ gb655)); have n5_:=Aside0.mk ((by rw [hg]; exact Nat.ne_of_lt (blk_lt (g:=gb654) (o:=.cells #[.slice A0_0 l0_0.length c0_0] 42 (0,0)) (by (with_reducible repeat (first|refine blk_drewN ?_ _|refine blk_drew ?_|refine blk_alloc ?_ _)); exact BK654.out)) : gb654 ≠ gb655)); have n6_:=Aside0.mk ((by rw [hg]; exact Nat.ne_of_gt (blk_lt (g:=gb654) (o:=.cells #[.slice A0_0 l0_0.length c0_0] 42 (0,0)) (by (with_reducible repeat (first|refine blk_drewN ?_ _|refine blk_drew ?_|refine blk_alloc ?_ _)); exact BK654.out)) : gb655 ≠ gb654)); clear BK654; clear HB; have BK654:=n0_; have HB:=n1_; have BK655:=n2_; have GW655:=n3_; have GE655:=n4_; have NB654_655:=n5_; have NB655_654:=n6_; clear n0_ n1_ n2_ n3_ n4_ n5_ n6_; clear hb hbox hg; have hnb39:=NB654_655.out; have hnc39:=NB655_654.out; have hcz40_0 : w38.cell? ⟨gb654,0,none⟩ = some (.slice A0_0 l0_0.length c0_0):=(blk_cell BK654.out 0).trans rfl; have hfz40_0:=blk_frozen BK654.out 0)|((with_reducible refine gate_callee (f:=104) rfl ?_); refine goesL_ (some 11) rfl rfl Try.func104 (by kernel_rfl) rfl #[.agg #[.slice A0_0 l0_0.length c0_0],.int .i64 a1] rfl (by (try simp only [List.map_toArray,List.map_cons,List.map_nil]); first|done|rfl|(simp only [List.length_drop,List.length_take]; rfl)) ?_; (with_reducible refine (spec_l5Stack.calls k _ _ l0_0 a1 true _ ?side1 ?side2 A4.out).mono ?_); (case side1 => repeat (first|exact (Kd.C_below HR0_0.out HB.out)|(with_reducible refine Kd.C_alloc ?_ _)|(with_reducible refine Kd.C_drewN ?_ _)|(with_reducible refine Kd.C_drew ?_))); (case side2 => exact HC0_0.out); rintro e w41 ⟨rfl,hb⟩; refine ⟨_,rfl,?_⟩; have n0_:=Aside0.mk (blk_below (g:=gb654) (o:=.cells #[.slice A0_0 l0_0.length c0_0] 42 (0,0)) (by (with_reducible repeat (first|refine blk_drewN ?_ _|refine blk_drew ?_|refine blk_alloc ?_ _)); exact BK654.out) hb); have n1_:=Aside0.mk (blk_below (g:=gb655) (o:=.cells #[.slice none 0 0] 42 (0,0)) (by (with_reducible repeat (first|refine blk_drewN ?_ _|refine blk_drew ?_|refine blk_alloc ?_ _)); exact BK655.out) hb); have n2_:=Aside0.mk (below_step (by repeat (first|(with_reducible first|exact HB.out|apply below_alloc|apply pw_below_drewN|apply below_drew1|refine below_set ?_ GE654.out|refine below_set ?_ GE655.out)|exact HB.out)) hb); clear BK654; clear BK655; clear HB; have BK654:=n0_; have BK655:=n1_; have HB:=n2_; clear n0_ n1_ n2_; (try clear hb); (try clear hb2); (try clear hk); (try clear hi); have hcz42_0 : w41.cell? ⟨gb654,0,none⟩ = some (.slice A0_0 l0_0.length c0_0):=(blk_cell BK654.out 0).trans rfl; have hfz42_0:=blk_frozen BK654.out 0)|((with_reducible refine gate_callee (f:=115) rfl ?_); refine goesL_ (some 15) rfl rfl Try.func115 (by kernel_rfl) rfl #[.agg #[.slice A0_0 l0_0.length c0_0]] rfl (by (try simp only [List.map_toArray,List.map_cons,List.map_nil]); first|done|rfl|(simp only [List.length_drop,List.length_take]; rfl)) ?_; (with_reducible refine (spec_l5Own.calls k _ _ l0_0 t657 _ ?side1 ?side2 A6.out).mono ?_); (case side1 => repeat (first|exact (Kd.C_below HR0_0.out HB.out)|(with_reducible refine Kd.C_alloc ?_ _)|(with_reducible refine Kd.C_drewN ?_ _)|(with_reducible refine Kd.C_drew ?_))); (case side2 => exact HC0_0.out); rintro e w43 ⟨v658,rfl,ho0,hb⟩; refine ⟨_,rfl,?_⟩; have n0_:=Aside0.mk (Kd.S_lower ho0 (below_size (by repeat (first|(with_reducible first|exact HB.out|apply below_alloc|apply pw_below_drewN|apply below_drew1|refine below_set ?_ GE654.out|refine below_set ?_ GE655.out)|exact HB.out)))); have n1_:=Aside0.mk (blk_below (g:=gb654) (o:=.cells #[.slice A0_0 l0_0.length c0_0] 42 (0,0)) (by (with_reducible repeat (first|refine blk_drewN ?_ _|refine blk_drew ?_|refine blk_alloc ?_ _)); exact BK654.out) hb); have n2_:=Aside0.mk (blk_below (g:=gb655) (o:=.cells #[.slice none 0 0] 42 (0,0)) (by (with_reducible repeat (first|refine blk_drewN ?_ _|refine blk_drew ?_|refine blk_alloc ?_ _)); exact BK655.out) hb); have n3_:=Aside0.mk (below_step (by repeat (first|(with_reducible first|exact HB.out|apply below_alloc|apply pw_below_drewN|apply below_drew1|refine below_set ?_ GE654.out|refine below_set ?_ GE655.out)|exact HB.out)) hb); clear BK654; clear BK655; clear HB; have HO659:=n0_; have BK654:=n1_; have BK655:=n2_; have HB:=n3_; clear n0_ n1_ n2_ n3_; (try clear hb); (try clear hb2); (try clear hk); (try clear hi); (try clear ho0))|((with_reducible refine gate_dst (N:=8) rfl ?_); refine box_event ?hg (N:=8) ?hd (cs:=#[.slice none 0 0]) (t:=42) ?hr ?_; (case hd => rfl); (case hg => rfl); (case hr => first|(go_simp; done)|(go_simp; rfl)); intro gb660 hg w44 hbox hb; have n0_:=Aside0.mk (Kd.S_below (by (with_reducible repeat (first|apply Kd.S_alloc|apply Kd.S_drewN|apply Kd.S_drew)); exact HO659.out) hb); have n1_:=Aside0.mk (blk_below (g:=gb654) (o:=.cells #[.slice A0_0 l0_0.length c0_0] 42 (0,0)) (by (with_reducible repeat (first|refine blk_drewN ?_ _|refine blk_drew ?_|refine blk_alloc ?_ _)); exact BK654.out) hb); have n2_:=Aside0.mk (blk_below (g:=gb655) (o:=.cells #[.slice none 0 0] 42 (0,0)) (by (with_reducible repeat (first|refine blk_drewN ?_ _|refine blk_drew ?_|refine blk_alloc ?_ _)); exact BK655.out) hb); have n3_:=Aside0.mk (below_step (by repeat (first|(with_reducible first|exact HB.out|apply below_alloc|apply pw_below_drewN|apply below_drew1|refine below_set ?_ GE654.out|refine below_set ?_ GE655.out)|exact HB.out)) hb); have n4_:=Aside0.mk (hbox); have n5_:=Aside0.mk ((by rw [hg]; exact (below_size (by repeat (first|(with_reducible first|exact HB.out|apply below_alloc|apply pw_below_drewN|apply below_drew1|refine below_set ?_ GE654.out|refine below_set ?_ GE655.out)|exact HB.out))) : w.heap.size ≤ gb660)); have n6_:=Aside0.mk ((by rw [hg]; exact (below_size (by repeat (first|(with_reducible first|exact HB.out|apply below_alloc|apply pw_below_drewN|apply below_drew1|refine below_set ?_ GE654.out|refine below_set ?_ GE655.out)|exact HB.out))) : w.heap.size ≤ gb660)); have n7_:=Aside0.mk ((by rw [hg]; exact Nat.ne_of_lt (blk_lt (g:=gb654) (o:=.cells #[.slice A0_0 l0_0.length c0_0] 42 (0,0)) (by (with_reducible repeat (first|refine blk_drewN ?_ _|refine blk_drew ?_|refine blk_alloc ?_ _)); exact BK654.out)) : gb654 ≠ gb660)); have n8_:=Aside0.mk ((by rw [hg]; exact Nat.ne_of_gt (blk_lt (g:=gb654) (o:=.cells #[.slice A0_0 l0_0.length c0_0] 42 (0,0)) (by (with_reducible repeat (first|refine blk_drewN ?_ _|refine blk_drew ?_|refine blk_alloc ?_ _)); exact BK654.out)) : gb660 ≠ gb654)); have n9_:=Aside0.mk ((by rw [hg]; exact Nat.ne_of_lt (blk_lt (g:=gb655) (o:=.cells #[.slice none 0 0] 42 (0,0)) (by (with_reducible repeat (first|refine blk_drewN ?_ _|refine blk_drew ?_|refine blk_alloc ?_ _)); exact BK655.out)) : gb655 ≠ gb660)); have n10_:=Aside0.mk ((by rw [hg]; exact Nat.ne_of_gt (blk_lt (g:=gb655) (o:=.cells #[.slice none 0 0] 42 (0,0)) (by (with_reducible repeat (first|refine blk_drewN ?_ _|refine blk_drew ?_|refine blk_alloc ?_ _)); exact BK655.out)) : gb660 ≠ gb655)); clear HO659; clear BK654; clear BK655; clear HB; have HO659:=n0_; have BK654:=n1_; have BK655:=n2_; have HB:=n3_; have BK660:=n4_; have GW660:=n5_; have GE660:=n6_; have NB654_660:=n7_; have NB660_654:=n8_; have NB655_660:=n9_; have NB660_655:=n10_; clear n0_ n1_ n2_ n3_ n4_ n5_ n6_ n7_ n8_ n9_ n10_; clear hb hbox hg; obtain ⟨Ao45,co45,eo45⟩:=Kd.S_slice HO659.out; subst eo45; have hnb46:=NB660_654.out; have hnc46:=NB654_660.out; have hnb47:=NB660_655.out; have hnc47:=NB655_660.out; have hcz48_0 : w44.cell? ⟨gb660,0,none⟩ = some (.slice none 0 0):=(blk_cell BK660.out 0).trans rfl; have hfz48_0:=blk_frozen BK660.out 0))
      have n0_ : Aside0 (Kd.S (Kd.slice 3 (Kd.int .i64)) 24 (w44.setCell ⟨gb660,0,none⟩ (.slice Ao45 t657.length co45)) w.heap.size (fun _ => True) (.slice Ao45 t657.length co45) t657):=⟨by (with_reducible repeat (first|apply Kd.S_alloc|apply Kd.S_drewN|apply Kd.S_drew)); exact Kd.S_mono (Kd.S_far (p:=⟨gb660,0,none⟩) (Kd.S_types HO659.out BK660.out (by decide)) (fun _ hk => hk.2) (.slice Ao45 t657.length co45)) (fun _ hk => trivial)⟩
      have n1_ : Aside0 ((w44.setCell ⟨gb660,0,none⟩ (.slice Ao45 t657.length co45)).heap[gb654]? = some (.cells #[.slice A0_0 l0_0.length c0_0] 42 (0,0))):=⟨by (with_reducible repeat (first|refine blk_drewN ?_ _|refine blk_drew ?_|refine blk_alloc ?_ _)); refine blk_far ?_ NB654_660.out _; (with_reducible repeat (first|refine blk_drewN ?_ _|refine blk_drew ?_|refine blk_alloc ?_ _)); exact BK654.out⟩
      have n2_ : Aside0 ((w44.setCell ⟨gb660,0,none⟩ (.slice Ao45 t657.length co45)).heap[gb655]? = some (.cells #[.slice none 0 0] 42 (0,0))):=⟨by (with_reducible repeat (first|refine blk_drewN ?_ _|refine blk_drew ?_|refine blk_alloc ?_ _)); refine blk_far ?_ NB655_660.out _; (with_reducible repeat (first|refine blk_drewN ?_ _|refine blk_drew ?_|refine blk_alloc ?_ _)); exact BK655.out⟩
      have n3_ : Aside0 ((w44.setCell ⟨gb660,0,none⟩ (.slice Ao45 t657.length co45)).heap[gb660]? = some (.cells #[.slice Ao45 t657.length co45] 42 (0,0))):=⟨by (with_reducible repeat (first|refine blk_drewN ?_ _|refine blk_drew ?_|refine blk_alloc ?_ _)); refine blk_put (cs:=#[.slice none 0 0]) ?_ 0 _ rfl; (with_reducible repeat (first|refine blk_drewN ?_ _|refine blk_drew ?_|refine blk_alloc ?_ _)); exact BK660.out⟩
      have n4_ : Aside0 (Below w.heap.size w (w44.setCell ⟨gb660,0,none⟩ (.slice Ao45 t657.length co45))):=⟨by repeat (first|(with_reducible first|exact HB.out|apply below_alloc|apply pw_below_drewN|apply below_drew1|refine below_set ?_ GE654.out|refine below_set ?_ GE655.out|refine below_set ?_ GE660.out)|exact HB.out)⟩
      (try clear HO659)
      (try clear BK654)
      (try clear BK655)
      (try clear BK660)
      (try clear HB)
      generalize (w44.setCell ⟨gb660,0,none⟩ (.slice Ao45 t657.length co45)) = w49 at n0_ n1_ n2_ n3_ n4_ ⊢
      have HO659:=n0_
      have BK654:=n1_
      have BK655:=n2_
      have BK660:=n3_
      have HB:=n4_
      clear n0_ n1_ n2_ n3_ n4_
      have n0_:=Aside0.mk (Kd.S_drew HO659.out)
      have n1_:=Aside0.mk (blk_drew BK654.out)
      have n2_:=Aside0.mk (blk_drew BK655.out)
      have n3_:=Aside0.mk (blk_drew BK660.out)
      have n4_:=Aside0.mk (below_drew1 HB.out)
      clear HO659
      clear BK654
      clear BK655
      clear BK660
      clear HB
      have HO659:=n0_
      have BK654:=n1_
      have BK655:=n2_
      have BK660:=n3_
      have HB:=n4_
      clear n0_ n1_ n2_ n3_ n4_
      have p661 : 0 ≤ (a1 : Int):=of_decide_eq_true (by first|(with_reducible assumption)|assumption)
      have q661 : a1 < (t657.length : Int):=of_decide_eq_true (by first|(with_reducible assumption)|assumption)
      obtain ⟨ad661,A661_0,c661_0,e661,hx661_0,hl661_0,hi661_0⟩:=at_L2 (Kd.S_reads' HO659.out).2.2 a1 p661 q661
      cases e661
      obtain ⟨ce661,hce661,hMe661,hcc661⟩:=Kd.S_get HO659.out [] a1 p661 (by first|exact q661|exact of_decide_eq_true (by first|(with_reducible assumption)|assumption)|(have e_:=(Kd.S_reads' HO659.out).1; omega))
      obtain ⟨ve661_0,rfl,ge661_0⟩:=hMe661
      have hv661_0:=hcc661 0 _ rfl
      rw [Nat.add_zero,show ((Kd.slice 3 (Kd.int .i64))).sz = 1 from rfl,Nat.mul_one] at hv661_0
      replace hv661_0:=Option.some.inj (hv661_0.symm.trans hx661_0)
      rw [hv661_0] at ge661_0
      have HL661_0:=Aside0.mk (show Kd.R (Kd.int .i64) 3 _ _ _ _ (rd_L2 t657 a1) from ge661_0)
      clear hv661_0 ge661_0
      have HX661_0:=Aside0.mk hx661_0
      clear hcc661 hce661
      have HR661_0:=Aside0.mk hi661_0
      have HC661_0:=Aside0.mk hl661_0
      clear hi661_0 hl661_0
      replace p661:=eq_true p661
      replace q661:=eq_true q661
      obtain ⟨go51,co51,eo51,gb51,gl51,cl51,HG51⟩:=Kd.S_form HO659.out (by have h_ : (a1 : Int) < ((t657.length : Int) : Int):=of_decide_eq_true (by first|(with_reducible assumption)|assumption); have h2_ : 0 ≤ (a1 : Int):=(of_decide_eq_true (by first|(with_reducible assumption)|assumption)); omega)
      (first|cases eo51|(injection eo51 with ea_ en_ ec_; (first|subst ea_|(injection ea_ with ea_; subst ea_)); subst ec_; clear en_))
      have GB51:=Aside0.mk gb51
      have GG51:=Aside0.mk HG51
      clear gb51 gl51 HG51
      (first|simp only [add_plain] at hx661_0|skip)
      obtain ⟨oki51,ce51,hcl51,hM51,hcc51,_,_,hH51⟩:=Kd.S_elem HO659.out [] (a1 : Int) (of_decide_eq_true (by first|(with_reducible assumption)|assumption)) (by have h_ : (a1 : Int) < ((t657.length : Int) : Int):=of_decide_eq_true (by first|(with_reducible assumption)|assumption); first|exact h_|(have e_:=(Kd.S_reads' HO659.out).1; omega)|simpa using h_)
      obtain ⟨ve51_0,rfl,ge51_0⟩:=hM51
      have hv51:=hcc51 0 _ rfl
      have hX51:=HX661_0.out
      (try simp only [add_plain] at hX51)
      (try simp only [Nat.add_zero] at hv51)
      (try rw [show ((Kd.slice 3 (Kd.int .i64))).sz = 1 from rfl,Nat.mul_one] at hv51)
      replace hv51:=Option.some.inj (hv51.symm.trans hX51)
      subst hv51
      clear hX51 hcc51 hcl51
      have UU51:=Aside0.mk (show Kd.R (Kd.int .i64) 3 _ w.heap.size oki51 (.slice A661_0 (rd_L2 t657 a1).length c661_0) (rd_L2 t657 a1) from ge51_0)
      have HH51:=Aside0.mk hH51
      have HN51:=Aside0.mk (Kd.S_reads' HO659.out).1
      clear hH51 ge51_0
      refine start_ (n:=13) (S:=fun w' => w'.cell? ⟨gb660,0,none⟩ = some (.slice (some ⟨go51,0,none⟩) t657.length co45) ∧ w'.cell? ⟨go51,(a1).toNat,none⟩ = some (.slice A661_0 (rd_L2 t657 a1).length c661_0)) (ds:=[12]) (b3ab 13 0) (by kernel_rfl) rfl rfl ⟨(blk_cell BK660.out 0).trans rfl,hx661_0⟩ (fun hHeld => ?_); refine with_tabW spec_PutBox.tab4 spec_PutBox.bits4 (fun HT_ HW_ => ?_)
      generalize w49.drew = w50 at HO659 BK654 BK655 BK660 HB GG51 HH51 HL661_0 HR661_0 HX661_0 UU51 hx661_0 hHeld ⊢
      refine pure_ (i:=0) (N:=some 16) (v:=?_) (a':=?_) (b3ab 13 1) rfl rfl (any_of HT_.out (by kernel_rfl)) (fun _ _ _ h => h) (Or.inl ⟨by rfl,?_⟩) ?_ ?_
      rotate_left
      ·intro w'
       go_simp
       with_reducible rfl
      rotate_left
      ·simp only [Act.put,List.setIfInBounds_toArray,List.set_cons_zero,List.set_cons_succ,i64_w,i32_w]
       rfl
      refine pure_ (i:=2) (N:=some 18) (v:=?_) (a':=?_) (b3ab 13 5) rfl rfl (any_of HT_.out (by kernel_rfl)) (fun _ _ _ h => h) (Or.inl ⟨by rfl,?_⟩) ?_ ?_
      rotate_left
      ·intro w'
       go_simp
       with_reducible rfl
      rotate_left
      ·simp only [Act.put,List.setIfInBounds_toArray,List.set_cons_zero,List.set_cons_succ,i64_w,i32_w]
       rfl
      refine pure_ (i:=3) (N:=some 19) (v:=?_) (a':=?_) (b3ab 13 13) rfl rfl (any_of HT_.out (by kernel_rfl)) (fun _ _ _ h => h) (Or.inl ⟨by rfl,?_⟩) ?_ ?_
      rotate_left
      ·intro w'
       go_simp
       with_reducible rfl
      rotate_left
      ·simp only [Act.put,List.setIfInBounds_toArray,List.set_cons_zero,List.set_cons_succ,i64_w,i32_w]
       rfl
      refine pure_ (i:=5) (N:=some 21) (v:=?_) (a':=?_) (b3ab 13 45) rfl rfl (any_of HT_.out (by kernel_rfl)) (fun _ _ _ h => h) (Or.inl ⟨by rfl,?_⟩) ?_ ?_
      rotate_left
      ·intro w'
       go_simp
       with_reducible rfl
      rotate_left
      ·simp only [Act.put,List.setIfInBounds_toArray,List.set_cons_zero,List.set_cons_succ,i64_w,i32_w]
       rfl
      refine pure_ (i:=8) (N:=some 24) (v:=?_) (a':=?_) (b3ab 13 301) rfl rfl (any_of HT_.out (by kernel_rfl)) (fun _ _ _ h => h) (Or.inl ⟨by rfl,?_⟩) ?_ ?_
      rotate_left
      ·intro w'
       go_simp
       with_reducible rfl
      rotate_left
      ·simp only [Act.put,List.setIfInBounds_toArray,List.set_cons_zero,List.set_cons_succ,i64_w,i32_w]
       rfl
      refine take_ (i:=1) (N:=some 17) (v:=?_) (a':=?_) (b3ab 13 303) rfl rfl (take_ofW HT_.out HW_.out (by kernel_rfl)) (fun _ _ _ h => h) (Or.inl ⟨by rfl,?_⟩) hHeld ?_ ?_
      rotate_left
      ·rintro w' ⟨s0,s1⟩
       go_simp
       with_reducible rfl
      rotate_left
      ·simp only [Act.put,List.setIfInBounds_toArray,List.set_cons_zero,List.set_cons_succ,i64_w,i32_w]
       rfl
      refine take_ (i:=4) (N:=some 20) (v:=?_) (a':=?_) (b3ab 13 319) rfl rfl (take_ofW HT_.out HW_.out (by kernel_rfl)) (fun _ _ _ h => h) (Or.inl ⟨by rfl,?_⟩) hHeld ?_ ?_
      rotate_left
      ·rintro w' ⟨s0,s1⟩
       go_simp
       with_reducible rfl
      rotate_left
      ·simp only [Act.put,List.setIfInBounds_toArray,List.set_cons_zero,List.set_cons_succ,i64_w,i32_w]
       rfl
      refine pure_ (i:=6) (N:=some 22) (v:=?_) (a':=?_) (b3ab 13 383) rfl rfl (any_of HT_.out (by kernel_rfl)) (fun _ _ _ h => h) (Or.inl ⟨by rfl,?_⟩) ?_ ?_
      rotate_left
      ·intro w'
       go_simp
       with_reducible rfl
      rotate_left
      ·simp only [Act.put,List.setIfInBounds_toArray,List.set_cons_zero,List.set_cons_succ,i64_w,i32_w]
       rfl
      refine take_ (i:=7) (N:=some 23) (v:=?_) (a':=?_) (b3ab 13 511) rfl rfl (take_ofW HT_.out HW_.out (by kernel_rfl)) (fun _ _ _ h => h) (Or.inl ⟨by rfl,?_⟩) hHeld ?_ ?_
      rotate_left
      ·rintro w' ⟨s0,s1⟩
       go_simp
       with_reducible rfl
      rotate_left
      ·simp only [Act.put,List.setIfInBounds_toArray,List.set_cons_zero,List.set_cons_succ,i64_w,i32_w]
       rfl
      refine one_ (i:=9) (N:=some 25) (b3ab 13 1023) rfl rfl (one_of HT_.out (by kernel_rfl)) (by decide) (fun K hK => ?_)
      refine value_ (w1:=?_) (v:=?_) (by rfl) rfl ?_ ?_
      rotate_left 2
      ·go_simp
       constructor
       ·rfl
       ·rfl
      refine hK.out _ _ ⟨(blk_cell (blk_alloc BK660.out _) 0).trans rfl,(World.cell?_alloc_lt _ _ _ (World.block_lt_of_cell? _ _ (hHeld.2))).trans (hHeld.2)⟩ (fun hHeld => ?_)
      clear hK K
      refine norm_ (a':=?_) ?_ ?_
      rotate_left
      ·show Act.put _ (some 25) _ = _
       simp only [Act.put,List.setIfInBounds_toArray,List.set_cons_zero,List.set_cons_succ,i64_w,i32_w]
       rfl
      refine one_ (i:=10) (N:=some 26) (b3ab 13 2047) rfl rfl (one_of HT_.out (by kernel_rfl)) (by decide) (fun K hK => ?_)
      refine Kd.R_append_step (Kd.int .i64) (w0:=w) w.heap.size (by rfl) (.tmp 23) (.tmp 25) 24 3 (.int .i64 0) 8 rfl Try.underlying24 info3 rfl (by decide) (by omega) (.slice A661_0 (rd_L2 t657 a1).length c661_0) (rd_L2 t657 a1) a2 [.int .i64 a2] (fun k_ => oki51 k_ ∨ ((fun _ => True)) k_ ∧ w50.heap.size ≤ k_) (fun _ => False) rfl rfl ?aP (fun _ hk => hk.elim) ?aF ?aO ?aB ?aS ?aL ?_
      (case aP => exact rfl)
      (case aB => exact (by repeat (first|(with_reducible first|exact HB.out|apply below_alloc|apply pw_below_drewN|apply below_drew1|refine below_set ?_ GE654.out|refine below_set ?_ GE655.out|refine below_set ?_ GE660.out)|exact HB.out)))
      (case aF => exact (fun k_ hk => .inr ⟨trivial,hk⟩))
      (case aO => exact (by (with_reducible repeat (first|apply Kd.R_alloc|apply Kd.R_drewN|apply Kd.R_drew)); exact Kd.R_mono UU51.out (fun _ hk => .inl hk)))
      (case aS => exact (below_size (by repeat (first|(with_reducible first|exact HB.out|apply below_alloc|apply pw_below_drewN|apply below_drew1|refine below_set ?_ GE654.out|refine below_set ?_ GE655.out|refine below_set ?_ GE660.out)|exact HB.out))))
      (case aL => have:=LMc9.out; omega)
      intro v663 w52 ho hb hg hat
      (first|have HS1_:=cell_grown hg (hHeld.2) (by first|(rw [add_block]; exact (fun e_ => ((HL661_0.out.1 _ e_.symm).2) rfl))|(show some (Addr.add _ _).block ≠ _; rw [add_block]; exact (fun e_ => ((HL661_0.out.1 _ e_.symm).2) rfl))|exact (fun e_ => ((HL661_0.out.1 _ e_.symm).2) rfl))|have HS1_:=cell_grown hg (cell_unalloc (hHeld.2) (by first|(rw [add_block]; exact Kd.S_lt HO659.out _ rfl)|(show (Addr.add _ _).block < _; rw [add_block]; exact Kd.S_lt HO659.out _ rfl)|exact Kd.S_lt HO659.out _ rfl)) (by first|(rw [add_block]; exact (fun e_ => ((HL661_0.out.1 _ e_.symm).2) rfl))|(show some (Addr.add _ _).block ≠ _; rw [add_block]; exact (fun e_ => ((HL661_0.out.1 _ e_.symm).2) rfl))|exact (fun e_ => ((HL661_0.out.1 _ e_.symm).2) rfl)))
      rw [← Ny662.out] at ho
      have n0_:=Aside0.mk (blk_grown (g:=gb654) (o:=.cells #[.slice A0_0 l0_0.length c0_0] 42 (0,0)) (by (with_reducible repeat (first|refine blk_drewN ?_ _|refine blk_drew ?_|refine blk_alloc ?_ _)); exact BK654.out) hg (Kd.R_ne HL661_0.out BK654.out (by decide)))
      have n1_:=Aside0.mk (blk_grown (g:=gb655) (o:=.cells #[.slice none 0 0] 42 (0,0)) (by (with_reducible repeat (first|refine blk_drewN ?_ _|refine blk_drew ?_|refine blk_alloc ?_ _)); exact BK655.out) hg (Kd.R_ne HL661_0.out BK655.out (by decide)))
      have n2_:=Aside0.mk (blk_grown (g:=gb660) (o:=.cells #[.slice (some ⟨go51,0,none⟩) t657.length co45] 42 (0,0)) (by (with_reducible repeat (first|refine blk_drewN ?_ _|refine blk_drew ?_|refine blk_alloc ?_ _)); exact BK660.out) hg (Kd.R_ne HL661_0.out BK660.out (by decide)))
      have n3_:=Aside0.mk (hb)
      have n4_:=Aside0.mk (Kd.H_grown (Kd.H_widen (by repeat (first|exact HH51.out|refine Kd.H_alloc ?_ _|refine Kd.H_drewN ?_ _|refine Kd.H_drew ?_))) hg (fun k_ e_ => .inl (UU51.out.1 k_ e_)))
      have n5_:=Aside0.mk (ho)
      clear BK654
      clear BK655
      clear BK660
      clear HB
      clear HH51
      clear HO659
      clear UU51
      clear HL661_0
      have BK654:=n0_
      have BK655:=n1_
      have BK660:=n2_
      have HB:=n3_
      have HH51:=n4_
      have HO664:=n5_
      clear n0_ n1_ n2_ n3_ n4_ n5_
      clear ho hb hg hat
      have p10 : 0 ≤ (a1 : Int):=of_decide_eq_true (by first|(with_reducible assumption)|assumption)
      have q10 : (a1 : Int) < ((t657.length : Int) : Int):=of_decide_eq_true (by first|(with_reducible assumption)|assumption)
      replace p10:=eq_true p10
      replace q10:=eq_true q10
      obtain ⟨Ao55,co55,eo55⟩:=Kd.R_slice HO664.out
      (first|subst eo55|(injection eo55 with f1_ f2_ f3_; have f4_:=f1_.symm; have f5_:=f3_.symm; clear f1_ f2_ f3_; subst f4_; subst f5_))
      obtain ⟨_,_,hraw53,_,_,hcc53,_⟩:=Kd.H_raw HH51.out (of_decide_eq_true (by first|(with_reducible assumption)|assumption)) (by have h_ : (a1 : Int) < ((t657.length : Int) : Int):=of_decide_eq_true (by first|(with_reducible assumption)|assumption); first|exact h_|(have e_:=(HN51.out); omega)|simpa using h_)
      obtain ⟨_,hfr53⟩:=Kd.H_at HH51.out (of_decide_eq_true (by first|(with_reducible assumption)|assumption)) (by have h_ : (a1 : Int) < ((t657.length : Int) : Int):=of_decide_eq_true (by first|(with_reducible assumption)|assumption); first|exact h_|(have e_:=(HN51.out); omega)|simpa using h_)
      have hx53_0:=hcc53 0 _ rfl
      have hf53_0:=hfr53 0
      (try simp only [Nat.add_zero] at hx53_0 hf53_0)
      (try rw [show ((Kd.slice 3 (Kd.int .i64))).sz = 1 from rfl,Nat.mul_one] at hx53_0)
      (try rw [show ((Kd.slice 3 (Kd.int .i64))).sz = 1 from rfl,Nat.mul_one] at hf53_0)
      have HP53:=Kd.S_seg0 HH51.out (of_decide_eq_true (by first|(with_reducible assumption)|assumption)) (by have h_ : (a1 : Int) < ((t657.length : Int) : Int):=of_decide_eq_true (by first|(with_reducible assumption)|assumption); first|exact h_|(have e_:=(HN51.out); omega)|simpa using h_) (seg:=[.slice Ao55 y662.length co55]) (j:=0) (show 1 ≤ 1 from by decide) (x':=y662) (Kd.M_row HO664.out) (fun _ hk => hk)
      (try simp only [show ((Kd.slice 3 (Kd.int .i64))).sz = 1 from rfl,Nat.mul_one,Nat.add_zero] at HP53)
      clear hcc53 hfr53
      have HNB654_go51:=Aside0.mk (show gb654 ≠ go51 from by have h_:=Kd.R_ne hraw53 BK654.out (by decide); intro e_; exact h_ (by rw [e_]; rfl))
      have HNB655_go51:=Aside0.mk (show gb655 ≠ go51 from by have h_:=Kd.R_ne hraw53 BK655.out (by decide); intro e_; exact h_ (by rw [e_]; rfl))
      have HNB660_go51:=Aside0.mk (show gb660 ≠ go51 from by have h_:=Kd.R_ne hraw53 BK660.out (by decide); intro e_; exact h_ (by rw [e_]; rfl))
      have HS53:=HP53.1
      rw [← Ny665.out] at HS53
      have HQ53:=Aside0.mk HS53
      obtain ⟨_,hgg53⟩:=Kd.R_typed hraw53 go51 rfl
      have GG53_:=Aside0.mk hgg53
      clear HP53 HS53 hgg53
      refine hK.out _ _ ⟨(blk_cell BK660.out 0).trans rfl,HS1_⟩ (fun hHeld => ?_)
      clear hK K
      refine norm_ (a':=?_) ?_ ?_
      rotate_left
      ·show Act.put _ (some 26) _ = _
       simp only [Act.put,List.setIfInBounds_toArray,List.set_cons_zero,List.set_cons_succ,i64_w,i32_w]
       rfl
      refine pure_ (i:=11) (N:=some 27) (v:=?_) (a':=?_) (b3ab 13 4095) rfl rfl (any_of HT_.out (by kernel_rfl)) (fun _ _ _ h => h) (Or.inl ⟨by rfl,?_⟩) ?_ ?_
      rotate_left
      ·intro w'
       go_simp
       with_reducible rfl
      rotate_left
      ·simp only [Act.put,List.setIfInBounds_toArray,List.set_cons_zero,List.set_cons_succ,i64_w,i32_w]
       rfl
      refine last_ (i:=12) (N:=none) (b3ab 13 8191) rfl rfl (one_of HT_.out (by kernel_rfl)) (by decide) (fun K hK => ?_)
      refine skip_ (w1:=?_) (by rfl) rfl ?_ ?_
      rotate_left
      ·go_simp
       rfl
      refine hK.out _ _ ?_
      clear hK K
      refine done_ (done_of HT_.out (by kernel_rfl)) ?_
      have n0_ : Aside0 (Kd.S (Kd.slice 3 (Kd.int .i64)) 24 (w52.setCell ⟨go51,(a1 : Int).toNat,none⟩ (.slice Ao55 y662.length co55)) w.heap.size (fun _ => True) (.slice (some ⟨go51,0,none⟩) t657.length co45) y665):=⟨by (with_reducible repeat (first|apply Kd.S_alloc|apply Kd.S_drewN|apply Kd.S_drew)); exact HQ53.out⟩
      have n1_ : Aside0 ((w52.setCell ⟨go51,(a1 : Int).toNat,none⟩ (.slice Ao55 y662.length co55)).heap[gb654]? = some (.cells #[.slice A0_0 l0_0.length c0_0] 42 (0,0))):=⟨by (with_reducible repeat (first|refine blk_drewN ?_ _|refine blk_drew ?_|refine blk_alloc ?_ _)); refine blk_far ?_ HNB654_go51.out _; (with_reducible repeat (first|refine blk_drewN ?_ _|refine blk_drew ?_|refine blk_alloc ?_ _)); exact BK654.out⟩
      have n2_ : Aside0 ((w52.setCell ⟨go51,(a1 : Int).toNat,none⟩ (.slice Ao55 y662.length co55)).heap[gb655]? = some (.cells #[.slice none 0 0] 42 (0,0))):=⟨by (with_reducible repeat (first|refine blk_drewN ?_ _|refine blk_drew ?_|refine blk_alloc ?_ _)); refine blk_far ?_ HNB655_go51.out _; (with_reducible repeat (first|refine blk_drewN ?_ _|refine blk_drew ?_|refine blk_alloc ?_ _)); exact BK655.out⟩
      have n3_ : Aside0 ((w52.setCell ⟨go51,(a1 : Int).toNat,none⟩ (.slice Ao55 y662.length co55)).heap[gb660]? = some (.cells #[.slice (some ⟨go51,0,none⟩) t657.length co45] 42 (0,0))):=⟨by (with_reducible repeat (first|refine blk_drewN ?_ _|refine blk_drew ?_|refine blk_alloc ?_ _)); refine blk_far ?_ HNB660_go51.out _; (with_reducible repeat (first|refine blk_drewN ?_ _|refine blk_drew ?_|refine blk_alloc ?_ _)); exact BK660.out⟩
      have n4_ : Aside0 (Below w.heap.size w (w52.setCell ⟨go51,(a1 : Int).toNat,none⟩ (.slice Ao55 y662.length co55))):=⟨by repeat (first|(with_reducible first|exact HB.out|apply below_alloc|apply pw_below_drewN|apply below_drew1|refine below_set ?_ GB51.out|refine below_set ?_ GE654.out|refine below_set ?_ GE655.out|refine below_set ?_ GE660.out)|exact HB.out)⟩
      (try clear HO659)
      (try clear BK654)
      (try clear BK655)
      (try clear BK660)
      (try clear HB)
      generalize (w52.setCell ⟨go51,(a1 : Int).toNat,none⟩ (.slice Ao55 y662.length co55)) = w56 at n0_ n1_ n2_ n3_ n4_ ⊢
      have HO659:=n0_
      have BK654:=n1_
      have BK655:=n2_
      have BK660:=n3_
      have HB:=n4_
      clear n0_ n1_ n2_ n3_ n4_
      have hcz57_0 : w56.cell? ⟨gb660,0,none⟩ = some (.slice (some ⟨go51,0,none⟩) t657.length co45):=(blk_cell BK660.out 0).trans rfl
      have hfz57_0:=blk_frozen BK660.out 0
      try go_wp2_with (first|((with_reducible refine gate_callee (f:=116) rfl ?_); refine goesL_ (some 29) rfl rfl Try.func116 (by kernel_rfl) rfl #[.agg #[.slice (some ⟨go51,0,none⟩) y665.length co45]] rfl (by (try simp only [List.map_toArray,List.map_cons,List.map_nil]); first|done|(rw [show y665.length = t657.length from (Kd.S_reads' HO659.out).1.symm] <;> rfl)|rfl|(simp only [List.length_drop,List.length_take]; rfl)) ?_; (with_reducible refine (spec_l5Good.calls k _ _ y665 false _ ?side1 ?side2 A11.out).mono ?_); (case side1 => repeat (first|exact (Kd.S_reads' HO659.out).2.2|(with_reducible refine Kd.C_alloc ?_ _)|(with_reducible refine Kd.C_drewN ?_ _)|(with_reducible refine Kd.C_drew ?_))); (case side2 => rw [show y665.length = t657.length from (Kd.S_reads' HO659.out).1.symm]; exact (Kd.S_reads' HO659.out).2.1); rintro e w58 ⟨rfl,hb⟩; refine ⟨_,rfl,?_⟩; have n0_:=Aside0.mk (Kd.S_below (by (with_reducible repeat (first|apply Kd.S_alloc|apply Kd.S_drewN|apply Kd.S_drew)); exact HO659.out) hb); have n1_:=Aside0.mk (blk_below (g:=gb654) (o:=.cells #[.slice A0_0 l0_0.length c0_0] 42 (0,0)) (by (with_reducible repeat (first|refine blk_drewN ?_ _|refine blk_drew ?_|refine blk_alloc ?_ _)); exact BK654.out) hb); have n2_:=Aside0.mk (blk_below (g:=gb655) (o:=.cells #[.slice none 0 0] 42 (0,0)) (by (with_reducible repeat (first|refine blk_drewN ?_ _|refine blk_drew ?_|refine blk_alloc ?_ _)); exact BK655.out) hb); have n3_:=Aside0.mk (blk_below (g:=gb660) (o:=.cells #[.slice (some ⟨go51,0,none⟩) t657.length co45] 42 (0,0)) (by (with_reducible repeat (first|refine blk_drewN ?_ _|refine blk_drew ?_|refine blk_alloc ?_ _)); exact BK660.out) hb); have n4_:=Aside0.mk (below_step (by repeat (first|(with_reducible first|exact HB.out|apply below_alloc|apply pw_below_drewN|apply below_drew1|refine below_set ?_ GE654.out|refine below_set ?_ GE655.out|refine below_set ?_ GE660.out)|exact HB.out)) hb); clear HO659; clear BK654; clear BK655; clear BK660; clear HB; have HO659:=n0_; have BK654:=n1_; have BK655:=n2_; have BK660:=n3_; have HB:=n4_; clear n0_ n1_ n2_ n3_ n4_; (try clear hb); (try clear hb2); (try clear hk); (try clear hi); have hcz59_0 : w58.cell? ⟨gb655,0,none⟩ = some (.slice none 0 0):=(blk_cell BK655.out 0).trans rfl; have hfz59_0:=blk_frozen BK655.out 0))
      refine bodyPost_ret (results_ct rfl _ _ gb655 42 #[.slice none 0 0] (0,0) _ rfl (by (with_reducible repeat (first|refine blk_drewN ?_ _|refine blk_drew ?_|refine blk_alloc ?_ _)); refine blk_put (cs:=#[.slice none 0 0]) ?_ 0 _ rfl; (with_reducible repeat (first|refine blk_drewN ?_ _|refine blk_drew ?_|refine blk_alloc ?_ _)); exact BK655.out) Try.underlying42 rfl (by kernel_rfl)) rfl ?_
      exact ⟨_,by first|rfl|(simp [errW_none,errW_some] <;> rfl)|(simp [*,errW_none,errW_some] <;> rfl),by first|exact Kd.S_nil _ _ _ _ _|exact Kd.N_nil _ _ _ _ _|exact Kd.V_nil _ _ _ _ _|exact Kd.Q_nil _ _ _ _ _|exact Kd.R_nil _ _ _ _ _,by repeat (first|(with_reducible first|exact HB.out|apply below_alloc|apply pw_below_drewN|apply below_drew1|refine below_set ?_ GE654.out|refine below_set ?_ GE655.out|refine below_set ?_ GE660.out)|exact HB.out)⟩
    ·rw [if_neg c9] at H
     exact absurd H (by simp)
   ·rw [if_neg c8] at H
    exact absurd H (by simp)
  ·rw [if_neg c7] at H
   exact absurd H (by simp)
 ·replace c5:=Bool.eq_false_iff.mpr c5
  subst c5
  have H1 : (some (([] : List (List Int)),false)) = some (r1,r2):=by rw [if_neg (show ¬ (false = true) by decide)] at H; exact H
  clear H
  have H:=H1
  clear H1
  simp only [Option.some.injEq,Prod.mk.injEq] at H
  obtain ⟨rfl,rfl⟩:=H
  go_enter Try.func38,Try.ntmps38
  go_wp2_with (first|((with_reducible refine gate_dst (N:=3) rfl ?_); refine box_event ?hg (N:=3) ?hd (cs:=#[.slice A0_0 l0_0.length c0_0]) (t:=42) ?hr ?_; (case hd => rfl); (case hg => rfl); (case hr => first|(go_simp; done)|(go_simp; rfl)); intro gb654 hg w60 hbox hb; have n0_:=Aside0.mk (below_step (by repeat (first|(with_reducible first|exact HB.out|apply below_alloc|apply pw_below_drewN|apply below_drew1)|exact HB.out)) hb); have n1_:=Aside0.mk (hbox); have n2_:=Aside0.mk ((by rw [hg]; exact (below_size (by repeat (first|(with_reducible first|exact HB.out|apply below_alloc|apply pw_below_drewN|apply below_drew1)|exact HB.out))) : w.heap.size ≤ gb654)); have n3_:=Aside0.mk ((by rw [hg]; exact (below_size (by repeat (first|(with_reducible first|exact HB.out|apply below_alloc|apply pw_below_drewN|apply below_drew1)|exact HB.out))) : w.heap.size ≤ gb654)); clear HB; have HB:=n0_; have BK654:=n1_; have GW654:=n2_; have GE654:=n3_; clear n0_ n1_ n2_ n3_; clear hb hbox hg)|((with_reducible refine gate_dst (N:=6) rfl ?_); refine box_event ?hg (N:=6) ?hd (cs:=#[.slice none 0 0]) (t:=42) ?hr ?_; (case hd => rfl); (case hg => rfl); (case hr => first|(go_simp; done)|(go_simp; rfl)); intro gb655 hg w61 hbox hb; have n0_:=Aside0.mk (blk_below (g:=gb654) (o:=.cells #[.slice A0_0 l0_0.length c0_0] 42 (0,0)) (by (with_reducible repeat (first|refine blk_drewN ?_ _|refine blk_drew ?_|refine blk_alloc ?_ _)); exact BK654.out) hb); have n1_:=Aside0.mk (below_step (by repeat (first|(with_reducible first|exact HB.out|apply below_alloc|apply pw_below_drewN|apply below_drew1|refine below_set ?_ GE654.out)|exact HB.out)) hb); have n2_:=Aside0.mk (hbox); have n3_:=Aside0.mk ((by rw [hg]; exact (below_size (by repeat (first|(with_reducible first|exact HB.out|apply below_alloc|apply pw_below_drewN|apply below_drew1|refine below_set ?_ GE654.out)|exact HB.out))) : w.heap.size ≤ gb655)); have n4_:=Aside0.mk ((by rw [hg]; exact (below_size (by repeat (first|(with_reducible first|exact HB.out|apply below_alloc|apply pw_below_drewN|apply below_drew1|refine below_set ?_ GE654.out)|exact HB.out))) : w.heap.size ≤ gb655)); have n5_:=Aside0.mk ((by rw [hg]; exact Nat.ne_of_lt (blk_lt (g:=gb654) (o:=.cells #[.slice A0_0 l0_0.length c0_0] 42 (0,0)) (by (with_reducible repeat (first|refine blk_drewN ?_ _|refine blk_drew ?_|refine blk_alloc ?_ _)); exact BK654.out)) : gb654 ≠ gb655)); have n6_:=Aside0.mk ((by rw [hg]; exact Nat.ne_of_gt (blk_lt (g:=gb654) (o:=.cells #[.slice A0_0 l0_0.length c0_0] 42 (0,0)) (by (with_reducible repeat (first|refine blk_drewN ?_ _|refine blk_drew ?_|refine blk_alloc ?_ _)); exact BK654.out)) : gb655 ≠ gb654)); clear BK654; clear HB; have BK654:=n0_; have HB:=n1_; have BK655:=n2_; have GW655:=n3_; have GE655:=n4_; have NB654_655:=n5_; have NB655_654:=n6_; clear n0_ n1_ n2_ n3_ n4_ n5_ n6_; clear hb hbox hg; have hnb62:=NB654_655.out; have hnc62:=NB655_654.out; have hcz63_0 : w61.cell? ⟨gb654,0,none⟩ = some (.slice A0_0 l0_0.length c0_0):=(blk_cell BK654.out 0).trans rfl; have hfz63_0:=blk_frozen BK654.out 0)|((with_reducible refine gate_callee (f:=104) rfl ?_); refine goesL_ (some 11) rfl rfl Try.func104 (by kernel_rfl) rfl #[.agg #[.slice A0_0 l0_0.length c0_0],.int .i64 a1] rfl (by (try simp only [List.map_toArray,List.map_cons,List.map_nil]); first|done|rfl|(simp only [List.length_drop,List.length_take]; rfl)) ?_; (with_reducible refine (spec_l5Stack.calls k _ _ l0_0 a1 false _ ?side1 ?side2 A4.out).mono ?_); (case side1 => repeat (first|exact (Kd.C_below HR0_0.out HB.out)|(with_reducible refine Kd.C_alloc ?_ _)|(with_reducible refine Kd.C_drewN ?_ _)|(with_reducible refine Kd.C_drew ?_))); (case side2 => exact HC0_0.out); rintro e w64 ⟨rfl,hb⟩; refine ⟨_,rfl,?_⟩; have n0_:=Aside0.mk (blk_below (g:=gb654) (o:=.cells #[.slice A0_0 l0_0.length c0_0] 42 (0,0)) (by (with_reducible repeat (first|refine blk_drewN ?_ _|refine blk_drew ?_|refine blk_alloc ?_ _)); exact BK654.out) hb); have n1_:=Aside0.mk (blk_below (g:=gb655) (o:=.cells #[.slice none 0 0] 42 (0,0)) (by (with_reducible repeat (first|refine blk_drewN ?_ _|refine blk_drew ?_|refine blk_alloc ?_ _)); exact BK655.out) hb); have n2_:=Aside0.mk (below_step (by repeat (first|(with_reducible first|exact HB.out|apply below_alloc|apply pw_below_drewN|apply below_drew1|refine below_set ?_ GE654.out|refine below_set ?_ GE655.out)|exact HB.out)) hb); clear BK654; clear BK655; clear HB; have BK654:=n0_; have BK655:=n1_; have HB:=n2_; clear n0_ n1_ n2_; (try clear hb); (try clear hb2); (try clear hk); (try clear hi); have hcz65_0 : w64.cell? ⟨gb655,0,none⟩ = some (.slice none 0 0):=(blk_cell BK655.out 0).trans rfl; have hfz65_0:=blk_frozen BK655.out 0))
  refine bodyPost_ret (results_ct rfl _ _ gb655 42 #[.slice none 0 0] (0,0) _ rfl (by (with_reducible repeat (first|refine blk_drewN ?_ _|refine blk_drew ?_|refine blk_alloc ?_ _)); refine blk_put (cs:=#[.slice none 0 0]) ?_ 0 _ rfl; (with_reducible repeat (first|refine blk_drewN ?_ _|refine blk_drew ?_|refine blk_alloc ?_ _)); exact BK655.out) Try.underlying42 rfl (by kernel_rfl)) rfl ?_
  exact ⟨_,by first|rfl|(simp [errW_none,errW_some] <;> rfl)|(simp [*,errW_none,errW_some] <;> rfl),by first|exact Kd.S_nil _ _ _ _ _|exact Kd.N_nil _ _ _ _ _|exact Kd.V_nil _ _ _ _ _|exact Kd.Q_nil _ _ _ _ _|exact Kd.R_nil _ _ _ _ _,by repeat (first|(with_reducible first|exact HB.out|apply below_alloc|apply pw_below_drewN|apply below_drew1|refine below_set ?_ GE654.out|refine below_set ?_ GE655.out)|exact HB.out)⟩

end Go.Proofs.Ytlldonokjgoajaa.X
