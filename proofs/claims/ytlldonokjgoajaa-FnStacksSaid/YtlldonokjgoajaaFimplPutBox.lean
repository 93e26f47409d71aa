-- Written by a program of ours (wip/bin/xprint.py,over the kit's print.py) out of the translation. Not trusted: Lean checks it.
import Derived.Test.YtlldonokjgoajaaX0
import Derived.Test.YtlldonokjgoajaaFbYard
import Derived.Test.YtlldonokjgoajaaGIsValidYard
import Derived.Test.YtlldonokjgoajaaGhasStack
namespace Go.Proofs.Ytlldonokjgoajaa.X
open Go.RowKit Go.Proofs.YtlldonokjgoajaaW.PrintWords Go.Proofs.YtlldonokjgoajaaW.PrintLast Go.Proofs.YtlldonokjgoajaaW.PrintMore
def lbe03 : Nat → Nat → List Bool
 | 0,_ => []
 | n+1,m => (m%2==1) :: lbe03 n (m/2)
def be03 (n m : Nat) : Array Bool := ⟨lbe03 n m⟩
attribute [local go_sem] max2_int min2_int max_two min_two max_three min_three max_four min_four   -- for this text's walks alone
set_option linter.unusedVariables false
set_option linter.unusedSimpArgs false

/-! ### impl_PutBox: function 37 -/
def impl_PutBox.f (k : Nat) (l0_0 : List (List Int)) (a1 : Int) (a2 : Int) : Option ((List (List Int)) × Bool):=(impl_hasStack.f k l0_0 (([a1] : List Int))).bind fun t643 => (if t643 = true then ((impl_ownYard.f k l0_0).bind fun t644 => (if 0 ≤ a1 then (if a1 < (t644.length : Int) then (if (rd_L2 t644 a1).length < 17592186044416 then ((some (t644.set (a1 : Int).toNat ((rd_L2 t644 a1) ++ [a2]) : List (List Int))).bind fun y652 => ((impl_IsValidYard.f y652).bind fun t653 => (if t653 = true then (some (y652,true)) else (some (([] : List (List Int)),false))))) else (none)) else (none)) else (none))) else (some (([] : List (List Int)),false)))
theorem impl_PutBox.mono : ∀ a0 a1 a2 k,LeO (impl_PutBox.f k a0 a1 a2) (impl_PutBox.f (k + 1) a0 a1 a2):=by
 intro a0 a1 a2 k
 unfold impl_PutBox.f
 repeat' first
   | (with_reducible exact impl_hasStack.mono _ _ _)
   | (with_reducible exact impl_ownYard.mono _ _)
   | (with_reducible exact LeO.refl _)
   | (with_reducible exact LeO.none _)
   | (with_reducible refine LeO.ite ?_ ?_)
   | (with_reducible refine LeO.bind ?_ (fun _ => ?_))
   | exact impl_hasStack.mono _ _ _
   | exact impl_ownYard.mono _ _
   | exact LeO.none _
   | refine LeO.ite ?_ ?_
   | refine LeO.bind ?_ (fun _ => ?_)
def impl_PutBox.T4 : Bool × List (List Nat × List Nat):=(true,[([],[]),([0],[0]),([],[]),([],[]),([3],[3]),([],[]),([4,5],[4,5]),([6],[6]),([],[]),([8],[8]),([7,9],[7,9]),([1,2,0,1,2,3,4,5,6,7,8,9,10],[1,2]),([11,10,10,0,1,2,3,4,5,6,7,8,9,10],[10,11])])
def impl_PutBox.B4 : List Nat:=[0,1,0,0,8,0,56,120,0,256,1016,2047,4095]
theorem impl_PutBox.tab4 : rtab .any (opsOf Try.f37 4) = impl_PutBox.T4:=by kernel_rfl
theorem impl_PutBox.bits4 : waitsOk impl_PutBox.T4.2 impl_PutBox.B4 = true:=by kernel_rfl
set_option maxHeartbeats 8000000 in
set_option maxRecDepth 100000 in
theorem impl_PutBox.calls (k : Nat) (A0_0 : Option Addr) (c0_0 : Nat) (l0_0 : List (List Int)) (a1 : Int) (a2 : Int) (r1 : List (List Int)) (r2 : Bool) (w : World) (hr0_0 : Kd.C (Kd.slice 3 (Kd.int .i64)) w A0_0 l0_0.length l0_0) (hc0_0 : l0_0.length ≤ c0_0) (h : impl_PutBox.f k l0_0 a1 a2 = some (r1,r2)) :
  Calls Try.prog 37 #[.agg #[.slice A0_0 l0_0.length c0_0],.int .i64 a1,.int .i64 a2] w fun e w' => ∃ v0_ : Value,e = .returned (.tuple #[.agg #[v0_],.bool r2]) ∧ Kd.S (Kd.slice 3 (Kd.int .i64)) 24 w' w.heap.size (fun _ => True) v0_ r1 ∧ Below w.heap.size w w':=by
 have hu42:=Try.underlying42
 have HR0_0:=Aside0.mk hr0_0
 have HC0_0:=Aside0.mk hc0_0
 clear hr0_0 hc0_0
 have HB:=Aside0.mk (Below.refl w.heap.size w)
 have H : ((impl_hasStack.f k l0_0 (([a1] : List Int))).bind fun t643 => (if t643 = true then ((impl_ownYard.f k l0_0).bind fun t644 => (if 0 ≤ a1 then (if a1 < (t644.length : Int) then (if (rd_L2 t644 a1).length < 17592186044416 then ((some (t644.set (a1 : Int).toNat ((rd_L2 t644 a1) ++ [a2]) : List (List Int))).bind fun y652 => ((impl_IsValidYard.f y652).bind fun t653 => (if t653 = true then (some (y652,true)) else (some (([] : List (List Int)),false))))) else (none)) else (none)) else (none))) else (some (([] : List (List Int)),false)))) = some (r1,r2):=h
 clear h
 obtain ⟨y640,hy640⟩ : ∃ y_ : List Int,y_ = (([a1] : List Int)):=⟨_,rfl⟩
 replace H : ((impl_hasStack.f k l0_0 y640).bind fun t643 => (if t643 = true then ((impl_ownYard.f k l0_0).bind fun t644 => (if 0 ≤ a1 then (if a1 < (t644.length : Int) then (if (rd_L2 t644 a1).length < 17592186044416 then ((some (t644.set (a1 : Int).toNat ((rd_L2 t644 a1) ++ [a2]) : List (List Int))).bind fun y652 => ((impl_IsValidYard.f y652).bind fun t653 => (if t653 = true then (some (y652,true)) else (some (([] : List (List Int)),false))))) else (none)) else (none)) else (none))) else (some (([] : List (List Int)),false)))) = some (r1,r2):=by first|(rw [hy640]; with_reducible exact H)|(have H2_:=(Option.bind_some _ _).symm.trans H; rw [hy640]; with_reducible exact H2_)|(have H2_:=(Option.bind_some _ _).symm.trans H; with_reducible exact H2_)|with_reducible exact H|(rw [hy640]; exact H)|exact H
 have Ny640:=Aside0.mk hy640
 clear hy640
 replace H:=Option.bind_eq_some_iff.mp H
 obtain ⟨t643,A40,H⟩:=H
 replace H : (if t643 = true then ((impl_ownYard.f k l0_0).bind fun t644 => (if 0 ≤ a1 then (if a1 < (t644.length : Int) then (if (rd_L2 t644 a1).length < 17592186044416 then ((some (t644.set (a1 : Int).toNat ((rd_L2 t644 a1) ++ [a2]) : List (List Int))).bind fun y652 => ((impl_IsValidYard.f y652).bind fun t653 => (if t653 = true then (some (y652,true)) else (some (([] : List (List Int)),false))))) else (none)) else (none)) else (none))) else (some (([] : List (List Int)),false))) = some (r1,r2):=H
 have A4:=Aside0.mk A40
 clear A40
 by_cases c5 : t643 = true
 ·subst c5
  have H1 : ((impl_ownYard.f k l0_0).bind fun t644 => (if 0 ≤ a1 then (if a1 < (t644.length : Int) then (if (rd_L2 t644 a1).length < 17592186044416 then ((some (t644.set (a1 : Int).toNat ((rd_L2 t644 a1) ++ [a2]) : List (List Int))).bind fun y652 => ((impl_IsValidYard.f y652).bind fun t653 => (if t653 = true then (some (y652,true)) else (some (([] : List (List Int)),false))))) else (none)) else (none)) else (none))) = some (r1,r2):=by rw [if_pos rfl] at H; exact H
  clear H
  have H:=H1
  clear H1
  replace H:=Option.bind_eq_some_iff.mp H
  obtain ⟨t644,A60,H⟩:=H
  replace H : (if 0 ≤ a1 then (if a1 < (t644.length : Int) then (if (rd_L2 t644 a1).length < 17592186044416 then ((some (t644.set (a1 : Int).toNat ((rd_L2 t644 a1) ++ [a2]) : List (List Int))).bind fun y652 => ((impl_IsValidYard.f y652).bind fun t653 => (if t653 = true then (some (y652,true)) else (some (([] : List (List Int)),false))))) else (none)) else (none)) else (none)) = some (r1,r2):=H
  have A6:=Aside0.mk A60
  clear A60
  by_cases c7 : 0 ≤ a1
  ·rw [if_pos c7] at H
   have c7b0 : decide (0 ≤ a1) = true:=decide_eq_true c7
   clear c7
   by_cases c8 : a1 < (t644.length : Int)
   ·rw [if_pos c8] at H
    have c8b0 : decide (a1 < (t644.length : Int)) = true:=decide_eq_true c8
    clear c8
    by_cases c9 : (rd_L2 t644 a1).length < 17592186044416
    ·rw [if_pos c9] at H
     have LMc9:=Aside0.mk c9
     clear c9
     obtain ⟨y649,hy649⟩ : ∃ y_ : List Int,y_ = ((rd_L2 t644 a1) ++ [a2]):=⟨_,rfl⟩
     replace H : ((some (t644.set (a1 : Int).toNat y649 : List (List Int))).bind fun y652 => ((impl_IsValidYard.f y652).bind fun t653 => (if t653 = true then (some (y652,true)) else (some (([] : List (List Int)),false))))) = some (r1,r2):=by first|(rw [hy649]; with_reducible exact H)|(have H2_:=(Option.bind_some _ _).symm.trans H; rw [hy649]; with_reducible exact H2_)|(have H2_:=(Option.bind_some _ _).symm.trans H; with_reducible exact H2_)|with_reducible exact H|(rw [hy649]; exact H)|exact H
     have Ny649:=Aside0.mk hy649
     clear hy649
     obtain ⟨y652,hy652⟩ : ∃ y_ : List (List Int),y_ = (t644.set (a1 : Int).toNat y649):=⟨_,rfl⟩
     replace H : ((impl_IsValidYard.f y652).bind fun t653 => (if t653 = true then (some (y652,true)) else (some (([] : List (List Int)),false)))) = some (r1,r2):=by first|(rw [hy652]; with_reducible exact H)|(have H2_:=(Option.bind_some _ _).symm.trans H; rw [hy652]; with_reducible exact H2_)|(have H2_:=(Option.bind_some _ _).symm.trans H; with_reducible exact H2_)|with_reducible exact H|(rw [hy652]; exact H)|exact H
     have Ny652:=Aside0.mk hy652
     clear hy652
     replace H:=Option.bind_eq_some_iff.mp H
     obtain ⟨t653,A110,H⟩:=H
     replace H : (if t653 = true then (some (y652,true)) else (some (([] : List (List Int)),false))) = some (r1,r2):=H
     have A11:=Aside0.mk A110
     clear A110
     by_cases c12 : t653 = true
     ·subst c12
      have H1 : (some (y652,true)) = some (r1,r2):=by rw [if_pos rfl] at H; exact H
      clear H
      have H:=H1
      clear H1
      simp only [Option.some.injEq,Prod.mk.injEq] at H
      obtain ⟨rfl,rfl⟩:=H
      go_enter Try.func37,Try.ntmps37
      try go_wp2_with (first|((with_reducible refine gate_dst (N:=3) rfl ?_); refine box_event ?hg (N:=3) ?hd (cs:=#[.slice A0_0 l0_0.length c0_0]) (t:=42) ?hr ?_; (case hd => rfl); (case hg => rfl); (case hr => first|(go_simp; done)|(go_simp; rfl)); intro gb638 hg w13 hbox hb; have n0_:=Aside0.mk (below_step (by repeat (first|(with_reducible first|exact HB.out|apply below_alloc|apply pw_below_drewN|apply below_drew1)|exact HB.out)) hb); have n1_:=Aside0.mk (hbox); have n2_:=Aside0.mk ((by rw [hg]; exact (below_size (by repeat (first|(with_reducible first|exact HB.out|apply below_alloc|apply pw_below_drewN|apply below_drew1)|exact HB.out))) : w.heap.size ≤ gb638)); have n3_:=Aside0.mk ((by rw [hg]; exact (below_size (by repeat (first|(with_reducible first|exact HB.out|apply below_alloc|apply pw_below_drewN|apply below_drew1)|exact HB.out))) : w.heap.size ≤ gb638)); clear HB; have HB:=n0_; have BK638:=n1_; have GW638:=n2_; have GE638:=n3_; clear n0_ n1_ n2_ n3_; clear hb hbox hg)|((with_reducible refine gate_dst (N:=6) rfl ?_); refine box_event ?hg (N:=6) ?hd (cs:=#[.slice none 0 0]) (t:=42) ?hr ?_; (case hd => rfl); (case hg => rfl); (case hr => first|(go_simp; done)|(go_simp; rfl)); intro gb639 hg w14 hbox hb; have n0_:=Aside0.mk (blk_below (g:=gb638) (o:=.cells #[.slice A0_0 l0_0.length c0_0] 42 (0,0)) (by (with_reducible repeat (first|refine blk_drewN ?_ _|refine blk_drew ?_|refine blk_alloc ?_ _)); exact BK638.out) hb); have n1_:=Aside0.mk (below_step (by repeat (first|(with_reducible first|exact HB.out|apply below_alloc|apply pw_below_drewN|apply below_drew1|refine below_set ?_ GE638.out)|exact HB.out)) hb); have n2_:=Aside0.mk (hbox); have n3_:=Aside0.mk ((by rw [hg]; exact (below_size (by repeat (first|(with_reducible first|exact HB.out|apply below_alloc|apply pw_below_drewN|apply below_drew1|refine below_set ?_ GE638.out)|exact HB.out))) : w.heap.size ≤ gb639)); have n4_:=Aside0.mk ((by rw [hg]; exact (below_size (by repeat (first|(with_reducible first|exact HB.out|apply below_alloc|apply pw_below_drewN|apply below_drew1|refine below_set ?_ GE638.out)|exact HB.out))) : w.heap.size ≤ gb639)); have n5_:=Aside0.mk ((by rw [hg]; exact Nat.ne_of_lt (blk_lt (g:=gb638) (o:=.cells #[.slice A0_0 l0_0.length c0_0] 42 (0,0)) (by (with_reducible repeat (first|refine blk_drewN ?_ _|refine blk_drew ?_|refine blk_alloc ?_ _)); exact BK638.out)) : gb638 ≠ gb639)); have n6_:=Aside0.mk ((by rw [hg]; exact Nat.ne_of_gt (blk_lt (g:=gb638) (o:=.cells #[.slice A0_0 l0_0.length c0_0] 42 (0,0)) (by (with_reducible repeat (first|refine blk_drewN ?_ _|refine blk_drew ?_|refine blk_alloc ?_ _)); exact BK638.out)) : gb639 ≠ gb638)); clear BK638; clear HB; have BK638:=n0_; have HB:=n1_; have BK639:=n2_; have GW639:=n3_; have GE639:=n4_; have NB638_639:=n5_; have NB639_638:=n6_; clear n0_ n1_ n2_ n3_ n4_ n5_ n6_; clear hb hbox hg; have hnb15:=NB638_639.out; have hnc15:=NB639_638.out; have hcz16_0 : w14.cell? ⟨gb638,0,none⟩ = some (.slice A0_0 l0_0.length c0_0):=(blk_cell BK638.out 0).trans rfl; have hfz16_0:=blk_frozen BK638.out 0)|((with_reducible refine gate_dst (N:=11) rfl ?_); refine Kd.R_lit (Kd.int .i64) _ 3 ?hg (N:=11) ?hd (xs:=([a1] : List Int)) (inner:=[.int .i64 a1]) (ok:=fun _ => True) (okp:=fun _ => True) ?hr ?hp (fun _ hk => hk) trivial (Below.refl _ _) (Nat.le_refl _) (by simp) ?_; (case hd => rfl); (case hg => rfl); (case hr => first|(go_simp; done)|(go_simp; rfl)); (case hp => exact (Reps.one (show Kd.M (Kd.int .i64) _ _ _ a1 [.int .i64 a1] from rfl) (Reps.none _ _))); intro v641 w17 ho18 hb hg_ hnew_; clear hg_ hnew_; (first|rw [← Ny640.out] at ho18|(simp only [Int.reduceToNat] at ho18; rw [← Ny640.out] at ho18)); have n0_:=Aside0.mk (Kd.R_lower ho18 (below_size (by repeat (first|(with_reducible first|exact HB.out|apply below_alloc|apply pw_below_drewN|apply below_drew1|refine below_set ?_ GE638.out|refine below_set ?_ GE639.out)|exact HB.out)))); have n1_:=Aside0.mk (blk_below (g:=gb638) (o:=.cells #[.slice A0_0 l0_0.length c0_0] 42 (0,0)) (by (with_reducible repeat (first|refine blk_drewN ?_ _|refine blk_drew ?_|refine blk_alloc ?_ _)); exact BK638.out) hb); have n2_:=Aside0.mk (blk_below (g:=gb639) (o:=.cells #[.slice none 0 0] 42 (0,0)) (by (with_reducible repeat (first|refine blk_drewN ?_ _|refine blk_drew ?_|refine blk_alloc ?_ _)); exact BK639.out) hb); have n3_:=Aside0.mk (below_step (by repeat (first|(with_reducible first|exact HB.out|apply below_alloc|apply pw_below_drewN|apply below_drew1|refine below_set ?_ GE638.out|refine below_set ?_ GE639.out)|exact HB.out)) hb); clear BK638; clear BK639; clear HB; have HO642:=n0_; have BK638:=n1_; have BK639:=n2_; have HB:=n3_; clear n0_ n1_ n2_ n3_; clear hb ho18; obtain ⟨Ao19,co19,eo19⟩:=Kd.R_slice HO642.out; subst eo19)|((with_reducible refine gate_callee (f:=107) rfl ?_); refine goesL_ (some 12) rfl rfl Try.func107 (by kernel_rfl) rfl #[.agg #[.slice A0_0 l0_0.length c0_0],.slice Ao19 y640.length co19] rfl (by (try simp only [List.map_toArray,List.map_cons,List.map_nil]); first|done|rfl|(simp only [List.length_drop,List.length_take]; rfl)) ?_; (with_reducible refine (impl_hasStack.calls k _ _ l0_0 _ _ y640 true _ ?side1 ?side2 ?side3 ?side4 A4.out).mono ?_); (case side1 => repeat (first|exact (Kd.C_below HR0_0.out HB.out)|(with_reducible refine Kd.C_alloc ?_ _)|(with_reducible refine Kd.C_drewN ?_ _)|(with_reducible refine Kd.C_drew ?_))); (case side2 => exact HC0_0.out); (case side3 => repeat (first|exact (Kd.R_reads' HO642.out).2.2|(with_reducible refine Kd.C_alloc ?_ _)|(with_reducible refine Kd.C_drewN ?_ _)|(with_reducible refine Kd.C_drew ?_))); (case side4 => exact (Kd.R_reads' HO642.out).2.1); rintro e w20 ⟨rfl,hb⟩; refine ⟨_,rfl,?_⟩; have n0_:=Aside0.mk (Kd.R_below (by (with_reducible repeat (first|apply Kd.R_alloc|apply Kd.R_drewN|apply Kd.R_drew)); exact HO642.out) hb); have n1_:=Aside0.mk (blk_below (g:=gb638) (o:=.cells #[.slice A0_0 l0_0.length c0_0] 42 (0,0)) (by (with_reducible repeat (first|refine blk_drewN ?_ _|refine blk_drew ?_|refine blk_alloc ?_ _)); exact BK638.out) hb); have n2_:=Aside0.mk (blk_below (g:=gb639) (o:=.cells #[.slice none 0 0] 42 (0,0)) (by (with_reducible repeat (first|refine blk_drewN ?_ _|refine blk_drew ?_|refine blk_alloc ?_ _)); exact BK639.out) hb); have n3_:=Aside0.mk (below_step (by repeat (first|(with_reducible first|exact HB.out|apply below_alloc|apply pw_below_drewN|apply below_drew1|refine below_set ?_ GE638.out|refine below_set ?_ GE639.out)|exact HB.out)) hb); clear HO642; clear BK638; clear BK639; clear HB; have HO642:=n0_; have BK638:=n1_; have BK639:=n2_; have HB:=n3_; clear n0_ n1_ n2_ n3_; (try clear hb); (try clear hb2); (try clear hk); (try clear hi); have hcz21_0 : w20.cell? ⟨gb638,0,none⟩ = some (.slice A0_0 l0_0.length c0_0):=(blk_cell BK638.out 0).trans rfl; have hfz21_0:=blk_frozen BK638.out 0)|((with_reducible refine gate_callee (f:=108) rfl ?_); refine goesL_ (some 16) rfl rfl Try.func108 (by kernel_rfl) rfl #[.agg #[.slice A0_0 l0_0.length c0_0]] rfl (by (try simp only [List.map_toArray,List.map_cons,List.map_nil]); first|done|rfl|(simp only [List.length_drop,List.length_take]; rfl)) ?_; (with_reducible refine (impl_ownYard.calls k _ _ l0_0 t644 _ ?side1 ?side2 A6.out).mono ?_); (case side1 => repeat (first|exact (Kd.C_below HR0_0.out HB.out)|(with_reducible refine Kd.C_alloc ?_ _)|(with_reducible refine Kd.C_drewN ?_ _)|(with_reducible refine Kd.C_drew ?_))); (case side2 => exact HC0_0.out); rintro e w22 ⟨v645,rfl,ho0,hb⟩; refine ⟨_,rfl,?_⟩; have n0_:=Aside0.mk (Kd.R_below (by (with_reducible repeat (first|apply Kd.R_alloc|apply Kd.R_drewN|apply Kd.R_drew)); exact HO642.out) hb); have n1_:=Aside0.mk (Kd.S_lower (Kd.S_new' ho0 (Kd.R_lt (by (with_reducible repeat (first|apply Kd.R_alloc|apply Kd.R_drewN|apply Kd.R_drew)); exact HO642.out))) (below_size (by repeat (first|(with_reducible first|exact HB.out|apply below_alloc|apply pw_below_drewN|apply below_drew1|refine below_set ?_ GE638.out|refine below_set ?_ GE639.out)|exact HB.out)))); have n2_:=Aside0.mk (blk_below (g:=gb638) (o:=.cells #[.slice A0_0 l0_0.length c0_0] 42 (0,0)) (by (with_reducible repeat (first|refine blk_drewN ?_ _|refine blk_drew ?_|refine blk_alloc ?_ _)); exact BK638.out) hb); have n3_:=Aside0.mk (blk_below (g:=gb639) (o:=.cells #[.slice none 0 0] 42 (0,0)) (by (with_reducible repeat (first|refine blk_drewN ?_ _|refine blk_drew ?_|refine blk_alloc ?_ _)); exact BK639.out) hb); have n4_:=Aside0.mk (below_step (by repeat (first|(with_reducible first|exact HB.out|apply below_alloc|apply pw_below_drewN|apply below_drew1|refine below_set ?_ GE638.out|refine below_set ?_ GE639.out)|exact HB.out)) hb); clear HO642; clear BK638; clear BK639; clear HB; have HO642:=n0_; have HO646:=n1_; have BK638:=n2_; have BK639:=n3_; have HB:=n4_; clear n0_ n1_ n2_ n3_ n4_; (try clear hb); (try clear hb2); (try clear hk); (try clear hi); (try clear ho0))|((with_reducible refine gate_dst (N:=8) rfl ?_); refine box_event ?hg (N:=8) ?hd (cs:=#[.slice none 0 0]) (t:=42) ?hr ?_; (case hd => rfl); (case hg => rfl); (case hr => first|(go_simp; done)|(go_simp; rfl)); intro gb647 hg w23 hbox hb; have n0_:=Aside0.mk (Kd.R_below (by (with_reducible repeat (first|apply Kd.R_alloc|apply Kd.R_drewN|apply Kd.R_drew)); exact HO642.out) hb); have n1_:=Aside0.mk (Kd.S_below (by (with_reducible repeat (first|apply Kd.S_alloc|apply Kd.S_drewN|apply Kd.S_drew)); exact HO646.out) hb); have n2_:=Aside0.mk (blk_below (g:=gb638) (o:=.cells #[.slice A0_0 l0_0.length c0_0] 42 (0,0)) (by (with_reducible repeat (first|refine blk_drewN ?_ _|refine blk_drew ?_|refine blk_alloc ?_ _)); exact BK638.out) hb); have n3_:=Aside0.mk (blk_below (g:=gb639) (o:=.cells #[.slice none 0 0] 42 (0,0)) (by (with_reducible repeat (first|refine blk_drewN ?_ _|refine blk_drew ?_|refine blk_alloc ?_ _)); exact BK639.out) hb); have n4_:=Aside0.mk (below_step (by repeat (first|(with_reducible first|exact HB.out|apply below_alloc|apply pw_below_drewN|apply below_drew1|refine below_set ?_ GE638.out|refine below_set ?_ GE639.out)|exact HB.out)) hb); have n5_:=Aside0.mk (hbox); have n6_:=Aside0.mk ((by rw [hg]; exact (below_size (by repeat (first|(with_reducible first|exact HB.out|apply below_alloc|apply pw_below_drewN|apply below_drew1|refine below_set ?_ GE638.out|refine below_set ?_ GE639.out)|exact HB.out))) : w.heap.size ≤ gb647)); have n7_:=Aside0.mk ((by rw [hg]; exact (below_size (by repeat (first|(with_reducible first|exact HB.out|apply below_alloc|apply pw_below_drewN|apply below_drew1|refine below_set ?_ GE638.out|refine below_set ?_ GE639.out)|exact HB.out))) : w.heap.size ≤ gb647)); have n8_:=Aside0.mk ((by rw [hg]; exact Nat.ne_of_lt (blk_lt (g:=gb638) (o:=.cells #[.slice A0_0 l0_0.length c0_0] 42 (0,0)) (by (with_reducible repeat (first|refine blk_drewN ?_ _|refine blk_drew ?_|refine blk_alloc ?_ _)); exact BK638.out)) : gb638 ≠ gb647)); have n9_:=Aside0.mk ((by rw [hg]; exact Nat.ne_of_gt (blk_lt (g:=gb638) (o:=.cells #[.slice A0_0 l0_0.length c0_0] 42 (0,0)) (by (with_reducible repeat (first|refine blk_drewN ?_ _|refine blk_drew ?_|refine blk_alloc ?_ _)); exact BK638.out)) : gb647 ≠ gb638)); have n10_:=Aside0.mk ((by rw [hg]; exact Nat.ne_of_lt (blk_lt (g:=gb639) (o:=.cells #[.slice none 0 0] 42 (0,0)) (by (with_reducible repeat (first|refine blk_drewN ?_ _|refine blk_drew ?_|refine blk_alloc ?_ _)); exact BK639.out)) : gb639 ≠ gb647)); have n11_:=Aside0.mk ((by rw [hg]; exact Nat.ne_of_gt (blk_lt (g:=gb639) (o:=.cells #[.slice none 0 0] 42 (0,0)) (by (with_reducible repeat (first|refine blk_drewN ?_ _|refine blk_drew ?_|refine blk_alloc ?_ _)); exact BK639.out)) : gb647 ≠ gb639)); clear HO642; clear HO646; clear BK638; clear BK639; clear HB; have HO642:=n0_; have HO646:=n1_; have BK638:=n2_; have BK639:=n3_; have HB:=n4_; have BK647:=n5_; have GW647:=n6_; have GE647:=n7_; have NB638_647:=n8_; have NB647_638:=n9_; have NB639_647:=n10_; have NB647_639:=n11_; clear n0_ n1_ n2_ n3_ n4_ n5_ n6_ n7_ n8_ n9_ n10_ n11_; clear hb hbox hg; obtain ⟨Ao24,co24,eo24⟩:=Kd.S_slice HO646.out; subst eo24; have hnb25:=NB647_638.out; have hnc25:=NB638_647.out; have hnb26:=NB647_639.out; have hnc26:=NB639_647.out; have hcz27_0 : w23.cell? ⟨gb647,0,none⟩ = some (.slice none 0 0):=(blk_cell BK647.out 0).trans rfl; have hfz27_0:=blk_frozen BK647.out 0))
      have n0_ : Aside0 (Kd.R (Kd.int .i64) 3 (w23.setCell ⟨gb647,0,none⟩ (.slice Ao24 t644.length co24)) w.heap.size (fun _ => True) (.slice Ao19 y640.length co19) y640):=⟨by (with_reducible repeat (first|apply Kd.R_alloc|apply Kd.R_drewN|apply Kd.R_drew)); exact Kd.R_mono (Kd.R_far (p:=⟨gb647,0,none⟩) (Kd.R_types HO642.out BK647.out (by decide)) (fun _ hk => hk.2) (.slice Ao24 t644.length co24)) (fun _ hk => trivial)⟩
      have n1_ : Aside0 (Kd.S (Kd.slice 3 (Kd.int .i64)) 24 (w23.setCell ⟨gb647,0,none⟩ (.slice Ao24 t644.length co24)) w.heap.size (fun k_ => some k_ ≠ (.slice Ao19 y640.length co19 : Value).ownBlock) (.slice Ao24 t644.length co24) t644):=⟨by (with_reducible repeat (first|apply Kd.S_alloc|apply Kd.S_drewN|apply Kd.S_drew)); exact Kd.S_mono (Kd.S_far (p:=⟨gb647,0,none⟩) (Kd.S_types HO646.out BK647.out (by decide)) (fun _ hk => hk.2) (.slice Ao24 t644.length co24)) (fun _ hk => hk.1.2)⟩
      have n2_ : Aside0 ((w23.setCell ⟨gb647,0,none⟩ (.slice Ao24 t644.length co24)).heap[gb638]? = some (.cells #[.slice A0_0 l0_0.length c0_0] 42 (0,0))):=⟨by (with_reducible repeat (first|refine blk_drewN ?_ _|refine blk_drew ?_|refine blk_alloc ?_ _)); refine blk_far ?_ NB638_647.out _; (with_reducible repeat (first|refine blk_drewN ?_ _|refine blk_drew ?_|refine blk_alloc ?_ _)); exact BK638.out⟩
      have n3_ : Aside0 ((w23.setCell ⟨gb647,0,none⟩ (.slice Ao24 t644.length co24)).heap[gb639]? = some (.cells #[.slice none 0 0] 42 (0,0))):=⟨by (with_reducible repeat (first|refine blk_drewN ?_ _|refine blk_drew ?_|refine blk_alloc ?_ _)); refine blk_far ?_ NB639_647.out _; (with_reducible repeat (first|refine blk_drewN ?_ _|refine blk_drew ?_|refine blk_alloc ?_ _)); exact BK639.out⟩
      have n4_ : Aside0 ((w23.setCell ⟨gb647,0,none⟩ (.slice Ao24 t644.length co24)).heap[gb647]? = some (.cells #[.slice Ao24 t644.length co24] 42 (0,0))):=⟨by (with_reducible repeat (first|refine blk_drewN ?_ _|refine blk_drew ?_|refine blk_alloc ?_ _)); refine blk_put (cs:=#[.slice none 0 0]) ?_ 0 _ rfl; (with_reducible repeat (first|refine blk_drewN ?_ _|refine blk_drew ?_|refine blk_alloc ?_ _)); exact BK647.out⟩
      have n5_ : Aside0 (Below w.heap.size w (w23.setCell ⟨gb647,0,none⟩ (.slice Ao24 t644.length co24))):=⟨by repeat (first|(with_reducible first|exact HB.out|apply below_alloc|apply pw_below_drewN|apply below_drew1|refine below_set ?_ GE638.out|refine below_set ?_ GE639.out|refine below_set ?_ GE647.out)|exact HB.out)⟩
      (try clear HO642)
      (try clear HO646)
      (try clear BK638)
      (try clear BK639)
      (try clear BK647)
      (try clear HB)
      generalize (w23.setCell ⟨gb647,0,none⟩ (.slice Ao24 t644.length co24)) = w28 at n0_ n1_ n2_ n3_ n4_ n5_ ⊢
      have HO642:=n0_
      have HO646:=n1_
      have BK638:=n2_
      have BK639:=n3_
      have BK647:=n4_
      have HB:=n5_
      clear n0_ n1_ n2_ n3_ n4_ n5_
      have n0_:=Aside0.mk (Kd.R_drew HO642.out)
      have n1_:=Aside0.mk (Kd.S_drew HO646.out)
      have n2_:=Aside0.mk (blk_drew BK638.out)
      have n3_:=Aside0.mk (blk_drew BK639.out)
      have n4_:=Aside0.mk (blk_drew BK647.out)
      have n5_:=Aside0.mk (below_drew1 HB.out)
      clear HO642
      clear HO646
      clear BK638
      clear BK639
      clear BK647
      clear HB
      have HO642:=n0_
      have HO646:=n1_
      have BK638:=n2_
      have BK639:=n3_
      have BK647:=n4_
      have HB:=n5_
      clear n0_ n1_ n2_ n3_ n4_ n5_
      have p648 : 0 ≤ (a1 : Int):=of_decide_eq_true (by first|(with_reducible assumption)|assumption)
      have q648 : a1 < (t644.length : Int):=of_decide_eq_true (by first|(with_reducible assumption)|assumption)
      obtain ⟨ad648,A648_0,c648_0,e648,hx648_0,hl648_0,hi648_0⟩:=at_L2 (Kd.S_reads' HO646.out).2.2 a1 p648 q648
      cases e648
      obtain ⟨ce648,hce648,hMe648,hcc648⟩:=Kd.S_get HO646.out [] a1 p648 (by first|exact q648|exact of_decide_eq_true (by first|(with_reducible assumption)|assumption)|(have e_:=(Kd.S_reads' HO646.out).1; omega))
      obtain ⟨ve648_0,rfl,ge648_0⟩:=hMe648
      have hv648_0:=hcc648 0 _ rfl
      rw [Nat.add_zero,show ((Kd.slice 3 (Kd.int .i64))).sz = 1 from rfl,Nat.mul_one] at hv648_0
      replace hv648_0:=Option.some.inj (hv648_0.symm.trans hx648_0)
      rw [hv648_0] at ge648_0
      have HL648_0:=Aside0.mk (show Kd.R (Kd.int .i64) 3 _ _ _ _ (rd_L2 t644 a1) from ge648_0)
      clear hv648_0 ge648_0
      have HX648_0:=Aside0.mk hx648_0
      clear hcc648 hce648
      have HR648_0:=Aside0.mk hi648_0
      have HC648_0:=Aside0.mk hl648_0
      clear hi648_0 hl648_0
      replace p648:=eq_true p648
      replace q648:=eq_true q648
      obtain ⟨go30,co30,eo30,gb30,gl30,cl30,HG30⟩:=Kd.S_form HO646.out (by have h_ : (a1 : Int) < ((t644.length : Int) : Int):=of_decide_eq_true (by first|(with_reducible assumption)|assumption); have h2_ : 0 ≤ (a1 : Int):=(of_decide_eq_true (by first|(with_reducible assumption)|assumption)); omega)
      (first|cases eo30|(injection eo30 with ea_ en_ ec_; (first|subst ea_|(injection ea_ with ea_; subst ea_)); subst ec_; clear en_))
      have GB30:=Aside0.mk gb30
      have GG30:=Aside0.mk HG30
      clear gb30 gl30 HG30
      (first|simp only [add_plain] at hx648_0|skip)
      obtain ⟨oki30,ce30,hcl30,hM30,hcc30,_,_,hH30⟩:=Kd.S_elem HO646.out [] (a1 : Int) (of_decide_eq_true (by first|(with_reducible assumption)|assumption)) (by have h_ : (a1 : Int) < ((t644.length : Int) : Int):=of_decide_eq_true (by first|(with_reducible assumption)|assumption); first|exact h_|(have e_:=(Kd.S_reads' HO646.out).1; omega)|simpa using h_)
      obtain ⟨ve30_0,rfl,ge30_0⟩:=hM30
      have hv30:=hcc30 0 _ rfl
      have hX30:=HX648_0.out
      (try simp only [add_plain] at hX30)
      (try simp only [Nat.add_zero] at hv30)
      (try rw [show ((Kd.slice 3 (Kd.int .i64))).sz = 1 from rfl,Nat.mul_one] at hv30)
      replace hv30:=Option.some.inj (hv30.symm.trans hX30)
      subst hv30
      clear hX30 hcc30 hcl30
      have UU30:=Aside0.mk (show Kd.R (Kd.int .i64) 3 _ w.heap.size oki30 (.slice A648_0 (rd_L2 t644 a1).length c648_0) (rd_L2 t644 a1) from ge30_0)
      have HH30:=Aside0.mk hH30
      have HN30:=Aside0.mk (Kd.S_reads' HO646.out).1
      clear hH30 ge30_0
      refine start_ (n:=13) (S:=fun w' => w'.cell? ⟨gb647,0,none⟩ = some (.slice (some ⟨go30,0,none⟩) t644.length co24) ∧ w'.cell? ⟨go30,(a1).toNat,none⟩ = some (.slice A648_0 (rd_L2 t644 a1).length c648_0)) (ds:=[12]) (be03 13 0) (by kernel_rfl) rfl rfl ⟨(blk_cell BK647.out 0).trans rfl,hx648_0⟩ (fun hHeld => ?_); refine with_tabW impl_PutBox.tab4 impl_PutBox.bits4 (fun HT_ HW_ => ?_)
      generalize w28.drew = w29 at HO642 HO646 BK638 BK639 BK647 HB GG30 HH30 HL648_0 HR648_0 HX648_0 UU30 hx648_0 hHeld ⊢
      refine pure_ (i:=0) (N:=some 17) (v:=?_) (a':=?_) (be03 13 1) rfl rfl (any_of HT_.out (by kernel_rfl)) (fun _ _ _ h => h) (Or.inl ⟨by rfl,?_⟩) ?_ ?_
      rotate_left
      ·intro w'
       go_simp
       with_reducible rfl
      rotate_left
      ·simp only [Act.put,List.setIfInBounds_toArray,List.set_cons_zero,List.set_cons_succ,i64_w,i32_w]
       rfl
      refine pure_ (i:=2) (N:=some 19) (v:=?_) (a':=?_) (be03 13 5) rfl rfl (any_of HT_.out (by kernel_rfl)) (fun _ _ _ h => h) (Or.inl ⟨by rfl,?_⟩) ?_ ?_
      rotate_left
      ·intro w'
       go_simp
       with_reducible rfl
      rotate_left
      ·simp only [Act.put,List.setIfInBounds_toArray,List.set_cons_zero,List.set_cons_succ,i64_w,i32_w]
       rfl
      refine pure_ (i:=3) (N:=some 20) (v:=?_) (a':=?_) (be03 13 13) rfl rfl (any_of HT_.out (by kernel_rfl)) (fun _ _ _ h => h) (Or.inl ⟨by rfl,?_⟩) ?_ ?_
      rotate_left
      ·intro w'
       go_simp
       with_reducible rfl
      rotate_left
      ·simp only [Act.put,List.setIfInBounds_toArray,List.set_cons_zero,List.set_cons_succ,i64_w,i32_w]
       rfl
      refine pure_ (i:=5) (N:=some 22) (v:=?_) (a':=?_) (be03 13 45) rfl rfl (any_of HT_.out (by kernel_rfl)) (fun _ _ _ h => h) (Or.inl ⟨by rfl,?_⟩) ?_ ?_
      rotate_left
      ·intro w'
       go_simp
       with_reducible rfl
      rotate_left
      ·simp only [Act.put,List.setIfInBounds_toArray,List.set_cons_zero,List.set_cons_succ,i64_w,i32_w]
       rfl
      refine pure_ (i:=8) (N:=some 25) (v:=?_) (a':=?_) (be03 13 301) rfl rfl (any_of HT_.out (by kernel_rfl)) (fun _ _ _ h => h) (Or.inl ⟨by rfl,?_⟩) ?_ ?_
      rotate_left
      ·intro w'
       go_simp
       with_reducible rfl
      rotate_left
      ·simp only [Act.put,List.setIfInBounds_toArray,List.set_cons_zero,List.set_cons_succ,i64_w,i32_w]
       rfl
      refine take_ (i:=1) (N:=some 18) (v:=?_) (a':=?_) (be03 13 303) rfl rfl (take_ofW HT_.out HW_.out (by kernel_rfl)) (fun _ _ _ h => h) (Or.inl ⟨by rfl,?_⟩) hHeld ?_ ?_
      rotate_left
      ·rintro w' ⟨s0,s1⟩
       go_simp
       with_reducible rfl
      rotate_left
      ·simp only [Act.put,List.setIfInBounds_toArray,List.set_cons_zero,List.set_cons_succ,i64_w,i32_w]
       rfl
      refine take_ (i:=4) (N:=some 21) (v:=?_) (a':=?_) (be03 13 319) rfl rfl (take_ofW HT_.out HW_.out (by kernel_rfl)) (fun _ _ _ h => h) (Or.inl ⟨by rfl,?_⟩) hHeld ?_ ?_
      rotate_left
      ·rintro w' ⟨s0,s1⟩
       go_simp
       with_reducible rfl
      rotate_left
      ·simp only [Act.put,List.setIfInBounds_toArray,List.set_cons_zero,List.set_cons_succ,i64_w,i32_w]
       rfl
      refine pure_ (i:=6) (N:=some 23) (v:=?_) (a':=?_) (be03 13 383) rfl rfl (any_of HT_.out (by kernel_rfl)) (fun _ _ _ h => h) (Or.inl ⟨by rfl,?_⟩) ?_ ?_
      rotate_left
      ·intro w'
       go_simp
       with_reducible rfl
      rotate_left
      ·simp only [Act.put,List.setIfInBounds_toArray,List.set_cons_zero,List.set_cons_succ,i64_w,i32_w]
       rfl
      refine take_ (i:=7) (N:=some 24) (v:=?_) (a':=?_) (be03 13 511) rfl rfl (take_ofW HT_.out HW_.out (by kernel_rfl)) (fun _ _ _ h => h) (Or.inl ⟨by rfl,?_⟩) hHeld ?_ ?_
      rotate_left
      ·rintro w' ⟨s0,s1⟩
       go_simp
       with_reducible rfl
      rotate_left
      ·simp only [Act.put,List.setIfInBounds_toArray,List.set_cons_zero,List.set_cons_succ,i64_w,i32_w]
       rfl
      refine one_ (i:=9) (N:=some 26) (be03 13 1023) rfl rfl (one_of HT_.out (by kernel_rfl)) (by decide) (fun K hK => ?_)
      refine value_ (w1:=?_) (v:=?_) (by rfl) rfl ?_ ?_
      rotate_left 2
      ·go_simp
       constructor
       ·rfl
       ·rfl
      refine hK.out _ _ ⟨(blk_cell (blk_alloc BK647.out _) 0).trans rfl,(World.cell?_alloc_lt _ _ _ (World.block_lt_of_cell? _ _ (hHeld.2))).trans (hHeld.2)⟩ (fun hHeld => ?_)
      clear hK K
      refine norm_ (a':=?_) ?_ ?_
      rotate_left
      ·show Act.put _ (some 26) _ = _
       simp only [Act.put,List.setIfInBounds_toArray,List.set_cons_zero,List.set_cons_succ,i64_w,i32_w]
       rfl
      refine one_ (i:=10) (N:=some 27) (be03 13 2047) rfl rfl (one_of HT_.out (by kernel_rfl)) (by decide) (fun K hK => ?_)
      refine Kd.R_append_step (Kd.int .i64) (w0:=w) w.heap.size (by rfl) (.tmp 24) (.tmp 26) 24 3 (.int .i64 0) 8 rfl Try.underlying24 info3 rfl (by decide) (by omega) (.slice A648_0 (rd_L2 t644 a1).length c648_0) (rd_L2 t644 a1) a2 [.int .i64 a2] (fun k_ => oki30 k_ ∨ ((fun k_ => some k_ ≠ (.slice Ao19 y640.length co19 : Value).ownBlock)) k_ ∧ w29.heap.size ≤ k_) (fun _ => False) rfl rfl ?aP (fun _ hk => hk.elim) ?aF ?aO ?aB ?aS ?aL ?_
      (case aP => exact rfl)
      (case aB => exact (by repeat (first|(with_reducible first|exact HB.out|apply below_alloc|apply pw_below_drewN|apply below_drew1|refine below_set ?_ GE638.out|refine below_set ?_ GE639.out|refine below_set ?_ GE647.out)|exact HB.out)))
      (case aF => exact (fun k_ hk => .inr ⟨Kd.fresh' (Kd.R_lt (by (with_reducible repeat (first|apply Kd.R_alloc|apply Kd.R_drewN|apply Kd.R_drew)); exact HO642.out)) k_ hk,hk⟩))
      (case aO => exact (by (with_reducible repeat (first|apply Kd.R_alloc|apply Kd.R_drewN|apply Kd.R_drew)); exact Kd.R_mono UU30.out (fun _ hk => .inl hk)))
      (case aS => exact (below_size (by repeat (first|(with_reducible first|exact HB.out|apply below_alloc|apply pw_below_drewN|apply below_drew1|refine below_set ?_ GE638.out|refine below_set ?_ GE639.out|refine below_set ?_ GE647.out)|exact HB.out))))
      (case aL => have:=LMc9.out; omega)
      intro v650 w31 ho hb hg hat
      (first|have HS1_:=cell_grown hg (hHeld.2) (by first|(rw [add_block]; exact (fun e_ => ((HL648_0.out.1 _ e_.symm).2) rfl))|(show some (Addr.add _ _).block ≠ _; rw [add_block]; exact (fun e_ => ((HL648_0.out.1 _ e_.symm).2) rfl))|exact (fun e_ => ((HL648_0.out.1 _ e_.symm).2) rfl))|have HS1_:=cell_grown hg (cell_unalloc (hHeld.2) (by first|(rw [add_block]; exact Kd.S_lt HO646.out _ rfl)|(show (Addr.add _ _).block < _; rw [add_block]; exact Kd.S_lt HO646.out _ rfl)|exact Kd.S_lt HO646.out _ rfl)) (by first|(rw [add_block]; exact (fun e_ => ((HL648_0.out.1 _ e_.symm).2) rfl))|(show some (Addr.add _ _).block ≠ _; rw [add_block]; exact (fun e_ => ((HL648_0.out.1 _ e_.symm).2) rfl))|exact (fun e_ => ((HL648_0.out.1 _ e_.symm).2) rfl)))
      rw [← Ny649.out] at ho
      have n0_:=Aside0.mk (blk_grown (g:=gb638) (o:=.cells #[.slice A0_0 l0_0.length c0_0] 42 (0,0)) (by (with_reducible repeat (first|refine blk_drewN ?_ _|refine blk_drew ?_|refine blk_alloc ?_ _)); exact BK638.out) hg (Kd.R_ne HL648_0.out BK638.out (by decide)))
      have n1_:=Aside0.mk (blk_grown (g:=gb639) (o:=.cells #[.slice none 0 0] 42 (0,0)) (by (with_reducible repeat (first|refine blk_drewN ?_ _|refine blk_drew ?_|refine blk_alloc ?_ _)); exact BK639.out) hg (Kd.R_ne HL648_0.out BK639.out (by decide)))
      have n2_:=Aside0.mk (Kd.R_grown2 (by (with_reducible repeat (first|apply Kd.R_alloc|apply Kd.R_drewN|apply Kd.R_drew)); exact HO642.out) rfl hg (fun k_ e_ => (HL648_0.out.1 k_ e_).1))
      have n3_:=Aside0.mk (blk_grown (g:=gb647) (o:=.cells #[.slice (some ⟨go30,0,none⟩) t644.length co24] 42 (0,0)) (by (with_reducible repeat (first|refine blk_drewN ?_ _|refine blk_drew ?_|refine blk_alloc ?_ _)); exact BK647.out) hg (Kd.R_ne HL648_0.out BK647.out (by decide)))
      have n4_:=Aside0.mk (hb)
      have n5_:=Aside0.mk (Kd.H_grown (Kd.H_widen (by repeat (first|exact HH30.out|refine Kd.H_alloc ?_ _|refine Kd.H_drewN ?_ _|refine Kd.H_drew ?_))) hg (fun k_ e_ => .inl (UU30.out.1 k_ e_)))
      have n6_:=Aside0.mk (ho)
      clear BK638
      clear BK639
      clear HO642
      clear BK647
      clear HB
      clear HH30
      clear HO646
      clear UU30
      clear HL648_0
      have BK638:=n0_
      have BK639:=n1_
      have HO642:=n2_
      have BK647:=n3_
      have HB:=n4_
      have HH30:=n5_
      have HO651:=n6_
      clear n0_ n1_ n2_ n3_ n4_ n5_ n6_
      clear ho hb hg hat
      have p10 : 0 ≤ (a1 : Int):=of_decide_eq_true (by first|(with_reducible assumption)|assumption)
      have q10 : (a1 : Int) < ((t644.length : Int) : Int):=of_decide_eq_true (by first|(with_reducible assumption)|assumption)
      replace p10:=eq_true p10
      replace q10:=eq_true q10
      obtain ⟨Ao34,co34,eo34⟩:=Kd.R_slice HO651.out
      (first|subst eo34|(injection eo34 with f1_ f2_ f3_; have f4_:=f1_.symm; have f5_:=f3_.symm; clear f1_ f2_ f3_; subst f4_; subst f5_))
      obtain ⟨_,_,hraw32,_,_,hcc32,_⟩:=Kd.H_raw HH30.out (of_decide_eq_true (by first|(with_reducible assumption)|assumption)) (by have h_ : (a1 : Int) < ((t644.length : Int) : Int):=of_decide_eq_true (by first|(with_reducible assumption)|assumption); first|exact h_|(have e_:=(HN30.out); omega)|simpa using h_)
      obtain ⟨_,hfr32⟩:=Kd.H_at HH30.out (of_decide_eq_true (by first|(with_reducible assumption)|assumption)) (by have h_ : (a1 : Int) < ((t644.length : Int) : Int):=of_decide_eq_true (by first|(with_reducible assumption)|assumption); first|exact h_|(have e_:=(HN30.out); omega)|simpa using h_)
      have hx32_0:=hcc32 0 _ rfl
      have hf32_0:=hfr32 0
      (try simp only [Nat.add_zero] at hx32_0 hf32_0)
      (try rw [show ((Kd.slice 3 (Kd.int .i64))).sz = 1 from rfl,Nat.mul_one] at hx32_0)
      (try rw [show ((Kd.slice 3 (Kd.int .i64))).sz = 1 from rfl,Nat.mul_one] at hf32_0)
      have HP32:=Kd.S_seg0 HH30.out (of_decide_eq_true (by first|(with_reducible assumption)|assumption)) (by have h_ : (a1 : Int) < ((t644.length : Int) : Int):=of_decide_eq_true (by first|(with_reducible assumption)|assumption); first|exact h_|(have e_:=(HN30.out); omega)|simpa using h_) (seg:=[.slice Ao34 y649.length co34]) (j:=0) (show 1 ≤ 1 from by decide) (x':=y649) (Kd.M_row HO651.out) (fun _ hk => hk)
      (try simp only [show ((Kd.slice 3 (Kd.int .i64))).sz = 1 from rfl,Nat.mul_one,Nat.add_zero] at HP32)
      clear hcc32 hfr32
      have HNB638_go30:=Aside0.mk (show gb638 ≠ go30 from by have h_:=Kd.R_ne hraw32 BK638.out (by decide); intro e_; exact h_ (by rw [e_]; rfl))
      have HNB639_go30:=Aside0.mk (show gb639 ≠ go30 from by have h_:=Kd.R_ne hraw32 BK639.out (by decide); intro e_; exact h_ (by rw [e_]; rfl))
      have HNB647_go30:=Aside0.mk (show gb647 ≠ go30 from by have h_:=Kd.R_ne hraw32 BK647.out (by decide); intro e_; exact h_ (by rw [e_]; rfl))
      have HS32:=HP32.1
      rw [← Ny652.out] at HS32
      have HQ32:=Aside0.mk HS32
      obtain ⟨_,hgg32⟩:=Kd.R_typed hraw32 go30 rfl
      have GG32_:=Aside0.mk hgg32
      clear HP32 HS32 hgg32
      refine hK.out _ _ ⟨(blk_cell BK647.out 0).trans rfl,HS1_⟩ (fun hHeld => ?_)
      clear hK K
      refine norm_ (a':=?_) ?_ ?_
      rotate_left
      ·show Act.put _ (some 27) _ = _
       simp only [Act.put,List.setIfInBounds_toArray,List.set_cons_zero,List.set_cons_succ,i64_w,i32_w]
       rfl
      refine pure_ (i:=11) (N:=some 28) (v:=?_) (a':=?_) (be03 13 4095) rfl rfl (any_of HT_.out (by kernel_rfl)) (fun _ _ _ h => h) (Or.inl ⟨by rfl,?_⟩) ?_ ?_
      rotate_left
      ·intro w'
       go_simp
       with_reducible rfl
      rotate_left
      ·simp only [Act.put,List.setIfInBounds_toArray,List.set_cons_zero,List.set_cons_succ,i64_w,i32_w]
       rfl
      refine last_ (i:=12) (N:=none) (be03 13 8191) rfl rfl (one_of HT_.out (by kernel_rfl)) (by decide) (fun K hK => ?_)
      refine skip_ (w1:=?_) (by rfl) rfl ?_ ?_
      rotate_left
      ·go_simp
       rfl
      refine hK.out _ _ ?_
      clear hK K
      refine done_ (done_of HT_.out (by kernel_rfl)) ?_
      have n0_ : Aside0 (Kd.R (Kd.int .i64) 3 (w31.setCell ⟨go30,(a1 : Int).toNat,none⟩ (.slice Ao34 y649.length co34)) w.heap.size (fun _ => True) (.slice Ao19 y640.length co19) y640):=⟨by (with_reducible repeat (first|apply Kd.R_alloc|apply Kd.R_drewN|apply Kd.R_drew)); exact Kd.R_mono (Kd.R_far (p:=⟨go30,(a1 : Int).toNat,none⟩) (Kd.R_types HO642.out GG32_.out (by decide)) (fun _ hk => hk.2) (.slice Ao34 y649.length co34)) (fun _ hk => trivial)⟩
      have n1_ : Aside0 (Kd.S (Kd.slice 3 (Kd.int .i64)) 24 (w31.setCell ⟨go30,(a1 : Int).toNat,none⟩ (.slice Ao34 y649.length co34)) w.heap.size (fun k_ => some k_ ≠ (.slice Ao19 y640.length co19 : Value).ownBlock) (.slice (some ⟨go30,0,none⟩) t644.length co24) y652):=⟨by (with_reducible repeat (first|apply Kd.S_alloc|apply Kd.S_drewN|apply Kd.S_drew)); exact HQ32.out⟩
      have n2_ : Aside0 ((w31.setCell ⟨go30,(a1 : Int).toNat,none⟩ (.slice Ao34 y649.length co34)).heap[gb638]? = some (.cells #[.slice A0_0 l0_0.length c0_0] 42 (0,0))):=⟨by (with_reducible repeat (first|refine blk_drewN ?_ _|refine blk_drew ?_|refine blk_alloc ?_ _)); refine blk_far ?_ HNB638_go30.out _; (with_reducible repeat (first|refine blk_drewN ?_ _|refine blk_drew ?_|refine blk_alloc ?_ _)); exact BK638.out⟩
      have n3_ : Aside0 ((w31.setCell ⟨go30,(a1 : Int).toNat,none⟩ (.slice Ao34 y649.length co34)).heap[gb639]? = some (.cells #[.slice none 0 0] 42 (0,0))):=⟨by (with_reducible repeat (first|refine blk_drewN ?_ _|refine blk_drew ?_|refine blk_alloc ?_ _)); refine blk_far ?_ HNB639_go30.out _; (with_reducible repeat (first|refine blk_drewN ?_ _|refine blk_drew ?_|refine blk_alloc ?_ _)); exact BK639.out⟩
      have n4_ : Aside0 ((w31.setCell ⟨go30,(a1 : Int).toNat,none⟩ (.slice Ao34 y649.length co34)).heap[gb647]? = some (.cells #[.slice (some ⟨go30,0,none⟩) t644.length co24] 42 (0,0))):=⟨by (with_reducible repeat (first|refine blk_drewN ?_ _|refine blk_drew ?_|refine blk_alloc ?_ _)); refine blk_far ?_ HNB647_go30.out _; (with_reducible repeat (first|refine blk_drewN ?_ _|refine blk_drew ?_|refine blk_alloc ?_ _)); exact BK647.out⟩
      have n5_ : Aside0 (Below w.heap.size w (w31.setCell ⟨go30,(a1 : Int).toNat,none⟩ (.slice Ao34 y649.length co34))):=⟨by repeat (first|(with_reducible first|exact HB.out|apply below_alloc|apply pw_below_drewN|apply below_drew1|refine below_set ?_ GB30.out|refine below_set ?_ GE638.out|refine below_set ?_ GE639.out|refine below_set ?_ GE647.out)|exact HB.out)⟩
      (try clear HO642)
      (try clear HO646)
      (try clear BK638)
      (try clear BK639)
      (try clear BK647)
      (try clear HB)
      generalize (w31.setCell ⟨go30,(a1 : Int).toNat,none⟩ (.slice Ao34 y649.length co34)) = w35 at n0_ n1_ n2_ n3_ n4_ n5_ ⊢
      have HO642:=n0_
      have HO646:=n1_
      have BK638:=n2_
      have BK639:=n3_
      have BK647:=n4_
      have HB:=n5_
      clear n0_ n1_ n2_ n3_ n4_ n5_
      have hcz36_0 : w35.cell? ⟨gb647,0,none⟩ = some (.slice (some ⟨go30,0,none⟩) t644.length co24):=(blk_cell BK647.out 0).trans rfl
      have hfz36_0:=blk_frozen BK647.out 0
      try go_wp2_with (first|((with_reducible refine gate_callee (f:=40) rfl ?_); refine goesL_ (some 30) rfl rfl Try.func40 (by kernel_rfl) rfl #[.agg #[.slice (some ⟨go30,0,none⟩) y652.length co24]] rfl (by (try simp only [List.map_toArray,List.map_cons,List.map_nil]); first|done|(rw [show y652.length = t644.length from (Kd.S_reads' HO646.out).1.symm] <;> rfl)|rfl|(simp only [List.length_drop,List.length_take]; rfl)) ?_; (with_reducible refine (impl_IsValidYard.calls _ _ y652 true _ ?side1 ?side2 A11.out).mono ?_); (case side1 => repeat (first|exact (Kd.S_reads' HO646.out).2.2|(with_reducible refine Kd.C_alloc ?_ _)|(with_reducible refine Kd.C_drewN ?_ _)|(with_reducible refine Kd.C_drew ?_))); (case side2 => rw [show y652.length = t644.length from (Kd.S_reads' HO646.out).1.symm]; exact (Kd.S_reads' HO646.out).2.1); rintro e w37 ⟨rfl,hb⟩; refine ⟨_,rfl,?_⟩; have n0_:=Aside0.mk (Kd.R_below (by (with_reducible repeat (first|apply Kd.R_alloc|apply Kd.R_drewN|apply Kd.R_drew)); exact HO642.out) hb); have n1_:=Aside0.mk (Kd.S_below (by (with_reducible repeat (first|apply Kd.S_alloc|apply Kd.S_drewN|apply Kd.S_drew)); exact HO646.out) hb); have n2_:=Aside0.mk (blk_below (g:=gb638) (o:=.cells #[.slice A0_0 l0_0.length c0_0] 42 (0,0)) (by (with_reducible repeat (first|refine blk_drewN ?_ _|refine blk_drew ?_|refine blk_alloc ?_ _)); exact BK638.out) hb); have n3_:=Aside0.mk (blk_below (g:=gb639) (o:=.cells #[.slice none 0 0] 42 (0,0)) (by (with_reducible repeat (first|refine blk_drewN ?_ _|refine blk_drew ?_|refine blk_alloc ?_ _)); exact BK639.out) hb); have n4_:=Aside0.mk (blk_below (g:=gb647) (o:=.cells #[.slice (some ⟨go30,0,none⟩) t644.length co24] 42 (0,0)) (by (with_reducible repeat (first|refine blk_drewN ?_ _|refine blk_drew ?_|refine blk_alloc ?_ _)); exact BK647.out) hb); have n5_:=Aside0.mk (below_step (by repeat (first|(with_reducible first|exact HB.out|apply below_alloc|apply pw_below_drewN|apply below_drew1|refine below_set ?_ GE638.out|refine below_set ?_ GE639.out|refine below_set ?_ GE647.out)|exact HB.out)) hb); clear HO642; clear HO646; clear BK638; clear BK639; clear BK647; clear HB; have HO642:=n0_; have HO646:=n1_; have BK638:=n2_; have BK639:=n3_; have BK647:=n4_; have HB:=n5_; clear n0_ n1_ n2_ n3_ n4_ n5_; (try clear hb); (try clear hb2); (try clear hk); (try clear hi); have hcz38_0 : w37.cell? ⟨gb647,0,none⟩ = some (.slice (some ⟨go30,0,none⟩) t644.length co24):=(blk_cell BK647.out 0).trans rfl; have hfz38_0:=blk_frozen BK647.out 0; have hcz39_0 : w37.cell? ⟨gb639,0,none⟩ = some (.slice none 0 0):=(blk_cell BK639.out 0).trans rfl; have hfz39_0:=blk_frozen BK639.out 0))
      refine bodyPost_ret (results_ct rfl _ _ gb639 42 #[.slice (some ⟨go30,0,none⟩) t644.length co24] (0,0) _ rfl (by (with_reducible repeat (first|refine blk_drewN ?_ _|refine blk_drew ?_|refine blk_alloc ?_ _)); refine blk_put (cs:=#[.slice none 0 0]) ?_ 0 _ rfl; (with_reducible repeat (first|refine blk_drewN ?_ _|refine blk_drew ?_|refine blk_alloc ?_ _)); exact BK639.out) Try.underlying42 rfl (by kernel_rfl)) rfl ?_
      exact ⟨_,by first|rfl|(simp [errW_none,errW_some] <;> rfl)|(simp [*,errW_none,errW_some] <;> rfl),by (with_reducible repeat (first|apply Kd.S_alloc|apply Kd.S_drewN|apply Kd.S_drew)); exact Kd.S_mono (Kd.S_far (p:=⟨gb639,0,none⟩) (Kd.S_types HO646.out BK639.out (by decide)) (fun _ hk => hk.2) (.slice (some ⟨go30,0,none⟩) t644.length co24)) (fun _ hk => trivial),by repeat (first|(with_reducible first|exact HB.out|apply below_alloc|apply pw_below_drewN|apply below_drew1|refine below_set ?_ GE638.out|refine below_set ?_ GE639.out|refine below_set ?_ GE647.out)|exact HB.out)⟩
     ·replace c12:=Bool.eq_false_iff.mpr c12
      subst c12
      have H1 : (some (([] : List (List Int)),false)) = some (r1,r2):=by rw [if_neg (show ¬ (false = true) by decide)] at H; exact H
      clear H
      have H:=H1
      clear H1
      simp only [Option.some.injEq,Prod.mk.injEq] at H
      obtain ⟨rfl,rfl⟩:=H
      go_enter Try.func37,Try.ntmps37
      try go_wp2_with (first|((with_reducible refine gate_dst (N:=3) rfl ?_); refine box_event ?hg (N:=3) ?hd (cs:=#[.slice A0_0 l0_0.length c0_0]) (t:=42) ?hr ?_; (case hd => rfl); (case hg => rfl); (case hr => first|(go_simp; done)|(go_simp; rfl)); intro gb638 hg w40 hbox hb; have n0_:=Aside0.mk (below_step (by repeat (first|(with_reducible first|exact HB.out|apply below_alloc|apply pw_below_drewN|apply below_drew1)|exact HB.out)) hb); have n1_:=Aside0.mk (hbox); have n2_:=Aside0.mk ((by rw [hg]; exact (below_size (by repeat (first|(with_reducible first|exact HB.out|apply below_alloc|apply pw_below_drewN|apply below_drew1)|exact HB.out))) : w.heap.size ≤ gb638)); have n3_:=Aside0.mk ((by rw [hg]; exact (below_size (by repeat (first|(with_reducible first|exact HB.out|apply below_alloc|apply pw_below_drewN|apply below_drew1)|exact HB.out))) : w.heap.size ≤ gb638)); clear HB; have HB:=n0_; have BK638:=n1_; have GW638:=n2_; have GE638:=n3_; clear n0_ n1_ n2_ n3_; clear hb hbox hg)|((with_reducible refine gate_dst (N:=6) rfl ?_); refine box_event ?hg (N:=6) ?hd (cs:=#[.slice none 0 0]) (t:=42) ?hr ?_; (case hd => rfl); (case hg => rfl); (case hr => first|(go_simp; done)|(go_simp; rfl)); intro gb639 hg w41 hbox hb; have n0_:=Aside0.mk (blk_below (g:=gb638) (o:=.cells #[.slice A0_0 l0_0.length c0_0] 42 (0,0)) (by (with_reducible repeat (first|refine blk_drewN ?_ _|refine blk_drew ?_|refine blk_alloc ?_ _)); exact BK638.out) hb); have n1_:=Aside0.mk (below_step (by repeat (first|(with_reducible first|exact HB.out|apply below_alloc|apply pw_below_drewN|apply below_drew1|refine below_set ?_ GE638.out)|exact HB.out)) hb); have n2_:=Aside0.mk (hbox); have n3_:=Aside0.mk ((by rw [hg]; exact (below_size (by repeat (first|(with_reducible first|exact HB.out|apply below_alloc|apply pw_below_drewN|apply below_drew1|refine below_set ?_ GE638.out)|exact HB.out))) : w.heap.size ≤ gb639)); have n4_:=Aside0.mk ((by rw [hg]; exact (below_size (by repeat (first|(with_reducible first|exact HB.out|apply below_alloc|apply pw_below_drewN|apply below_drew1|refine below_set ?_ GE638.out)|exact HB.out))) : w.heap.size ≤ gb639)); have n5_:=Aside0.mk ((by rw [hg]; exact Nat.ne_of_lt (blk_lt (g:=gb638) (o:=.cells #[.slice A0_0 l0_0.length c0_0] 42 (0,0)) (by (with_reducible repeat (first|refine blk_drewN ?_ _|refine blk_drew ?_|refine blk_alloc ?_ _)); exact BK638.out)) : gb638 ≠ gb639)); have n6_:=Aside0.mk ((by rw [hg]; exact Nat.ne_of_gt (blk_lt (g:=gb638) (o:=.cells #[.slice A0_0 l0_0.length c0_0] 42 (0,0)) (by (with_reducible repeat (first|refine blk_drewN ?_ _|refine blk_drew ?_|refine blk_alloc ?_ _)); exact BK638.out)) : gb639 ≠ gb638)); clear BK638; clear HB; have BK638:=n0_; have HB:=n1_; have BK639:=n2_; have GW639:=n3_; have GE639:=n4_; have NB638_639:=n5_; have NB639_638:=n6_; clear n0_ n1_ n2_ n3_ n4_ n5_ n6_; clear hb hbox hg; have hnb42:=NB638_639.out; have hnc42:=NB639_638.out; have hcz43_0 : w41.cell? ⟨gb638,0,none⟩ = some (.slice A0_0 l0_0.length c0_0):=(blk_cell BK638.out 0).trans rfl; have hfz43_0:=blk_frozen BK638.out 0)|((with_reducible refine gate_dst (N:=11) rfl ?_); refine Kd.R_lit (Kd.int .i64) _ 3 ?hg (N:=11) ?hd (xs:=([a1] : List Int)) (inner:=[.int .i64 a1]) (ok:=fun _ => True) (okp:=fun _ => True) ?hr ?hp (fun _ hk => hk) trivial (Below.refl _ _) (Nat.le_refl _) (by simp) ?_; (case hd => rfl); (case hg => rfl); (case hr => first|(go_simp; done)|(go_simp; rfl)); (case hp => exact (Reps.one (show Kd.M (Kd.int .i64) _ _ _ a1 [.int .i64 a1] from rfl) (Reps.none _ _))); intro v641 w44 ho45 hb hg_ hnew_; clear hg_ hnew_; (first|rw [← Ny640.out] at ho45|(simp only [Int.reduceToNat] at ho45; rw [← Ny640.out] at ho45)); have n0_:=Aside0.mk (Kd.R_lower ho45 (below_size (by repeat (first|(with_reducible first|exact HB.out|apply below_alloc|apply pw_below_drewN|apply below_drew1|refine below_set ?_ GE638.out|refine below_set ?_ GE639.out)|exact HB.out)))); have n1_:=Aside0.mk (blk_below (g:=gb638) (o:=.cells #[.slice A0_0 l0_0.length c0_0] 42 (0,0)) (by (with_reducible repeat (first|refine blk_drewN ?_ _|refine blk_drew ?_|refine blk_alloc ?_ _)); exact BK638.out) hb); have n2_:=Aside0.mk (blk_below (g:=gb639) (o:=.cells #[.slice none 0 0] 42 (0,0)) (by (with_reducible repeat (first|refine blk_drewN ?_ _|refine blk_drew ?_|refine blk_alloc ?_ _)); exact BK639.out) hb); have n3_:=Aside0.mk (below_step (by repeat (first|(with_reducible first|exact HB.out|apply below_alloc|apply pw_below_drewN|apply below_drew1|refine below_set ?_ GE638.out|refine below_set ?_ GE639.out)|exact HB.out)) hb); clear BK638; clear BK639; clear HB; have HO642:=n0_; have BK638:=n1_; have BK639:=n2_; have HB:=n3_; clear n0_ n1_ n2_ n3_; clear hb ho45; obtain ⟨Ao46,co46,eo46⟩:=Kd.R_slice HO642.out; subst eo46)|((with_reducible refine gate_callee (f:=107) rfl ?_); refine goesL_ (some 12) rfl rfl Try.func107 (by kernel_rfl) rfl #[.agg #[.slice A0_0 l0_0.length c0_0],.slice Ao46 y640.length co46] rfl (by (try simp only [List.map_toArray,List.map_cons,List.map_nil]); first|done|rfl|(simp only [List.length_drop,List.length_take]; rfl)) ?_; (with_reducible refine (impl_hasStack.calls k _ _ l0_0 _ _ y640 true _ ?side1 ?side2 ?side3 ?side4 A4.out).mono ?_); (case side1 => repeat (first|exact (Kd.C_below HR0_0.out HB.out)|(with_reducible refine Kd.C_alloc ?_ _)|(with_reducible refine Kd.C_drewN ?_ _)|(with_reducible refine Kd.C_drew ?_))); (case side2 => exact HC0_0.out); (case side3 => repeat (first|exact (Kd.R_reads' HO642.out).2.2|(with_reducible refine Kd.C_alloc ?_ _)|(with_reducible refine Kd.C_drewN ?_ _)|(with_reducible refine Kd.C_drew ?_))); (case side4 => exact (Kd.R_reads' HO642.out).2.1); rintro e w47 ⟨rfl,hb⟩; refine ⟨_,rfl,?_⟩; have n0_:=Aside0.mk (Kd.R_below (by (with_reducible repeat (first|apply Kd.R_alloc|apply Kd.R_drewN|apply Kd.R_drew)); exact HO642.out) hb); have n1_:=Aside0.mk (blk_below (g:=gb638) (o:=.cells #[.slice A0_0 l0_0.length c0_0] 42 (0,0)) (by (with_reducible repeat (first|refine blk_drewN ?_ _|refine blk_drew ?_|refine blk_alloc ?_ _)); exact BK638.out) hb); have n2_:=Aside0.mk (blk_below (g:=gb639) (o:=.cells #[.slice none 0 0] 42 (0,0)) (by (with_reducible repeat (first|refine blk_drewN ?_ _|refine blk_drew ?_|refine blk_alloc ?_ _)); exact BK639.out) hb); have n3_:=Aside0.mk (below_step (by repeat (first|(with_reducible first|exact HB.out|apply below_alloc|apply pw_below_drewN|apply below_drew1|refine below_set ?_ GE638.out|refine below_set ?_ GE639.out)|exact HB.out)) hb); clear HO642; clear BK638; clear BK639; clear HB; have HO642:=n0_; have BK638:=n1_; have BK639:=n2_; have HB:=n3_; clear n0_ n1_ n2_ n3_; (try clear hb); (try clear hb2); (try clear hk); (try clear hi); have hcz48_0 : w47.cell? ⟨gb638,0,none⟩ = some (.slice A0_0 l0_0.length c0_0):=(blk_cell BK638.out 0).trans rfl; have hfz48_0:=blk_frozen BK638.out 0)|((with_reducible refine gate_callee (f:=108) rfl ?_); refine goesL_ (some 16) rfl rfl Try.func108 (by kernel_rfl) rfl #[.agg #[.slice A0_0 l0_0.length c0_0]] rfl (by (try simp only [List.map_toArray,List.map_cons,List.map_nil]); first|done|rfl|(simp only [List.length_drop,List.length_take]; rfl)) ?_; (with_reducible refine (impl_ownYard.calls k _ _ l0_0 t644 _ ?side1 ?side2 A6.out).mono ?_); (case side1 => repeat (first|exact (Kd.C_below HR0_0.out HB.out)|(with_reducible refine Kd.C_alloc ?_ _)|(with_reducible refine Kd.C_drewN ?_ _)|(with_reducible refine Kd.C_drew ?_))); (case side2 => exact HC0_0.out); rintro e w49 ⟨v645,rfl,ho0,hb⟩; refine ⟨_,rfl,?_⟩; have n0_:=Aside0.mk (Kd.R_below (by (with_reducible repeat (first|apply Kd.R_alloc|apply Kd.R_drewN|apply Kd.R_drew)); exact HO642.out) hb); have n1_:=Aside0.mk (Kd.S_lower (Kd.S_new' ho0 (Kd.R_lt (by (with_reducible repeat (first|apply Kd.R_alloc|apply Kd.R_drewN|apply Kd.R_drew)); exact HO642.out))) (below_size (by repeat (first|(with_reducible first|exact HB.out|apply below_alloc|apply pw_below_drewN|apply below_drew1|refine below_set ?_ GE638.out|refine below_set ?_ GE639.out)|exact HB.out)))); have n2_:=Aside0.mk (blk_below (g:=gb638) (o:=.cells #[.slice A0_0 l0_0.length c0_0] 42 (0,0)) (by (with_reducible repeat (first|refine blk_drewN ?_ _|refine blk_drew ?_|refine blk_alloc ?_ _)); exact BK638.out) hb); have n3_:=Aside0.mk (blk_below (g:=gb639) (o:=.cells #[.slice none 0 0] 42 (0,0)) (by (with_reducible repeat (first|refine blk_drewN ?_ _|refine blk_drew ?_|refine blk_alloc ?_ _)); exact BK639.out) hb); have n4_:=Aside0.mk (below_step (by repeat (first|(with_reducible first|exact HB.out|apply below_alloc|apply pw_below_drewN|apply below_drew1|refine below_set ?_ GE638.out|refine below_set ?_ GE639.out)|exact HB.out)) hb); clear HO642; clear BK638; clear BK639; clear HB; have HO642:=n0_; have HO646:=n1_; have BK638:=n2_; have BK639:=n3_; have HB:=n4_; clear n0_ n1_ n2_ n3_ n4_; (try clear hb); (try clear hb2); (try clear hk); (try clear hi); (try clear ho0))|((with_reducible refine gate_dst (N:=8) rfl ?_); refine box_event ?hg (N:=8) ?hd (cs:=#[.slice none 0 0]) (t:=42) ?hr ?_; (case hd => rfl); (case hg => rfl); (case hr => first|(go_simp; done)|(go_simp; rfl)); intro gb647 hg w50 hbox hb; have n0_:=Aside0.mk (Kd.R_below (by (with_reducible repeat (first|apply Kd.R_alloc|apply Kd.R_drewN|apply Kd.R_drew)); exact HO642.out) hb); have n1_:=Aside0.mk (Kd.S_below (by (with_reducible repeat (first|apply Kd.S_alloc|apply Kd.S_drewN|apply Kd.S_drew)); exact HO646.out) hb); have n2_:=Aside0.mk (blk_below (g:=gb638) (o:=.cells #[.slice A0_0 l0_0.length c0_0] 42 (0,0)) (by (with_reducible repeat (first|refine blk_drewN ?_ _|refine blk_drew ?_|refine blk_alloc ?_ _)); exact BK638.out) hb); have n3_:=Aside0.mk (blk_below (g:=gb639) (o:=.cells #[.slice none 0 0] 42 (0,0)) (by (with_reducible repeat (first|refine blk_drewN ?_ _|refine blk_drew ?_|refine blk_alloc ?_ _)); exact BK639.out) hb); have n4_:=Aside0.mk (below_step (by repeat (first|(with_reducible first|exact HB.out|apply below_alloc|apply pw_below_drewN|apply below_drew1|refine below_set ?_ GE638.out|refine below_set ?_ GE639.out)|exact HB.out)) hb); have n5_:=Aside0.mk (hbox); have n6_:=Aside0.mk ((by rw [hg]; exact (below_size (by repeat (first|(with_reducible first|exact HB.out|apply below_alloc|apply pw_below_drewN|apply below_drew1|refine below_set ?_ GE638.out|refine below_set ?_ GE639.out)|exact HB.out))) : w.heap.size ≤ gb647)); have n7_:=Aside0.mk ((by rw [hg]; exact (below_size (by repeat (first|(with_reducible first|exact HB.out|apply below_alloc|apply pw_below_drewN|apply below_drew1|refine below_set ?_ GE638.out|refine below_set ?_ GE639.out)|exact HB.out))) : w.heap.size ≤ gb647)); have n8_:=Aside0.mk ((by rw [hg]; exact Nat.ne_of_lt (blk_lt (g:=gb638) (o:=.cells #[.slice A0_0 l0_0.length c0_0] 42 (0,0)) (by (with_reducible repeat (first|refine blk_drewN ?_ _|refine blk_drew ?_|refine blk_alloc ?_ _)); exact BK638.out)) : gb638 ≠ gb647)); have n9_:=Aside0.mk ((by rw [hg]; exact Nat.ne_of_gt (blk_lt (g:=gb638) (o:=.cells #[.slice A0_0 l0_0.length c0_0] 42 (0,0)) (by (with_reducible repeat (first|refine blk_drewN ?_ _|refine blk_drew ?_|refine blk_alloc ?_ _)); exact BK638.out)) : gb647 ≠ gb638)); have n10_:=Aside0.mk ((by rw [hg]; exact Nat.ne_of_lt (blk_lt (g:=gb639) (o:=.cells #[.slice none 0 0] 42 (0,0)) (by (with_reducible repeat (first|refine blk_drewN ?_ _|refine blk_drew ?_|refine blk_alloc ?_ _)); exact BK639.out)) : gb639 ≠ gb647)); have n11_:=Aside0.mk ((by rw [hg]; exact Nat.ne_of_gt (blk_lt (g:=gb639) (o:=.cells #[.slice none 0 0] 42 (0,0)) (by (with_reducible repeat (first|refine blk_drewN ?_ _|refine blk_drew ?_|refine blk_alloc ?_ _)); exact BK639.out)) : gb647 ≠ gb639)); clear HO642; clear HO646; clear BK638; clear BK639; clear HB; have HO642:=n0_; have HO646:=n1_; have BK638:=n2_; have BK639:=n3_; have HB:=n4_; have BK647:=n5_; have GW647:=n6_; have GE647:=n7_; have NB638_647:=n8_; have NB647_638:=n9_; have NB639_647:=n10_; have NB647_639:=n11_; clear n0_ n1_ n2_ n3_ n4_ n5_ n6_ n7_ n8_ n9_ n10_ n11_; clear hb hbox hg; obtain ⟨Ao51,co51,eo51⟩:=Kd.S_slice HO646.out; subst eo51; have hnb52:=NB647_638.out; have hnc52:=NB638_647.out; have hnb53:=NB647_639.out; have hnc53:=NB639_647.out; have hcz54_0 : w50.cell? ⟨gb647,0,none⟩ = some (.slice none 0 0):=(blk_cell BK647.out 0).trans rfl; have hfz54_0:=blk_frozen BK647.out 0))
      have n0_ : Aside0 (Kd.R (Kd.int .i64) 3 (w50.setCell ⟨gb647,0,none⟩ (.slice Ao51 t644.length co51)) w.heap.size (fun _ => True) (.slice Ao46 y640.length co46) y640):=⟨by (with_reducible repeat (first|apply Kd.R_alloc|apply Kd.R_drewN|apply Kd.R_drew)); exact Kd.R_mono (Kd.R_far (p:=⟨gb647,0,none⟩) (Kd.R_types HO642.out BK647.out (by decide)) (fun _ hk => hk.2) (.slice Ao51 t644.length co51)) (fun _ hk => trivial)⟩
      have n1_ : Aside0 (Kd.S (Kd.slice 3 (Kd.int .i64)) 24 (w50.setCell ⟨gb647,0,none⟩ (.slice Ao51 t644.length co51)) w.heap.size (fun k_ => some k_ ≠ (.slice Ao46 y640.length co46 : Value).ownBlock) (.slice Ao51 t644.length co51) t644):=⟨by (with_reducible repeat (first|apply Kd.S_alloc|apply Kd.S_drewN|apply Kd.S_drew)); exact Kd.S_mono (Kd.S_far (p:=⟨gb647,0,none⟩) (Kd.S_types HO646.out BK647.out (by decide)) (fun _ hk => hk.2) (.slice Ao51 t644.length co51)) (fun _ hk => hk.1.2)⟩
      have n2_ : Aside0 ((w50.setCell ⟨gb647,0,none⟩ (.slice Ao51 t644.length co51)).heap[gb638]? = some (.cells #[.slice A0_0 l0_0.length c0_0] 42 (0,0))):=⟨by (with_reducible repeat (first|refine blk_drewN ?_ _|refine blk_drew ?_|refine blk_alloc ?_ _)); refine blk_far ?_ NB638_647.out _; (with_reducible repeat (first|refine blk_drewN ?_ _|refine blk_drew ?_|refine blk_alloc ?_ _)); exact BK638.out⟩
      have n3_ : Aside0 ((w50.setCell ⟨gb647,0,none⟩ (.slice Ao51 t644.length co51)).heap[gb639]? = some (.cells #[.slice none 0 0] 42 (0,0))):=⟨by (with_reducible repeat (first|refine blk_drewN ?_ _|refine blk_drew ?_|refine blk_alloc ?_ _)); refine blk_far ?_ NB639_647.out _; (with_reducible repeat (first|refine blk_drewN ?_ _|refine blk_drew ?_|refine blk_alloc ?_ _)); exact BK639.out⟩
      have n4_ : Aside0 ((w50.setCell ⟨gb647,0,none⟩ (.slice Ao51 t644.length co51)).heap[gb647]? = some (.cells #[.slice Ao51 t644.length co51] 42 (0,0))):=⟨by (with_reducible repeat (first|refine blk_drewN ?_ _|refine blk_drew ?_|refine blk_alloc ?_ _)); refine blk_put (cs:=#[.slice none 0 0]) ?_ 0 _ rfl; (with_reducible repeat (first|refine blk_drewN ?_ _|refine blk_drew ?_|refine blk_alloc ?_ _)); exact BK647.out⟩
      have n5_ : Aside0 (Below w.heap.size w (w50.setCell ⟨gb647,0,none⟩ (.slice Ao51 t644.length co51))):=⟨by repeat (first|(with_reducible first|exact HB.out|apply below_alloc|apply pw_below_drewN|apply below_drew1|refine below_set ?_ GE638.out|refine below_set ?_ GE639.out|refine below_set ?_ GE647.out)|exact HB.out)⟩
      (try clear HO642)
      (try clear HO646)
      (try clear BK638)
      (try clear BK639)
      (try clear BK647)
      (try clear HB)
      generalize (w50.setCell ⟨gb647,0,none⟩ (.slice Ao51 t644.length co51)) = w55 at n0_ n1_ n2_ n3_ n4_ n5_ ⊢
      have HO642:=n0_
      have HO646:=n1_
      have BK638:=n2_
      have BK639:=n3_
      have BK647:=n4_
      have HB:=n5_
      clear n0_ n1_ n2_ n3_ n4_ n5_
      have n0_:=Aside0.mk (Kd.R_drew HO642.out)
      have n1_:=Aside0.mk (Kd.S_drew HO646.out)
      have n2_:=Aside0.mk (blk_drew BK638.out)
      have n3_:=Aside0.mk (blk_drew BK639.out)
      have n4_:=Aside0.mk (blk_drew BK647.out)
      have n5_:=Aside0.mk (below_drew1 HB.out)
      clear HO642
      clear HO646
      clear BK638
      clear BK639
      clear BK647
      clear HB
      have HO642:=n0_
      have HO646:=n1_
      have BK638:=n2_
      have BK639:=n3_
      have BK647:=n4_
      have HB:=n5_
      clear n0_ n1_ n2_ n3_ n4_ n5_
      have p648 : 0 ≤ (a1 : Int):=of_decide_eq_true (by first|(with_reducible assumption)|assumption)
      have q648 : a1 < (t644.length : Int):=of_decide_eq_true (by first|(with_reducible assumption)|assumption)
      obtain ⟨ad648,A648_0,c648_0,e648,hx648_0,hl648_0,hi648_0⟩:=at_L2 (Kd.S_reads' HO646.out).2.2 a1 p648 q648
      cases e648
      obtain ⟨ce648,hce648,hMe648,hcc648⟩:=Kd.S_get HO646.out [] a1 p648 (by first|exact q648|exact of_decide_eq_true (by first|(with_reducible assumption)|assumption)|(have e_:=(Kd.S_reads' HO646.out).1; omega))
      obtain ⟨ve648_0,rfl,ge648_0⟩:=hMe648
      have hv648_0:=hcc648 0 _ rfl
      rw [Nat.add_zero,show ((Kd.slice 3 (Kd.int .i64))).sz = 1 from rfl,Nat.mul_one] at hv648_0
      replace hv648_0:=Option.some.inj (hv648_0.symm.trans hx648_0)
      rw [hv648_0] at ge648_0
      have HL648_0:=Aside0.mk (show Kd.R (Kd.int .i64) 3 _ _ _ _ (rd_L2 t644 a1) from ge648_0)
      clear hv648_0 ge648_0
      have HX648_0:=Aside0.mk hx648_0
      clear hcc648 hce648
      have HR648_0:=Aside0.mk hi648_0
      have HC648_0:=Aside0.mk hl648_0
      clear hi648_0 hl648_0
      replace p648:=eq_true p648
      replace q648:=eq_true q648
      obtain ⟨go57,co57,eo57,gb57,gl57,cl57,HG57⟩:=Kd.S_form HO646.out (by have h_ : (a1 : Int) < ((t644.length : Int) : Int):=of_decide_eq_true (by first|(with_reducible assumption)|assumption); have h2_ : 0 ≤ (a1 : Int):=(of_decide_eq_true (by first|(with_reducible assumption)|assumption)); omega)
      (first|cases eo57|(injection eo57 with ea_ en_ ec_; (first|subst ea_|(injection ea_ with ea_; subst ea_)); subst ec_; clear en_))
      have GB57:=Aside0.mk gb57
      have GG57:=Aside0.mk HG57
      clear gb57 gl57 HG57
      (first|simp only [add_plain] at hx648_0|skip)
      obtain ⟨oki57,ce57,hcl57,hM57,hcc57,_,_,hH57⟩:=Kd.S_elem HO646.out [] (a1 : Int) (of_decide_eq_true (by first|(with_reducible assumption)|assumption)) (by have h_ : (a1 : Int) < ((t644.length : Int) : Int):=of_decide_eq_true (by first|(with_reducible assumption)|assumption); first|exact h_|(have e_:=(Kd.S_reads' HO646.out).1; omega)|simpa using h_)
      obtain ⟨ve57_0,rfl,ge57_0⟩:=hM57
      have hv57:=hcc57 0 _ rfl
      have hX57:=HX648_0.out
      (try simp only [add_plain] at hX57)
      (try simp only [Nat.add_zero] at hv57)
      (try rw [show ((Kd.slice 3 (Kd.int .i64))).sz = 1 from rfl,Nat.mul_one] at hv57)
      replace hv57:=Option.some.inj (hv57.symm.trans hX57)
      subst hv57
      clear hX57 hcc57 hcl57
      have UU57:=Aside0.mk (show Kd.R (Kd.int .i64) 3 _ w.heap.size oki57 (.slice A648_0 (rd_L2 t644 a1).length c648_0) (rd_L2 t644 a1) from ge57_0)
      have HH57:=Aside0.mk hH57
      have HN57:=Aside0.mk (Kd.S_reads' HO646.out).1
      clear hH57 ge57_0
      refine start_ (n:=13) (S:=fun w' => w'.cell? ⟨gb647,0,none⟩ = some (.slice (some ⟨go57,0,none⟩) t644.length co51) ∧ w'.cell? ⟨go57,(a1).toNat,none⟩ = some (.slice A648_0 (rd_L2 t644 a1).length c648_0)) (ds:=[12]) (be03 13 0) (by kernel_rfl) rfl rfl ⟨(blk_cell BK647.out 0).trans rfl,hx648_0⟩ (fun hHeld => ?_); refine with_tabW impl_PutBox.tab4 impl_PutBox.bits4 (fun HT_ HW_ => ?_)
      generalize w55.drew = w56 at HO642 HO646 BK638 BK639 BK647 HB GG57 HH57 HL648_0 HR648_0 HX648_0 UU57 hx648_0 hHeld ⊢
      refine pure_ (i:=0) (N:=some 17) (v:=?_) (a':=?_) (be03 13 1) rfl rfl (any_of HT_.out (by kernel_rfl)) (fun _ _ _ h => h) (Or.inl ⟨by rfl,?_⟩) ?_ ?_
      rotate_left
      ·intro w'
       go_simp
       with_reducible rfl
      rotate_left
      ·simp only [Act.put,List.setIfInBounds_toArray,List.set_cons_zero,List.set_cons_succ,i64_w,i32_w]
       rfl
      refine pure_ (i:=2) (N:=some 19) (v:=?_) (a':=?_) (be03 13 5) rfl rfl (any_of HT_.out (by kernel_rfl)) (fun _ _ _ h => h) (Or.inl ⟨by rfl,?_⟩) ?_ ?_
      rotate_left
      ·intro w'
       go_simp
       with_reducible rfl
      rotate_left
      ·simp only [Act.put,List.setIfInBounds_toArray,List.set_cons_zero,List.set_cons_succ,i64_w,i32_w]
       rfl
      refine pure_ (i:=3) (N:=some 20) (v:=?_) (a':=?_) (be03 13 13) rfl rfl (any_of HT_.out (by kernel_rfl)) (fun _ _ _ h => h) (Or.inl ⟨by rfl,?_⟩) ?_ ?_
      rotate_left
      ·intro w'
       go_simp
       with_reducible rfl
      rotate_left
      ·simp only [Act.put,List.setIfInBounds_toArray,List.set_cons_zero,List.set_cons_succ,i64_w,i32_w]
       rfl
      refine pure_ (i:=5) (N:=some 22) (v:=?_) (a':=?_) (be03 13 45) rfl rfl (any_of HT_.out (by kernel_rfl)) (fun _ _ _ h => h) (Or.inl ⟨by rfl,?_⟩) ?_ ?_
      rotate_left
      ·intro w'
       go_simp
       with_reducible rfl
      rotate_left
      ·simp only [Act.put,List.setIfInBounds_toArray,List.set_cons_zero,List.set_cons_succ,i64_w,i32_w]
       rfl
      refine pure_ (i:=8) (N:=some 25) (v:=?_) (a':=?_) (be03 13 301) rfl rfl (any_of HT_.out (by kernel_rfl)) (fun _ _ _ h => h) (Or.inl ⟨by rfl,?_⟩) ?_ ?_
      rotate_left
      ·intro w'
       go_simp
       with_reducible rfl
      rotate_left
      ·simp only [Act.put,List.setIfInBounds_toArray,List.set_cons_zero,List.set_cons_succ,i64_w,i32_w]
       rfl
      refine take_ (i:=1) (N:=some 18) (v:=?_) (a':=?_) (be03 13 303) rfl rfl (take_ofW HT_.out HW_.out (by kernel_rfl)) (fun _ _ _ h => h) (Or.inl ⟨by rfl,?_⟩) hHeld ?_ ?_
      rotate_left
      ·rintro w' ⟨s0,s1⟩
       go_simp
       with_reducible rfl
      rotate_left
      ·simp only [Act.put,List.setIfInBounds_toArray,List.set_cons_zero,List.set_cons_succ,i64_w,i32_w]
       rfl
      refine take_ (i:=4) (N:=some 21) (v:=?_) (a':=?_) (be03 13 319) rfl rfl (take_ofW HT_.out HW_.out (by kernel_rfl)) (fun _ _ _ h => h) (Or.inl ⟨by rfl,?_⟩) hHeld ?_ ?_
      rotate_left
      ·rintro w' ⟨s0,s1⟩
       go_simp
       with_reducible rfl
      rotate_left
      ·simp only [Act.put,List.setIfInBounds_toArray,List.set_cons_zero,List.set_cons_succ,i64_w,i32_w]
       rfl
      refine pure_ (i:=6) (N:=some 23) (v:=?_) (a':=?_) (be03 13 383) rfl rfl (any_of HT_.out (by kernel_rfl)) (fun _ _ _ h => h) (Or.inl ⟨by rfl,?_⟩) ?_ ?_
      rotate_left
      ·intro w'
       go_simp
       with_reducible rfl
      rotate_left
      ·simp only [Act.put,List.setIfInBounds_toArray,List.set_cons_zero,List.set_cons_succ,i64_w,i32_w]
       rfl
      refine take_ (i:=7) (N:=some 24) (v:=?_) (a':=?_) (be03 13 511) rfl rfl (take_ofW HT_.out HW_.out (by kernel_rfl)) (fun _ _ _ h => h) (Or.inl ⟨by rfl,?_⟩) hHeld ?_ ?_
      rotate_left
      ·rintro w' ⟨s0,s1⟩
       go_simp
       with_reducible rfl
      rotate_left
      ·simp only [Act.put,List.setIfInBounds_toArray,List.set_cons_zero,List.set_cons_succ,i64_w,i32_w]
       rfl
      refine one_ (i:=9) (N:=some 26) (be03 13 1023) rfl rfl (one_of HT_.out (by kernel_rfl)) (by decide) (fun K hK => ?_)
      refine value_ (w1:=?_) (v:=?_) (by rfl) rfl ?_ ?_
      rotate_left 2
      ·go_simp
       constructor
       ·rfl
       ·rfl
      refine hK.out _ _ ⟨(blk_cell (blk_alloc BK647.out _) 0).trans rfl,(World.cell?_alloc_lt _ _ _ (World.block_lt_of_cell? _ _ (hHeld.2))).trans (hHeld.2)⟩ (fun hHeld => ?_)
      clear hK K
      refine norm_ (a':=?_) ?_ ?_
      rotate_left
      ·show Act.put _ (some 26) _ = _
       simp only [Act.put,List.setIfInBounds_toArray,List.set_cons_zero,List.set_cons_succ,i64_w,i32_w]
       rfl
      refine one_ (i:=10) (N:=some 27) (be03 13 2047) rfl rfl (one_of HT_.out (by kernel_rfl)) (by decide) (fun K hK => ?_)
      refine Kd.R_append_step (Kd.int .i64) (w0:=w) w.heap.size (by rfl) (.tmp 24) (.tmp 26) 24 3 (.int .i64 0) 8 rfl Try.underlying24 info3 rfl (by decide) (by omega) (.slice A648_0 (rd_L2 t644 a1).length c648_0) (rd_L2 t644 a1) a2 [.int .i64 a2] (fun k_ => oki57 k_ ∨ ((fun k_ => some k_ ≠ (.slice Ao46 y640.length co46 : Value).ownBlock)) k_ ∧ w56.heap.size ≤ k_) (fun _ => False) rfl rfl ?aP (fun _ hk => hk.elim) ?aF ?aO ?aB ?aS ?aL ?_
      (case aP => exact rfl)
      (case aB => exact (by repeat (first|(with_reducible first|exact HB.out|apply below_alloc|apply pw_below_drewN|apply below_drew1|refine below_set ?_ GE638.out|refine below_set ?_ GE639.out|refine below_set ?_ GE647.out)|exact HB.out)))
      (case aF => exact (fun k_ hk => .inr ⟨Kd.fresh' (Kd.R_lt (by (with_reducible repeat (first|apply Kd.R_alloc|apply Kd.R_drewN|apply Kd.R_drew)); exact HO642.out)) k_ hk,hk⟩))
      (case aO => exact (by (with_reducible repeat (first|apply Kd.R_alloc|apply Kd.R_drewN|apply Kd.R_drew)); exact Kd.R_mono UU57.out (fun _ hk => .inl hk)))
      (case aS => exact (below_size (by repeat (first|(with_reducible first|exact HB.out|apply below_alloc|apply pw_below_drewN|apply below_drew1|refine below_set ?_ GE638.out|refine below_set ?_ GE639.out|refine below_set ?_ GE647.out)|exact HB.out))))
      (case aL => have:=LMc9.out; omega)
      intro v650 w58 ho hb hg hat
      (first|have HS1_:=cell_grown hg (hHeld.2) (by first|(rw [add_block]; exact (fun e_ => ((HL648_0.out.1 _ e_.symm).2) rfl))|(show some (Addr.add _ _).block ≠ _; rw [add_block]; exact (fun e_ => ((HL648_0.out.1 _ e_.symm).2) rfl))|exact (fun e_ => ((HL648_0.out.1 _ e_.symm).2) rfl))|have HS1_:=cell_grown hg (cell_unalloc (hHeld.2) (by first|(rw [add_block]; exact Kd.S_lt HO646.out _ rfl)|(show (Addr.add _ _).block < _; rw [add_block]; exact Kd.S_lt HO646.out _ rfl)|exact Kd.S_lt HO646.out _ rfl)) (by first|(rw [add_block]; exact (fun e_ => ((HL648_0.out.1 _ e_.symm).2) rfl))|(show some (Addr.add _ _).block ≠ _; rw [add_block]; exact (fun e_ => ((HL648_0.out.1 _ e_.symm).2) rfl))|exact (fun e_ => ((HL648_0.out.1 _ e_.symm).2) rfl)))
      rw [← Ny649.out] at ho
      have n0_:=Aside0.mk (blk_grown (g:=gb638) (o:=.cells #[.slice A0_0 l0_0.length c0_0] 42 (0,0)) (by (with_reducible repeat (first|refine blk_drewN ?_ _|refine blk_drew ?_|refine blk_alloc ?_ _)); exact BK638.out) hg (Kd.R_ne HL648_0.out BK638.out (by decide)))
      have n1_:=Aside0.mk (blk_grown (g:=gb639) (o:=.cells #[.slice none 0 0] 42 (0,0)) (by (with_reducible repeat (first|refine blk_drewN ?_ _|refine blk_drew ?_|refine blk_alloc ?_ _)); exact BK639.out) hg (Kd.R_ne HL648_0.out BK639.out (by decide)))
      have n2_:=Aside0.mk (Kd.R_grown2 (by (with_reducible repeat (first|apply Kd.R_alloc|apply Kd.R_drewN|apply Kd.R_drew)); exact HO642.out) rfl hg (fun k_ e_ => (HL648_0.out.1 k_ e_).1))
      have n3_:=Aside0.mk (blk_grown (g:=gb647) (o:=.cells #[.slice (some ⟨go57,0,none⟩) t644.length co51] 42 (0,0)) (by (with_reducible repeat (first|refine blk_drewN ?_ _|refine blk_drew ?_|refine blk_alloc ?_ _)); exact BK647.out) hg (Kd.R_ne HL648_0.out BK647.out (by decide)))
      have n4_:=Aside0.mk (hb)
      have n5_:=Aside0.mk (Kd.H_grown (Kd.H_widen (by repeat (first|exact HH57.out|refine Kd.H_alloc ?_ _|refine Kd.H_drewN ?_ _|refine Kd.H_drew ?_))) hg (fun k_ e_ => .inl (UU57.out.1 k_ e_)))
      have n6_:=Aside0.mk (ho)
      clear BK638
      clear BK639
      clear HO642
      clear BK647
      clear HB
      clear HH57
      clear HO646
      clear UU57
      clear HL648_0
      have BK638:=n0_
      have BK639:=n1_
      have HO642:=n2_
      have BK647:=n3_
      have HB:=n4_
      have HH57:=n5_
      have HO651:=n6_
      clear n0_ n1_ n2_ n3_ n4_ n5_ n6_
      clear ho hb hg hat
      have p10 : 0 ≤ (a1 : Int):=of_decide_eq_true (by first|(with_reducible assumption)|assumption)
      have q10 : (a1 : Int) < ((t644.length : Int) : Int):=of_decide_eq_true (by first|(with_reducible assumption)|assumption)
      replace p10:=eq_true p10
      replace q10:=eq_true q10
      obtain ⟨Ao61,co61,eo61⟩:=Kd.R_slice HO651.out
      (first|subst eo61|(injection eo61 with f1_ f2_ f3_; have f4_:=f1_.symm; have f5_:=f3_.symm; clear f1_ f2_ f3_; subst f4_; subst f5_))
      obtain ⟨_,_,hraw59,_,_,hcc59,_⟩:=Kd.H_raw HH57.out (of_decide_eq_true (by first|(with_reducible assumption)|assumption)) (by have h_ : (a1 : Int) < ((t644.length : Int) : Int):=of_decide_eq_true (by first|(with_reducible assumption)|assumption); first|exact h_|(have e_:=(HN57.out); omega)|simpa using h_)
      obtain ⟨_,hfr59⟩:=Kd.H_at HH57.out (of_decide_eq_true (by first|(with_reducible assumption)|assumption)) (by have h_ : (a1 : Int) < ((t644.length : Int) : Int):=of_decide_eq_true (by first|(with_reducible assumption)|assumption); first|exact h_|(have e_:=(HN57.out); omega)|simpa using h_)
      have hx59_0:=hcc59 0 _ rfl
      have hf59_0:=hfr59 0
      (try simp only [Nat.add_zero] at hx59_0 hf59_0)
      (try rw [show ((Kd.slice 3 (Kd.int .i64))).sz = 1 from rfl,Nat.mul_one] at hx59_0)
      (try rw [show ((Kd.slice 3 (Kd.int .i64))).sz = 1 from rfl,Nat.mul_one] at hf59_0)
      have HP59:=Kd.S_seg0 HH57.out (of_decide_eq_true (by first|(with_reducible assumption)|assumption)) (by have h_ : (a1 : Int) < ((t644.length : Int) : Int):=of_decide_eq_true (by first|(with_reducible assumption)|assumption); first|exact h_|(have e_:=(HN57.out); omega)|simpa using h_) (seg:=[.slice Ao61 y649.length co61]) (j:=0) (show 1 ≤ 1 from by decide) (x':=y649) (Kd.M_row HO651.out) (fun _ hk => hk)
      (try simp only [show ((Kd.slice 3 (Kd.int .i64))).sz = 1 from rfl,Nat.mul_one,Nat.add_zero] at HP59)
      clear hcc59 hfr59
      have HNB638_go57:=Aside0.mk (show gb638 ≠ go57 from by have h_:=Kd.R_ne hraw59 BK638.out (by decide); intro e_; exact h_ (by rw [e_]; rfl))
      have HNB639_go57:=Aside0.mk (show gb639 ≠ go57 from by have h_:=Kd.R_ne hraw59 BK639.out (by decide); intro e_; exact h_ (by rw [e_]; rfl))
      have HNB647_go57:=Aside0.mk (show gb647 ≠ go57 from by have h_:=Kd.R_ne hraw59 BK647.out (by decide); intro e_; exact h_ (by rw [e_]; rfl))
      have HS59:=HP59.1
      rw [← Ny652.out] at HS59
      have HQ59:=Aside0.mk HS59
      obtain ⟨_,hgg59⟩:=Kd.R_typed hraw59 go57 rfl
      have GG59_:=Aside0.mk hgg59
      clear HP59 HS59 hgg59
      refine hK.out _ _ ⟨(blk_cell BK647.out 0).trans rfl,HS1_⟩ (fun hHeld => ?_)
      clear hK K
      refine norm_ (a':=?_) ?_ ?_
      rotate_left
      ·show Act.put _ (some 27) _ = _
       simp only [Act.put,List.setIfInBounds_toArray,List.set_cons_zero,List.set_cons_succ,i64_w,i32_w]
       rfl
      refine pure_ (i:=11) (N:=some 28) (v:=?_) (a':=?_) (be03 13 4095) rfl rfl (any_of HT_.out (by kernel_rfl)) (fun _ _ _ h => h) (Or.inl ⟨by rfl,?_⟩) ?_ ?_
      rotate_left
      ·intro w'
       go_simp
       with_reducible rfl
      rotate_left
      ·simp only [Act.put,List.setIfInBounds_toArray,List.set_cons_zero,List.set_cons_succ,i64_w,i32_w]
       rfl
      refine last_ (i:=12) (N:=none) (be03 13 8191) rfl rfl (one_of HT_.out (by kernel_rfl)) (by decide) (fun K hK => ?_)
      refine skip_ (w1:=?_) (by rfl) rfl ?_ ?_
      rotate_left
      ·go_simp
       rfl
      refine hK.out _ _ ?_
      clear hK K
      refine done_ (done_of HT_.out (by kernel_rfl)) ?_
      have n0_ : Aside0 (Kd.R (Kd.int .i64) 3 (w58.setCell ⟨go57,(a1 : Int).toNat,none⟩ (.slice Ao61 y649.length co61)) w.heap.size (fun _ => True) (.slice Ao46 y640.length co46) y640):=⟨by (with_reducible repeat (first|apply Kd.R_alloc|apply Kd.R_drewN|apply Kd.R_drew)); exact Kd.R_mono (Kd.R_far (p:=⟨go57,(a1 : Int).toNat,none⟩) (Kd.R_types HO642.out GG59_.out (by decide)) (fun _ hk => hk.2) (.slice Ao61 y649.length co61)) (fun _ hk => trivial)⟩
      have n1_ : Aside0 (Kd.S (Kd.slice 3 (Kd.int .i64)) 24 (w58.setCell ⟨go57,(a1 : Int).toNat,none⟩ (.slice Ao61 y649.length co61)) w.heap.size (fun k_ => some k_ ≠ (.slice Ao46 y640.length co46 : Value).ownBlock) (.slice (some ⟨go57,0,none⟩) t644.length co51) y652):=⟨by (with_reducible repeat (first|apply Kd.S_alloc|apply Kd.S_drewN|apply Kd.S_drew)); exact HQ59.out⟩
      have n2_ : Aside0 ((w58.setCell ⟨go57,(a1 : Int).toNat,none⟩ (.slice Ao61 y649.length co61)).heap[gb638]? = some (.cells #[.slice A0_0 l0_0.length c0_0] 42 (0,0))):=⟨by (with_reducible repeat (first|refine blk_drewN ?_ _|refine blk_drew ?_|refine blk_alloc ?_ _)); refine blk_far ?_ HNB638_go57.out _; (with_reducible repeat (first|refine blk_drewN ?_ _|refine blk_drew ?_|refine blk_alloc ?_ _)); exact BK638.out⟩
      have n3_ : Aside0 ((w58.setCell ⟨go57,(a1 : Int).toNat,none⟩ (.slice Ao61 y649.length co61)).heap[gb639]? = some (.cells #[.slice none 0 0] 42 (0,0))):=⟨by (with_reducible repeat (first|refine blk_drewN ?_ _|refine blk_drew ?_|refine blk_alloc ?_ _)); refine blk_far ?_ HNB639_go57.out _; (with_reducible repeat (first|refine blk_drewN ?_ _|refine blk_drew ?_|refine blk_alloc ?_ _)); exact BK639.out⟩
      have n4_ : Aside0 ((w58.setCell ⟨go57,(a1 : Int).toNat,none⟩ (.slice Ao61 y649.length co61)).heap[gb647]? = some (.cells #[.slice (some ⟨go57,0,none⟩) t644.length co51] 42 (0,0))):=⟨by (with_reducible repeat (first|refine blk_drewN ?_ _|refine blk_drew ?_|refine blk_alloc ?_ _)); refine blk_far ?_ HNB647_go57.out _; (with_reducible repeat (first|refine blk_drewN ?_ _|refine blk_drew ?_|refine blk_alloc ?_ _)); exact BK647.out⟩
      have n5_ : Aside0 (Below w.heap.size w (w58.setCell ⟨go57,(a1 : Int).toNat,none⟩ (.slice Ao61 y649.length co61))):=⟨by repeat (first|(with_reducible first|exact HB.out|apply below_alloc|apply pw_below_drewN|apply below_drew1|refine below_set ?_ GB57.out|refine below_set ?_ GE638.out|refine below_set ?_ GE639.out|refine below_set ?_ GE647.out)|exact HB.out)⟩
      (try clear HO642)
      (try clear HO646)
      (try clear BK638)
      (try clear BK639)
      (try clear BK647)
      (try clear HB)
      generalize (w58.setCell ⟨go57,(a1 : Int).toNat,none⟩ (.slice Ao61 y649.length co61)) = w62 at n0_ n1_ n2_ n3_ n4_ n5_ ⊢
      have HO642:=n0_
      have HO646:=n1_
      have BK638:=n2_
      have BK639:=n3_
      have BK647:=n4_
      have HB:=n5_
      clear n0_ n1_ n2_ n3_ n4_ n5_
      have hcz63_0 : w62.cell? ⟨gb647,0,none⟩ = some (.slice (some ⟨go57,0,none⟩) t644.length co51):=(blk_cell BK647.out 0).trans rfl
      have hfz63_0:=blk_frozen BK647.out 0
      try go_wp2_with (first|((with_reducible refine gate_callee (f:=40) rfl ?_); refine goesL_ (some 30) rfl rfl Try.func40 (by kernel_rfl) rfl #[.agg #[.slice (some ⟨go57,0,none⟩) y652.length co51]] rfl (by (try simp only [List.map_toArray,List.map_cons,List.map_nil]); first|done|(rw [show y652.length = t644.length from (Kd.S_reads' HO646.out).1.symm] <;> rfl)|rfl|(simp only [List.length_drop,List.length_take]; rfl)) ?_; (with_reducible refine (impl_IsValidYard.calls _ _ y652 false _ ?side1 ?side2 A11.out).mono ?_); (case side1 => repeat (first|exact (Kd.S_reads' HO646.out).2.2|(with_reducible refine Kd.C_alloc ?_ _)|(with_reducible refine Kd.C_drewN ?_ _)|(with_reducible refine Kd.C_drew ?_))); (case side2 => rw [show y652.length = t644.length from (Kd.S_reads' HO646.out).1.symm]; exact (Kd.S_reads' HO646.out).2.1); rintro e w64 ⟨rfl,hb⟩; refine ⟨_,rfl,?_⟩; have n0_:=Aside0.mk (Kd.R_below (by (with_reducible repeat (first|apply Kd.R_alloc|apply Kd.R_drewN|apply Kd.R_drew)); exact HO642.out) hb); have n1_:=Aside0.mk (Kd.S_below (by (with_reducible repeat (first|apply Kd.S_alloc|apply Kd.S_drewN|apply Kd.S_drew)); exact HO646.out) hb); have n2_:=Aside0.mk (blk_below (g:=gb638) (o:=.cells #[.slice A0_0 l0_0.length c0_0] 42 (0,0)) (by (with_reducible repeat (first|refine blk_drewN ?_ _|refine blk_drew ?_|refine blk_alloc ?_ _)); exact BK638.out) hb); have n3_:=Aside0.mk (blk_below (g:=gb639) (o:=.cells #[.slice none 0 0] 42 (0,0)) (by (with_reducible repeat (first|refine blk_drewN ?_ _|refine blk_drew ?_|refine blk_alloc ?_ _)); exact BK639.out) hb); have n4_:=Aside0.mk (blk_below (g:=gb647) (o:=.cells #[.slice (some ⟨go57,0,none⟩) t644.length co51] 42 (0,0)) (by (with_reducible repeat (first|refine blk_drewN ?_ _|refine blk_drew ?_|refine blk_alloc ?_ _)); exact BK647.out) hb); have n5_:=Aside0.mk (below_step (by repeat (first|(with_reducible first|exact HB.out|apply below_alloc|apply pw_below_drewN|apply below_drew1|refine below_set ?_ GE638.out|refine below_set ?_ GE639.out|refine below_set ?_ GE647.out)|exact HB.out)) hb); clear HO642; clear HO646; clear BK638; clear BK639; clear BK647; clear HB; have HO642:=n0_; have HO646:=n1_; have BK638:=n2_; have BK639:=n3_; have BK647:=n4_; have HB:=n5_; clear n0_ n1_ n2_ n3_ n4_ n5_; (try clear hb); (try clear hb2); (try clear hk); (try clear hi); have hcz65_0 : w64.cell? ⟨gb639,0,none⟩ = some (.slice none 0 0):=(blk_cell BK639.out 0).trans rfl; have hfz65_0:=blk_frozen BK639.out 0))
      refine bodyPost_ret (results_ct rfl _ _ gb639 42 #[.slice none 0 0] (0,0) _ rfl (by (with_reducible repeat (first|refine blk_drewN ?_ _|refine blk_drew ?_|refine blk_alloc ?_ _)); refine blk_put (cs:=#[.slice none 0 0]) ?_ 0 _ rfl; (with_reducible repeat (first|refine blk_drewN ?_ _|refine blk_drew ?_|refine blk_alloc ?_ _)); exact BK639.out) Try.underlying42 rfl (by kernel_rfl)) rfl ?_
      exact ⟨_,by first|rfl|(simp [errW_none,errW_some] <;> rfl)|(simp [*,errW_none,errW_some] <;> rfl),by first|exact Kd.S_nil _ _ _ _ _|exact Kd.N_nil _ _ _ _ _|exact Kd.V_nil _ _ _ _ _|exact Kd.Q_nil _ _ _ _ _|exact Kd.R_nil _ _ _ _ _,by repeat (first|(with_reducible first|exact HB.out|apply below_alloc|apply pw_below_drewN|apply below_drew1|refine below_set ?_ GE638.out|refine below_set ?_ GE639.out|refine below_set ?_ GE647.out)|exact HB.out)⟩
    ·rw [if_neg c9] at H
     exact absurd H (by simp)
   ·rw [if_neg c8] at H
    exact absurd H (by simp)
  ·rw [if_neg c7] at H
   exact absurd H (by simp)
 ·replace c5:=Bool.eq_false_iff.mpr c5
  subst c5
  have H1 : (some (([] : List (List Int)),false)) = some (r1,r2):=by rw [if_neg (show ¬ (false = true) by decide)] at H; exact H
  clear H
  have H:=H1
  clear H1
  simp only [Option.some.injEq,Prod.mk.injEq] at H
  obtain ⟨rfl,rfl⟩:=H
  go_enter Try.func37,Try.ntmps37
  go_wp2_with (first|((with_reducible refine gate_dst (N:=3) rfl ?_); refine box_event ?hg (N:=3) ?hd (cs:=#[.slice A0_0 l0_0.length c0_0]) (t:=42) ?hr ?_; (case hd => rfl); (case hg => rfl); (case hr => first|(go_simp; done)|(go_simp; rfl)); intro gb638 hg w66 hbox hb; have n0_:=Aside0.mk (below_step (by repeat (first|(with_reducible first|exact HB.out|apply below_alloc|apply pw_below_drewN|apply below_drew1)|exact HB.out)) hb); have n1_:=Aside0.mk (hbox); have n2_:=Aside0.mk ((by rw [hg]; exact (below_size (by repeat (first|(with_reducible first|exact HB.out|apply below_alloc|apply pw_below_drewN|apply below_drew1)|exact HB.out))) : w.heap.size ≤ gb638)); have n3_:=Aside0.mk ((by rw [hg]; exact (below_size (by repeat (first|(with_reducible first|exact HB.out|apply below_alloc|apply pw_below_drewN|apply below_drew1)|exact HB.out))) : w.heap.size ≤ gb638)); clear HB; have HB:=n0_; have BK638:=n1_; have GW638:=n2_; have GE638:=n3_; clear n0_ n1_ n2_ n3_; clear hb hbox hg)|((with_reducible refine gate_dst (N:=6) rfl ?_); refine box_event ?hg (N:=6) ?hd (cs:=#[.slice none 0 0]) (t:=42) ?hr ?_; (case hd => rfl); (case hg => rfl); (case hr => first|(go_simp; done)|(go_simp; rfl)); intro gb639 hg w67 hbox hb; have n0_:=Aside0.mk (blk_below (g:=gb638) (o:=.cells #[.slice A0_0 l0_0.length c0_0] 42 (0,0)) (by (with_reducible repeat (first|refine blk_drewN ?_ _|refine blk_drew ?_|refine blk_alloc ?_ _)); exact BK638.out) hb); have n1_:=Aside0.mk (below_step (by repeat (first|(with_reducible first|exact HB.out|apply below_alloc|apply pw_below_drewN|apply below_drew1|refine below_set ?_ GE638.out)|exact HB.out)) hb); have n2_:=Aside0.mk (hbox); have n3_:=Aside0.mk ((by rw [hg]; exact (below_size (by repeat (first|(with_reducible first|exact HB.out|apply below_alloc|apply pw_below_drewN|apply below_drew1|refine below_set ?_ GE638.out)|exact HB.out))) : w.heap.size ≤ gb639)); have n4_:=Aside0.mk ((by rw [hg]; exact (below_size (by repeat (first|(with_reducible first|exact HB.out|apply below_alloc|apply pw_below_drewN|apply below_drew1|refine below_set ?_ GE638.out)|exact HB.out))) : w.heap.size ≤ gb639)); have n5_:=Aside0.mk ((by rw [hg]; exact Nat.ne_of_lt (blk_lt (g:=gb638) (o:=.cells #[.slice A0_0 l0_0.length c0_0] 42 (0,0)) (by (with_reducible repeat (first|refine blk_drewN ?_ _|refine blk_drew ?_|refine blk_alloc ?_ _)); exact BK638.out)) : gb638 ≠ gb639)); have n6_:=Aside0.mk ((by rw [hg]; exact Nat.ne_of_gt (blk_lt (g:=gb638) (o:=.cells #[.slice A0_0 l0_0.length c0_0] 42 (0,0)) (by (with_reducible repeat (first|refine blk_drewN ?_ _|refine blk_drew ?_|refine blk_alloc ?_ _)); exact BK638.out)) : gb639 ≠ gb638)); clear BK638; clear HB; have BK638:=n0_; have HB:=n1_; have BK639:=n2_; have GW639:=n3_; have GE639:=n4_; have NB638_639:=n5_; have NB639_638:=n6_; clear n0_ n1_ n2_ n3_ n4_ n5_ n6_; clear hb hbox hg; have hnb68:=NB638_639.out; have hnc68:=NB639_638.out; have hcz69_0 : w67.cell? ⟨gb638,0,none⟩ = some (.slice A0_0 l0_0.length c0_0):=(blk_cell BK638.out 0).trans rfl; have hfz69_0:=blk_frozen BK638.out 0)|((with_reducible refine gate_dst (N:=11) rfl ?_); refine Kd.R_lit (Kd.int .i64) _ 3 ?hg (N:=11) ?hd (xs:=([a1] : List Int)) (inner:=[.int .i64 a1]) (ok:=fun _ => True) (okp:=fun _ => True) ?hr ?hp (fun _ hk => hk) trivial (Below.refl _ _) (Nat.le_refl _) (by simp) ?_; (case hd => rfl); (case hg => rfl); (case hr => first|(go_simp; done)|(go_simp; rfl)); (case hp => exact (Reps.one (show Kd.M (Kd.int .i64) _ _ _ a1 [.int .i64 a1] from rfl) (Reps.none _ _))); intro v641 w70 ho71 hb hg_ hnew_; clear hg_ hnew_; (first|rw [← Ny640.out] at ho71|(simp only [Int.reduceToNat] at ho71; rw [← Ny640.out] at ho71)); have n0_:=Aside0.mk (Kd.R_lower ho71 (below_size (by repeat (first|(with_reducible first|exact HB.out|apply below_alloc|apply pw_below_drewN|apply below_drew1|refine below_set ?_ GE638.out|refine below_set ?_ GE639.out)|exact HB.out)))); have n1_:=Aside0.mk (blk_below (g:=gb638) (o:=.cells #[.slice A0_0 l0_0.length c0_0] 42 (0,0)) (by (with_reducible repeat (first|refine blk_drewN ?_ _|refine blk_drew ?_|refine blk_alloc ?_ _)); exact BK638.out) hb); have n2_:=Aside0.mk (blk_below (g:=gb639) (o:=.cells #[.slice none 0 0] 42 (0,0)) (by (with_reducible repeat (first|refine blk_drewN ?_ _|refine blk_drew ?_|refine blk_alloc ?_ _)); exact BK639.out) hb); have n3_:=Aside0.mk (below_step (by repeat (first|(with_reducible first|exact HB.out|apply below_alloc|apply pw_below_drewN|apply below_drew1|refine below_set ?_ GE638.out|refine below_set ?_ GE639.out)|exact HB.out)) hb); clear BK638; clear BK639; clear HB; have HO642:=n0_; have BK638:=n1_; have BK639:=n2_; have HB:=n3_; clear n0_ n1_ n2_ n3_; clear hb ho71; obtain ⟨Ao72,co72,eo72⟩:=Kd.R_slice HO642.out; subst eo72)|((with_reducible refine gate_callee (f:=107) rfl ?_); refine goesL_ (some 12) rfl rfl Try.func107 (by kernel_rfl) rfl #[.agg #[.slice A0_0 l0_0.length c0_0],.slice Ao72 y640.length co72] rfl (by (try simp only [List.map_toArray,List.map_cons,List.map_nil]); first|done|rfl|(simp only [List.length_drop,List.length_take]; rfl)) ?_; (with_reducible refine (impl_hasStack.calls k _ _ l0_0 _ _ y640 false _ ?side1 ?side2 ?side3 ?side4 A4.out).mono ?_); (case side1 => repeat (first|exact (Kd.C_below HR0_0.out HB.out)|(with_reducible refine Kd.C_alloc ?_ _)|(with_reducible refine Kd.C_drewN ?_ _)|(with_reducible refine Kd.C_drew ?_))); (case side2 => exact HC0_0.out); (case side3 => repeat (first|exact (Kd.R_reads' HO642.out).2.2|(with_reducible refine Kd.C_alloc ?_ _)|(with_reducible refine Kd.C_drewN ?_ _)|(with_reducible refine Kd.C_drew ?_))); (case side4 => exact (Kd.R_reads' HO642.out).2.1); rintro e w73 ⟨rfl,hb⟩; refine ⟨_,rfl,?_⟩; have n0_:=Aside0.mk (Kd.R_below (by (with_reducible repeat (first|apply Kd.R_alloc|apply Kd.R_drewN|apply Kd.R_drew)); exact HO642.out) hb); have n1_:=Aside0.mk (blk_below (g:=gb638) (o:=.cells #[.slice A0_0 l0_0.length c0_0] 42 (0,0)) (by (with_reducible repeat (first|refine blk_drewN ?_ _|refine blk_drew ?_|refine blk_alloc ?_ _)); exact BK638.out) hb); have n2_:=Aside0.mk (blk_below (g:=gb639) (o:=.cells #[.slice none 0 0] 42 (0,0)) (by (with_reducible repeat (first|refine blk_drewN ?_ _|refine blk_drew ?_|refine blk_alloc ?_ _)); exact BK639.out) hb); have n3_:=Aside0.mk (below_step (by repeat (first|(with_reducible first|exact HB.out|apply below_alloc|apply pw_below_drewN|apply below_drew1|refine below_set ?_ GE638.out|refine below_set ?_ GE639.out)|exact HB.out)) hb); clear HO642; clear BK638; clear BK639; clear HB; have HO642:=n0_; have BK638:=n1_; have BK639:=n2_; have HB:=n3_; clear n0_ n1_ n2_ n3_; (try clear hb); (try clear hb2); (try clear hk); (try clear hi); have hcz74_0 : w73.cell? ⟨gb639,0,none⟩ = some (.slice none 0 0):=(blk_cell BK639.out 0).trans rfl; have hfz74_0:=blk_frozen BK639.out 0))
  refine bodyPost_ret (results_ct rfl _ _ gb639 42 #[.slice none 0 0] (0,0) _ rfl (by (with_reducible repeat (first|refine blk_drewN ?_ _|refine blk_drew ?_|refine blk_alloc ?_ _)); refine blk_put (cs:=#[.slice none 0 0]) ?_ 0 _ rfl; (with_reducible repeat (first|refine blk_drewN ?_ _|refine blk_drew ?_|refine blk_alloc ?_ _)); exact BK639.out) Try.underlying42 rfl (by kernel_rfl)) rfl ?_
  exact ⟨_,by first|rfl|(simp [errW_none,errW_some] <;> rfl)|(simp [*,errW_none,errW_some] <;> rfl),by first|exact Kd.S_nil _ _ _ _ _|exact Kd.N_nil _ _ _ _ _|exact Kd.V_nil _ _ _ _ _|exact Kd.Q_nil _ _ _ _ _|exact Kd.R_nil _ _ _ _ _,by repeat (first|(with_reducible first|exact HB.out|apply below_alloc|apply pw_below_drewN|apply below_drew1|refine below_set ?_ GE638.out|refine below_set ?_ GE639.out)|exact HB.out)⟩

end Go.Proofs.Ytlldonokjgoajaa.X
