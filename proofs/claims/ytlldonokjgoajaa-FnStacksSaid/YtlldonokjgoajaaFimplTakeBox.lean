-- Written by a program of ours (wip/bin/xprint.py,over the kit's print.py) out of the translation. Not trusted: Lean checks it.
import Derived.Test.YtlldonokjgoajaaX0
import Derived.Test.YtlldonokjgoajaaFbYard
import Derived.Test.YtlldonokjgoajaaGIsValidYard
namespace Go.Proofs.Ytlldonokjgoajaa.X
open Go.RowKit Go.Proofs.YtlldonokjgoajaaW.PrintWords Go.Proofs.YtlldonokjgoajaaW.PrintLast Go.Proofs.YtlldonokjgoajaaW.PrintMore
def lbdad : Nat → Nat → List Bool
 | 0,_ => []
 | n+1,m => (m%2==1) :: lbdad n (m/2)
def bdad (n m : Nat) : Array Bool := ⟨lbdad n m⟩
attribute [local go_sem] max2_int min2_int max_two min_two max_three min_three max_four min_four   -- for this text's walks alone
set_option linter.unusedVariables false
set_option linter.unusedSimpArgs false

/-! ### impl_TakeBox: function 44 -/
def impl_TakeBox.f (k : Nat) (l0_0 : List (List Int)) (a1 : Int) : Option ((List (List Int)) × Bool):=(impl_IsValidYard.f l0_0).bind fun t694 => (if t694 = true then ((impl_placeOf.f k l0_0 a1).bind fun bt695 => (if bt695.1 < 0 then (some (([] : List (List Int)),false)) else (if 0 ≤ bt695.1 then (if bt695.1 < (l0_0.length : Int) then (if bt695.2 = (wrap64 (((rd_L2 l0_0 bt695.1).length : Int) - 1)) then ((impl_ownYard.f k l0_0).bind fun t698 => (if bt695.1 < (t698.length : Int) then (if 0 ≤ bt695.2 then (if bt695.2 ≤ ((rd_L2 t698 bt695.1).length : Int) then (some ((t698.set (bt695.1 : Int).toNat ((rd_L2 t698 bt695.1).take (bt695.2 : Int).toNat)),true)) else (none)) else (none)) else (none))) else (some (([] : List (List Int)),false))) else (none)) else (none)))) else (some (([] : List (List Int)),false)))
theorem impl_TakeBox.mono : ∀ a0 a1 k,LeO (impl_TakeBox.f k a0 a1) (impl_TakeBox.f (k + 1) a0 a1):=by
 intro a0 a1 k
 unfold impl_TakeBox.f
 repeat' first
   | (with_reducible exact impl_ownYard.mono _ _)
   | (with_reducible exact impl_placeOf.mono _ _ _)
   | (with_reducible exact LeO.refl _)
   | (with_reducible exact LeO.none _)
   | (with_reducible refine LeO.ite ?_ ?_)
   | (with_reducible refine LeO.bind ?_ (fun _ => ?_))
   | exact impl_ownYard.mono _ _
   | exact impl_placeOf.mono _ _ _
   | exact LeO.none _
   | refine LeO.ite ?_ ?_
   | refine LeO.bind ?_ (fun _ => ?_)
def impl_TakeBox.T7 : Bool × List (List Nat × List Nat):=(true,[([],[]),([0],[0]),([],[]),([],[]),([3],[3]),([],[]),([4,5],[4,5]),([6],[6]),([],[]),([7,8],[7,8]),([1,2,0,1,2,3,4,5,6,7,8,9],[1,2]),([10,9,0,1,2,3,4,5,6,7,8,9],[9,10])])
def impl_TakeBox.B7 : List Nat:=[0,1,0,0,8,0,56,120,0,504,1023,2047]
theorem impl_TakeBox.tab7 : rtab .any (opsOf Try.f44 7) = impl_TakeBox.T7:=by kernel_rfl
theorem impl_TakeBox.bits7 : waitsOk impl_TakeBox.T7.2 impl_TakeBox.B7 = true:=by kernel_rfl
set_option maxHeartbeats 8000000 in
set_option maxRecDepth 100000 in
theorem impl_TakeBox.calls (k : Nat) (A0_0 : Option Addr) (c0_0 : Nat) (l0_0 : List (List Int)) (a1 : Int) (r1 : List (List Int)) (r2 : Bool) (w : World) (hr0_0 : Kd.C (Kd.slice 3 (Kd.int .i64)) w A0_0 l0_0.length l0_0) (hc0_0 : l0_0.length ≤ c0_0) (h : impl_TakeBox.f k l0_0 a1 = some (r1,r2)) :
  Calls Try.prog 44 #[.agg #[.slice A0_0 l0_0.length c0_0],.int .i64 a1] w fun e w' => ∃ v0_ : Value,e = .returned (.tuple #[.agg #[v0_],.bool r2]) ∧ Kd.N (Kd.slice 3 (Kd.int .i64)) 24 w' w.heap.size (fun k_ => (w.heap.size ≤ k_)) v0_ r1 ∧ Below w.heap.size w w':=by
 have hu42:=Try.underlying42
 have HR0_0:=Aside0.mk hr0_0
 have HC0_0:=Aside0.mk hc0_0
 clear hr0_0 hc0_0
 have HB:=Aside0.mk (Below.refl w.heap.size w)
 have H : ((impl_IsValidYard.f l0_0).bind fun t694 => (if t694 = true then ((impl_placeOf.f k l0_0 a1).bind fun bt695 => (if bt695.1 < 0 then (some (([] : List (List Int)),false)) else (if 0 ≤ bt695.1 then (if bt695.1 < (l0_0.length : Int) then (if bt695.2 = (wrap64 (((rd_L2 l0_0 bt695.1).length : Int) - 1)) then ((impl_ownYard.f k l0_0).bind fun t698 => (if bt695.1 < (t698.length : Int) then (if 0 ≤ bt695.2 then (if bt695.2 ≤ ((rd_L2 t698 bt695.1).length : Int) then (some ((t698.set (bt695.1 : Int).toNat ((rd_L2 t698 bt695.1).take (bt695.2 : Int).toNat)),true)) else (none)) else (none)) else (none))) else (some (([] : List (List Int)),false))) else (none)) else (none)))) else (some (([] : List (List Int)),false)))) = some (r1,r2):=h
 clear h
 replace H:=Option.bind_eq_some_iff.mp H
 obtain ⟨t694,A30,H⟩:=H
 replace H : (if t694 = true then ((impl_placeOf.f k l0_0 a1).bind fun bt695 => (if bt695.1 < 0 then (some (([] : List (List Int)),false)) else (if 0 ≤ bt695.1 then (if bt695.1 < (l0_0.length : Int) then (if bt695.2 = (wrap64 (((rd_L2 l0_0 bt695.1).length : Int) - 1)) then ((impl_ownYard.f k l0_0).bind fun t698 => (if bt695.1 < (t698.length : Int) then (if 0 ≤ bt695.2 then (if bt695.2 ≤ ((rd_L2 t698 bt695.1).length : Int) then (some ((t698.set (bt695.1 : Int).toNat ((rd_L2 t698 bt695.1).take (bt695.2 : Int).toNat)),true)) else (none)) else (none)) else (none))) else (some (([] : List (List Int)),false))) else (none)) else (none)))) else (some (([] : List (List Int)),false))) = some (r1,r2):=H
 have A3:=Aside0.mk A30
 clear A30
 by_cases c4 : t694 = true
 ·subst c4
  have H1 : ((impl_placeOf.f k l0_0 a1).bind fun bt695 => (if bt695.1 < 0 then (some (([] : List (List Int)),false)) else (if 0 ≤ bt695.1 then (if bt695.1 < (l0_0.length : Int) then (if bt695.2 = (wrap64 (((rd_L2 l0_0 bt695.1).length : Int) - 1)) then ((impl_ownYard.f k l0_0).bind fun t698 => (if bt695.1 < (t698.length : Int) then (if 0 ≤ bt695.2 then (if bt695.2 ≤ ((rd_L2 t698 bt695.1).length : Int) then (some ((t698.set (bt695.1 : Int).toNat ((rd_L2 t698 bt695.1).take (bt695.2 : Int).toNat)),true)) else (none)) else (none)) else (none))) else (some (([] : List (List Int)),false))) else (none)) else (none)))) = some (r1,r2):=by rw [if_pos rfl] at H; exact H
  clear H
  have H:=H1
  clear H1
  replace H:=Option.bind_eq_some_iff.mp H
  obtain ⟨⟨t695,t696⟩,A50,H⟩:=H
  replace H : (if t695 < 0 then (some (([] : List (List Int)),false)) else (if 0 ≤ t695 then (if t695 < (l0_0.length : Int) then (if t696 = (wrap64 (((rd_L2 l0_0 t695).length : Int) - 1)) then ((impl_ownYard.f k l0_0).bind fun t698 => (if t695 < (t698.length : Int) then (if 0 ≤ t696 then (if t696 ≤ ((rd_L2 t698 t695).length : Int) then (some ((t698.set (t695 : Int).toNat ((rd_L2 t698 t695).take (t696 : Int).toNat)),true)) else (none)) else (none)) else (none))) else (some (([] : List (List Int)),false))) else (none)) else (none))) = some (r1,r2):=H
  have A5:=Aside0.mk A50
  clear A50
  by_cases c6 : t695 < 0
  ·rw [if_pos c6] at H
   have c6b0 : decide (t695 < 0) = true:=decide_eq_true c6
   clear c6
   simp only [Option.some.injEq,Prod.mk.injEq] at H
   obtain ⟨rfl,rfl⟩:=H
   go_enter Try.func44,Try.ntmps44
   go_wp2_with (first|((with_reducible refine gate_dst (N:=2) rfl ?_); (try (refine gate_guard (by rfl) ?_; dsimp only)); refine box_event ?hg (N:=2) ?hd (cs:=#[.slice A0_0 l0_0.length c0_0]) (t:=42) ?hr ?_; (case hd => rfl); (case hg => rfl); (case hr => first|(go_simp; done)|(go_simp; rfl)); intro gb692 hg w7 hbox hb; have n0_:=Aside0.mk (below_step (by repeat (first|(with_reducible first|exact HB.out|apply below_alloc|apply pw_below_drewN|apply below_drew1)|exact HB.out)) hb); have n1_:=Aside0.mk (hbox); have n2_:=Aside0.mk ((by rw [hg]; exact (below_size (by repeat (first|(with_reducible first|exact HB.out|apply below_alloc|apply pw_below_drewN|apply below_drew1)|exact HB.out))) : w.heap.size ≤ gb692)); have n3_:=Aside0.mk ((by rw [hg]; exact (below_size (by repeat (first|(with_reducible first|exact HB.out|apply below_alloc|apply pw_below_drewN|apply below_drew1)|exact HB.out))) : w.heap.size ≤ gb692)); clear HB; have HB:=n0_; have BK692:=n1_; have GW692:=n2_; have GE692:=n3_; clear n0_ n1_ n2_ n3_; clear hb hbox hg)|((with_reducible refine gate_dst (N:=4) rfl ?_); (try (refine gate_guard (by rfl) ?_; dsimp only)); refine box_event ?hg (N:=4) ?hd (cs:=#[.slice none 0 0]) (t:=42) ?hr ?_; (case hd => rfl); (case hg => rfl); (case hr => first|(go_simp; done)|(go_simp; rfl)); intro gb693 hg w8 hbox hb; have n0_:=Aside0.mk (blk_below (g:=gb692) (o:=.cells #[.slice A0_0 l0_0.length c0_0] 42 (0,0)) (by (with_reducible repeat (first|refine blk_drewN ?_ _|refine blk_drew ?_|refine blk_alloc ?_ _)); exact BK692.out) hb); have n1_:=Aside0.mk (below_step (by repeat (first|(with_reducible first|exact HB.out|apply below_alloc|apply pw_below_drewN|apply below_drew1|refine below_set ?_ GE692.out)|exact HB.out)) hb); have n2_:=Aside0.mk (hbox); have n3_:=Aside0.mk ((by rw [hg]; exact (below_size (by repeat (first|(with_reducible first|exact HB.out|apply below_alloc|apply pw_below_drewN|apply below_drew1|refine below_set ?_ GE692.out)|exact HB.out))) : w.heap.size ≤ gb693)); have n4_:=Aside0.mk ((by rw [hg]; exact (below_size (by repeat (first|(with_reducible first|exact HB.out|apply below_alloc|apply pw_below_drewN|apply below_drew1|refine below_set ?_ GE692.out)|exact HB.out))) : w.heap.size ≤ gb693)); have n5_:=Aside0.mk ((by rw [hg]; exact Nat.ne_of_lt (blk_lt (g:=gb692) (o:=.cells #[.slice A0_0 l0_0.length c0_0] 42 (0,0)) (by (with_reducible repeat (first|refine blk_drewN ?_ _|refine blk_drew ?_|refine blk_alloc ?_ _)); exact BK692.out)) : gb692 ≠ gb693)); have n6_:=Aside0.mk ((by rw [hg]; exact Nat.ne_of_gt (blk_lt (g:=gb692) (o:=.cells #[.slice A0_0 l0_0.length c0_0] 42 (0,0)) (by (with_reducible repeat (first|refine blk_drewN ?_ _|refine blk_drew ?_|refine blk_alloc ?_ _)); exact BK692.out)) : gb693 ≠ gb692)); clear BK692; clear HB; have BK692:=n0_; have HB:=n1_; have BK693:=n2_; have GW693:=n3_; have GE693:=n4_; have NB692_693:=n5_; have NB693_692:=n6_; clear n0_ n1_ n2_ n3_ n4_ n5_ n6_; clear hb hbox hg; have hnb9:=NB692_693.out; have hnc9:=NB693_692.out; have hcz10_0 : w8.cell? ⟨gb692,0,none⟩ = some (.slice A0_0 l0_0.length c0_0):=(blk_cell BK692.out 0).trans rfl; have hfz10_0:=blk_frozen BK692.out 0)|((with_reducible refine gate_callee (f:=40) rfl ?_); refine goesL_ (some 10) rfl rfl Try.func40 (by kernel_rfl) rfl #[.agg #[.slice A0_0 l0_0.length c0_0]] rfl (by (try simp only [List.map_toArray,List.map_cons,List.map_nil]); first|done|rfl|(simp only [List.length_drop,List.length_take]; rfl)) ?_; (with_reducible refine (impl_IsValidYard.calls _ _ l0_0 true _ ?side1 ?side2 A3.out).mono ?_); (case side1 => repeat (first|exact (Kd.C_below HR0_0.out HB.out)|(with_reducible refine Kd.C_alloc ?_ _)|(with_reducible refine Kd.C_drewN ?_ _)|(with_reducible refine Kd.C_drew ?_))); (case side2 => exact HC0_0.out); rintro e w11 ⟨rfl,hb⟩; refine ⟨_,rfl,?_⟩; have n0_:=Aside0.mk (blk_below (g:=gb692) (o:=.cells #[.slice A0_0 l0_0.length c0_0] 42 (0,0)) (by (with_reducible repeat (first|refine blk_drewN ?_ _|refine blk_drew ?_|refine blk_alloc ?_ _)); exact BK692.out) hb); have n1_:=Aside0.mk (blk_below (g:=gb693) (o:=.cells #[.slice none 0 0] 42 (0,0)) (by (with_reducible repeat (first|refine blk_drewN ?_ _|refine blk_drew ?_|refine blk_alloc ?_ _)); exact BK693.out) hb); have n2_:=Aside0.mk (below_step (by repeat (first|(with_reducible first|exact HB.out|apply below_alloc|apply pw_below_drewN|apply below_drew1|refine below_set ?_ GE692.out|refine below_set ?_ GE693.out)|exact HB.out)) hb); clear BK692; clear BK693; clear HB; have BK692:=n0_; have BK693:=n1_; have HB:=n2_; clear n0_ n1_ n2_; (try clear hb); (try clear hb2); (try clear hk); (try clear hi); have hcz12_0 : w11.cell? ⟨gb692,0,none⟩ = some (.slice A0_0 l0_0.length c0_0):=(blk_cell BK692.out 0).trans rfl; have hfz12_0:=blk_frozen BK692.out 0)|((with_reducible refine gate_callee (f:=120) rfl ?_); refine goesL_ (some 16) rfl rfl Try.func120 (by kernel_rfl) rfl #[.agg #[.slice A0_0 l0_0.length c0_0],.int .i64 a1] rfl (by (try simp only [List.map_toArray,List.map_cons,List.map_nil]); first|done|rfl|(simp only [List.length_drop,List.length_take]; rfl)) ?_; (with_reducible refine (impl_placeOf.calls k _ _ l0_0 a1 t695 t696 _ ?side1 ?side2 A5.out).mono ?_); (case side1 => repeat (first|exact (Kd.C_below HR0_0.out HB.out)|(with_reducible refine Kd.C_alloc ?_ _)|(with_reducible refine Kd.C_drewN ?_ _)|(with_reducible refine Kd.C_drew ?_))); (case side2 => exact HC0_0.out); rintro e w13 ⟨rfl,hb⟩; refine ⟨_,rfl,?_⟩; have n0_:=Aside0.mk (blk_below (g:=gb692) (o:=.cells #[.slice A0_0 l0_0.length c0_0] 42 (0,0)) (by (with_reducible repeat (first|refine blk_drewN ?_ _|refine blk_drew ?_|refine blk_alloc ?_ _)); exact BK692.out) hb); have n1_:=Aside0.mk (blk_below (g:=gb693) (o:=.cells #[.slice none 0 0] 42 (0,0)) (by (with_reducible repeat (first|refine blk_drewN ?_ _|refine blk_drew ?_|refine blk_alloc ?_ _)); exact BK693.out) hb); have n2_:=Aside0.mk (below_step (by repeat (first|(with_reducible first|exact HB.out|apply below_alloc|apply pw_below_drewN|apply below_drew1|refine below_set ?_ GE692.out|refine below_set ?_ GE693.out)|exact HB.out)) hb); clear BK692; clear BK693; clear HB; have BK692:=n0_; have BK693:=n1_; have HB:=n2_; clear n0_ n1_ n2_; (try clear hb); (try clear hb2); (try clear hk); (try clear hi); have hcz14_0 : w13.cell? ⟨gb693,0,none⟩ = some (.slice none 0 0):=(blk_cell BK693.out 0).trans rfl; have hfz14_0:=blk_frozen BK693.out 0))
   refine bodyPost_ret (results_ct rfl _ _ gb693 42 #[.slice none 0 0] (0,0) _ rfl (by (with_reducible repeat (first|refine blk_drewN ?_ _|refine blk_drew ?_|refine blk_alloc ?_ _)); refine blk_put (cs:=#[.slice none 0 0]) ?_ 0 _ rfl; (with_reducible repeat (first|refine blk_drewN ?_ _|refine blk_drew ?_|refine blk_alloc ?_ _)); exact BK693.out) Try.underlying42 rfl (by kernel_rfl)) rfl ?_
   exact ⟨_,by first|rfl|(simp [errW_none,errW_some] <;> rfl)|(simp [*,errW_none,errW_some] <;> rfl),by first|exact Kd.S_nil _ _ _ _ _|exact Kd.N_nil _ _ _ _ _|exact Kd.V_nil _ _ _ _ _|exact Kd.Q_nil _ _ _ _ _|exact Kd.R_nil _ _ _ _ _,by repeat (first|(with_reducible first|exact HB.out|apply below_alloc|apply pw_below_drewN|apply below_drew1|refine below_set ?_ GE692.out|refine below_set ?_ GE693.out)|exact HB.out)⟩
  ·rw [if_neg c6] at H
   have c6b0 : decide (t695 < 0) = false:=decide_eq_false c6
   clear c6
   by_cases c15 : 0 ≤ t695
   ·rw [if_pos c15] at H
    have c15b0 : decide (0 ≤ t695) = true:=decide_eq_true c15
    clear c15
    by_cases c16 : t695 < (l0_0.length : Int)
    ·rw [if_pos c16] at H
     have c16b0 : decide (t695 < (l0_0.length : Int)) = true:=decide_eq_true c16
     clear c16
     by_cases c17 : t696 = (wrap64 (((rd_L2 l0_0 t695).length : Int) - 1))
     ·rw [if_pos c17] at H
      have c17b0 : (t696 == (wrap64 (((rd_L2 l0_0 t695).length : Int) - 1))) = true:=beq_iff_eq.mpr c17
      have c17b1 : (t696 != (wrap64 (((rd_L2 l0_0 t695).length : Int) - 1))) = false:=bne_eq_false_iff_eq.mpr c17
      clear c17
      replace H:=Option.bind_eq_some_iff.mp H
      obtain ⟨t698,A180,H⟩:=H
      replace H : (if t695 < (t698.length : Int) then (if 0 ≤ t696 then (if t696 ≤ ((rd_L2 t698 t695).length : Int) then (some ((t698.set (t695 : Int).toNat ((rd_L2 t698 t695).take (t696 : Int).toNat)),true)) else (none)) else (none)) else (none)) = some (r1,r2):=H
      have A18:=Aside0.mk A180
      clear A180
      by_cases c19 : t695 < (t698.length : Int)
      ·rw [if_pos c19] at H
       have c19b0 : decide (t695 < (t698.length : Int)) = true:=decide_eq_true c19
       clear c19
       by_cases c20 : 0 ≤ t696
       ·rw [if_pos c20] at H
        have c20b0:=eq_true c20
        have c20b1 : decide (0 ≤ t696) = true:=decide_eq_true c20
        clear c20
        by_cases c21 : t696 ≤ ((rd_L2 t698 t695).length : Int)
        ·rw [if_pos c21] at H
         have c21b0:=eq_true c21
         have c21b1 : decide (t696 ≤ ((rd_L2 t698 t695).length : Int)) = true:=decide_eq_true c21
         clear c21
         obtain ⟨y703,hy703⟩ : ∃ y_ : List Int,y_ = ((rd_L2 t698 t695).take (t696 : Int).toNat):=⟨_,rfl⟩
         replace H : (some ((t698.set (t695 : Int).toNat y703),true)) = some (r1,r2):=by first|(rw [hy703]; with_reducible exact H)|(have H2_:=(Option.bind_some _ _).symm.trans H; rw [hy703]; with_reducible exact H2_)|(have H2_:=(Option.bind_some _ _).symm.trans H; with_reducible exact H2_)|with_reducible exact H|(rw [hy703]; exact H)|exact H
         have Ny703:=Aside0.mk hy703
         clear hy703
         obtain ⟨y708,hy708⟩ : ∃ y_ : List (List Int),y_ = (t698.set (t695 : Int).toNat y703):=⟨_,rfl⟩
         replace H : (some (y708,true)) = some (r1,r2):=by first|(rw [hy708]; with_reducible exact H)|(have H2_:=(Option.bind_some _ _).symm.trans H; rw [hy708]; with_reducible exact H2_)|(have H2_:=(Option.bind_some _ _).symm.trans H; with_reducible exact H2_)|with_reducible exact H|(rw [hy708]; exact H)|exact H
         have Ny708:=Aside0.mk hy708
         clear hy708
         simp only [Option.some.injEq,Prod.mk.injEq] at H
         obtain ⟨rfl,rfl⟩:=H
         go_enter Try.func44,Try.ntmps44
         try go_wp2_with (first|((with_reducible refine gate_dst (N:=2) rfl ?_); (try (refine gate_guard (by rfl) ?_; dsimp only)); refine box_event ?hg (N:=2) ?hd (cs:=#[.slice A0_0 l0_0.length c0_0]) (t:=42) ?hr ?_; (case hd => rfl); (case hg => rfl); (case hr => first|(go_simp; done)|(go_simp; rfl)); intro gb692 hg w23 hbox hb; have n0_:=Aside0.mk (below_step (by repeat (first|(with_reducible first|exact HB.out|apply below_alloc|apply pw_below_drewN|apply below_drew1)|exact HB.out)) hb); have n1_:=Aside0.mk (hbox); have n2_:=Aside0.mk ((by rw [hg]; exact (below_size (by repeat (first|(with_reducible first|exact HB.out|apply below_alloc|apply pw_below_drewN|apply below_drew1)|exact HB.out))) : w.heap.size ≤ gb692)); have n3_:=Aside0.mk ((by rw [hg]; exact (below_size (by repeat (first|(with_reducible first|exact HB.out|apply below_alloc|apply pw_below_drewN|apply below_drew1)|exact HB.out))) : w.heap.size ≤ gb692)); clear HB; have HB:=n0_; have BK692:=n1_; have GW692:=n2_; have GE692:=n3_; clear n0_ n1_ n2_ n3_; clear hb hbox hg)|((with_reducible refine gate_dst (N:=4) rfl ?_); (try (refine gate_guard (by rfl) ?_; dsimp only)); refine box_event ?hg (N:=4) ?hd (cs:=#[.slice none 0 0]) (t:=42) ?hr ?_; (case hd => rfl); (case hg => rfl); (case hr => first|(go_simp; done)|(go_simp; rfl)); intro gb693 hg w24 hbox hb; have n0_:=Aside0.mk (blk_below (g:=gb692) (o:=.cells #[.slice A0_0 l0_0.length c0_0] 42 (0,0)) (by (with_reducible repeat (first|refine blk_drewN ?_ _|refine blk_drew ?_|refine blk_alloc ?_ _)); exact BK692.out) hb); have n1_:=Aside0.mk (below_step (by repeat (first|(with_reducible first|exact HB.out|apply below_alloc|apply pw_below_drewN|apply below_drew1|refine below_set ?_ GE692.out)|exact HB.out)) hb); have n2_:=Aside0.mk (hbox); have n3_:=Aside0.mk ((by rw [hg]; exact (below_size (by repeat (first|(with_reducible first|exact HB.out|apply below_alloc|apply pw_below_drewN|apply below_drew1|refine below_set ?_ GE692.out)|exact HB.out))) : w.heap.size ≤ gb693)); have n4_:=Aside0.mk ((by rw [hg]; exact (below_size (by repeat (first|(with_reducible first|exact HB.out|apply below_alloc|apply pw_below_drewN|apply below_drew1|refine below_set ?_ GE692.out)|exact HB.out))) : w.heap.size ≤ gb693)); have n5_:=Aside0.mk ((by rw [hg]; exact Nat.ne_of_lt (blk_lt (g:=gb692) (o:=.cells #[.slice A0_0 l0_0.length c0_0] 42 (0,0)) (by (with_reducible repeat (first|refine blk_drewN ?_ _|refine blk_drew ?_|refine blk_alloc ?_ _)); exact BK692.out)) : gb692 ≠ gb693)); have n6_:=Aside0.mk ((by rw [hg]; exact Nat.ne_of_gt (blk_lt (g:=gb692) (o:=.cells #[.slice A0_0 l0_0.length c0_0] 42 (0,0)) (by (with_reducible repeat (first|refine blk_drewN ?_ _|refine blk_drew ?_|refine blk_alloc ?_ _)); exact BK692.out)) : gb693 ≠ gb692)); clear BK692; clear HB; have BK692:=n0_; have HB:=n1_; have BK693:=n2_; have GW693:=n3_; have GE693:=n4_; have NB692_693:=n5_; have NB693_692:=n6_; clear n0_ n1_ n2_ n3_ n4_ n5_ n6_; clear hb hbox hg; have hnb25:=NB692_693.out; have hnc25:=NB693_692.out; have hcz26_0 : w24.cell? ⟨gb692,0,none⟩ = some (.slice A0_0 l0_0.length c0_0):=(blk_cell BK692.out 0).trans rfl; have hfz26_0:=blk_frozen BK692.out 0)|((with_reducible refine gate_callee (f:=40) rfl ?_); refine goesL_ (some 10) rfl rfl Try.func40 (by kernel_rfl) rfl #[.agg #[.slice A0_0 l0_0.length c0_0]] rfl (by (try simp only [List.map_toArray,List.map_cons,List.map_nil]); first|done|rfl|(simp only [List.length_drop,List.length_take]; rfl)) ?_; (with_reducible refine (impl_IsValidYard.calls _ _ l0_0 true _ ?side1 ?side2 A3.out).mono ?_); (case side1 => repeat (first|exact (Kd.C_below HR0_0.out HB.out)|(with_reducible refine Kd.C_alloc ?_ _)|(with_reducible refine Kd.C_drewN ?_ _)|(with_reducible refine Kd.C_drew ?_))); (case side2 => exact HC0_0.out); rintro e w27 ⟨rfl,hb⟩; refine ⟨_,rfl,?_⟩; have n0_:=Aside0.mk (blk_below (g:=gb692) (o:=.cells #[.slice A0_0 l0_0.length c0_0] 42 (0,0)) (by (with_reducible repeat (first|refine blk_drewN ?_ _|refine blk_drew ?_|refine blk_alloc ?_ _)); exact BK692.out) hb); have n1_:=Aside0.mk (blk_below (g:=gb693) (o:=.cells #[.slice none 0 0] 42 (0,0)) (by (with_reducible repeat (first|refine blk_drewN ?_ _|refine blk_drew ?_|refine blk_alloc ?_ _)); exact BK693.out) hb); have n2_:=Aside0.mk (below_step (by repeat (first|(with_reducible first|exact HB.out|apply below_alloc|apply pw_below_drewN|apply below_drew1|refine below_set ?_ GE692.out|refine below_set ?_ GE693.out)|exact HB.out)) hb); clear BK692; clear BK693; clear HB; have BK692:=n0_; have BK693:=n1_; have HB:=n2_; clear n0_ n1_ n2_; (try clear hb); (try clear hb2); (try clear hk); (try clear hi); have hcz28_0 : w27.cell? ⟨gb692,0,none⟩ = some (.slice A0_0 l0_0.length c0_0):=(blk_cell BK692.out 0).trans rfl; have hfz28_0:=blk_frozen BK692.out 0)|((with_reducible refine gate_callee (f:=120) rfl ?_); refine goesL_ (some 16) rfl rfl Try.func120 (by kernel_rfl) rfl #[.agg #[.slice A0_0 l0_0.length c0_0],.int .i64 a1] rfl (by (try simp only [List.map_toArray,List.map_cons,List.map_nil]); first|done|rfl|(simp only [List.length_drop,List.length_take]; rfl)) ?_; (with_reducible refine (impl_placeOf.calls k _ _ l0_0 a1 t695 t696 _ ?side1 ?side2 A5.out).mono ?_); (case side1 => repeat (first|exact (Kd.C_below HR0_0.out HB.out)|(with_reducible refine Kd.C_alloc ?_ _)|(with_reducible refine Kd.C_drewN ?_ _)|(with_reducible refine Kd.C_drew ?_))); (case side2 => exact HC0_0.out); rintro e w29 ⟨rfl,hb⟩; refine ⟨_,rfl,?_⟩; have n0_:=Aside0.mk (blk_below (g:=gb692) (o:=.cells #[.slice A0_0 l0_0.length c0_0] 42 (0,0)) (by (with_reducible repeat (first|refine blk_drewN ?_ _|refine blk_drew ?_|refine blk_alloc ?_ _)); exact BK692.out) hb); have n1_:=Aside0.mk (blk_below (g:=gb693) (o:=.cells #[.slice none 0 0] 42 (0,0)) (by (with_reducible repeat (first|refine blk_drewN ?_ _|refine blk_drew ?_|refine blk_alloc ?_ _)); exact BK693.out) hb); have n2_:=Aside0.mk (below_step (by repeat (first|(with_reducible first|exact HB.out|apply below_alloc|apply pw_below_drewN|apply below_drew1|refine below_set ?_ GE692.out|refine below_set ?_ GE693.out)|exact HB.out)) hb); clear BK692; clear BK693; clear HB; have BK692:=n0_; have BK693:=n1_; have HB:=n2_; clear n0_ n1_ n2_; (try clear hb); (try clear hb2); (try clear hk); (try clear hi); have hcz30_0 : w29.cell? ⟨gb692,0,none⟩ = some (.slice A0_0 l0_0.length c0_0):=(blk_cell BK692.out 0).trans rfl; have hfz30_0:=blk_frozen BK692.out 0; have p697 : 0 ≤ (t695 : Int):=of_decide_eq_true (by first|(with_reducible assumption)|assumption); have q697 : t695 < (l0_0.length : Int):=of_decide_eq_true (by first|(with_reducible assumption)|assumption); obtain ⟨ad697,A697_0,c697_0,e697,hx697_0,hl697_0,hi697_0⟩:=at_L2 HR0_0.out t695 p697 q697; cases e697; replace hx697_0:=(HB.out.cell (World.block_lt_of_cell? w _ hx697_0)).trans hx697_0; have HR697_0:=Aside0.mk hi697_0; have HC697_0:=Aside0.mk hl697_0; clear hi697_0 hl697_0; replace p697:=eq_true p697; replace q697:=eq_true q697)|((with_reducible refine gate_callee (f:=108) rfl ?_); refine goesL_ (some 34) rfl rfl Try.func108 (by kernel_rfl) rfl #[.agg #[.slice (some ad697) l0_0.length c0_0]] rfl (by (try simp only [List.map_toArray,List.map_cons,List.map_nil]); first|done|rfl|(simp only [List.length_drop,List.length_take]; rfl)) ?_; (with_reducible refine (impl_ownYard.calls k _ _ l0_0 t698 _ ?side1 ?side2 A18.out).mono ?_); (case side1 => repeat (first|exact (Kd.C_below HR0_0.out HB.out)|(with_reducible refine Kd.C_alloc ?_ _)|(with_reducible refine Kd.C_drewN ?_ _)|(with_reducible refine Kd.C_drew ?_))); (case side2 => exact HC0_0.out); rintro e w31 ⟨v699,rfl,ho0,hb⟩; refine ⟨_,rfl,?_⟩; have n0_:=Aside0.mk (Kd.N_lower (Kd.N_mono (ok':=fun k_ => (w.heap.size ≤ k_) ∧ k_ ≠ gb692 ∧ k_ ≠ gb693) (Kd.S_N (Kd.S_bound ho0)) (fun k_ hk_ => ⟨(Nat.le_trans (below_size (by repeat (first|(with_reducible first|exact HB.out|apply below_alloc|apply pw_below_drewN|apply below_drew1|refine below_set ?_ GE692.out|refine below_set ?_ GE693.out)|exact HB.out))) hk_.2.1),(Kd.freshB (g:=gb692) (o:=.cells #[.slice (some ad697) l0_0.length c0_0] 42 (0,0)) (by (with_reducible repeat (first|refine blk_drewN ?_ _|refine blk_drew ?_|refine blk_alloc ?_ _)); exact BK692.out) k_ hk_.2.1),(Kd.freshB (g:=gb693) (o:=.cells #[.slice none 0 0] 42 (0,0)) (by (with_reducible repeat (first|refine blk_drewN ?_ _|refine blk_drew ?_|refine blk_alloc ?_ _)); exact BK693.out) k_ hk_.2.1)⟩)) (below_size (by repeat (first|(with_reducible first|exact HB.out|apply below_alloc|apply pw_below_drewN|apply below_drew1|refine below_set ?_ GE692.out|refine below_set ?_ GE693.out)|exact HB.out)))); have n1_:=Aside0.mk (blk_below (g:=gb692) (o:=.cells #[.slice (some ad697) l0_0.length c0_0] 42 (0,0)) (by (with_reducible repeat (first|refine blk_drewN ?_ _|refine blk_drew ?_|refine blk_alloc ?_ _)); exact BK692.out) hb); have n2_:=Aside0.mk (blk_below (g:=gb693) (o:=.cells #[.slice none 0 0] 42 (0,0)) (by (with_reducible repeat (first|refine blk_drewN ?_ _|refine blk_drew ?_|refine blk_alloc ?_ _)); exact BK693.out) hb); have n3_:=Aside0.mk (below_step (by repeat (first|(with_reducible first|exact HB.out|apply below_alloc|apply pw_below_drewN|apply below_drew1|refine below_set ?_ GE692.out|refine below_set ?_ GE693.out)|exact HB.out)) hb); clear BK692; clear BK693; clear HB; have HO700:=n0_; have BK692:=n1_; have BK693:=n2_; have HB:=n3_; clear n0_ n1_ n2_ n3_; (try clear hb); (try clear hb2); (try clear hk); (try clear hi); (try clear ho0))|((with_reducible refine gate_dst (N:=8) rfl ?_); (try (refine gate_guard (by rfl) ?_; dsimp only)); refine box_event ?hg (N:=8) ?hd (cs:=#[.slice none 0 0]) (t:=42) ?hr ?_; (case hd => rfl); (case hg => rfl); (case hr => first|(go_simp; done)|(go_simp; rfl)); intro gb701 hg w32 hbox hb; have n0_:=Aside0.mk (Kd.N_below (Kd.N_elderB (by (with_reducible repeat (first|apply Kd.N_alloc|apply Kd.N_drewN|apply Kd.N_drew)); exact HO700.out) gb701 (Nat.le_of_eq hg.symm)) hb); have n1_:=Aside0.mk (blk_below (g:=gb692) (o:=.cells #[.slice (some ad697) l0_0.length c0_0] 42 (0,0)) (by (with_reducible repeat (first|refine blk_drewN ?_ _|refine blk_drew ?_|refine blk_alloc ?_ _)); exact BK692.out) hb); have n2_:=Aside0.mk (blk_below (g:=gb693) (o:=.cells #[.slice none 0 0] 42 (0,0)) (by (with_reducible repeat (first|refine blk_drewN ?_ _|refine blk_drew ?_|refine blk_alloc ?_ _)); exact BK693.out) hb); have n3_:=Aside0.mk (below_step (by repeat (first|(with_reducible first|exact HB.out|apply below_alloc|apply pw_below_drewN|apply below_drew1|refine below_set ?_ GE692.out|refine below_set ?_ GE693.out)|exact HB.out)) hb); have n4_:=Aside0.mk (hbox); have n5_:=Aside0.mk ((by rw [hg]; exact (below_size (by repeat (first|(with_reducible first|exact HB.out|apply below_alloc|apply pw_below_drewN|apply below_drew1|refine below_set ?_ GE692.out|refine below_set ?_ GE693.out)|exact HB.out))) : w.heap.size ≤ gb701)); have n6_:=Aside0.mk ((by rw [hg]; exact (below_size (by repeat (first|(with_reducible first|exact HB.out|apply below_alloc|apply pw_below_drewN|apply below_drew1|refine below_set ?_ GE692.out|refine below_set ?_ GE693.out)|exact HB.out))) : w.heap.size ≤ gb701)); have n7_:=Aside0.mk ((by rw [hg]; exact Nat.ne_of_lt (blk_lt (g:=gb692) (o:=.cells #[.slice (some ad697) l0_0.length c0_0] 42 (0,0)) (by (with_reducible repeat (first|refine blk_drewN ?_ _|refine blk_drew ?_|refine blk_alloc ?_ _)); exact BK692.out)) : gb692 ≠ gb701)); have n8_:=Aside0.mk ((by rw [hg]; exact Nat.ne_of_gt (blk_lt (g:=gb692) (o:=.cells #[.slice (some ad697) l0_0.length c0_0] 42 (0,0)) (by (with_reducible repeat (first|refine blk_drewN ?_ _|refine blk_drew ?_|refine blk_alloc ?_ _)); exact BK692.out)) : gb701 ≠ gb692)); have n9_:=Aside0.mk ((by rw [hg]; exact Nat.ne_of_lt (blk_lt (g:=gb693) (o:=.cells #[.slice none 0 0] 42 (0,0)) (by (with_reducible repeat (first|refine blk_drewN ?_ _|refine blk_drew ?_|refine blk_alloc ?_ _)); exact BK693.out)) : gb693 ≠ gb701)); have n10_:=Aside0.mk ((by rw [hg]; exact Nat.ne_of_gt (blk_lt (g:=gb693) (o:=.cells #[.slice none 0 0] 42 (0,0)) (by (with_reducible repeat (first|refine blk_drewN ?_ _|refine blk_drew ?_|refine blk_alloc ?_ _)); exact BK693.out)) : gb701 ≠ gb693)); clear HO700; clear BK692; clear BK693; clear HB; have HO700:=n0_; have BK692:=n1_; have BK693:=n2_; have HB:=n3_; have BK701:=n4_; have GW701:=n5_; have GE701:=n6_; have NB692_701:=n7_; have NB701_692:=n8_; have NB693_701:=n9_; have NB701_693:=n10_; clear n0_ n1_ n2_ n3_ n4_ n5_ n6_ n7_ n8_ n9_ n10_; clear hb hbox hg; obtain ⟨Ao33,co33,eo33⟩:=Kd.N_slice HO700.out; subst eo33; have hnb34:=NB701_692.out; have hnc34:=NB692_701.out; have hnb35:=NB701_693.out; have hnc35:=NB693_701.out; have hcz36_0 : w32.cell? ⟨gb701,0,none⟩ = some (.slice none 0 0):=(blk_cell BK701.out 0).trans rfl; have hfz36_0:=blk_frozen BK701.out 0))
         have n0_ : Aside0 (Kd.N (Kd.slice 3 (Kd.int .i64)) 24 (w32.setCell ⟨gb701,0,none⟩ (.slice Ao33 t698.length co33)) w.heap.size (fun k_ => (w.heap.size ≤ k_) ∧ k_ ≠ gb692 ∧ k_ ≠ gb693 ∧ k_ ≠ gb701) (.slice Ao33 t698.length co33) t698):=⟨by (with_reducible repeat (first|apply Kd.N_alloc|apply Kd.N_drewN|apply Kd.N_drew)); exact Kd.N_mono (Kd.N_far (p:=⟨gb701,0,none⟩) (Kd.N_mono HO700.out (fun k_ hk => (⟨hk,hk.2⟩ : _ ∧ k_ ≠ gb701))) (fun _ hk => hk.2) (.slice Ao33 t698.length co33)) (fun _ hk => ⟨hk.1.1.1,⟨hk.1.1.2.1,⟨hk.1.1.2.2,hk.1.2⟩⟩⟩)⟩
         have n1_ : Aside0 ((w32.setCell ⟨gb701,0,none⟩ (.slice Ao33 t698.length co33)).heap[gb692]? = some (.cells #[.slice (some ad697) l0_0.length c0_0] 42 (0,0))):=⟨by (with_reducible repeat (first|refine blk_drewN ?_ _|refine blk_drew ?_|refine blk_alloc ?_ _)); refine blk_far ?_ NB692_701.out _; (with_reducible repeat (first|refine blk_drewN ?_ _|refine blk_drew ?_|refine blk_alloc ?_ _)); exact BK692.out⟩
         have n2_ : Aside0 ((w32.setCell ⟨gb701,0,none⟩ (.slice Ao33 t698.length co33)).heap[gb693]? = some (.cells #[.slice none 0 0] 42 (0,0))):=⟨by (with_reducible repeat (first|refine blk_drewN ?_ _|refine blk_drew ?_|refine blk_alloc ?_ _)); refine blk_far ?_ NB693_701.out _; (with_reducible repeat (first|refine blk_drewN ?_ _|refine blk_drew ?_|refine blk_alloc ?_ _)); exact BK693.out⟩
         have n3_ : Aside0 ((w32.setCell ⟨gb701,0,none⟩ (.slice Ao33 t698.length co33)).heap[gb701]? = some (.cells #[.slice Ao33 t698.length co33] 42 (0,0))):=⟨by (with_reducible repeat (first|refine blk_drewN ?_ _|refine blk_drew ?_|refine blk_alloc ?_ _)); refine blk_put (cs:=#[.slice none 0 0]) ?_ 0 _ rfl; (with_reducible repeat (first|refine blk_drewN ?_ _|refine blk_drew ?_|refine blk_alloc ?_ _)); exact BK701.out⟩
         have n4_ : Aside0 (Below w.heap.size w (w32.setCell ⟨gb701,0,none⟩ (.slice Ao33 t698.length co33))):=⟨by repeat (first|(with_reducible first|exact HB.out|apply below_alloc|apply pw_below_drewN|apply below_drew1|refine below_set ?_ GE692.out|refine below_set ?_ GE693.out|refine below_set ?_ GE701.out)|exact HB.out)⟩
         (try clear HO700)
         (try clear BK692)
         (try clear BK693)
         (try clear BK701)
         (try clear HB)
         generalize (w32.setCell ⟨gb701,0,none⟩ (.slice Ao33 t698.length co33)) = w37 at n0_ n1_ n2_ n3_ n4_ ⊢
         have HO700:=n0_
         have BK692:=n1_
         have BK693:=n2_
         have BK701:=n3_
         have HB:=n4_
         clear n0_ n1_ n2_ n3_ n4_
         have n0_:=Aside0.mk (Kd.N_drew HO700.out)
         have n1_:=Aside0.mk (blk_drew BK692.out)
         have n2_:=Aside0.mk (blk_drew BK693.out)
         have n3_:=Aside0.mk (blk_drew BK701.out)
         have n4_:=Aside0.mk (below_drew1 HB.out)
         clear HO700
         clear BK692
         clear BK693
         clear BK701
         clear HB
         have HO700:=n0_
         have BK692:=n1_
         have BK693:=n2_
         have BK701:=n3_
         have HB:=n4_
         clear n0_ n1_ n2_ n3_ n4_
         have p702 : 0 ≤ (t695 : Int):=of_decide_eq_true (by first|(with_reducible assumption)|assumption)
         have q702 : t695 < (t698.length : Int):=of_decide_eq_true (by first|(with_reducible assumption)|assumption)
         obtain ⟨ad702,A702_0,c702_0,e702,hx702_0,hl702_0,hi702_0⟩:=at_L2 (Kd.N_reads' HO700.out).2.2 t695 p702 q702
         cases e702
         obtain ⟨ce702,hce702,hMe702,hcc702⟩:=Kd.N_get HO700.out [] t695 p702 (by first|exact q702|exact of_decide_eq_true (by first|(with_reducible assumption)|assumption)|(have e_:=(Kd.N_reads' HO700.out).1; omega))
         obtain ⟨ua702_0,uc702_0,rfl,ul702_0,ge702_0⟩:=Kd.FK_slice_open hMe702
         have hv702_0:=hcc702 0 _ rfl
         rw [Nat.add_zero,show ((Kd.slice 3 (Kd.int .i64))).sz = 1 from rfl,Nat.mul_one] at hv702_0
         replace hv702_0:=Option.some.inj (hv702_0.symm.trans hx702_0)
         injection hv702_0 with hva_ hvn_ hvc_
         rw [hva_] at ge702_0
         rw [hvc_] at ul702_0
         have HL702_0:=Aside0.mk (show Kd.V (Kd.int .i64) 3 _ w.heap.size _ _ (rd_L2 t698 t695) from Kd.V_mk ul702_0 ge702_0)
         clear hva_ hvn_ hvc_ ge702_0 ul702_0
         clear hcc702 hce702
         have HR702_0:=Aside0.mk hi702_0
         have HC702_0:=Aside0.mk hl702_0
         clear hi702_0 hl702_0
         replace p702:=eq_true p702
         replace q702:=eq_true q702
         have q39 : (t696 : Int) ≤ (((rd_L2 t698 t695).length : Int) : Int):=of_decide_eq_true (by first|(with_reducible assumption)|assumption)
         obtain ⟨i039,hi039,_,hsz39,_⟩:=info_parts info3
         have hroom39 : (rd_L2 t698 t695).length ≤ c702_0:=HC702_0.out
         have hC39 : Kd.F (Kd.int .i64) _ _ A702_0 (rd_L2 t698 t695).length (rd_L2 t698 t695):=(Kd.V_at (base:=w.heap.size) HL702_0.out).2.2
         have hcut39:=cut_to (P:=Try.prog) 24 3 .i64 Try.underlying24 hi039 A702_0 (rd_L2 t698 t695).length c702_0 t696 (of_decide_eq_true (by first|(with_reducible assumption)|assumption)) q39 hroom39
         have hr39:=Kd.F_take (m:=(t696 : Int).toNat) hC39 (by omega)
         have hy39 : y703.length = (t696 : Int).toNat:=(by rw [Ny703.out,List.length_take]; omega)
         rw [← Ny703.out] at hr39
         rw [← hy39] at hcut39
         have HO707:=Aside0.mk (show Kd.V (Kd.int .i64) 3 _ w.heap.size _ (.slice A702_0 y703.length c702_0) y703 from Kd.V_mk (by omega) hr39)
         have HC707:=Aside0.mk (show y703.length ≤ c702_0 from by omega)
         clear hr39 hC39 hroom39 hi039 hsz39
         have KY39:=Aside0.mk hy39
         clear hy39
         replace q39:=eq_true q39
         have p22 : 0 ≤ (t695 : Int):=of_decide_eq_true (by first|(with_reducible assumption)|assumption)
         have q22 : (t695 : Int) < ((t698.length : Int) : Int):=of_decide_eq_true (by first|(with_reducible assumption)|assumption)
         obtain ⟨go22,co22,eo22,gb22,gl22,cl22,HG22⟩:=Kd.N_form HO700.out (by omega)
         (first|cases eo22|(injection eo22 with ea_ en_ ec_; (first|subst ea_|(injection ea_ with ea_; subst ea_)); subst ec_; clear en_))
         have GB22:=Aside0.mk gb22
         have GG22:=Aside0.mk HG22
         clear gb22 gl22 HG22
         (first|simp only [add_plain] at hx702_0|skip)
         obtain ⟨ce22,hcl22,hM22,hcc22,hfr22⟩:=Kd.N_elem HO700.out [] (t695 : Int) p22 q22
         obtain ⟨ua22_0,uc22_0,rfl,ul22_0,ge22_0⟩:=Kd.FK_slice_open hM22
         have hx22_0:=hcc22 0 _ rfl
         have hf22_0:=hfr22 0
         (try simp only [show ((Kd.slice 3 (Kd.int .i64))).sz = 1 from rfl,Nat.mul_one,Nat.add_zero] at hx22_0)
         (try simp only [show ((Kd.slice 3 (Kd.int .i64))).sz = 1 from rfl,Nat.mul_one,Nat.add_zero] at hf22_0)
         (try clear hcl22); (try clear hcc22); (try clear hfr22); (try clear hM22)
         replace p22:=eq_true p22
         replace q22:=eq_true q22
         have HX40:=Aside0.mk (show Kd.N (Kd.slice 3 (Kd.int .i64)) 24 _ w.heap.size (fun k_ => (w.heap.size ≤ k_) ∧ k_ ≠ gb692 ∧ k_ ≠ gb693 ∧ k_ ≠ gb701) (.slice (some ⟨go22,0,none⟩) t698.length co33) t698 from (Kd.N_mono (HO700.out) (fun k_ hk => ⟨hk.1,⟨hk.2.1,⟨hk.2.2.1,hk.2.2.2⟩⟩⟩)))
         obtain ⟨ce40,hcl40,hM40,hcc40,hfr40⟩:=Kd.N_elem HX40.out [] (t695 : Int) (of_decide_eq_true (by first|(with_reducible assumption)|assumption)) (by have h_ : (t695 : Int) < ((t698.length : Int) : Int):=of_decide_eq_true (by first|(with_reducible assumption)|assumption); first|exact h_|(have e_:=(Kd.N_reads' HO700.out).1; omega)|simpa using h_)
         obtain ⟨ua40_0,uc40_0,rfl,ul40_0,ge40_0⟩:=Kd.FK_slice_open hM40
         have HP40:=(Kd.N_seg HX40.out (t695 : Int) (of_decide_eq_true (by first|(with_reducible assumption)|assumption)) (by have h_ : (t695 : Int) < ((t698.length : Int) : Int):=of_decide_eq_true (by first|(with_reducible assumption)|assumption); first|exact h_|(have e_:=(Kd.N_reads' HO700.out).1; omega)|simpa using h_) (seg:=[.slice A702_0 y703.length c702_0]) (j:=0) hcl40 hcc40 (show 1 ≤ 1 from by decide) (x':=y703) (Kd.FK_slice_mk (Kd.V_reads' (Kd.V_mono (ok':=(fun k_ => ((fun k_ => (w.heap.size ≤ k_) ∧ k_ ≠ gb692 ∧ k_ ≠ gb693 ∧ k_ ≠ gb701)) k_ ∧ k_ ≠ go22)) (HO707.out) (fun k_ hk => ⟨⟨hk.1.1,⟨hk.1.2.1,⟨hk.1.2.2.1,hk.1.2.2.2⟩⟩⟩,fun e_ => (hk.2) (by rw [e_]; rfl)⟩))).2.1 (Kd.V_F (Kd.V_mono (ok':=(fun k_ => ((fun k_ => (w.heap.size ≤ k_) ∧ k_ ≠ gb692 ∧ k_ ≠ gb693 ∧ k_ ≠ gb701)) k_ ∧ k_ ≠ go22)) (HO707.out) (fun k_ hk => ⟨⟨hk.1.1,⟨hk.1.2.1,⟨hk.1.2.2.1,hk.1.2.2.2⟩⟩⟩,fun e_ => (hk.2) (by rw [e_]; rfl)⟩)))) (fun _ hk => hk)).1
         (try simp only [show ((Kd.slice 3 (Kd.int .i64))).sz = 1 from rfl,Nat.mul_one,Nat.add_zero] at HP40)
         rw [← Ny708.out] at HP40
         have HQ40:=Aside0.mk HP40
         (try clear hcl40); (try clear hcc40); (try clear hfr40); (try clear hM40); (try clear HP40)
         refine start_ (n:=12) (S:=fun w' => w'.cell? ⟨gb701,0,none⟩ = some (.slice (some ⟨go22,0,none⟩) t698.length co33) ∧ w'.cell? ⟨go22,(t695).toNat,none⟩ = some (.slice A702_0 (rd_L2 t698 t695).length c702_0)) (ds:=[11]) (bdad 12 0) (by kernel_rfl) rfl rfl ⟨(blk_cell BK701.out 0).trans rfl,hx702_0⟩ (fun hHeld => ?_); refine with_tabW impl_TakeBox.tab7 impl_TakeBox.bits7 (fun HT_ HW_ => ?_)
         generalize w37.drew = w38 at HO700 BK692 BK693 BK701 HB GG22 HL702_0 HO707 HQ40 HR702_0 hf22_0 hx22_0 hx702_0 hHeld ⊢
         refine pure_ (i:=0) (N:=some 35) (v:=?_) (a':=?_) (bdad 12 1) rfl rfl (any_of HT_.out (by kernel_rfl)) (fun _ _ _ h => h) (Or.inl ⟨by rfl,?_⟩) ?_ ?_
         rotate_left
         ·intro w'
          go_simp
          with_reducible rfl
         rotate_left
         ·simp only [Act.put,List.setIfInBounds_toArray,List.set_cons_zero,List.set_cons_succ,i64_w,i32_w]
          rfl
         refine pure_ (i:=2) (N:=some 37) (v:=?_) (a':=?_) (bdad 12 5) rfl rfl (any_of HT_.out (by kernel_rfl)) (fun _ _ _ h => h) (Or.inl ⟨by rfl,?_⟩) ?_ ?_
         rotate_left
         ·intro w'
          go_simp
          with_reducible rfl
         rotate_left
         ·simp only [Act.put,List.setIfInBounds_toArray,List.set_cons_zero,List.set_cons_succ,i64_w,i32_w]
          rfl
         refine pure_ (i:=3) (N:=some 38) (v:=?_) (a':=?_) (bdad 12 13) rfl rfl (any_of HT_.out (by kernel_rfl)) (fun _ _ _ h => h) (Or.inl ⟨by rfl,?_⟩) ?_ ?_
         rotate_left
         ·intro w'
          go_simp
          with_reducible rfl
         rotate_left
         ·simp only [Act.put,List.setIfInBounds_toArray,List.set_cons_zero,List.set_cons_succ,i64_w,i32_w]
          rfl
         refine pure_ (i:=5) (N:=some 40) (v:=?_) (a':=?_) (bdad 12 45) rfl rfl (any_of HT_.out (by kernel_rfl)) (fun _ _ _ h => h) (Or.inl ⟨by rfl,?_⟩) ?_ ?_
         rotate_left
         ·intro w'
          go_simp
          with_reducible rfl
         rotate_left
         ·simp only [Act.put,List.setIfInBounds_toArray,List.set_cons_zero,List.set_cons_succ,i64_w,i32_w]
          rfl
         refine pure_ (i:=8) (N:=some 43) (v:=?_) (a':=?_) (bdad 12 301) rfl rfl (any_of HT_.out (by kernel_rfl)) (fun _ _ _ h => h) (Or.inl ⟨by rfl,?_⟩) ?_ ?_
         rotate_left
         ·intro w'
          go_simp
          with_reducible rfl
         rotate_left
         ·simp only [Act.put,List.setIfInBounds_toArray,List.set_cons_zero,List.set_cons_succ,i64_w,i32_w]
          rfl
         refine take_ (i:=1) (N:=some 36) (v:=?_) (a':=?_) (bdad 12 303) rfl rfl (take_ofW HT_.out HW_.out (by kernel_rfl)) (fun _ _ _ h => h) (Or.inl ⟨by rfl,?_⟩) hHeld ?_ ?_
         rotate_left
         ·rintro w' ⟨s0,s1⟩
          go_simp
          with_reducible rfl
         rotate_left
         ·simp only [Act.put,List.setIfInBounds_toArray,List.set_cons_zero,List.set_cons_succ,i64_w,i32_w]
          rfl
         refine take_ (i:=4) (N:=some 39) (v:=?_) (a':=?_) (bdad 12 319) rfl rfl (take_ofW HT_.out HW_.out (by kernel_rfl)) (fun _ _ _ h => h) (Or.inl ⟨by rfl,?_⟩) hHeld ?_ ?_
         rotate_left
         ·rintro w' ⟨s0,s1⟩
          go_simp
          with_reducible rfl
         rotate_left
         ·simp only [Act.put,List.setIfInBounds_toArray,List.set_cons_zero,List.set_cons_succ,i64_w,i32_w]
          rfl
         refine pure_ (i:=6) (N:=some 41) (v:=?_) (a':=?_) (bdad 12 383) rfl rfl (any_of HT_.out (by kernel_rfl)) (fun _ _ _ h => h) (Or.inl ⟨by rfl,?_⟩) ?_ ?_
         rotate_left
         ·intro w'
          go_simp
          with_reducible rfl
         rotate_left
         ·simp only [Act.put,List.setIfInBounds_toArray,List.set_cons_zero,List.set_cons_succ,i64_w,i32_w]
          rfl
         refine take_ (i:=7) (N:=some 42) (v:=?_) (a':=?_) (bdad 12 511) rfl rfl (take_ofW HT_.out HW_.out (by kernel_rfl)) (fun _ _ _ h => h) (Or.inl ⟨by rfl,?_⟩) hHeld ?_ ?_
         rotate_left
         ·rintro w' ⟨s0,s1⟩
          go_simp
          with_reducible rfl
         rotate_left
         ·simp only [Act.put,List.setIfInBounds_toArray,List.set_cons_zero,List.set_cons_succ,i64_w,i32_w]
          rfl
         refine pure_ (i:=9) (N:=some 44) (v:=?_) (a':=?_) (bdad 12 1023) rfl rfl (any_of HT_.out (by kernel_rfl)) (fun _ _ _ h => h) (Or.inl ⟨by rfl,?_⟩) ?_ ?_
         rotate_left
         ·intro w'
          go_simp
          with_reducible rfl
         rotate_left
         ·simp only [Act.put,List.setIfInBounds_toArray,List.set_cons_zero,List.set_cons_succ,i64_w,i32_w]
          rfl
         refine pure_ (i:=10) (N:=some 45) (v:=?_) (a':=?_) (bdad 12 2047) rfl rfl (any_of HT_.out (by kernel_rfl)) (fun _ _ _ h => h) (Or.inl ⟨by rfl,?_⟩) ?_ ?_
         rotate_left
         ·intro w'
          go_simp
          with_reducible rfl
         rotate_left
         ·simp only [Act.put,List.setIfInBounds_toArray,List.set_cons_zero,List.set_cons_succ,i64_w,i32_w]
          rfl
         refine last_ (i:=11) (N:=none) (bdad 12 4095) rfl rfl (one_of HT_.out (by kernel_rfl)) (by decide) (fun K hK => ?_)
         refine skip_ (w1:=?_) (by rfl) rfl ?_ ?_
         rotate_left
         ·go_simp
          rfl
         refine hK.out _ _ ?_
         clear hK K
         refine done_ (done_of HT_.out (by kernel_rfl)) ?_
         have n0_ : Aside0 (Kd.N (Kd.slice 3 (Kd.int .i64)) 24 (w38.setCell ⟨go22,(t695 : Int).toNat,none⟩ (.slice A702_0 y703.length c702_0)) w.heap.size (fun k_ => (w.heap.size ≤ k_) ∧ k_ ≠ gb692 ∧ k_ ≠ gb693 ∧ k_ ≠ gb701) (.slice (some ⟨go22,0,none⟩) t698.length co33) y708):=⟨by (with_reducible repeat (first|apply Kd.N_alloc|apply Kd.N_drewN|apply Kd.N_drew)); exact HQ40.out⟩
         have n1_ : Aside0 (Kd.V (Kd.int .i64) 3 (w38.setCell ⟨go22,(t695 : Int).toNat,none⟩ (.slice A702_0 y703.length c702_0)) w.heap.size (fun k_ => (w.heap.size ≤ k_) ∧ some k_ ≠ (.slice (some ⟨go22,0,none⟩) t698.length co33 : Value).ownBlock ∧ k_ ≠ gb692 ∧ k_ ≠ gb693 ∧ k_ ≠ gb701) (.slice A702_0 (rd_L2 t698 t695).length c702_0) (rd_L2 t698 t695)):=⟨by (with_reducible repeat (first|apply Kd.V_alloc|apply Kd.V_drewN|apply Kd.V_drew)); exact Kd.V_mono (Kd.V_far (p:=⟨go22,(t695 : Int).toNat,none⟩) (Kd.V_mono HL702_0.out (fun k_ hk => (⟨hk,fun e_ => hk.2 (by rw [e_]; rfl)⟩ : _ ∧ k_ ≠ go22))) (fun _ hk => hk.2) (.slice A702_0 y703.length c702_0)) (fun _ hk => ⟨hk.1.1.1,⟨hk.1.2,⟨hk.1.1.2.1,⟨hk.1.1.2.2.1,hk.1.1.2.2.2⟩⟩⟩⟩)⟩
         have n2_ : Aside0 (Kd.V (Kd.int .i64) 3 (w38.setCell ⟨go22,(t695 : Int).toNat,none⟩ (.slice A702_0 y703.length c702_0)) w.heap.size (fun k_ => (w.heap.size ≤ k_) ∧ some k_ ≠ (.slice (some ⟨go22,0,none⟩) t698.length co33 : Value).ownBlock ∧ k_ ≠ gb692 ∧ k_ ≠ gb693 ∧ k_ ≠ gb701) (.slice A702_0 y703.length c702_0) y703):=⟨by (with_reducible repeat (first|apply Kd.V_alloc|apply Kd.V_drewN|apply Kd.V_drew)); exact Kd.V_mono (Kd.V_far (p:=⟨go22,(t695 : Int).toNat,none⟩) (Kd.V_mono HO707.out (fun k_ hk => (⟨hk,fun e_ => hk.2 (by rw [e_]; rfl)⟩ : _ ∧ k_ ≠ go22))) (fun _ hk => hk.2) (.slice A702_0 y703.length c702_0)) (fun _ hk => ⟨hk.1.1.1,⟨hk.1.2,⟨hk.1.1.2.1,⟨hk.1.1.2.2.1,hk.1.1.2.2.2⟩⟩⟩⟩)⟩
         have n3_ : Aside0 ((w38.setCell ⟨go22,(t695 : Int).toNat,none⟩ (.slice A702_0 y703.length c702_0)).heap[gb692]? = some (.cells #[.slice (some ad697) l0_0.length c0_0] 42 (0,0))):=⟨by (with_reducible repeat (first|refine blk_drewN ?_ _|refine blk_drew ?_|refine blk_alloc ?_ _)); refine blk_far ?_ (by have h_:=Kd.N_away HO700.out (fun _ hk => hk.2.1); intro e_; exact h_ (by rw [e_]; rfl)) _; (with_reducible repeat (first|refine blk_drewN ?_ _|refine blk_drew ?_|refine blk_alloc ?_ _)); exact BK692.out⟩
         have n4_ : Aside0 ((w38.setCell ⟨go22,(t695 : Int).toNat,none⟩ (.slice A702_0 y703.length c702_0)).heap[gb693]? = some (.cells #[.slice none 0 0] 42 (0,0))):=⟨by (with_reducible repeat (first|refine blk_drewN ?_ _|refine blk_drew ?_|refine blk_alloc ?_ _)); refine blk_far ?_ (by have h_:=Kd.N_away HO700.out (fun _ hk => hk.2.2.1); intro e_; exact h_ (by rw [e_]; rfl)) _; (with_reducible repeat (first|refine blk_drewN ?_ _|refine blk_drew ?_|refine blk_alloc ?_ _)); exact BK693.out⟩
         have n5_ : Aside0 ((w38.setCell ⟨go22,(t695 : Int).toNat,none⟩ (.slice A702_0 y703.length c702_0)).heap[gb701]? = some (.cells #[.slice (some ⟨go22,0,none⟩) t698.length co33] 42 (0,0))):=⟨by (with_reducible repeat (first|refine blk_drewN ?_ _|refine blk_drew ?_|refine blk_alloc ?_ _)); refine blk_far ?_ (by have h_:=Kd.N_away HO700.out (fun _ hk => hk.2.2.2); intro e_; exact h_ (by rw [e_]; rfl)) _; (with_reducible repeat (first|refine blk_drewN ?_ _|refine blk_drew ?_|refine blk_alloc ?_ _)); exact BK701.out⟩
         have n6_ : Aside0 (Below w.heap.size w (w38.setCell ⟨go22,(t695 : Int).toNat,none⟩ (.slice A702_0 y703.length c702_0))):=⟨by repeat (first|(with_reducible first|exact HB.out|apply below_alloc|apply pw_below_drewN|apply below_drew1|refine below_set ?_ GB22.out|refine below_set ?_ GE692.out|refine below_set ?_ GE693.out|refine below_set ?_ GE701.out)|exact HB.out)⟩
         (try clear HO700)
         (try clear HL702_0)
         (try clear HO707)
         (try clear BK692)
         (try clear BK693)
         (try clear BK701)
         (try clear HB)
         generalize (w38.setCell ⟨go22,(t695 : Int).toNat,none⟩ (.slice A702_0 y703.length c702_0)) = w41 at n0_ n1_ n2_ n3_ n4_ n5_ n6_ ⊢
         have HO700:=n0_
         have HL702_0:=n1_
         have HO707:=n2_
         have BK692:=n3_
         have BK693:=n4_
         have BK701:=n5_
         have HB:=n6_
         clear n0_ n1_ n2_ n3_ n4_ n5_ n6_
         have hcz42_0 : w41.cell? ⟨gb701,0,none⟩ = some (.slice (some ⟨go22,0,none⟩) t698.length co33):=(blk_cell BK701.out 0).trans rfl
         have hfz42_0:=blk_frozen BK701.out 0
         have hcz43_0 : w41.cell? ⟨gb693,0,none⟩ = some (.slice none 0 0):=(blk_cell BK693.out 0).trans rfl
         have hfz43_0:=blk_frozen BK693.out 0
         try go_wp2
         refine bodyPost_ret (results_ct rfl _ _ gb693 42 #[.slice (some ⟨go22,0,none⟩) t698.length co33] (0,0) _ rfl (by (with_reducible repeat (first|refine blk_drewN ?_ _|refine blk_drew ?_|refine blk_alloc ?_ _)); refine blk_put (cs:=#[.slice none 0 0]) ?_ 0 _ rfl; (with_reducible repeat (first|refine blk_drewN ?_ _|refine blk_drew ?_|refine blk_alloc ?_ _)); exact BK693.out) Try.underlying42 rfl (by kernel_rfl)) rfl ?_
         exact ⟨_,by first|rfl|(simp [errW_none,errW_some] <;> rfl)|(simp [*,errW_none,errW_some] <;> rfl),by (with_reducible repeat (first|apply Kd.N_alloc|apply Kd.N_drewN|apply Kd.N_drew)); exact Kd.N_mono (Kd.N_far (p:=⟨gb693,0,none⟩) (Kd.N_mono HO700.out (fun k_ hk => (⟨hk,hk.2.2.1⟩ : _ ∧ k_ ≠ gb693))) (fun _ hk => hk.2) (.slice (some ⟨go22,0,none⟩) t698.length co33)) (fun _ hk => hk.1.1),by repeat (first|(with_reducible first|exact HB.out|apply below_alloc|apply pw_below_drewN|apply below_drew1|refine below_set ?_ GE692.out|refine below_set ?_ GE693.out|refine below_set ?_ GE701.out)|exact HB.out)⟩
        ·rw [if_neg c21] at H
         exact absurd H (by simp)
       ·rw [if_neg c20] at H
        exact absurd H (by simp)
      ·rw [if_neg c19] at H
       exact absurd H (by simp)
     ·rw [if_neg c17] at H
      have c17b0 : (t696 == (wrap64 (((rd_L2 l0_0 t695).length : Int) - 1))) = false:=beq_eq_false_iff_ne.mpr c17
      have c17b1 : (t696 != (wrap64 (((rd_L2 l0_0 t695).length : Int) - 1))) = true:=bne_iff_ne.mpr c17
      simp only [Option.some.injEq,Prod.mk.injEq] at H
      obtain ⟨rfl,rfl⟩:=H
      go_enter Try.func44,Try.ntmps44
      go_wp2_with (first|((with_reducible refine gate_dst (N:=2) rfl ?_); (try (refine gate_guard (by rfl) ?_; dsimp only)); refine box_event ?hg (N:=2) ?hd (cs:=#[.slice A0_0 l0_0.length c0_0]) (t:=42) ?hr ?_; (case hd => rfl); (case hg => rfl); (case hr => first|(go_simp; done)|(go_simp; rfl)); intro gb692 hg w44 hbox hb; have n0_:=Aside0.mk (below_step (by repeat (first|(with_reducible first|exact HB.out|apply below_alloc|apply pw_below_drewN|apply below_drew1)|exact HB.out)) hb); have n1_:=Aside0.mk (hbox); have n2_:=Aside0.mk ((by rw [hg]; exact (below_size (by repeat (first|(with_reducible first|exact HB.out|apply below_alloc|apply pw_below_drewN|apply below_drew1)|exact HB.out))) : w.heap.size ≤ gb692)); have n3_:=Aside0.mk ((by rw [hg]; exact (below_size (by repeat (first|(with_reducible first|exact HB.out|apply below_alloc|apply pw_below_drewN|apply below_drew1)|exact HB.out))) : w.heap.size ≤ gb692)); clear HB; have HB:=n0_; have BK692:=n1_; have GW692:=n2_; have GE692:=n3_; clear n0_ n1_ n2_ n3_; clear hb hbox hg)|((with_reducible refine gate_dst (N:=4) rfl ?_); (try (refine gate_guard (by rfl) ?_; dsimp only)); refine box_event ?hg (N:=4) ?hd (cs:=#[.slice none 0 0]) (t:=42) ?hr ?_; (case hd => rfl); (case hg => rfl); (case hr => first|(go_simp; done)|(go_simp; rfl)); intro gb693 hg w45 hbox hb; have n0_:=Aside0.mk (blk_below (g:=gb692) (o:=.cells #[.slice A0_0 l0_0.length c0_0] 42 (0,0)) (by (with_reducible repeat (first|refine blk_drewN ?_ _|refine blk_drew ?_|refine blk_alloc ?_ _)); exact BK692.out) hb); have n1_:=Aside0.mk (below_step (by repeat (first|(with_reducible first|exact HB.out|apply below_alloc|apply pw_below_drewN|apply below_drew1|refine below_set ?_ GE692.out)|exact HB.out)) hb); have n2_:=Aside0.mk (hbox); have n3_:=Aside0.mk ((by rw [hg]; exact (below_size (by repeat (first|(with_reducible first|exact HB.out|apply below_alloc|apply pw_below_drewN|apply below_drew1|refine below_set ?_ GE692.out)|exact HB.out))) : w.heap.size ≤ gb693)); have n4_:=Aside0.mk ((by rw [hg]; exact (below_size (by repeat (first|(with_reducible first|exact HB.out|apply below_alloc|apply pw_below_drewN|apply below_drew1|refine below_set ?_ GE692.out)|exact HB.out))) : w.heap.size ≤ gb693)); have n5_:=Aside0.mk ((by rw [hg]; exact Nat.ne_of_lt (blk_lt (g:=gb692) (o:=.cells #[.slice A0_0 l0_0.length c0_0] 42 (0,0)) (by (with_reducible repeat (first|refine blk_drewN ?_ _|refine blk_drew ?_|refine blk_alloc ?_ _)); exact BK692.out)) : gb692 ≠ gb693)); have n6_:=Aside0.mk ((by rw [hg]; exact Nat.ne_of_gt (blk_lt (g:=gb692) (o:=.cells #[.slice A0_0 l0_0.length c0_0] 42 (0,0)) (by (with_reducible repeat (first|refine blk_drewN ?_ _|refine blk_drew ?_|refine blk_alloc ?_ _)); exact BK692.out)) : gb693 ≠ gb692)); clear BK692; clear HB; have BK692:=n0_; have HB:=n1_; have BK693:=n2_; have GW693:=n3_; have GE693:=n4_; have NB692_693:=n5_; have NB693_692:=n6_; clear n0_ n1_ n2_ n3_ n4_ n5_ n6_; clear hb hbox hg; have hnb46:=NB692_693.out; have hnc46:=NB693_692.out; have hcz47_0 : w45.cell? ⟨gb692,0,none⟩ = some (.slice A0_0 l0_0.length c0_0):=(blk_cell BK692.out 0).trans rfl; have hfz47_0:=blk_frozen BK692.out 0)|((with_reducible refine gate_callee (f:=40) rfl ?_); refine goesL_ (some 10) rfl rfl Try.func40 (by kernel_rfl) rfl #[.agg #[.slice A0_0 l0_0.length c0_0]] rfl (by (try simp only [List.map_toArray,List.map_cons,List.map_nil]); first|done|rfl|(simp only [List.length_drop,List.length_take]; rfl)) ?_; (with_reducible refine (impl_IsValidYard.calls _ _ l0_0 true _ ?side1 ?side2 A3.out).mono ?_); (case side1 => repeat (first|exact (Kd.C_below HR0_0.out HB.out)|(with_reducible refine Kd.C_alloc ?_ _)|(with_reducible refine Kd.C_drewN ?_ _)|(with_reducible refine Kd.C_drew ?_))); (case side2 => exact HC0_0.out); rintro e w48 ⟨rfl,hb⟩; refine ⟨_,rfl,?_⟩; have n0_:=Aside0.mk (blk_below (g:=gb692) (o:=.cells #[.slice A0_0 l0_0.length c0_0] 42 (0,0)) (by (with_reducible repeat (first|refine blk_drewN ?_ _|refine blk_drew ?_|refine blk_alloc ?_ _)); exact BK692.out) hb); have n1_:=Aside0.mk (blk_below (g:=gb693) (o:=.cells #[.slice none 0 0] 42 (0,0)) (by (with_reducible repeat (first|refine blk_drewN ?_ _|refine blk_drew ?_|refine blk_alloc ?_ _)); exact BK693.out) hb); have n2_:=Aside0.mk (below_step (by repeat (first|(with_reducible first|exact HB.out|apply below_alloc|apply pw_below_drewN|apply below_drew1|refine below_set ?_ GE692.out|refine below_set ?_ GE693.out)|exact HB.out)) hb); clear BK692; clear BK693; clear HB; have BK692:=n0_; have BK693:=n1_; have HB:=n2_; clear n0_ n1_ n2_; (try clear hb); (try clear hb2); (try clear hk); (try clear hi); have hcz49_0 : w48.cell? ⟨gb692,0,none⟩ = some (.slice A0_0 l0_0.length c0_0):=(blk_cell BK692.out 0).trans rfl; have hfz49_0:=blk_frozen BK692.out 0)|((with_reducible refine gate_callee (f:=120) rfl ?_); refine goesL_ (some 16) rfl rfl Try.func120 (by kernel_rfl) rfl #[.agg #[.slice A0_0 l0_0.length c0_0],.int .i64 a1] rfl (by (try simp only [List.map_toArray,List.map_cons,List.map_nil]); first|done|rfl|(simp only [List.length_drop,List.length_take]; rfl)) ?_; (with_reducible refine (impl_placeOf.calls k _ _ l0_0 a1 t695 t696 _ ?side1 ?side2 A5.out).mono ?_); (case side1 => repeat (first|exact (Kd.C_below HR0_0.out HB.out)|(with_reducible refine Kd.C_alloc ?_ _)|(with_reducible refine Kd.C_drewN ?_ _)|(with_reducible refine Kd.C_drew ?_))); (case side2 => exact HC0_0.out); rintro e w50 ⟨rfl,hb⟩; refine ⟨_,rfl,?_⟩; have n0_:=Aside0.mk (blk_below (g:=gb692) (o:=.cells #[.slice A0_0 l0_0.length c0_0] 42 (0,0)) (by (with_reducible repeat (first|refine blk_drewN ?_ _|refine blk_drew ?_|refine blk_alloc ?_ _)); exact BK692.out) hb); have n1_:=Aside0.mk (blk_below (g:=gb693) (o:=.cells #[.slice none 0 0] 42 (0,0)) (by (with_reducible repeat (first|refine blk_drewN ?_ _|refine blk_drew ?_|refine blk_alloc ?_ _)); exact BK693.out) hb); have n2_:=Aside0.mk (below_step (by repeat (first|(with_reducible first|exact HB.out|apply below_alloc|apply pw_below_drewN|apply below_drew1|refine below_set ?_ GE692.out|refine below_set ?_ GE693.out)|exact HB.out)) hb); clear BK692; clear BK693; clear HB; have BK692:=n0_; have BK693:=n1_; have HB:=n2_; clear n0_ n1_ n2_; (try clear hb); (try clear hb2); (try clear hk); (try clear hi); have hcz51_0 : w50.cell? ⟨gb692,0,none⟩ = some (.slice A0_0 l0_0.length c0_0):=(blk_cell BK692.out 0).trans rfl; have hfz51_0:=blk_frozen BK692.out 0; have p697 : 0 ≤ (t695 : Int):=of_decide_eq_true (by first|(with_reducible assumption)|assumption); have q697 : t695 < (l0_0.length : Int):=of_decide_eq_true (by first|(with_reducible assumption)|assumption); obtain ⟨ad697,A697_0,c697_0,e697,hx697_0,hl697_0,hi697_0⟩:=at_L2 HR0_0.out t695 p697 q697; cases e697; replace hx697_0:=(HB.out.cell (World.block_lt_of_cell? w _ hx697_0)).trans hx697_0; have HR697_0:=Aside0.mk hi697_0; have HC697_0:=Aside0.mk hl697_0; clear hi697_0 hl697_0; replace p697:=eq_true p697; replace q697:=eq_true q697; have hcz52_0 : w50.cell? ⟨gb693,0,none⟩ = some (.slice none 0 0):=(blk_cell BK693.out 0).trans rfl; have hfz52_0:=blk_frozen BK693.out 0))
      refine bodyPost_ret (results_ct rfl _ _ gb693 42 #[.slice none 0 0] (0,0) _ rfl (by (with_reducible repeat (first|refine blk_drewN ?_ _|refine blk_drew ?_|refine blk_alloc ?_ _)); refine blk_put (cs:=#[.slice none 0 0]) ?_ 0 _ rfl; (with_reducible repeat (first|refine blk_drewN ?_ _|refine blk_drew ?_|refine blk_alloc ?_ _)); exact BK693.out) Try.underlying42 rfl (by kernel_rfl)) rfl ?_
      exact ⟨_,by first|rfl|(simp [errW_none,errW_some] <;> rfl)|(simp [*,errW_none,errW_some] <;> rfl),by first|exact Kd.S_nil _ _ _ _ _|exact Kd.N_nil _ _ _ _ _|exact Kd.V_nil _ _ _ _ _|exact Kd.Q_nil _ _ _ _ _|exact Kd.R_nil _ _ _ _ _,by repeat (first|(with_reducible first|exact HB.out|apply below_alloc|apply pw_below_drewN|apply below_drew1|refine below_set ?_ GE692.out|refine below_set ?_ GE693.out)|exact HB.out)⟩
    ·rw [if_neg c16] at H
     exact absurd H (by simp)
   ·rw [if_neg c15] at H
    exact absurd H (by simp)
 ·replace c4:=Bool.eq_false_iff.mpr c4
  subst c4
  have H1 : (some (([] : List (List Int)),false)) = some (r1,r2):=by rw [if_neg (show ¬ (false = true) by decide)] at H; exact H
  clear H
  have H:=H1
  clear H1
  simp only [Option.some.injEq,Prod.mk.injEq] at H
  obtain ⟨rfl,rfl⟩:=H
  go_enter Try.func44,Try.ntmps44
  go_wp2_with (first|((with_reducible refine gate_dst (N:=2) rfl ?_); (try (refine gate_guard (by rfl) ?_; dsimp only)); refine box_event ?hg (N:=2) ?hd (cs:=#[.slice A0_0 l0_0.length c0_0]) (t:=42) ?hr ?_; (case hd => rfl); (case hg => rfl); (case hr => first|(go_simp; done)|(go_simp; rfl)); intro gb692 hg w53 hbox hb; have n0_:=Aside0.mk (below_step (by repeat (first|(with_reducible first|exact HB.out|apply below_alloc|apply pw_below_drewN|apply below_drew1)|exact HB.out)) hb); have n1_:=Aside0.mk (hbox); have n2_:=Aside0.mk ((by rw [hg]; exact (below_size (by repeat (first|(with_reducible first|exact HB.out|apply below_alloc|apply pw_below_drewN|apply below_drew1)|exact HB.out))) : w.heap.size ≤ gb692)); have n3_:=Aside0.mk ((by rw [hg]; exact (below_size (by repeat (first|(with_reducible first|exact HB.out|apply below_alloc|apply pw_below_drewN|apply below_drew1)|exact HB.out))) : w.heap.size ≤ gb692)); clear HB; have HB:=n0_; have BK692:=n1_; have GW692:=n2_; have GE692:=n3_; clear n0_ n1_ n2_ n3_; clear hb hbox hg)|((with_reducible refine gate_dst (N:=4) rfl ?_); (try (refine gate_guard (by rfl) ?_; dsimp only)); refine box_event ?hg (N:=4) ?hd (cs:=#[.slice none 0 0]) (t:=42) ?hr ?_; (case hd => rfl); (case hg => rfl); (case hr => first|(go_simp; done)|(go_simp; rfl)); intro gb693 hg w54 hbox hb; have n0_:=Aside0.mk (blk_below (g:=gb692) (o:=.cells #[.slice A0_0 l0_0.length c0_0] 42 (0,0)) (by (with_reducible repeat (first|refine blk_drewN ?_ _|refine blk_drew ?_|refine blk_alloc ?_ _)); exact BK692.out) hb); have n1_:=Aside0.mk (below_step (by repeat (first|(with_reducible first|exact HB.out|apply below_alloc|apply pw_below_drewN|apply below_drew1|refine below_set ?_ GE692.out)|exact HB.out)) hb); have n2_:=Aside0.mk (hbox); have n3_:=Aside0.mk ((by rw [hg]; exact (below_size (by repeat (first|(with_reducible first|exact HB.out|apply below_alloc|apply pw_below_drewN|apply below_drew1|refine below_set ?_ GE692.out)|exact HB.out))) : w.heap.size ≤ gb693)); have n4_:=Aside0.mk ((by rw [hg]; exact (below_size (by repeat (first|(with_reducible first|exact HB.out|apply below_alloc|apply pw_below_drewN|apply below_drew1|refine below_set ?_ GE692.out)|exact HB.out))) : w.heap.size ≤ gb693)); have n5_:=Aside0.mk ((by rw [hg]; exact Nat.ne_of_lt (blk_lt (g:=gb692) (o:=.cells #[.slice A0_0 l0_0.length c0_0] 42 (0,0)) (by (with_reducible repeat (first|refine blk_drewN ?_ _|refine blk_drew ?_|refine blk_alloc ?_ _)); exact BK692.out)) : gb692 ≠ gb693)); have n6_:=Aside0.mk ((by rw [hg]; exact Nat.ne_of_gt (blk_lt (g:=gb692) (o:=.cells #[.slice A0_0 l0_0.length c0_0] 42 (0,0)) (by (with_reducible repeat (first|refine blk_drewN ?_ _|refine blk_drew ?_|refine blk_alloc ?_ _)); exact BK692.out)) : gb693 ≠ gb692)); clear BK692; clear HB; have BK692:=n0_; have HB:=n1_; have BK693:=n2_; have GW693:=n3_; have GE693:=n4_; have NB692_693:=n5_; have NB693_692:=n6_; clear n0_ n1_ n2_ n3_ n4_ n5_ n6_; clear hb hbox hg; have hnb55:=NB692_693.out; have hnc55:=NB693_692.out; have hcz56_0 : w54.cell? ⟨gb692,0,none⟩ = some (.slice A0_0 l0_0.length c0_0):=(blk_cell BK692.out 0).trans rfl; have hfz56_0:=blk_frozen BK692.out 0)|((with_reducible refine gate_callee (f:=40) rfl ?_); refine goesL_ (some 10) rfl rfl Try.func40 (by kernel_rfl) rfl #[.agg #[.slice A0_0 l0_0.length c0_0]] rfl (by (try simp only [List.map_toArray,List.map_cons,List.map_nil]); first|done|rfl|(simp only [List.length_drop,List.length_take]; rfl)) ?_; (with_reducible refine (impl_IsValidYard.calls _ _ l0_0 false _ ?side1 ?side2 A3.out).mono ?_); (case side1 => repeat (first|exact (Kd.C_below HR0_0.out HB.out)|(with_reducible refine Kd.C_alloc ?_ _)|(with_reducible refine Kd.C_drewN ?_ _)|(with_reducible refine Kd.C_drew ?_))); (case side2 => exact HC0_0.out); rintro e w57 ⟨rfl,hb⟩; refine ⟨_,rfl,?_⟩; have n0_:=Aside0.mk (blk_below (g:=gb692) (o:=.cells #[.slice A0_0 l0_0.length c0_0] 42 (0,0)) (by (with_reducible repeat (first|refine blk_drewN ?_ _|refine blk_drew ?_|refine blk_alloc ?_ _)); exact BK692.out) hb); have n1_:=Aside0.mk (blk_below (g:=gb693) (o:=.cells #[.slice none 0 0] 42 (0,0)) (by (with_reducible repeat (first|refine blk_drewN ?_ _|refine blk_drew ?_|refine blk_alloc ?_ _)); exact BK693.out) hb); have n2_:=Aside0.mk (below_step (by repeat (first|(with_reducible first|exact HB.out|apply below_alloc|apply pw_below_drewN|apply below_drew1|refine below_set ?_ GE692.out|refine below_set ?_ GE693.out)|exact HB.out)) hb); clear BK692; clear BK693; clear HB; have BK692:=n0_; have BK693:=n1_; have HB:=n2_; clear n0_ n1_ n2_; (try clear hb); (try clear hb2); (try clear hk); (try clear hi); have hcz58_0 : w57.cell? ⟨gb693,0,none⟩ = some (.slice none 0 0):=(blk_cell BK693.out 0).trans rfl; have hfz58_0:=blk_frozen BK693.out 0))
  refine bodyPost_ret (results_ct rfl _ _ gb693 42 #[.slice none 0 0] (0,0) _ rfl (by (with_reducible repeat (first|refine blk_drewN ?_ _|refine blk_drew ?_|refine blk_alloc ?_ _)); refine blk_put (cs:=#[.slice none 0 0]) ?_ 0 _ rfl; (with_reducible repeat (first|refine blk_drewN ?_ _|refine blk_drew ?_|refine blk_alloc ?_ _)); exact BK693.out) Try.underlying42 rfl (by kernel_rfl)) rfl ?_
  exact ⟨_,by first|rfl|(simp [errW_none,errW_some] <;> rfl)|(simp [*,errW_none,errW_some] <;> rfl),by first|exact Kd.S_nil _ _ _ _ _|exact Kd.N_nil _ _ _ _ _|exact Kd.V_nil _ _ _ _ _|exact Kd.Q_nil _ _ _ _ _|exact Kd.R_nil _ _ _ _ _,by repeat (first|(with_reducible first|exact HB.out|apply below_alloc|apply pw_below_drewN|apply below_drew1|refine below_set ?_ GE692.out|refine below_set ?_ GE693.out)|exact HB.out)⟩

end Go.Proofs.Ytlldonokjgoajaa.X
