-- Written by a program of ours (wip/bin/xprint.py,over the kit's print.py) out of the translation. Not trusted: Lean checks it.
import Derived.Test.YtlldonokjgoajaaX0
import Derived.Test.YtlldonokjgoajaaFbYard
import Derived.Test.YtlldonokjgoajaaGl5Move
namespace Go.Proofs.Ytlldonokjgoajaa.X
open Go.RowKit Go.Proofs.YtlldonokjgoajaaW.PrintWords Go.Proofs.YtlldonokjgoajaaW.PrintLast Go.Proofs.YtlldonokjgoajaaW.PrintMore
def lbdb8 : Nat → Nat → List Bool
 | 0,_ => []
 | n+1,m => (m%2==1) :: lbdb8 n (m/2)
def bdb8 (n m : Nat) : Array Bool := ⟨lbdb8 n m⟩
attribute [local go_sem] max2_int min2_int max_two min_two max_three min_three max_four min_four   -- for this text's walks alone
set_option linter.unusedVariables false
set_option linter.unusedSimpArgs false

/-! ### spec_MoveTop: function 29 -/
def spec_MoveTop.f (k : Nat) (l0_0 : List (List Int)) (a1 : Int) (a2 : Int) : Option ((List (List Int)) × Int × Bool):=(spec_l5Stack.f k l0_0 a1).bind fun t471 => (if t471 = true then ((spec_l5Stack.f k l0_0 a2).bind fun t472 => (if t472 = true then (if a1 = a2 then (some (([] : List (List Int)),0,false)) else (if 0 ≤ a1 then (if a1 < (l0_0.length : Int) then (if ((rd_L2 l0_0 a1).length : Int) = 0 then (some (([] : List (List Int)),0,false)) else (if 0 ≤ a2 then (if a2 < (l0_0.length : Int) then (if ((rd_L2 l0_0 a2).length : Int) = 4 then (some (([] : List (List Int)),0,false)) else ((spec_l5Move.f k l0_0 a1 a2).bind fun t475 => (if 0 ≤ (wrap64 (((rd_L2 l0_0 a1).length : Int) - 1)) then (if (wrap64 (((rd_L2 l0_0 a1).length : Int) - 1)) < ((rd_L2 l0_0 a1).length : Int) then (some (t475,rd (rd_L2 l0_0 a1) (wrap64 (((rd_L2 l0_0 a1).length : Int) - 1)),true)) else (none)) else (none)))) else (none)) else (none))) else (none)) else (none))) else (some (([] : List (List Int)),0,false)))) else (some (([] : List (List Int)),0,false)))
theorem spec_MoveTop.mono : ∀ a0 a1 a2 k,LeO (spec_MoveTop.f k a0 a1 a2) (spec_MoveTop.f (k + 1) a0 a1 a2):=by
 intro a0 a1 a2 k
 unfold spec_MoveTop.f
 repeat' first
   | (with_reducible exact spec_l5Move.mono _ _ _ _)
   | (with_reducible exact spec_l5Stack.mono _ _ _)
   | (with_reducible exact LeO.refl _)
   | (with_reducible exact LeO.none _)
   | (with_reducible refine LeO.ite ?_ ?_)
   | (with_reducible refine LeO.bind ?_ (fun _ => ?_))
   | exact spec_l5Move.mono _ _ _ _
   | exact spec_l5Stack.mono _ _ _
   | exact LeO.none _
   | refine LeO.ite ?_ ?_
   | refine LeO.bind ?_ (fun _ => ?_)
def spec_MoveTop.T3 : Bool × List (List Nat × List Nat):=(true,[([],[]),([],[]),([],[]),([0,1,2],[0,1,2]),([],[]),([4],[4]),([],[]),([5,6],[5,6]),([7],[7]),([],[]),([9],[9]),([],[]),([10,11],[10,11]),([12],[12]),([13],[13]),([14],[14]),([8,15],[8,15]),([16],[16]),([3,3,0,1,2,3],[3]),([17,18,0,1,2,3,4,5,6,7,8,9,10,11,12,13,14,15,16,17,18],[17]),([19,0,1,2,3,4,5,6,7,8,9,10,11,12,13,14,15,16,17,18,19],[])])
def spec_MoveTop.B3 : List Nat:=[0,0,0,7,0,16,0,112,240,0,512,0,3584,7680,15872,32256,65520,131056,15,524287,1048575]
theorem spec_MoveTop.tab3 : rtab .any (opsOf Try.f29 3) = spec_MoveTop.T3:=by kernel_rfl
theorem spec_MoveTop.bits3 : waitsOk spec_MoveTop.T3.2 spec_MoveTop.B3 = true:=by kernel_rfl
set_option maxHeartbeats 8000000 in
set_option maxRecDepth 100000 in
theorem spec_MoveTop.calls (k : Nat) (A0_0 : Option Addr) (c0_0 : Nat) (l0_0 : List (List Int)) (a1 : Int) (a2 : Int) (r1 : List (List Int)) (r2 : Int) (r3 : Bool) (w : World) (hr0_0 : Kd.C (Kd.slice 3 (Kd.int .i64)) w A0_0 l0_0.length l0_0) (hc0_0 : l0_0.length ≤ c0_0) (h : spec_MoveTop.f k l0_0 a1 a2 = some (r1,r2,r3)) :
  Calls Try.prog 29 #[.agg #[.slice A0_0 l0_0.length c0_0],.int .i64 a1,.int .i64 a2] w fun e w' => ∃ v0_ : Value,e = .returned (.tuple #[.agg #[v0_],.int .i64 r2,.bool r3]) ∧ Kd.S (Kd.slice 3 (Kd.int .i64)) 24 w' w.heap.size (fun _ => True) v0_ r1 ∧ Below w.heap.size w w':=by
 have hu42:=Try.underlying42
 have HR0_0:=Aside0.mk hr0_0
 have HC0_0:=Aside0.mk hc0_0
 clear hr0_0 hc0_0
 have HB:=Aside0.mk (Below.refl w.heap.size w)
 have H : ((spec_l5Stack.f k l0_0 a1).bind fun t471 => (if t471 = true then ((spec_l5Stack.f k l0_0 a2).bind fun t472 => (if t472 = true then (if a1 = a2 then (some (([] : List (List Int)),0,false)) else (if 0 ≤ a1 then (if a1 < (l0_0.length : Int) then (if ((rd_L2 l0_0 a1).length : Int) = 0 then (some (([] : List (List Int)),0,false)) else (if 0 ≤ a2 then (if a2 < (l0_0.length : Int) then (if ((rd_L2 l0_0 a2).length : Int) = 4 then (some (([] : List (List Int)),0,false)) else ((spec_l5Move.f k l0_0 a1 a2).bind fun t475 => (if 0 ≤ (wrap64 (((rd_L2 l0_0 a1).length : Int) - 1)) then (if (wrap64 (((rd_L2 l0_0 a1).length : Int) - 1)) < ((rd_L2 l0_0 a1).length : Int) then (some (t475,rd (rd_L2 l0_0 a1) (wrap64 (((rd_L2 l0_0 a1).length : Int) - 1)),true)) else (none)) else (none)))) else (none)) else (none))) else (none)) else (none))) else (some (([] : List (List Int)),0,false)))) else (some (([] : List (List Int)),0,false)))) = some (r1,r2,r3):=h
 clear h
 replace H:=Option.bind_eq_some_iff.mp H
 obtain ⟨t471,A40,H⟩:=H
 replace H : (if t471 = true then ((spec_l5Stack.f k l0_0 a2).bind fun t472 => (if t472 = true then (if a1 = a2 then (some (([] : List (List Int)),0,false)) else (if 0 ≤ a1 then (if a1 < (l0_0.length : Int) then (if ((rd_L2 l0_0 a1).length : Int) = 0 then (some (([] : List (List Int)),0,false)) else (if 0 ≤ a2 then (if a2 < (l0_0.length : Int) then (if ((rd_L2 l0_0 a2).length : Int) = 4 then (some (([] : List (List Int)),0,false)) else ((spec_l5Move.f k l0_0 a1 a2).bind fun t475 => (if 0 ≤ (wrap64 (((rd_L2 l0_0 a1).length : Int) - 1)) then (if (wrap64 (((rd_L2 l0_0 a1).length : Int) - 1)) < ((rd_L2 l0_0 a1).length : Int) then (some (t475,rd (rd_L2 l0_0 a1) (wrap64 (((rd_L2 l0_0 a1).length : Int) - 1)),true)) else (none)) else (none)))) else (none)) else (none))) else (none)) else (none))) else (some (([] : List (List Int)),0,false)))) else (some (([] : List (List Int)),0,false))) = some (r1,r2,r3):=H
 have A4:=Aside0.mk A40
 clear A40
 by_cases c5 : t471 = true
 ·subst c5
  have H1 : ((spec_l5Stack.f k l0_0 a2).bind fun t472 => (if t472 = true then (if a1 = a2 then (some (([] : List (List Int)),0,false)) else (if 0 ≤ a1 then (if a1 < (l0_0.length : Int) then (if ((rd_L2 l0_0 a1).length : Int) = 0 then (some (([] : List (List Int)),0,false)) else (if 0 ≤ a2 then (if a2 < (l0_0.length : Int) then (if ((rd_L2 l0_0 a2).length : Int) = 4 then (some (([] : List (List Int)),0,false)) else ((spec_l5Move.f k l0_0 a1 a2).bind fun t475 => (if 0 ≤ (wrap64 (((rd_L2 l0_0 a1).length : Int) - 1)) then (if (wrap64 (((rd_L2 l0_0 a1).length : Int) - 1)) < ((rd_L2 l0_0 a1).length : Int) then (some (t475,rd (rd_L2 l0_0 a1) (wrap64 (((rd_L2 l0_0 a1).length : Int) - 1)),true)) else (none)) else (none)))) else (none)) else (none))) else (none)) else (none))) else (some (([] : List (List Int)),0,false)))) = some (r1,r2,r3):=by rw [if_pos rfl] at H; exact H
  clear H
  have H:=H1
  clear H1
  replace H:=Option.bind_eq_some_iff.mp H
  obtain ⟨t472,A60,H⟩:=H
  replace H : (if t472 = true then (if a1 = a2 then (some (([] : List (List Int)),0,false)) else (if 0 ≤ a1 then (if a1 < (l0_0.length : Int) then (if ((rd_L2 l0_0 a1).length : Int) = 0 then (some (([] : List (List Int)),0,false)) else (if 0 ≤ a2 then (if a2 < (l0_0.length : Int) then (if ((rd_L2 l0_0 a2).length : Int) = 4 then (some (([] : List (List Int)),0,false)) else ((spec_l5Move.f k l0_0 a1 a2).bind fun t475 => (if 0 ≤ (wrap64 (((rd_L2 l0_0 a1).length : Int) - 1)) then (if (wrap64 (((rd_L2 l0_0 a1).length : Int) - 1)) < ((rd_L2 l0_0 a1).length : Int) then (some (t475,rd (rd_L2 l0_0 a1) (wrap64 (((rd_L2 l0_0 a1).length : Int) - 1)),true)) else (none)) else (none)))) else (none)) else (none))) else (none)) else (none))) else (some (([] : List (List Int)),0,false))) = some (r1,r2,r3):=H
  have A6:=Aside0.mk A60
  clear A60
  by_cases c7 : t472 = true
  ·subst c7
   have H1 : (if a1 = a2 then (some (([] : List (List Int)),0,false)) else (if 0 ≤ a1 then (if a1 < (l0_0.length : Int) then (if ((rd_L2 l0_0 a1).length : Int) = 0 then (some (([] : List (List Int)),0,false)) else (if 0 ≤ a2 then (if a2 < (l0_0.length : Int) then (if ((rd_L2 l0_0 a2).length : Int) = 4 then (some (([] : List (List Int)),0,false)) else ((spec_l5Move.f k l0_0 a1 a2).bind fun t475 => (if 0 ≤ (wrap64 (((rd_L2 l0_0 a1).length : Int) - 1)) then (if (wrap64 (((rd_L2 l0_0 a1).length : Int) - 1)) < ((rd_L2 l0_0 a1).length : Int) then (some (t475,rd (rd_L2 l0_0 a1) (wrap64 (((rd_L2 l0_0 a1).length : Int) - 1)),true)) else (none)) else (none)))) else (none)) else (none))) else (none)) else (none))) = some (r1,r2,r3):=by rw [if_pos rfl] at H; exact H
   clear H
   have H:=H1
   clear H1
   by_cases c8 : a1 = a2
   ·rw [if_pos c8] at H
    have c8b0 : (a1 == a2) = true:=beq_iff_eq.mpr c8
    have c8b1 : (a1 != a2) = false:=bne_eq_false_iff_eq.mpr c8
    clear c8
    simp only [Option.some.injEq,Prod.mk.injEq] at H
    obtain ⟨rfl,rfl,rfl⟩:=H
    go_enter Try.func29,Try.ntmps29
    go_wp2_with (first|((with_reducible refine gate_dst (N:=3) rfl ?_); (try (refine gate_guard (by rfl) ?_; dsimp only)); refine box_event ?hg (N:=3) ?hd (cs:=#[.slice A0_0 l0_0.length c0_0]) (t:=42) ?hr ?_; (case hd => rfl); (case hg => rfl); (case hr => (go_simp; done)); intro gb469 hg w9 hbox hb; have n0_:=Aside0.mk (below_step (by repeat (((with_reducible (exact HB.out))))) hb); have n1_:=Aside0.mk (hbox); have n2_:=Aside0.mk ((by rw [hg]; exact (below_size (by repeat (((with_reducible (exact HB.out)))))) : w.heap.size ≤ gb469)); have n3_:=Aside0.mk ((by rw [hg]; exact (below_size (by repeat (((with_reducible (exact HB.out)))))) : w.heap.size ≤ gb469)); clear HB; have HB:=n0_; have BK469:=n1_; have GW469:=n2_; have GE469:=n3_; clear n0_ n1_ n2_ n3_; clear hb hbox hg)|((with_reducible refine gate_dst (N:=6) rfl ?_); (try (refine gate_guard (by rfl) ?_; dsimp only)); refine box_event ?hg (N:=6) ?hd (cs:=#[.slice none 0 0]) (t:=42) ?hr ?_; (case hd => rfl); (case hg => rfl); (case hr => (go_simp; done)); intro gb470 hg w10 hbox hb; have n0_:=Aside0.mk (blk_below (g:=gb469) (o:=.cells #[.slice A0_0 l0_0.length c0_0] 42 (0,0)) (by exact BK469.out) hb); have n1_:=Aside0.mk (below_step (by repeat (((with_reducible (exact HB.out))))) hb); have n2_:=Aside0.mk (hbox); have n3_:=Aside0.mk ((by rw [hg]; exact (below_size (by repeat (((with_reducible (exact HB.out)))))) : w.heap.size ≤ gb470)); have n4_:=Aside0.mk ((by rw [hg]; exact (below_size (by repeat (((with_reducible (exact HB.out)))))) : w.heap.size ≤ gb470)); have n5_:=Aside0.mk ((by rw [hg]; exact Nat.ne_of_lt (blk_lt (g:=gb469) (o:=.cells #[.slice A0_0 l0_0.length c0_0] 42 (0,0)) (by exact BK469.out)) : gb469 ≠ gb470)); have n6_:=Aside0.mk ((by rw [hg]; exact Nat.ne_of_gt (blk_lt (g:=gb469) (o:=.cells #[.slice A0_0 l0_0.length c0_0] 42 (0,0)) (by exact BK469.out)) : gb470 ≠ gb469)); clear BK469; clear HB; have BK469:=n0_; have HB:=n1_; have BK470:=n2_; have GW470:=n3_; have GE470:=n4_; have NB469_470:=n5_; have NB470_469:=n6_; clear n0_ n1_ n2_ n3_ n4_ n5_ n6_; clear hb hbox hg; have hnb11:=NB469_470.out; have hnc11:=NB470_469.out; have hcz12_0 : w10.cell? ⟨gb469,0,none⟩ = some (.slice A0_0 l0_0.length c0_0):=(blk_cell BK469.out 0).trans rfl; have hfz12_0:=blk_frozen BK469.out 0)|((with_reducible refine gate_callee (f:=104) rfl ?_); refine goesL_ (some 11) rfl rfl Try.func104 (by kernel_rfl) rfl #[.agg #[.slice A0_0 l0_0.length c0_0],.int .i64 a1] rfl (by (try simp only [List.map_toArray,List.map_cons,List.map_nil]); (rfl)) ?_; (with_reducible refine (spec_l5Stack.calls k _ _ l0_0 a1 true _ ?side1 ?side2 A4.out).mono ?_); (case side1 => repeat ((exact (Kd.C_below HR0_0.out HB.out)))); (case side2 => exact HC0_0.out); rintro e w13 ⟨rfl,hb⟩; refine ⟨_,rfl,?_⟩; have n0_:=Aside0.mk (blk_below (g:=gb469) (o:=.cells #[.slice A0_0 l0_0.length c0_0] 42 (0,0)) (by exact BK469.out) hb); have n1_:=Aside0.mk (blk_below (g:=gb470) (o:=.cells #[.slice none 0 0] 42 (0,0)) (by exact BK470.out) hb); have n2_:=Aside0.mk (below_step (by repeat (((with_reducible (exact HB.out))))) hb); clear BK469; clear BK470; clear HB; have BK469:=n0_; have BK470:=n1_; have HB:=n2_; clear n0_ n1_ n2_; (try clear hb); (try clear hb2); (try clear hk); (try clear hi); have hcz14_0 : w13.cell? ⟨gb469,0,none⟩ = some (.slice A0_0 l0_0.length c0_0):=(blk_cell BK469.out 0).trans rfl; have hfz14_0:=blk_frozen BK469.out 0)|(go_at_call 104; (with_reducible refine (spec_l5Stack.calls k _ _ l0_0 a2 true _ ?side1 ?side2 A6.out).mono ?_); (case side1 => repeat ((exact (Kd.C_below HR0_0.out HB.out)))); (case side2 => exact HC0_0.out); rintro e w15 ⟨rfl,hb⟩; have n0_:=Aside0.mk (blk_below (g:=gb469) (o:=.cells #[.slice A0_0 l0_0.length c0_0] 42 (0,0)) (by exact BK469.out) hb); have n1_:=Aside0.mk (blk_below (g:=gb470) (o:=.cells #[.slice none 0 0] 42 (0,0)) (by exact BK470.out) hb); have n2_:=Aside0.mk (below_step (by repeat (((with_reducible (exact HB.out))))) hb); clear BK469; clear BK470; clear HB; have BK469:=n0_; have BK470:=n1_; have HB:=n2_; clear n0_ n1_ n2_; (try clear hb); (try clear hb2); (try clear hk); (try clear hi); have hcz16_0 : w15.cell? ⟨gb470,0,none⟩ = some (.slice none 0 0):=(blk_cell BK470.out 0).trans rfl; have hfz16_0:=blk_frozen BK470.out 0))
    refine bodyPost_ret (results_ctt rfl _ _ gb470 42 #[.slice none 0 0] (0,0) _ rfl (by refine blk_put (cs:=#[.slice none 0 0]) ?_ 0 _ rfl; exact BK470.out) Try.underlying42 rfl (by kernel_rfl)) rfl ?_
    exact ⟨_,by (rfl),by (exact Kd.S_nil _ _ _ _ _),by repeat (with_reducible first|exact HB.out|refine below_set ?_ GE470.out)⟩
   ·rw [if_neg c8] at H
    have c8b0 : (a1 == a2) = false:=beq_eq_false_iff_ne.mpr c8
    have c8b1 : (a1 != a2) = true:=bne_iff_ne.mpr c8
    by_cases c17 : 0 ≤ a1
    ·rw [if_pos c17] at H
     have c17b0 : decide (0 ≤ a1) = true:=decide_eq_true c17
     clear c17
     by_cases c18 : a1 < (l0_0.length : Int)
     ·rw [if_pos c18] at H
      have c18b0 : decide (a1 < (l0_0.length : Int)) = true:=decide_eq_true c18
      clear c18
      by_cases c19 : ((rd_L2 l0_0 a1).length : Int) = 0
      ·rw [if_pos c19] at H
       have c19b0 : (((rd_L2 l0_0 a1).length : Int) == 0) = true:=beq_iff_eq.mpr c19
       have c19b1 : (((rd_L2 l0_0 a1).length : Int) != 0) = false:=bne_eq_false_iff_eq.mpr c19
       clear c19
       simp only [Option.some.injEq,Prod.mk.injEq] at H
       obtain ⟨rfl,rfl,rfl⟩:=H
       go_enter Try.func29,Try.ntmps29
       go_wp2_with (first|((with_reducible refine gate_dst (N:=3) rfl ?_); (try (refine gate_guard (by rfl) ?_; dsimp only)); refine box_event ?hg (N:=3) ?hd (cs:=#[.slice A0_0 l0_0.length c0_0]) (t:=42) ?hr ?_; (case hd => rfl); (case hg => rfl); (case hr => (go_simp; done)); intro gb469 hg w20 hbox hb; have n0_:=Aside0.mk (below_step (by repeat (((with_reducible (exact HB.out))))) hb); have n1_:=Aside0.mk (hbox); have n2_:=Aside0.mk ((by rw [hg]; exact (below_size (by repeat (((with_reducible (exact HB.out)))))) : w.heap.size ≤ gb469)); have n3_:=Aside0.mk ((by rw [hg]; exact (below_size (by repeat (((with_reducible (exact HB.out)))))) : w.heap.size ≤ gb469)); clear HB; have HB:=n0_; have BK469:=n1_; have GW469:=n2_; have GE469:=n3_; clear n0_ n1_ n2_ n3_; clear hb hbox hg)|((with_reducible refine gate_dst (N:=6) rfl ?_); (try (refine gate_guard (by rfl) ?_; dsimp only)); refine box_event ?hg (N:=6) ?hd (cs:=#[.slice none 0 0]) (t:=42) ?hr ?_; (case hd => rfl); (case hg => rfl); (case hr => (go_simp; done)); intro gb470 hg w21 hbox hb; have n0_:=Aside0.mk (blk_below (g:=gb469) (o:=.cells #[.slice A0_0 l0_0.length c0_0] 42 (0,0)) (by exact BK469.out) hb); have n1_:=Aside0.mk (below_step (by repeat (((with_reducible (exact HB.out))))) hb); have n2_:=Aside0.mk (hbox); have n3_:=Aside0.mk ((by rw [hg]; exact (below_size (by repeat (((with_reducible (exact HB.out)))))) : w.heap.size ≤ gb470)); have n4_:=Aside0.mk ((by rw [hg]; exact (below_size (by repeat (((with_reducible (exact HB.out)))))) : w.heap.size ≤ gb470)); have n5_:=Aside0.mk ((by rw [hg]; exact Nat.ne_of_lt (blk_lt (g:=gb469) (o:=.cells #[.slice A0_0 l0_0.length c0_0] 42 (0,0)) (by exact BK469.out)) : gb469 ≠ gb470)); have n6_:=Aside0.mk ((by rw [hg]; exact Nat.ne_of_gt (blk_lt (g:=gb469) (o:=.cells #[.slice A0_0 l0_0.length c0_0] 42 (0,0)) (by exact BK469.out)) : gb470 ≠ gb469)); clear BK469; clear HB; have BK469:=n0_; have HB:=n1_; have BK470:=n2_; have GW470:=n3_; have GE470:=n4_; have NB469_470:=n5_; have NB470_469:=n6_; clear n0_ n1_ n2_ n3_ n4_ n5_ n6_; clear hb hbox hg; have hnb22:=NB469_470.out; have hnc22:=NB470_469.out; have hcz23_0 : w21.cell? ⟨gb469,0,none⟩ = some (.slice A0_0 l0_0.length c0_0):=(blk_cell BK469.out 0).trans rfl; have hfz23_0:=blk_frozen BK469.out 0)|((with_reducible refine gate_callee (f:=104) rfl ?_); refine goesL_ (some 11) rfl rfl Try.func104 (by kernel_rfl) rfl #[.agg #[.slice A0_0 l0_0.length c0_0],.int .i64 a1] rfl (by (try simp only [List.map_toArray,List.map_cons,List.map_nil]); (rfl)) ?_; (with_reducible refine (spec_l5Stack.calls k _ _ l0_0 a1 true _ ?side1 ?side2 A4.out).mono ?_); (case side1 => repeat ((exact (Kd.C_below HR0_0.out HB.out)))); (case side2 => exact HC0_0.out); rintro e w24 ⟨rfl,hb⟩; refine ⟨_,rfl,?_⟩; have n0_:=Aside0.mk (blk_below (g:=gb469) (o:=.cells #[.slice A0_0 l0_0.length c0_0] 42 (0,0)) (by exact BK469.out) hb); have n1_:=Aside0.mk (blk_below (g:=gb470) (o:=.cells #[.slice none 0 0] 42 (0,0)) (by exact BK470.out) hb); have n2_:=Aside0.mk (below_step (by repeat (((with_reducible (exact HB.out))))) hb); clear BK469; clear BK470; clear HB; have BK469:=n0_; have BK470:=n1_; have HB:=n2_; clear n0_ n1_ n2_; (try clear hb); (try clear hb2); (try clear hk); (try clear hi); have hcz25_0 : w24.cell? ⟨gb469,0,none⟩ = some (.slice A0_0 l0_0.length c0_0):=(blk_cell BK469.out 0).trans rfl; have hfz25_0:=blk_frozen BK469.out 0)|(go_at_call 104; (with_reducible refine (spec_l5Stack.calls k _ _ l0_0 a2 true _ ?side1 ?side2 A6.out).mono ?_); (case side1 => repeat ((exact (Kd.C_below HR0_0.out HB.out)))); (case side2 => exact HC0_0.out); rintro e w26 ⟨rfl,hb⟩; have n0_:=Aside0.mk (blk_below (g:=gb469) (o:=.cells #[.slice A0_0 l0_0.length c0_0] 42 (0,0)) (by exact BK469.out) hb); have n1_:=Aside0.mk (blk_below (g:=gb470) (o:=.cells #[.slice none 0 0] 42 (0,0)) (by exact BK470.out) hb); have n2_:=Aside0.mk (below_step (by repeat (((with_reducible (exact HB.out))))) hb); clear BK469; clear BK470; clear HB; have BK469:=n0_; have BK470:=n1_; have HB:=n2_; clear n0_ n1_ n2_; (try clear hb); (try clear hb2); (try clear hk); (try clear hi); have hcz27_0 : w26.cell? ⟨gb469,0,none⟩ = some (.slice A0_0 l0_0.length c0_0):=(blk_cell BK469.out 0).trans rfl; have hfz27_0:=blk_frozen BK469.out 0; have p473 : 0 ≤ (a1 : Int):=of_decide_eq_true (by (with_reducible assumption)); have q473 : a1 < (l0_0.length : Int):=of_decide_eq_true (by (with_reducible assumption)); obtain ⟨ad473,A473_0,c473_0,e473,hx473_0,hl473_0,hi473_0⟩:=at_L2 HR0_0.out a1 p473 q473; cases e473; replace hx473_0:=(HB.out.cell (World.block_lt_of_cell? w _ hx473_0)).trans hx473_0; have HR473_0:=Aside0.mk hi473_0; have HC473_0:=Aside0.mk hl473_0; clear hi473_0 hl473_0; replace p473:=eq_true p473; replace q473:=eq_true q473; have hcz28_0 : w26.cell? ⟨gb470,0,none⟩ = some (.slice none 0 0):=(blk_cell BK470.out 0).trans rfl; have hfz28_0:=blk_frozen BK470.out 0))
       refine bodyPost_ret (results_ctt rfl _ _ gb470 42 #[.slice none 0 0] (0,0) _ rfl (by refine blk_put (cs:=#[.slice none 0 0]) ?_ 0 _ rfl; exact BK470.out) Try.underlying42 rfl (by kernel_rfl)) rfl ?_
       exact ⟨_,by (rfl),by (exact Kd.S_nil _ _ _ _ _),by repeat (with_reducible first|exact HB.out|refine below_set ?_ GE470.out)⟩
      ·rw [if_neg c19] at H
       have c19b0 : (((rd_L2 l0_0 a1).length : Int) == 0) = false:=beq_eq_false_iff_ne.mpr c19
       have c19b1 : (((rd_L2 l0_0 a1).length : Int) != 0) = true:=bne_iff_ne.mpr c19
       have c19b2 : ¬ ((rd_L2 l0_0 a1) = []):=fun h_ => c19 (by rw [h_]; rfl)
       by_cases c29 : 0 ≤ a2
       ·rw [if_pos c29] at H
        have c29b0 : decide (0 ≤ a2) = true:=decide_eq_true c29
        clear c29
        by_cases c30 : a2 < (l0_0.length : Int)
        ·rw [if_pos c30] at H
         have c30b0 : decide (a2 < (l0_0.length : Int)) = true:=decide_eq_true c30
         clear c30
         by_cases c31 : ((rd_L2 l0_0 a2).length : Int) = 4
         ·rw [if_pos c31] at H
          have c31b0 : (((rd_L2 l0_0 a2).length : Int) == 4) = true:=beq_iff_eq.mpr c31
          have c31b1 : (((rd_L2 l0_0 a2).length : Int) != 4) = false:=bne_eq_false_iff_eq.mpr c31
          clear c31
          simp only [Option.some.injEq,Prod.mk.injEq] at H
          obtain ⟨rfl,rfl,rfl⟩:=H
          go_enter Try.func29,Try.ntmps29
          go_wp2_with (first|((with_reducible refine gate_dst (N:=3) rfl ?_); (try (refine gate_guard (by rfl) ?_; dsimp only)); refine box_event ?hg (N:=3) ?hd (cs:=#[.slice A0_0 l0_0.length c0_0]) (t:=42) ?hr ?_; (case hd => rfl); (case hg => rfl); (case hr => (go_simp; done)); intro gb469 hg w32 hbox hb; have n0_:=Aside0.mk (below_step (by repeat (((with_reducible (exact HB.out))))) hb); have n1_:=Aside0.mk (hbox); have n2_:=Aside0.mk ((by rw [hg]; exact (below_size (by repeat (((with_reducible (exact HB.out)))))) : w.heap.size ≤ gb469)); have n3_:=Aside0.mk ((by rw [hg]; exact (below_size (by repeat (((with_reducible (exact HB.out)))))) : w.heap.size ≤ gb469)); clear HB; have HB:=n0_; have BK469:=n1_; have GW469:=n2_; have GE469:=n3_; clear n0_ n1_ n2_ n3_; clear hb hbox hg)|((with_reducible refine gate_dst (N:=6) rfl ?_); (try (refine gate_guard (by rfl) ?_; dsimp only)); refine box_event ?hg (N:=6) ?hd (cs:=#[.slice none 0 0]) (t:=42) ?hr ?_; (case hd => rfl); (case hg => rfl); (case hr => (go_simp; done)); intro gb470 hg w33 hbox hb; have n0_:=Aside0.mk (blk_below (g:=gb469) (o:=.cells #[.slice A0_0 l0_0.length c0_0] 42 (0,0)) (by exact BK469.out) hb); have n1_:=Aside0.mk (below_step (by repeat (((with_reducible (exact HB.out))))) hb); have n2_:=Aside0.mk (hbox); have n3_:=Aside0.mk ((by rw [hg]; exact (below_size (by repeat (((with_reducible (exact HB.out)))))) : w.heap.size ≤ gb470)); have n4_:=Aside0.mk ((by rw [hg]; exact (below_size (by repeat (((with_reducible (exact HB.out)))))) : w.heap.size ≤ gb470)); have n5_:=Aside0.mk ((by rw [hg]; exact Nat.ne_of_lt (blk_lt (g:=gb469) (o:=.cells #[.slice A0_0 l0_0.length c0_0] 42 (0,0)) (by exact BK469.out)) : gb469 ≠ gb470)); have n6_:=Aside0.mk ((by rw [hg]; exact Nat.ne_of_gt (blk_lt (g:=gb469) (o:=.cells #[.slice A0_0 l0_0.length c0_0] 42 (0,0)) (by exact BK469.out)) : gb470 ≠ gb469)); clear BK469; clear HB; have BK469:=n0_; have HB:=n1_; have BK470:=n2_; have GW470:=n3_; have GE470:=n4_; have NB469_470:=n5_; have NB470_469:=n6_; clear n0_ n1_ n2_ n3_ n4_ n5_ n6_; clear hb hbox hg; have hnb34:=NB469_470.out; have hnc34:=NB470_469.out; have hcz35_0 : w33.cell? ⟨gb469,0,none⟩ = some (.slice A0_0 l0_0.length c0_0):=(blk_cell BK469.out 0).trans rfl; have hfz35_0:=blk_frozen BK469.out 0)|((with_reducible refine gate_callee (f:=104) rfl ?_); refine goesL_ (some 11) rfl rfl Try.func104 (by kernel_rfl) rfl #[.agg #[.slice A0_0 l0_0.length c0_0],.int .i64 a1] rfl (by (try simp only [List.map_toArray,List.map_cons,List.map_nil]); (rfl)) ?_; (with_reducible refine (spec_l5Stack.calls k _ _ l0_0 a1 true _ ?side1 ?side2 A4.out).mono ?_); (case side1 => repeat ((exact (Kd.C_below HR0_0.out HB.out)))); (case side2 => exact HC0_0.out); rintro e w36 ⟨rfl,hb⟩; refine ⟨_,rfl,?_⟩; have n0_:=Aside0.mk (blk_below (g:=gb469) (o:=.cells #[.slice A0_0 l0_0.length c0_0] 42 (0,0)) (by exact BK469.out) hb); have n1_:=Aside0.mk (blk_below (g:=gb470) (o:=.cells #[.slice none 0 0] 42 (0,0)) (by exact BK470.out) hb); have n2_:=Aside0.mk (below_step (by repeat (((with_reducible (exact HB.out))))) hb); clear BK469; clear BK470; clear HB; have BK469:=n0_; have BK470:=n1_; have HB:=n2_; clear n0_ n1_ n2_; (try clear hb); (try clear hb2); (try clear hk); (try clear hi); have hcz37_0 : w36.cell? ⟨gb469,0,none⟩ = some (.slice A0_0 l0_0.length c0_0):=(blk_cell BK469.out 0).trans rfl; have hfz37_0:=blk_frozen BK469.out 0)|(go_at_call 104; (with_reducible refine (spec_l5Stack.calls k _ _ l0_0 a2 true _ ?side1 ?side2 A6.out).mono ?_); (case side1 => repeat ((exact (Kd.C_below HR0_0.out HB.out)))); (case side2 => exact HC0_0.out); rintro e w38 ⟨rfl,hb⟩; have n0_:=Aside0.mk (blk_below (g:=gb469) (o:=.cells #[.slice A0_0 l0_0.length c0_0] 42 (0,0)) (by exact BK469.out) hb); have n1_:=Aside0.mk (blk_below (g:=gb470) (o:=.cells #[.slice none 0 0] 42 (0,0)) (by exact BK470.out) hb); have n2_:=Aside0.mk (below_step (by repeat (((with_reducible (exact HB.out))))) hb); clear BK469; clear BK470; clear HB; have BK469:=n0_; have BK470:=n1_; have HB:=n2_; clear n0_ n1_ n2_; (try clear hb); (try clear hb2); (try clear hk); (try clear hi); have hcz39_0 : w38.cell? ⟨gb469,0,none⟩ = some (.slice A0_0 l0_0.length c0_0):=(blk_cell BK469.out 0).trans rfl; have hfz39_0:=blk_frozen BK469.out 0; have p473 : 0 ≤ (a1 : Int):=of_decide_eq_true (by (with_reducible assumption)); have q473 : a1 < (l0_0.length : Int):=of_decide_eq_true (by (with_reducible assumption)); obtain ⟨ad473,A473_0,c473_0,e473,hx473_0,hl473_0,hi473_0⟩:=at_L2 HR0_0.out a1 p473 q473; cases e473; replace hx473_0:=(HB.out.cell (World.block_lt_of_cell? w _ hx473_0)).trans hx473_0; have HR473_0:=Aside0.mk hi473_0; have HC473_0:=Aside0.mk hl473_0; clear hi473_0 hl473_0; replace p473:=eq_true p473; replace q473:=eq_true q473; have p474 : 0 ≤ (a2 : Int):=of_decide_eq_true (by (with_reducible assumption)); have q474 : a2 < (l0_0.length : Int):=of_decide_eq_true (by (with_reducible assumption)); obtain ⟨ad474,A474_0,c474_0,e474,hx474_0,hl474_0,hi474_0⟩:=at_L2 HR0_0.out a2 p474 q474; obtain rfl : ad473 = ad474:=(by injection e474); replace hx474_0:=(HB.out.cell (World.block_lt_of_cell? w _ hx474_0)).trans hx474_0; have HR474_0:=Aside0.mk hi474_0; have HC474_0:=Aside0.mk hl474_0; clear hi474_0 hl474_0; replace p474:=eq_true p474; replace q474:=eq_true q474; have hcz40_0 : w38.cell? ⟨gb470,0,none⟩ = some (.slice none 0 0):=(blk_cell BK470.out 0).trans rfl; have hfz40_0:=blk_frozen BK470.out 0))
          refine bodyPost_ret (results_ctt rfl _ _ gb470 42 #[.slice none 0 0] (0,0) _ rfl (by refine blk_put (cs:=#[.slice none 0 0]) ?_ 0 _ rfl; exact BK470.out) Try.underlying42 rfl (by kernel_rfl)) rfl ?_
          exact ⟨_,by (rfl),by (exact Kd.S_nil _ _ _ _ _),by repeat (with_reducible first|exact HB.out|refine below_set ?_ GE470.out)⟩
         ·rw [if_neg c31] at H
          have c31b0 : (((rd_L2 l0_0 a2).length : Int) == 4) = false:=beq_eq_false_iff_ne.mpr c31
          have c31b1 : (((rd_L2 l0_0 a2).length : Int) != 4) = true:=bne_iff_ne.mpr c31
          replace H:=Option.bind_eq_some_iff.mp H
          obtain ⟨t475,A410,H⟩:=H
          replace H : (if 0 ≤ (wrap64 (((rd_L2 l0_0 a1).length : Int) - 1)) then (if (wrap64 (((rd_L2 l0_0 a1).length : Int) - 1)) < ((rd_L2 l0_0 a1).length : Int) then (some (t475,rd (rd_L2 l0_0 a1) (wrap64 (((rd_L2 l0_0 a1).length : Int) - 1)),true)) else (none)) else (none)) = some (r1,r2,r3):=H
          have A41:=Aside0.mk A410
          clear A410
          obtain ⟨ji42,hji42⟩ : ∃ j_ : Int,(wrap64 (((rd_L2 l0_0 a1).length : Int) - 1)) = j_:=⟨_,rfl⟩
          replace H : (if 0 ≤ (ji42) then (if (ji42) < ((rd_L2 l0_0 a1).length : Int) then (some (t475,rd (rd_L2 l0_0 a1) (ji42),true)) else (none)) else (none)) = some (r1,r2,r3):=by (rw [hji42] at H; exact H)
          (try rw [hji42] at A4)
          (try rw [hji42] at A6)
          (try rw [hji42] at A41)
          have hji42w : (IntKind.i64.wrap (((rd_L2 l0_0 a1).length : Int) - 1)) = ji42:=(i64_w _).trans hji42
          by_cases c43 : 0 ≤ (ji42)
          ·rw [if_pos c43] at H
           have c43b0 : decide (0 ≤ (ji42)) = true:=decide_eq_true c43
           clear c43
           by_cases c44 : (ji42) < ((rd_L2 l0_0 a1).length : Int)
           ·rw [if_pos c44] at H
            have c44b0 : decide ((ji42) < ((rd_L2 l0_0 a1).length : Int)) = true:=decide_eq_true c44
            clear c44
            simp only [Option.some.injEq,Prod.mk.injEq] at H
            obtain ⟨rfl,rfl,rfl⟩:=H
            go_enter Try.func29,Try.ntmps29
            try go_wp2_with (first|((with_reducible refine gate_dst (N:=3) rfl ?_); (try (refine gate_guard (by rfl) ?_; dsimp only)); refine box_event ?hg (N:=3) ?hd (cs:=#[.slice A0_0 l0_0.length c0_0]) (t:=42) ?hr ?_; (case hd => rfl); (case hg => rfl); (case hr => (go_simp; done)); intro gb469 hg w45 hbox hb; have n0_:=Aside0.mk (below_step (by repeat (((with_reducible (exact HB.out))))) hb); have n1_:=Aside0.mk (hbox); have n2_:=Aside0.mk ((by rw [hg]; exact (below_size (by repeat (((with_reducible (exact HB.out)))))) : w.heap.size ≤ gb469)); have n3_:=Aside0.mk ((by rw [hg]; exact (below_size (by repeat (((with_reducible (exact HB.out)))))) : w.heap.size ≤ gb469)); clear HB; have HB:=n0_; have BK469:=n1_; have GW469:=n2_; have GE469:=n3_; clear n0_ n1_ n2_ n3_; clear hb hbox hg)|((with_reducible refine gate_dst (N:=6) rfl ?_); (try (refine gate_guard (by rfl) ?_; dsimp only)); refine box_event ?hg (N:=6) ?hd (cs:=#[.slice none 0 0]) (t:=42) ?hr ?_; (case hd => rfl); (case hg => rfl); (case hr => (go_simp; done)); intro gb470 hg w46 hbox hb; have n0_:=Aside0.mk (blk_below (g:=gb469) (o:=.cells #[.slice A0_0 l0_0.length c0_0] 42 (0,0)) (by exact BK469.out) hb); have n1_:=Aside0.mk (below_step (by repeat (((with_reducible (exact HB.out))))) hb); have n2_:=Aside0.mk (hbox); have n3_:=Aside0.mk ((by rw [hg]; exact (below_size (by repeat (((with_reducible (exact HB.out)))))) : w.heap.size ≤ gb470)); have n4_:=Aside0.mk ((by rw [hg]; exact (below_size (by repeat (((with_reducible (exact HB.out)))))) : w.heap.size ≤ gb470)); have n5_:=Aside0.mk ((by rw [hg]; exact Nat.ne_of_lt (blk_lt (g:=gb469) (o:=.cells #[.slice A0_0 l0_0.length c0_0] 42 (0,0)) (by exact BK469.out)) : gb469 ≠ gb470)); have n6_:=Aside0.mk ((by rw [hg]; exact Nat.ne_of_gt (blk_lt (g:=gb469) (o:=.cells #[.slice A0_0 l0_0.length c0_0] 42 (0,0)) (by exact BK469.out)) : gb470 ≠ gb469)); clear BK469; clear HB; have BK469:=n0_; have HB:=n1_; have BK470:=n2_; have GW470:=n3_; have GE470:=n4_; have NB469_470:=n5_; have NB470_469:=n6_; clear n0_ n1_ n2_ n3_ n4_ n5_ n6_; clear hb hbox hg; have hnb47:=NB469_470.out; have hnc47:=NB470_469.out; have hcz48_0 : w46.cell? ⟨gb469,0,none⟩ = some (.slice A0_0 l0_0.length c0_0):=(blk_cell BK469.out 0).trans rfl; have hfz48_0:=blk_frozen BK469.out 0)|((with_reducible refine gate_callee (f:=104) rfl ?_); refine goesL_ (some 11) rfl rfl Try.func104 (by kernel_rfl) rfl #[.agg #[.slice A0_0 l0_0.length c0_0],.int .i64 a1] rfl (by (try simp only [List.map_toArray,List.map_cons,List.map_nil]); (rfl)) ?_; (with_reducible refine (spec_l5Stack.calls k _ _ l0_0 a1 true _ ?side1 ?side2 A4.out).mono ?_); (case side1 => repeat ((exact (Kd.C_below HR0_0.out HB.out)))); (case side2 => exact HC0_0.out); rintro e w49 ⟨rfl,hb⟩; refine ⟨_,rfl,?_⟩; have n0_:=Aside0.mk (blk_below (g:=gb469) (o:=.cells #[.slice A0_0 l0_0.length c0_0] 42 (0,0)) (by exact BK469.out) hb); have n1_:=Aside0.mk (blk_below (g:=gb470) (o:=.cells #[.slice none 0 0] 42 (0,0)) (by exact BK470.out) hb); have n2_:=Aside0.mk (below_step (by repeat (((with_reducible (exact HB.out))))) hb); clear BK469; clear BK470; clear HB; have BK469:=n0_; have BK470:=n1_; have HB:=n2_; clear n0_ n1_ n2_; (try clear hb); (try clear hb2); (try clear hk); (try clear hi); have hcz50_0 : w49.cell? ⟨gb469,0,none⟩ = some (.slice A0_0 l0_0.length c0_0):=(blk_cell BK469.out 0).trans rfl; have hfz50_0:=blk_frozen BK469.out 0)|(go_at_call 104; (with_reducible refine (spec_l5Stack.calls k _ _ l0_0 a2 true _ ?side1 ?side2 A6.out).mono ?_); (case side1 => repeat ((exact (Kd.C_below HR0_0.out HB.out)))); (case side2 => exact HC0_0.out); rintro e w51 ⟨rfl,hb⟩; have n0_:=Aside0.mk (blk_below (g:=gb469) (o:=.cells #[.slice A0_0 l0_0.length c0_0] 42 (0,0)) (by exact BK469.out) hb); have n1_:=Aside0.mk (blk_below (g:=gb470) (o:=.cells #[.slice none 0 0] 42 (0,0)) (by exact BK470.out) hb); have n2_:=Aside0.mk (below_step (by repeat (((with_reducible (exact HB.out))))) hb); clear BK469; clear BK470; clear HB; have BK469:=n0_; have BK470:=n1_; have HB:=n2_; clear n0_ n1_ n2_; (try clear hb); (try clear hb2); (try clear hk); (try clear hi); have hcz52_0 : w51.cell? ⟨gb469,0,none⟩ = some (.slice A0_0 l0_0.length c0_0):=(blk_cell BK469.out 0).trans rfl; have hfz52_0:=blk_frozen BK469.out 0; have p473 : 0 ≤ (a1 : Int):=of_decide_eq_true (by (with_reducible assumption)); have q473 : a1 < (l0_0.length : Int):=of_decide_eq_true (by (with_reducible assumption)); obtain ⟨ad473,A473_0,c473_0,e473,hx473_0,hl473_0,hi473_0⟩:=at_L2 HR0_0.out a1 p473 q473; cases e473; replace hx473_0:=(HB.out.cell (World.block_lt_of_cell? w _ hx473_0)).trans hx473_0; have HR473_0:=Aside0.mk hi473_0; have HC473_0:=Aside0.mk hl473_0; clear hi473_0 hl473_0; replace p473:=eq_true p473; replace q473:=eq_true q473; have p474 : 0 ≤ (a2 : Int):=of_decide_eq_true (by (with_reducible assumption)); have q474 : a2 < (l0_0.length : Int):=of_decide_eq_true (by (with_reducible assumption)); obtain ⟨ad474,A474_0,c474_0,e474,hx474_0,hl474_0,hi474_0⟩:=at_L2 HR0_0.out a2 p474 q474; obtain rfl : ad473 = ad474:=(by injection e474); replace hx474_0:=(HB.out.cell (World.block_lt_of_cell? w _ hx474_0)).trans hx474_0; have HR474_0:=Aside0.mk hi474_0; have HC474_0:=Aside0.mk hl474_0; clear hi474_0 hl474_0; replace p474:=eq_true p474; replace q474:=eq_true q474))
            have n0_:=Aside0.mk (blk_drew BK469.out)
            have n1_:=Aside0.mk (blk_drew BK470.out)
            have n2_:=Aside0.mk (below_drew1 HB.out)
            clear BK469
            clear BK470
            clear HB
            have BK469:=n0_
            have BK470:=n1_
            have HB:=n2_
            clear n0_ n1_ n2_
            have p478 : 0 ≤ (a1 : Int):=of_decide_eq_true (by (with_reducible assumption))
            have q478 : a1 < (l0_0.length : Int):=of_decide_eq_true (by (with_reducible assumption))
            obtain ⟨ad478,A478_0,c478_0,e478,hx478_0,hl478_0,hi478_0⟩:=at_L2 HR0_0.out a1 p478 q478
            have hw478_0:=hx478_0
            obtain rfl : ad473 = ad478:=(by injection e478)
            replace hx478_0:=(HB.out.cell (World.block_lt_of_cell? w _ hx478_0)).trans hx478_0
            have HR478_0:=Aside0.mk hi478_0
            have HC478_0:=Aside0.mk hl478_0
            clear hi478_0 hl478_0
            replace p478:=eq_true p478
            replace q478:=eq_true q478
            have p479 : 0 ≤ (a1 : Int):=of_decide_eq_true (by (with_reducible assumption))
            have q479 : a1 < (l0_0.length : Int):=of_decide_eq_true (by (with_reducible assumption))
            obtain ⟨ad479,A479_0,c479_0,e479,hx479_0,hl479_0,hi479_0⟩:=at_L2 HR0_0.out a1 p479 q479
            have hw479_0:=hx479_0
            obtain rfl : ad473 = ad479:=(by injection e479)
            replace hx479_0:=(HB.out.cell (World.block_lt_of_cell? w _ hx479_0)).trans hx479_0
            have HR479_0:=Aside0.mk hi479_0
            have HC479_0:=Aside0.mk hl479_0
            clear hi479_0 hl479_0
            replace p479:=eq_true p479
            replace q479:=eq_true q479
            have ea_:=Option.some.inj (hx478_0.symm.trans hx479_0)
            injection ea_ with ea_ en_ ec_
            subst ea_
            subst ec_
            clear en_
            have p480 : 0 ≤ ((ji42) : Int):=of_decide_eq_true (by (with_reducible assumption))
            have q480 : (ji42) < ((rd_L2 l0_0 a1).length : Int):=of_decide_eq_true (by (with_reducible assumption))
            obtain ⟨ad480,e480,hx480_0⟩:=Kd.at_int HR478_0.out (ji42) p480 q480
            have hw480_0:=hx480_0
            cases e480
            replace hx480_0:=(HB.out.cell (World.block_lt_of_cell? w _ hx480_0)).trans hx480_0
            replace p480:=eq_true p480
            replace q480:=eq_true q480
            refine start_ (n:=21) (S:=fun w' => w'.cell? ⟨gb469,0,none⟩ = some (.slice (some ad473) l0_0.length c0_0) ∧ w'.cell? (ad473.add (a1).toNat) = some (.slice (some ad480) (rd_L2 l0_0 a1).length c478_0) ∧ w'.cell? (ad473.add (a1).toNat) = some (.slice (some ad480) (rd_L2 l0_0 a1).length c478_0) ∧ w'.cell? (ad480.add (ji42).toNat) = some (.int .i64 (rd (rd_L2 l0_0 a1) (ji42)))) (ds:=[]) (bdb8 21 0) (by kernel_rfl) rfl rfl ⟨(blk_cell BK469.out 0).trans rfl,((HB.out.cell (World.block_lt_of_cell? w _ hw478_0)).trans hw478_0),((HB.out.cell (World.block_lt_of_cell? w _ hw479_0)).trans hw479_0),((HB.out.cell (World.block_lt_of_cell? w _ hw480_0)).trans hw480_0)⟩ (fun hHeld => ?_); refine with_tabW spec_MoveTop.tab3 spec_MoveTop.bits3 (fun HT_ HW_ => ?_)
            generalize w51.drew = w53 at BK469 BK470 HB HR478_0 HR479_0 hx478_0 hx479_0 hx480_0 hHeld ⊢
            refine pure_ (i:=1) (N:=some 44) (v:=?_) (a':=?_) (bdb8 21 2) rfl rfl (any_of HT_.out (by kernel_rfl)) (fun _ _ _ h => h) (Or.inl ⟨by rfl,?_⟩) ?_ ?_
            rotate_left
            ·intro w'
             go_simp
             with_reducible rfl
            rotate_left
            ·simp only [Act.put,List.setIfInBounds_toArray,List.set_cons_zero,List.set_cons_succ,i64_w,i32_w]
             rfl
            refine pure_ (i:=2) (N:=some 45) (v:=?_) (a':=?_) (bdb8 21 6) rfl rfl (any_of HT_.out (by kernel_rfl)) (fun _ _ _ h => h) (Or.inl ⟨by rfl,?_⟩) ?_ ?_
            rotate_left
            ·intro w'
             go_simp
             with_reducible rfl
            rotate_left
            ·simp only [Act.put,List.setIfInBounds_toArray,List.set_cons_zero,List.set_cons_succ,i64_w,i32_w]
             rfl
            refine pure_ (i:=4) (N:=some 47) (v:=?_) (a':=?_) (bdb8 21 22) rfl rfl (any_of HT_.out (by kernel_rfl)) (fun _ _ _ h => h) (Or.inl ⟨by rfl,?_⟩) ?_ ?_
            rotate_left
            ·intro w'
             go_simp
             with_reducible rfl
            rotate_left
            ·simp only [Act.put,List.setIfInBounds_toArray,List.set_cons_zero,List.set_cons_succ,i64_w,i32_w]
             rfl
            refine pure_ (i:=6) (N:=some 49) (v:=?_) (a':=?_) (bdb8 21 86) rfl rfl (any_of HT_.out (by kernel_rfl)) (fun _ _ _ h => h) (Or.inl ⟨by rfl,?_⟩) ?_ ?_
            rotate_left
            ·intro w'
             go_simp
             with_reducible rfl
            rotate_left
            ·simp only [Act.put,List.setIfInBounds_toArray,List.set_cons_zero,List.set_cons_succ,i64_w,i32_w]
             rfl
            refine pure_ (i:=9) (N:=some 52) (v:=?_) (a':=?_) (bdb8 21 598) rfl rfl (any_of HT_.out (by kernel_rfl)) (fun _ _ _ h => h) (Or.inl ⟨by rfl,?_⟩) ?_ ?_
            rotate_left
            ·intro w'
             go_simp
             with_reducible rfl
            rotate_left
            ·simp only [Act.put,List.setIfInBounds_toArray,List.set_cons_zero,List.set_cons_succ,i64_w,i32_w]
             rfl
            refine pure_ (i:=11) (N:=some 54) (v:=?_) (a':=?_) (bdb8 21 2646) rfl rfl (any_of HT_.out (by kernel_rfl)) (fun _ _ _ h => h) (Or.inl ⟨by rfl,?_⟩) ?_ ?_
            rotate_left
            ·intro w'
             go_simp
             with_reducible rfl
            rotate_left
            ·simp only [Act.put,List.setIfInBounds_toArray,List.set_cons_zero,List.set_cons_succ,i64_w,i32_w]
             rfl
            refine take_ (i:=0) (N:=some 43) (v:=?_) (a':=?_) (bdb8 21 2647) rfl rfl (take_ofW HT_.out HW_.out (by kernel_rfl)) (fun _ _ _ h => h) (Or.inl ⟨by rfl,?_⟩) hHeld ?_ ?_
            rotate_left
            ·rintro w' ⟨s0,s1,s2,s3⟩
             go_simp
             with_reducible rfl
            rotate_left
            ·simp only [Act.put,List.setIfInBounds_toArray,List.set_cons_zero,List.set_cons_succ,i64_w,i32_w]
             rfl
            refine take_ (i:=5) (N:=some 48) (v:=?_) (a':=?_) (bdb8 21 2679) rfl rfl (take_ofW HT_.out HW_.out (by kernel_rfl)) (fun _ _ _ h => h) (Or.inl ⟨by rfl,?_⟩) hHeld ?_ ?_
            rotate_left
            ·rintro w' ⟨s0,s1,s2,s3⟩
             go_simp
             with_reducible rfl
            rotate_left
            ·simp only [Act.put,List.setIfInBounds_toArray,List.set_cons_zero,List.set_cons_succ,i64_w,i32_w]
             rfl
            refine pure_ (i:=7) (N:=some 50) (v:=?_) (a':=?_) (bdb8 21 2807) rfl rfl (any_of HT_.out (by kernel_rfl)) (fun _ _ _ h => h) (Or.inl ⟨by rfl,?_⟩) ?_ ?_
            rotate_left
            ·intro w'
             go_simp
             with_reducible rfl
            rotate_left
            ·simp only [Act.put,List.setIfInBounds_toArray,List.set_cons_zero,List.set_cons_succ,i64_w,i32_w]
             rfl
            refine take_ (i:=8) (N:=some 51) (v:=?_) (a':=?_) (bdb8 21 3063) rfl rfl (take_ofW HT_.out HW_.out (by kernel_rfl)) (fun _ _ _ h => h) (Or.inl ⟨by rfl,?_⟩) hHeld ?_ ?_
            rotate_left
            ·rintro w' ⟨s0,s1,s2,s3⟩
             go_simp
             with_reducible rfl
            rotate_left
            ·simp only [Act.put,List.setIfInBounds_toArray,List.set_cons_zero,List.set_cons_succ,i64_w,i32_w]
             rfl
            refine take_ (i:=10) (N:=some 53) (v:=?_) (a':=?_) (bdb8 21 4087) rfl rfl (take_ofW HT_.out HW_.out (by kernel_rfl)) (fun _ _ _ h => h) (Or.inl ⟨by rfl,?_⟩) hHeld ?_ ?_
            rotate_left
            ·rintro w' ⟨s0,s1,s2,s3⟩
             go_simp
             with_reducible rfl
            rotate_left
            ·simp only [Act.put,List.setIfInBounds_toArray,List.set_cons_zero,List.set_cons_succ,i64_w,i32_w]
             rfl
            refine pure_ (i:=12) (N:=some 55) (v:=?_) (a':=?_) (bdb8 21 8183) rfl rfl (any_of HT_.out (by kernel_rfl)) (fun _ _ _ h => h) (Or.inl ⟨by rfl,?_⟩) ?_ ?_
            rotate_left
            ·intro w'
             go_simp
             with_reducible rfl
            rotate_left
            ·simp only [Act.put,List.setIfInBounds_toArray,List.set_cons_zero,List.set_cons_succ,i64_w,i32_w]
             rfl
            refine take_ (i:=13) (N:=some 56) (v:=?_) (a':=?_) (bdb8 21 16375) rfl rfl (take_ofW HT_.out HW_.out (by kernel_rfl)) (fun _ _ _ h => h) (Or.inl ⟨by rfl,?_⟩) hHeld ?_ ?_
            rotate_left
            ·rintro w' ⟨s0,s1,s2,s3⟩
             go_simp
             with_reducible rfl
            rotate_left
            ·simp only [Act.put,List.setIfInBounds_toArray,List.set_cons_zero,List.set_cons_succ,i64_w,i32_w]
             rfl
            refine pure_ (i:=14) (N:=some 57) (v:=?_) (a':=?_) (bdb8 21 32759) rfl rfl (any_of HT_.out (by kernel_rfl)) (fun _ _ _ h => h) (Or.inl ⟨by rfl,?_⟩) ?_ ?_
            rotate_left
            ·intro w'
             go_simp
             with_reducible rfl
            rotate_left
            ·simp only [Act.put,List.setIfInBounds_toArray,List.set_cons_zero,List.set_cons_succ,i64_w,i32_w]
             rfl
            refine pure_ (i:=15) (N:=some 58) (v:=?_) (a':=?_) (bdb8 21 65527) rfl rfl (any_of HT_.out (by kernel_rfl)) (fun _ _ _ h => h) (Or.inl ⟨by rfl,?_⟩) ?_ ?_
            rotate_left
            ·intro w'
             go_simp
             with_reducible rfl
            rotate_left
            ·simp only [Act.put,List.setIfInBounds_toArray,List.set_cons_zero,List.set_cons_succ,i64_w,i32_w]
             rfl
            refine pure_ (i:=16) (N:=some 59) (v:=?_) (a':=?_) (bdb8 21 131063) rfl rfl (any_of HT_.out (by kernel_rfl)) (fun _ _ _ h => h) (Or.inl ⟨by rfl,?_⟩) ?_ ?_
            rotate_left
            ·intro w'
             go_simp
             with_reducible rfl
            rotate_left
            ·simp only [Act.put,List.setIfInBounds_toArray,List.set_cons_zero,List.set_cons_succ,i64_w,i32_w]
             rfl
            refine take_ (i:=17) (N:=some 60) (v:=?_) (a':=?_) (bdb8 21 262135) rfl rfl (take_ofW HT_.out HW_.out (by kernel_rfl)) (fun _ _ _ h => h) (Or.inl ⟨by rfl,?_⟩) hHeld ?_ ?_
            rotate_left
            ·rintro w' ⟨s0,s1,s2,s3⟩
             go_simp
             with_reducible rfl
            rotate_left
            ·simp only [Act.put,List.setIfInBounds_toArray,List.set_cons_zero,List.set_cons_succ,i64_w,i32_w]
             rfl
            refine one_ (i:=3) (N:=some 46) (bdb8 21 262143) rfl rfl (one_of HT_.out (by kernel_rfl)) (by decide) (fun K hK => ?_)
            refine goes_ Try.func105 (by kernel_rfl) rfl #[.agg #[.slice (some ad473) l0_0.length c0_0],.int .i64 a1,.int .i64 a2] (by rfl) rfl rfl (by (try simp only [List.map_toArray,List.map_cons,List.map_nil]); (rfl)) ?_
            with_reducible refine (spec_l5Move.calls k _ _ l0_0 a1 a2 t475 _ ?side1 ?side2 A41.out).mono ?_
            (case side1 => repeat ((exact (Kd.C_below HR0_0.out HB.out))))
            (case side2 => exact HC0_0.out)
            rintro e w54 ⟨v476,rfl,ho0,hb⟩
            refine ⟨_,rfl,?_⟩
            have n0_:=Aside0.mk (Kd.S_lower ho0 (below_size (by repeat (((with_reducible (exact HB.out)))))))
            have n1_:=Aside0.mk (blk_below (g:=gb469) (o:=.cells #[.slice (some ad473) l0_0.length c0_0] 42 (0,0)) (by exact BK469.out) hb)
            have n2_:=Aside0.mk (blk_below (g:=gb470) (o:=.cells #[.slice none 0 0] 42 (0,0)) (by exact BK470.out) hb)
            have n3_:=Aside0.mk (below_step (by repeat (((with_reducible (exact HB.out))))) hb)
            clear BK469
            clear BK470
            clear HB
            have HO477:=n0_
            have BK469:=n1_
            have BK470:=n2_
            have HB:=n3_
            clear n0_ n1_ n2_ n3_
            (try clear hb)
            (try clear hb2)
            (try clear hk)
            (try clear hi)
            (try clear ho0)
            obtain ⟨Ao55,co55,eo55⟩:=Kd.S_slice HO477.out
            (subst eo55)
            refine hK.out _ _ ⟨(blk_cell BK469.out 0).trans rfl,((HB.out.cell (World.block_lt_of_cell? w _ hw478_0)).trans hw478_0),((HB.out.cell (World.block_lt_of_cell? w _ hw479_0)).trans hw479_0),((HB.out.cell (World.block_lt_of_cell? w _ hw480_0)).trans hw480_0)⟩ (fun hHeld => ?_)
            clear hK K
            refine norm_ (a':=?_) ?_ ?_
            rotate_left
            ·show Act.put _ (some 46) _ = _
             simp only [Act.put,List.setIfInBounds_toArray,List.set_cons_zero,List.set_cons_succ,i64_w,i32_w]
             rfl
            refine one_ (i:=18) (N:=none) (bdb8 21 524287) rfl rfl (one_of HT_.out (by kernel_rfl)) (by decide) (fun K hK => ?_)
            have hs56 : w54.cell? ⟨gb470,0,none⟩ = some (.slice none 0 0):=(blk_cell BK470.out 0).trans rfl
            have hfs56:=blk_frozen BK470.out 0
            have hns56_0:=NB469_470.out
            have hms56_0:=NB470_469.out
            refine skip_ (w1:=?_) (by rfl) rfl ?_ ?_
            rotate_left
            ·go_simp
             rfl
            refine hK.out _ _ ⟨((cell_far (p:=⟨gb470,_,none⟩) NB469_470.out _).trans (hHeld.1)),((cell_far (p:=⟨gb470,_,none⟩) (by (exact Nat.ne_of_lt (Nat.lt_of_lt_of_le (by have:=World.block_lt_of_cell? _ _ hw478_0; (exact this)) GW470.out))) _).trans (hHeld.2.1)),((cell_far (p:=⟨gb470,_,none⟩) (by (exact Nat.ne_of_lt (Nat.lt_of_lt_of_le (by have:=World.block_lt_of_cell? _ _ hw479_0; (exact this)) GW470.out))) _).trans (hHeld.2.2.1)),((cell_far (p:=⟨gb470,_,none⟩) (by (exact Nat.ne_of_lt (Nat.lt_of_lt_of_le (by have:=World.block_lt_of_cell? _ _ hw480_0; (exact this)) GW470.out))) _).trans (hHeld.2.2.2))⟩ (fun hHeld => ?_)
            clear hK K
            refine pure_ (i:=19) (N:=some 7) (v:=?_) (a':=?_) (bdb8 21 1048575) rfl rfl (any_of HT_.out (by kernel_rfl)) (fun _ _ _ h => h) (Or.inl ⟨by rfl,?_⟩) ?_ ?_
            rotate_left
            ·intro w'
             go_simp
             with_reducible rfl
            rotate_left
            ·simp only [Act.put,List.setIfInBounds_toArray,List.set_cons_zero,List.set_cons_succ,i64_w,i32_w]
             rfl
            refine pure_ (i:=20) (N:=some 8) (v:=?_) (a':=?_) (bdb8 21 2097151) rfl rfl (any_of HT_.out (by kernel_rfl)) (fun _ _ _ h => h) (Or.inl ⟨by rfl,?_⟩) ?_ ?_
            rotate_left
            ·intro w'
             go_simp
             with_reducible rfl
            rotate_left
            ·simp only [Act.put,List.setIfInBounds_toArray,List.set_cons_zero,List.set_cons_succ,i64_w,i32_w]
             rfl
            refine done_ (done_of HT_.out (by kernel_rfl)) ?_
            try go_wp2
            refine bodyPost_ret (results_ctt rfl _ _ gb470 42 #[.slice Ao55 t475.length co55] (0,0) _ rfl (by refine blk_put (cs:=#[.slice none 0 0]) ?_ 0 _ rfl; exact BK470.out) Try.underlying42 rfl (by kernel_rfl)) rfl ?_
            exact ⟨_,by (rfl),by exact Kd.S_mono (Kd.S_far (p:=⟨gb470,0,none⟩) (Kd.S_types HO477.out BK470.out (by decide)) (fun _ hk => hk.2) (.slice Ao55 t475.length co55)) (fun _ hk => trivial),by repeat (with_reducible first|exact HB.out|refine below_set ?_ GE470.out)⟩
           ·rw [if_neg c44] at H
            exact absurd H (by simp)
          ·rw [if_neg c43] at H
           exact absurd H (by simp)
        ·rw [if_neg c30] at H
         exact absurd H (by simp)
       ·rw [if_neg c29] at H
        exact absurd H (by simp)
     ·rw [if_neg c18] at H
      exact absurd H (by simp)
    ·rw [if_neg c17] at H
     exact absurd H (by simp)
  ·replace c7:=Bool.eq_false_iff.mpr c7
   subst c7
   have H1 : (some (([] : List (List Int)),0,false)) = some (r1,r2,r3):=by rw [if_neg (show ¬ (false = true) by decide)] at H; exact H
   clear H
   have H:=H1
   clear H1
   simp only [Option.some.injEq,Prod.mk.injEq] at H
   obtain ⟨rfl,rfl,rfl⟩:=H
   go_enter Try.func29,Try.ntmps29
   go_wp2_with (first|((with_reducible refine gate_dst (N:=3) rfl ?_); (try (refine gate_guard (by rfl) ?_; dsimp only)); refine box_event ?hg (N:=3) ?hd (cs:=#[.slice A0_0 l0_0.length c0_0]) (t:=42) ?hr ?_; (case hd => rfl); (case hg => rfl); (case hr => (go_simp; done)); intro gb469 hg w57 hbox hb; have n0_:=Aside0.mk (below_step (by repeat (((with_reducible (exact HB.out))))) hb); have n1_:=Aside0.mk (hbox); have n2_:=Aside0.mk ((by rw [hg]; exact (below_size (by repeat (((with_reducible (exact HB.out)))))) : w.heap.size ≤ gb469)); have n3_:=Aside0.mk ((by rw [hg]; exact (below_size (by repeat (((with_reducible (exact HB.out)))))) : w.heap.size ≤ gb469)); clear HB; have HB:=n0_; have BK469:=n1_; have GW469:=n2_; have GE469:=n3_; clear n0_ n1_ n2_ n3_; clear hb hbox hg)|((with_reducible refine gate_dst (N:=6) rfl ?_); (try (refine gate_guard (by rfl) ?_; dsimp only)); refine box_event ?hg (N:=6) ?hd (cs:=#[.slice none 0 0]) (t:=42) ?hr ?_; (case hd => rfl); (case hg => rfl); (case hr => (go_simp; done)); intro gb470 hg w58 hbox hb; have n0_:=Aside0.mk (blk_below (g:=gb469) (o:=.cells #[.slice A0_0 l0_0.length c0_0] 42 (0,0)) (by exact BK469.out) hb); have n1_:=Aside0.mk (below_step (by repeat (((with_reducible (exact HB.out))))) hb); have n2_:=Aside0.mk (hbox); have n3_:=Aside0.mk ((by rw [hg]; exact (below_size (by repeat (((with_reducible (exact HB.out)))))) : w.heap.size ≤ gb470)); have n4_:=Aside0.mk ((by rw [hg]; exact (below_size (by repeat (((with_reducible (exact HB.out)))))) : w.heap.size ≤ gb470)); have n5_:=Aside0.mk ((by rw [hg]; exact Nat.ne_of_lt (blk_lt (g:=gb469) (o:=.cells #[.slice A0_0 l0_0.length c0_0] 42 (0,0)) (by exact BK469.out)) : gb469 ≠ gb470)); have n6_:=Aside0.mk ((by rw [hg]; exact Nat.ne_of_gt (blk_lt (g:=gb469) (o:=.cells #[.slice A0_0 l0_0.length c0_0] 42 (0,0)) (by exact BK469.out)) : gb470 ≠ gb469)); clear BK469; clear HB; have BK469:=n0_; have HB:=n1_; have BK470:=n2_; have GW470:=n3_; have GE470:=n4_; have NB469_470:=n5_; have NB470_469:=n6_; clear n0_ n1_ n2_ n3_ n4_ n5_ n6_; clear hb hbox hg; have hnb59:=NB469_470.out; have hnc59:=NB470_469.out; have hcz60_0 : w58.cell? ⟨gb469,0,none⟩ = some (.slice A0_0 l0_0.length c0_0):=(blk_cell BK469.out 0).trans rfl; have hfz60_0:=blk_frozen BK469.out 0)|((with_reducible refine gate_callee (f:=104) rfl ?_); refine goesL_ (some 11) rfl rfl Try.func104 (by kernel_rfl) rfl #[.agg #[.slice A0_0 l0_0.length c0_0],.int .i64 a1] rfl (by (try simp only [List.map_toArray,List.map_cons,List.map_nil]); (rfl)) ?_; (with_reducible refine (spec_l5Stack.calls k _ _ l0_0 a1 true _ ?side1 ?side2 A4.out).mono ?_); (case side1 => repeat ((exact (Kd.C_below HR0_0.out HB.out)))); (case side2 => exact HC0_0.out); rintro e w61 ⟨rfl,hb⟩; refine ⟨_,rfl,?_⟩; have n0_:=Aside0.mk (blk_below (g:=gb469) (o:=.cells #[.slice A0_0 l0_0.length c0_0] 42 (0,0)) (by exact BK469.out) hb); have n1_:=Aside0.mk (blk_below (g:=gb470) (o:=.cells #[.slice none 0 0] 42 (0,0)) (by exact BK470.out) hb); have n2_:=Aside0.mk (below_step (by repeat (((with_reducible (exact HB.out))))) hb); clear BK469; clear BK470; clear HB; have BK469:=n0_; have BK470:=n1_; have HB:=n2_; clear n0_ n1_ n2_; (try clear hb); (try clear hb2); (try clear hk); (try clear hi); have hcz62_0 : w61.cell? ⟨gb469,0,none⟩ = some (.slice A0_0 l0_0.length c0_0):=(blk_cell BK469.out 0).trans rfl; have hfz62_0:=blk_frozen BK469.out 0)|(go_at_call 104; (with_reducible refine (spec_l5Stack.calls k _ _ l0_0 a2 false _ ?side1 ?side2 A6.out).mono ?_); (case side1 => repeat ((exact (Kd.C_below HR0_0.out HB.out)))); (case side2 => exact HC0_0.out); rintro e w63 ⟨rfl,hb⟩; have n0_:=Aside0.mk (blk_below (g:=gb469) (o:=.cells #[.slice A0_0 l0_0.length c0_0] 42 (0,0)) (by exact BK469.out) hb); have n1_:=Aside0.mk (blk_below (g:=gb470) (o:=.cells #[.slice none 0 0] 42 (0,0)) (by exact BK470.out) hb); have n2_:=Aside0.mk (below_step (by repeat (((with_reducible (exact HB.out))))) hb); clear BK469; clear BK470; clear HB; have BK469:=n0_; have BK470:=n1_; have HB:=n2_; clear n0_ n1_ n2_; (try clear hb); (try clear hb2); (try clear hk); (try clear hi); have hcz64_0 : w63.cell? ⟨gb470,0,none⟩ = some (.slice none 0 0):=(blk_cell BK470.out 0).trans rfl; have hfz64_0:=blk_frozen BK470.out 0))
   refine bodyPost_ret (results_ctt rfl _ _ gb470 42 #[.slice none 0 0] (0,0) _ rfl (by refine blk_put (cs:=#[.slice none 0 0]) ?_ 0 _ rfl; exact BK470.out) Try.underlying42 rfl (by kernel_rfl)) rfl ?_
   exact ⟨_,by (rfl),by (exact Kd.S_nil _ _ _ _ _),by repeat (with_reducible first|exact HB.out|refine below_set ?_ GE470.out)⟩
 ·replace c5:=Bool.eq_false_iff.mpr c5
  subst c5
  have H1 : (some (([] : List (List Int)),0,false)) = some (r1,r2,r3):=by rw [if_neg (show ¬ (false = true) by decide)] at H; exact H
  clear H
  have H:=H1
  clear H1
  simp only [Option.some.injEq,Prod.mk.injEq] at H
  obtain ⟨rfl,rfl,rfl⟩:=H
  go_enter Try.func29,Try.ntmps29
  go_wp2_with (first|((with_reducible refine gate_dst (N:=3) rfl ?_); (try (refine gate_guard (by rfl) ?_; dsimp only)); refine box_event ?hg (N:=3) ?hd (cs:=#[.slice A0_0 l0_0.length c0_0]) (t:=42) ?hr ?_; (case hd => rfl); (case hg => rfl); (case hr => (go_simp; done)); intro gb469 hg w65 hbox hb; have n0_:=Aside0.mk (below_step (by repeat (((with_reducible (exact HB.out))))) hb); have n1_:=Aside0.mk (hbox); have n2_:=Aside0.mk ((by rw [hg]; exact (below_size (by repeat (((with_reducible (exact HB.out)))))) : w.heap.size ≤ gb469)); have n3_:=Aside0.mk ((by rw [hg]; exact (below_size (by repeat (((with_reducible (exact HB.out)))))) : w.heap.size ≤ gb469)); clear HB; have HB:=n0_; have BK469:=n1_; have GW469:=n2_; have GE469:=n3_; clear n0_ n1_ n2_ n3_; clear hb hbox hg)|((with_reducible refine gate_dst (N:=6) rfl ?_); (try (refine gate_guard (by rfl) ?_; dsimp only)); refine box_event ?hg (N:=6) ?hd (cs:=#[.slice none 0 0]) (t:=42) ?hr ?_; (case hd => rfl); (case hg => rfl); (case hr => (go_simp; done)); intro gb470 hg w66 hbox hb; have n0_:=Aside0.mk (blk_below (g:=gb469) (o:=.cells #[.slice A0_0 l0_0.length c0_0] 42 (0,0)) (by exact BK469.out) hb); have n1_:=Aside0.mk (below_step (by repeat (((with_reducible (exact HB.out))))) hb); have n2_:=Aside0.mk (hbox); have n3_:=Aside0.mk ((by rw [hg]; exact (below_size (by repeat (((with_reducible (exact HB.out)))))) : w.heap.size ≤ gb470)); have n4_:=Aside0.mk ((by rw [hg]; exact (below_size (by repeat (((with_reducible (exact HB.out)))))) : w.heap.size ≤ gb470)); have n5_:=Aside0.mk ((by rw [hg]; exact Nat.ne_of_lt (blk_lt (g:=gb469) (o:=.cells #[.slice A0_0 l0_0.length c0_0] 42 (0,0)) (by exact BK469.out)) : gb469 ≠ gb470)); have n6_:=Aside0.mk ((by rw [hg]; exact Nat.ne_of_gt (blk_lt (g:=gb469) (o:=.cells #[.slice A0_0 l0_0.length c0_0] 42 (0,0)) (by exact BK469.out)) : gb470 ≠ gb469)); clear BK469; clear HB; have BK469:=n0_; have HB:=n1_; have BK470:=n2_; have GW470:=n3_; have GE470:=n4_; have NB469_470:=n5_; have NB470_469:=n6_; clear n0_ n1_ n2_ n3_ n4_ n5_ n6_; clear hb hbox hg; have hnb67:=NB469_470.out; have hnc67:=NB470_469.out; have hcz68_0 : w66.cell? ⟨gb469,0,none⟩ = some (.slice A0_0 l0_0.length c0_0):=(blk_cell BK469.out 0).trans rfl; have hfz68_0:=blk_frozen BK469.out 0)|((with_reducible refine gate_callee (f:=104) rfl ?_); refine goesL_ (some 11) rfl rfl Try.func104 (by kernel_rfl) rfl #[.agg #[.slice A0_0 l0_0.length c0_0],.int .i64 a1] rfl (by (try simp only [List.map_toArray,List.map_cons,List.map_nil]); (rfl)) ?_; (with_reducible refine (spec_l5Stack.calls k _ _ l0_0 a1 false _ ?side1 ?side2 A4.out).mono ?_); (case side1 => repeat ((exact (Kd.C_below HR0_0.out HB.out)))); (case side2 => exact HC0_0.out); rintro e w69 ⟨rfl,hb⟩; refine ⟨_,rfl,?_⟩; have n0_:=Aside0.mk (blk_below (g:=gb469) (o:=.cells #[.slice A0_0 l0_0.length c0_0] 42 (0,0)) (by exact BK469.out) hb); have n1_:=Aside0.mk (blk_below (g:=gb470) (o:=.cells #[.slice none 0 0] 42 (0,0)) (by exact BK470.out) hb); have n2_:=Aside0.mk (below_step (by repeat (((with_reducible (exact HB.out))))) hb); clear BK469; clear BK470; clear HB; have BK469:=n0_; have BK470:=n1_; have HB:=n2_; clear n0_ n1_ n2_; (try clear hb); (try clear hb2); (try clear hk); (try clear hi); have hcz70_0 : w69.cell? ⟨gb470,0,none⟩ = some (.slice none 0 0):=(blk_cell BK470.out 0).trans rfl; have hfz70_0:=blk_frozen BK470.out 0))
  refine bodyPost_ret (results_ctt rfl _ _ gb470 42 #[.slice none 0 0] (0,0) _ rfl (by refine blk_put (cs:=#[.slice none 0 0]) ?_ 0 _ rfl; exact BK470.out) Try.underlying42 rfl (by kernel_rfl)) rfl ?_
  exact ⟨_,by (rfl),by (exact Kd.S_nil _ _ _ _ _),by repeat (with_reducible first|exact HB.out|refine below_set ?_ GE470.out)⟩

end Go.Proofs.Ytlldonokjgoajaa.X
