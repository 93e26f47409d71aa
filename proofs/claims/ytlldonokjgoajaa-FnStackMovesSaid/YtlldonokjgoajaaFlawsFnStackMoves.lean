-- Written by a program of ours (wip/bin/xprint.py,over the kit's print.py) out of the translation. Not trusted: Lean checks it.
import Derived.Test.YtlldonokjgoajaaX0
import Derived.Test.YtlldonokjgoajaaFbV
import Derived.Test.YtlldonokjgoajaaFimplBlockersOf
import Derived.Test.YtlldonokjgoajaaFimplPlaceOf
import Derived.Test.YtlldonokjgoajaaFspecBlockersOf
import Derived.Test.YtlldonokjgoajaaFspecDrawBlockersOf
import Derived.Test.YtlldonokjgoajaaFspecDrawMoveTop
import Derived.Test.YtlldonokjgoajaaFspecDrawSameYard
import Derived.Test.YtlldonokjgoajaaFspecMoveTop
import Derived.Test.YtlldonokjgoajaaFspecSameYard
import Derived.Test.YtlldonokjgoajaaGimplMove
import Derived.Test.YtlldonokjgoajaaGimplSame
namespace Go.Proofs.Ytlldonokjgoajaa.X
open Go.RowKit Go.Proofs.YtlldonokjgoajaaW.PrintWords Go.Proofs.YtlldonokjgoajaaW.PrintLast Go.Proofs.YtlldonokjgoajaaW.PrintMore
def lbd53 : Nat → Nat → List Bool
 | 0,_ => []
 | n+1,m => (m%2==1) :: lbd53 n (m/2)
def bd53 (n m : Nat) : Array Bool := ⟨lbd53 n m⟩
attribute [local go_sem] max2_int min2_int max_two min_two max_three min_three max_four min_four   -- for this text's walks alone
set_option linter.unusedVariables false
set_option linter.unusedSimpArgs false

/-! ### laws_FnStackMoves: function 12 -/
mutual
def lw.j0 : Nat → List Int → Int → Int → Int → Bool → Bool → List (List Int) → List (List Int) → Option (Bool)
 | 0,_,_,_,_,_,_,_,_ => none
 | k + 1,x0,x4,x5,x7,x8,x73,x1687000,x1693000 => if x73 = true then (none) else (if x8 = true then ((impl_MoveTop.f k x1693000 x5 x4).bind fun bt1700 => (if bt1700.2.2 = true then (if bt1700.2.1 = x7 then ((laws_vYard.f k bt1700.1 x1687000).bind fun t1706 => (if t1706 = true then (lw.j1 k x0) else (none))) else (none)) else (none))) else (lw.j1 k x0))
def lw.j1 : Nat → List Int → Option (Bool)
 | 0,_ => none
 | k + 1,x0 => (spec_DrawBlockersOf.f k x0).bind fun bt1707 => ((impl_BlockersOf.f k bt1707.1 bt1707.2).bind fun bt1712 => ((spec_BlockersOf.f k bt1707.1 bt1707.2).bind fun bt1716 => (if (bt1712.2 != bt1716.2) = true then (none) else ((laws_vInts.f k bt1712.1 bt1716.1).bind fun t1720 => (lw.j2 k x0 bt1707.2 bt1712.1 bt1712.2 (!t1720) bt1707.1)))))
def lw.j2 : Nat → List Int → Int → List Int → Bool → Bool → List (List Int) → Option (Bool)
 | 0,_,_,_,_,_,_ => none
 | k + 1,x0,x16,x17,x18,x121,x1712000 => if x121 = true then (none) else ((impl_PlaceOf.f k x1712000 x16).bind fun bt1721 => (lw.l0 k x0 x17 x18 bt1721.2.1 bt1721.2.2 0 x1712000))
def lw.l0 : Nat → List Int → List Int → Bool → Int → Bool → Int → List (List Int) → Option (Bool)
 | 0,_,_,_,_,_,_,_ => none
 | k + 1,x0,x17,x18,x22,x23,x24,x1712000 => if x24 < (x17.length : Int) then (if 0 ≤ x24 then ((impl_PlaceOf.f k x1712000 (rd x17 x24)).bind fun bt1725 => (if bt1725.2.2 = true then (if bt1725.2.1 = (wrap64 ((wrap64 (x22 + (x17.length : Int))) - x24)) then (lw.l0 k x0 x17 x18 x22 x23 (wrap64 (x24 + 1)) x1712000) else (none)) else (none))) else (none)) else ((spec_DrawSameYard.f k x0).bind fun bt1728 => ((impl_SameYard.f k bt1728.1 bt1728.2).bind fun bt1736 => ((impl_SameYard.f k bt1728.2 bt1728.1).bind fun bt1738 => ((spec_SameYard.f k bt1728.1 bt1728.2).bind fun bt1740 => (if (x23 == x18) = true then (if (bt1736.1 == bt1740.1) = true then (if (bt1736.2 == bt1740.2) = true then (if (bt1738.2 == bt1736.2) = true then (some (bt1738.1 == bt1736.1)) else (none)) else (none)) else (none)) else (none))))))
end
def lw.f (k : Nat) (l0 : List Int) : Option (Bool):=(laws_vBig.f l0).bind fun t1680 => (if t1680 = true then (some true) else ((spec_DrawMoveTop.f k l0).bind fun bt1681 => ((impl_MoveTop.f k bt1681.1 bt1681.2.1 bt1681.2.2).bind fun bt1687 => ((spec_MoveTop.f k bt1681.1 bt1681.2.1 bt1681.2.2).bind fun bt1693 => (if (bt1687.2.2 != bt1693.2.2) = true then (none) else (if bt1687.2.1 = bt1693.2.1 then ((laws_vYard.f k bt1687.1 bt1693.1).bind fun t1699 => (lw.j0 k l0 bt1681.2.1 bt1681.2.2 bt1687.2.1 bt1687.2.2 (!t1699) bt1681.1 bt1687.1)) else (none)))))))
theorem lw.mono_l : ∀ k,(∀ y0 y1 y2 y3 y4 y5 y6 y7,LeO (lw.j0 k y0 y1 y2 y3 y4 y5 y6 y7) (lw.j0 (k + 1) y0 y1 y2 y3 y4 y5 y6 y7)) ∧ (∀ y0,LeO (lw.j1 k y0) (lw.j1 (k + 1) y0)) ∧ (∀ y0 y1 y2 y3 y4 y5,LeO (lw.j2 k y0 y1 y2 y3 y4 y5) (lw.j2 (k + 1) y0 y1 y2 y3 y4 y5)) ∧ (∀ y0 y1 y2 y3 y4 y5 y6,LeO (lw.l0 k y0 y1 y2 y3 y4 y5 y6) (lw.l0 (k + 1) y0 y1 y2 y3 y4 y5 y6))
 | 0 => ⟨fun _ _ _ _ _ _ _ _ r h => by simp [lw.j0] at h,fun _ r h => by simp [lw.j1] at h,fun _ _ _ _ _ _ r h => by simp [lw.j2] at h,fun _ _ _ _ _ _ _ r h => by simp [lw.l0] at h⟩
 | k + 1 => by
  obtain ⟨ih0,ih1,ih2,ih3⟩:=lw.mono_l k
  refine ⟨?_,?_,?_,?_⟩
  ·intro y0 y1 y2 y3 y4 y5 y6 y7
   unfold lw.j0
   repeat' first
   | (with_reducible exact ih0 _ _ _ _ _ _ _ _)
   | (with_reducible exact ih1 _)
   | (with_reducible exact ih2 _ _ _ _ _ _)
   | (with_reducible exact ih3 _ _ _ _ _ _ _)
   | (with_reducible exact impl_BlockersOf.mono _ _ _)
   | (with_reducible exact impl_MoveTop.mono _ _ _ _)
   | (with_reducible exact impl_PlaceOf.mono _ _ _)
   | (with_reducible exact impl_SameYard.mono _ _ _)
   | (with_reducible exact laws_vInts.mono _ _ _)
   | (with_reducible exact laws_vYard.mono _ _ _)
   | (with_reducible exact spec_BlockersOf.mono _ _ _)
   | (with_reducible exact spec_DrawBlockersOf.mono _ _)
   | (with_reducible exact spec_DrawMoveTop.mono _ _)
   | (with_reducible exact spec_DrawSameYard.mono _ _)
   | (with_reducible exact spec_MoveTop.mono _ _ _ _)
   | (with_reducible exact spec_SameYard.mono _ _ _)
   | (with_reducible exact LeO.refl _)
   | (with_reducible exact LeO.none _)
   | (with_reducible refine LeO.ite ?_ ?_)
   | (with_reducible refine LeO.bind ?_ (fun _ => ?_))
   | exact ih0 _ _ _ _ _ _ _ _
   | exact ih1 _
   | exact ih2 _ _ _ _ _ _
   | exact ih3 _ _ _ _ _ _ _
   | exact impl_BlockersOf.mono _ _ _
   | exact impl_MoveTop.mono _ _ _ _
   | exact impl_PlaceOf.mono _ _ _
   | exact impl_SameYard.mono _ _ _
   | exact laws_vInts.mono _ _ _
   | exact laws_vYard.mono _ _ _
   | exact spec_BlockersOf.mono _ _ _
   | exact spec_DrawBlockersOf.mono _ _
   | exact spec_DrawMoveTop.mono _ _
   | exact spec_DrawSameYard.mono _ _
   | exact spec_MoveTop.mono _ _ _ _
   | exact spec_SameYard.mono _ _ _
   | exact LeO.none _
   | refine LeO.ite ?_ ?_
   | refine LeO.bind ?_ (fun _ => ?_)
  ·intro y0
   unfold lw.j1
   repeat' first
   | (with_reducible exact ih0 _ _ _ _ _ _ _ _)
   | (with_reducible exact ih1 _)
   | (with_reducible exact ih2 _ _ _ _ _ _)
   | (with_reducible exact ih3 _ _ _ _ _ _ _)
   | (with_reducible exact impl_BlockersOf.mono _ _ _)
   | (with_reducible exact impl_MoveTop.mono _ _ _ _)
   | (with_reducible exact impl_PlaceOf.mono _ _ _)
   | (with_reducible exact impl_SameYard.mono _ _ _)
   | (with_reducible exact laws_vInts.mono _ _ _)
   | (with_reducible exact laws_vYard.mono _ _ _)
   | (with_reducible exact spec_BlockersOf.mono _ _ _)
   | (with_reducible exact spec_DrawBlockersOf.mono _ _)
   | (with_reducible exact spec_DrawMoveTop.mono _ _)
   | (with_reducible exact spec_DrawSameYard.mono _ _)
   | (with_reducible exact spec_MoveTop.mono _ _ _ _)
   | (with_reducible exact spec_SameYard.mono _ _ _)
   | (with_reducible exact LeO.refl _)
   | (with_reducible exact LeO.none _)
   | (with_reducible refine LeO.ite ?_ ?_)
   | (with_reducible refine LeO.bind ?_ (fun _ => ?_))
   | exact ih0 _ _ _ _ _ _ _ _
   | exact ih1 _
   | exact ih2 _ _ _ _ _ _
   | exact ih3 _ _ _ _ _ _ _
   | exact impl_BlockersOf.mono _ _ _
   | exact impl_MoveTop.mono _ _ _ _
   | exact impl_PlaceOf.mono _ _ _
   | exact impl_SameYard.mono _ _ _
   | exact laws_vInts.mono _ _ _
   | exact laws_vYard.mono _ _ _
   | exact spec_BlockersOf.mono _ _ _
   | exact spec_DrawBlockersOf.mono _ _
   | exact spec_DrawMoveTop.mono _ _
   | exact spec_DrawSameYard.mono _ _
   | exact spec_MoveTop.mono _ _ _ _
   | exact spec_SameYard.mono _ _ _
   | exact LeO.none _
   | refine LeO.ite ?_ ?_
   | refine LeO.bind ?_ (fun _ => ?_)
  ·intro y0 y1 y2 y3 y4 y5
   unfold lw.j2
   repeat' first
   | (with_reducible exact ih0 _ _ _ _ _ _ _ _)
   | (with_reducible exact ih1 _)
   | (with_reducible exact ih2 _ _ _ _ _ _)
   | (with_reducible exact ih3 _ _ _ _ _ _ _)
   | (with_reducible exact impl_BlockersOf.mono _ _ _)
   | (with_reducible exact impl_MoveTop.mono _ _ _ _)
   | (with_reducible exact impl_PlaceOf.mono _ _ _)
   | (with_reducible exact impl_SameYard.mono _ _ _)
   | (with_reducible exact laws_vInts.mono _ _ _)
   | (with_reducible exact laws_vYard.mono _ _ _)
   | (with_reducible exact spec_BlockersOf.mono _ _ _)
   | (with_reducible exact spec_DrawBlockersOf.mono _ _)
   | (with_reducible exact spec_DrawMoveTop.mono _ _)
   | (with_reducible exact spec_DrawSameYard.mono _ _)
   | (with_reducible exact spec_MoveTop.mono _ _ _ _)
   | (with_reducible exact spec_SameYard.mono _ _ _)
   | (with_reducible exact LeO.refl _)
   | (with_reducible exact LeO.none _)
   | (with_reducible refine LeO.ite ?_ ?_)
   | (with_reducible refine LeO.bind ?_ (fun _ => ?_))
   | exact ih0 _ _ _ _ _ _ _ _
   | exact ih1 _
   | exact ih2 _ _ _ _ _ _
   | exact ih3 _ _ _ _ _ _ _
   | exact impl_BlockersOf.mono _ _ _
   | exact impl_MoveTop.mono _ _ _ _
   | exact impl_PlaceOf.mono _ _ _
   | exact impl_SameYard.mono _ _ _
   | exact laws_vInts.mono _ _ _
   | exact laws_vYard.mono _ _ _
   | exact spec_BlockersOf.mono _ _ _
   | exact spec_DrawBlockersOf.mono _ _
   | exact spec_DrawMoveTop.mono _ _
   | exact spec_DrawSameYard.mono _ _
   | exact spec_MoveTop.mono _ _ _ _
   | exact spec_SameYard.mono _ _ _
   | exact LeO.none _
   | refine LeO.ite ?_ ?_
   | refine LeO.bind ?_ (fun _ => ?_)
  ·intro y0 y1 y2 y3 y4 y5 y6
   unfold lw.l0
   repeat' first
   | (with_reducible exact ih0 _ _ _ _ _ _ _ _)
   | (with_reducible exact ih1 _)
   | (with_reducible exact ih2 _ _ _ _ _ _)
   | (with_reducible exact ih3 _ _ _ _ _ _ _)
   | (with_reducible exact impl_BlockersOf.mono _ _ _)
   | (with_reducible exact impl_MoveTop.mono _ _ _ _)
   | (with_reducible exact impl_PlaceOf.mono _ _ _)
   | (with_reducible exact impl_SameYard.mono _ _ _)
   | (with_reducible exact laws_vInts.mono _ _ _)
   | (with_reducible exact laws_vYard.mono _ _ _)
   | (with_reducible exact spec_BlockersOf.mono _ _ _)
   | (with_reducible exact spec_DrawBlockersOf.mono _ _)
   | (with_reducible exact spec_DrawMoveTop.mono _ _)
   | (with_reducible exact spec_DrawSameYard.mono _ _)
   | (with_reducible exact spec_MoveTop.mono _ _ _ _)
   | (with_reducible exact spec_SameYard.mono _ _ _)
   | (with_reducible exact LeO.refl _)
   | (with_reducible exact LeO.none _)
   | (with_reducible refine LeO.ite ?_ ?_)
   | (with_reducible refine LeO.bind ?_ (fun _ => ?_))
   | exact ih0 _ _ _ _ _ _ _ _
   | exact ih1 _
   | exact ih2 _ _ _ _ _ _
   | exact ih3 _ _ _ _ _ _ _
   | exact impl_BlockersOf.mono _ _ _
   | exact impl_MoveTop.mono _ _ _ _
   | exact impl_PlaceOf.mono _ _ _
   | exact impl_SameYard.mono _ _ _
   | exact laws_vInts.mono _ _ _
   | exact laws_vYard.mono _ _ _
   | exact spec_BlockersOf.mono _ _ _
   | exact spec_DrawBlockersOf.mono _ _
   | exact spec_DrawMoveTop.mono _ _
   | exact spec_DrawSameYard.mono _ _
   | exact spec_MoveTop.mono _ _ _ _
   | exact spec_SameYard.mono _ _ _
   | exact LeO.none _
   | refine LeO.ite ?_ ?_
   | refine LeO.bind ?_ (fun _ => ?_)
theorem lw.mono : ∀ a0 k,LeO (lw.f k a0) (lw.f (k + 1) a0):=by
 intro a0 k
 obtain ⟨ih0,ih1,ih2,ih3⟩:=lw.mono_l k
 unfold lw.f
 repeat' first
   | (with_reducible exact ih0 _ _ _ _ _ _ _ _)
   | (with_reducible exact ih1 _)
   | (with_reducible exact ih2 _ _ _ _ _ _)
   | (with_reducible exact ih3 _ _ _ _ _ _ _)
   | (with_reducible exact impl_BlockersOf.mono _ _ _)
   | (with_reducible exact impl_MoveTop.mono _ _ _ _)
   | (with_reducible exact impl_PlaceOf.mono _ _ _)
   | (with_reducible exact impl_SameYard.mono _ _ _)
   | (with_reducible exact laws_vInts.mono _ _ _)
   | (with_reducible exact laws_vYard.mono _ _ _)
   | (with_reducible exact spec_BlockersOf.mono _ _ _)
   | (with_reducible exact spec_DrawBlockersOf.mono _ _)
   | (with_reducible exact spec_DrawMoveTop.mono _ _)
   | (with_reducible exact spec_DrawSameYard.mono _ _)
   | (with_reducible exact spec_MoveTop.mono _ _ _ _)
   | (with_reducible exact spec_SameYard.mono _ _ _)
   | (with_reducible exact LeO.refl _)
   | (with_reducible exact LeO.none _)
   | (with_reducible refine LeO.ite ?_ ?_)
   | (with_reducible refine LeO.bind ?_ (fun _ => ?_))
   | exact ih0 _ _ _ _ _ _ _ _
   | exact ih1 _
   | exact ih2 _ _ _ _ _ _
   | exact ih3 _ _ _ _ _ _ _
   | exact impl_BlockersOf.mono _ _ _
   | exact impl_MoveTop.mono _ _ _ _
   | exact impl_PlaceOf.mono _ _ _
   | exact impl_SameYard.mono _ _ _
   | exact laws_vInts.mono _ _ _
   | exact laws_vYard.mono _ _ _
   | exact spec_BlockersOf.mono _ _ _
   | exact spec_DrawBlockersOf.mono _ _
   | exact spec_DrawMoveTop.mono _ _
   | exact spec_DrawSameYard.mono _ _
   | exact spec_MoveTop.mono _ _ _ _
   | exact spec_SameYard.mono _ _ _
   | exact LeO.none _
   | refine LeO.ite ?_ ?_
   | refine LeO.bind ?_ (fun _ => ?_)
def lw.T21 : Bool × List (List Nat × List Nat):=(true,[([],[]),([],[]),([],[]),([1,2],[1,2]),([3],[3]),([0,4],[0,4]),([5],[5]),([6],[6]),([6],[6]),([6],[6]),([7,5,0,1,2,3,4,5,6,7],[7]),([8,10,0,1,2,3,4,5,6,7,8,10],[8]),([9,11,0,1,2,3,4,5,6,7,8,9,10,11],[9])])
def lw.B21 : List Nat:=[0,0,0,6,14,31,63,127,127,127,255,1535,4095]
theorem lw.tab21 : rtab .any (opsOf Try.f12 21) = lw.T21:=by kernel_rfl
theorem lw.bits21 : waitsOk lw.T21.2 lw.B21 = true:=by kernel_rfl
set_option maxHeartbeats 8000000 in
set_option maxRecDepth 100000 in
theorem lw.calls (k : Nat) (A0 : Option Addr) (c0 : Nat) (l0 : List Int) (r : Bool) (w : World) (hr0 : Kd.C (Kd.int .u8) w A0 l0.length l0) (hc0 : l0.length ≤ c0) (h : lw.f k l0 = some r) :
  Calls Try.prog 12 #[.slice A0 l0.length c0] w fun e w' => e = .returned (.bool r) ∧ Below w.heap.size w w':=by
 have hu42:=Try.underlying42
 have HR0:=Aside0.mk hr0
 have HC0:=Aside0.mk hc0
 clear hr0 hc0
 have HB:=Aside0.mk (Below.refl w.heap.size w)
 have H : ((laws_vBig.f l0).bind fun t1680 => (if t1680 = true then (some true) else ((spec_DrawMoveTop.f k l0).bind fun bt1681 => ((impl_MoveTop.f k bt1681.1 bt1681.2.1 bt1681.2.2).bind fun bt1687 => ((spec_MoveTop.f k bt1681.1 bt1681.2.1 bt1681.2.2).bind fun bt1693 => (if (bt1687.2.2 != bt1693.2.2) = true then (none) else (if bt1687.2.1 = bt1693.2.1 then ((laws_vYard.f k bt1687.1 bt1693.1).bind fun t1699 => (lw.j0 k l0 bt1681.2.1 bt1681.2.2 bt1687.2.1 bt1687.2.2 (!t1699) bt1681.1 bt1687.1)) else (none)))))))) = some r:=h
 clear h
 replace H:=Option.bind_eq_some_iff.mp H
 obtain ⟨t1680,A20,H⟩:=H
 replace H : (if t1680 = true then (some true) else ((spec_DrawMoveTop.f k l0).bind fun bt1681 => ((impl_MoveTop.f k bt1681.1 bt1681.2.1 bt1681.2.2).bind fun bt1687 => ((spec_MoveTop.f k bt1681.1 bt1681.2.1 bt1681.2.2).bind fun bt1693 => (if (bt1687.2.2 != bt1693.2.2) = true then (none) else (if bt1687.2.1 = bt1693.2.1 then ((laws_vYard.f k bt1687.1 bt1693.1).bind fun t1699 => (lw.j0 k l0 bt1681.2.1 bt1681.2.2 bt1687.2.1 bt1687.2.2 (!t1699) bt1681.1 bt1687.1)) else (none))))))) = some r:=H
 have A2:=Aside0.mk A20
 clear A20
 by_cases c3 : t1680 = true
 ·subst c3
  have H1 : (some true) = some r:=by rw [if_pos rfl] at H; exact H
  clear H
  have H:=H1
  clear H1
  obtain rfl:=Option.some.inj H
  go_enter Try.func12,Try.ntmps12
  go_wp2_with ((((with_reducible refine gate_callee (f:=35) rfl ?_); refine goesL_ (some 37) rfl rfl Try.func35 (by kernel_rfl) rfl #[.slice A0 l0.length c0] rfl (by (try simp only [List.map_toArray,List.map_cons,List.map_nil]); (rfl)) ?_; (with_reducible refine (laws_vBig.calls _ _ l0 true _ ?side1 ?side2 A2.out).mono ?_); (case side1 => repeat (exact HR0.out)); (case side2 => exact HC0.out); rintro e w' ⟨rfl,⟨nd,rfl⟩⟩; refine ⟨_,rfl,?_⟩)))
  go_ret
  exact ⟨by (rfl),by repeat (with_reducible first|exact HB.out|apply pw_below_drewN)⟩
 ·replace c3:=Bool.eq_false_iff.mpr c3
  subst c3
  have H1 : ((spec_DrawMoveTop.f k l0).bind fun bt1681 => ((impl_MoveTop.f k bt1681.1 bt1681.2.1 bt1681.2.2).bind fun bt1687 => ((spec_MoveTop.f k bt1681.1 bt1681.2.1 bt1681.2.2).bind fun bt1693 => (if (bt1687.2.2 != bt1693.2.2) = true then (none) else (if bt1687.2.1 = bt1693.2.1 then ((laws_vYard.f k bt1687.1 bt1693.1).bind fun t1699 => (lw.j0 k l0 bt1681.2.1 bt1681.2.2 bt1687.2.1 bt1687.2.2 (!t1699) bt1681.1 bt1687.1)) else (none)))))) = some r:=by rw [if_neg (show ¬ (false = true) by decide)] at H; exact H
  clear H
  have H:=H1
  clear H1
  replace H:=Option.bind_eq_some_iff.mp H
  obtain ⟨⟨t1681,t1684,t1685⟩,A40,H⟩:=H
  replace H : ((impl_MoveTop.f k t1681 t1684 t1685).bind fun bt1687 => ((spec_MoveTop.f k t1681 t1684 t1685).bind fun bt1693 => (if (bt1687.2.2 != bt1693.2.2) = true then (none) else (if bt1687.2.1 = bt1693.2.1 then ((laws_vYard.f k bt1687.1 bt1693.1).bind fun t1699 => (lw.j0 k l0 t1684 t1685 bt1687.2.1 bt1687.2.2 (!t1699) t1681 bt1687.1)) else (none))))) = some r:=H
  have A4:=Aside0.mk A40
  clear A40
  replace H:=Option.bind_eq_some_iff.mp H
  obtain ⟨⟨t1687,t1690,t1691⟩,A50,H⟩:=H
  replace H : ((spec_MoveTop.f k t1681 t1684 t1685).bind fun bt1693 => (if (t1691 != bt1693.2.2) = true then (none) else (if t1690 = bt1693.2.1 then ((laws_vYard.f k t1687 bt1693.1).bind fun t1699 => (lw.j0 k l0 t1684 t1685 t1690 t1691 (!t1699) t1681 t1687)) else (none)))) = some r:=H
  have A5:=Aside0.mk A50
  clear A50
  replace H:=Option.bind_eq_some_iff.mp H
  obtain ⟨⟨t1693,t1696,t1697⟩,A60,H⟩:=H
  replace H : (if (t1691 != t1697) = true then (none) else (if t1690 = t1696 then ((laws_vYard.f k t1687 t1693).bind fun t1699 => (lw.j0 k l0 t1684 t1685 t1690 t1691 (!t1699) t1681 t1687)) else (none))) = some r:=H
  have A6:=Aside0.mk A60
  clear A60
  have HC7:=Aside0.mk H
  clear H
  go_enter Try.func12,Try.ntmps12
  go_upto_region 6 with (first|((with_reducible refine gate_callee (f:=35) rfl ?_); refine goesL_ (some 37) rfl rfl Try.func35 (by kernel_rfl) rfl #[.slice A0 l0.length c0] rfl (by (try simp only [List.map_toArray,List.map_cons,List.map_nil]); (rfl)) ?_; (with_reducible refine (laws_vBig.calls _ _ l0 false _ ?side1 ?side2 A2.out).mono ?_); (case side1 => repeat (exact HR0.out)); (case side2 => exact HC0.out); rintro e w' ⟨rfl,⟨nd,rfl⟩⟩; refine ⟨_,rfl,?_⟩)|((with_reducible refine gate_callee (f:=86) rfl ?_); refine goesL_ (some 40) rfl rfl Try.func86 (by kernel_rfl) rfl #[.slice A0 l0.length c0] rfl (by (try simp only [List.map_toArray,List.map_cons,List.map_nil]); (rfl)) ?_; (with_reducible refine (spec_DrawMoveTop.calls k _ _ l0 t1681 t1684 t1685 _ ?side1 ?side2 A4.out).mono ?_); (case side1 => repeat (exact HR0.out)); (case side2 => exact HC0.out); rintro e w8 ⟨v1682,rfl,ho0,hb⟩; refine ⟨_,rfl,?_⟩; have n0_:=Aside0.mk (Kd.S_lower ho0 (below_size (by repeat (with_reducible first|exact HB.out|apply pw_below_drewN)))); have n1_:=Aside0.mk (below_step (by repeat (with_reducible first|exact HB.out|apply pw_below_drewN)) hb); clear HB; have HO1683:=n0_; have HB:=n1_; clear n0_ n1_; (try clear hb); (try clear hb2); (try clear hk); (try clear hi); (try clear ho0))|((with_reducible refine gate_dst (N:=3) rfl ?_); (try (refine gate_guard (by rfl) ?_; dsimp only)); refine box_event ?hg (N:=3) ?hd (cs:=#[.slice none 0 0]) (t:=42) ?hr ?_; (case hd => rfl); (case hg => rfl); (case hr => (go_simp; done)); intro gb1686 hg w9 hbox hb; have n0_:=Aside0.mk (Kd.S_below (by exact HO1683.out) hb); have n1_:=Aside0.mk (below_step (by repeat (((with_reducible (exact HB.out))))) hb); have n2_:=Aside0.mk (hbox); have n3_:=Aside0.mk ((by rw [hg]; exact (below_size (by repeat (((with_reducible (exact HB.out)))))) : w.heap.size ≤ gb1686)); have n4_:=Aside0.mk ((by rw [hg]; exact (below_size (by repeat (((with_reducible (exact HB.out)))))) : w.heap.size ≤ gb1686)); clear HO1683; clear HB; have HO1683:=n0_; have HB:=n1_; have BK1686:=n2_; have GW1686:=n3_; have GE1686:=n4_; clear n0_ n1_ n2_ n3_ n4_; clear hb hbox hg; obtain ⟨Ao10,co10,eo10⟩:=Kd.S_slice HO1683.out; subst eo10; have hcz11_0 : w9.cell? ⟨gb1686,0,none⟩ = some (.slice none 0 0):=(blk_cell BK1686.out 0).trans rfl; have hfz11_0:=blk_frozen BK1686.out 0)|((with_reducible refine gate_callee (f:=31) rfl ?_); refine goesL_ (some 48) rfl rfl Try.func31 (by kernel_rfl) rfl #[.agg #[.slice Ao10 t1681.length co10],.int .i64 t1684,.int .i64 t1685] rfl (by (try simp only [List.map_toArray,List.map_cons,List.map_nil]); (rfl)) ?_; (with_reducible refine (impl_MoveTop.calls k _ _ t1681 t1684 t1685 t1687 t1690 t1691 _ ?side1 ?side2 A5.out).mono ?_); (case side1 => refine (Kd.S_reads' (e:=24) (base:=w.heap.size) (ok:=fun k_ => True) (n:=t1681.length) (c:=co10) ?_).2.2; exact (by exact (Kd.S_mono (Kd.S_far (p:=⟨gb1686,0,none⟩) (Kd.S_types HO1683.out BK1686.out (by decide)) (fun _ hk => hk.2) (.slice Ao10 t1681.length co10)) (fun _ h_ => h_.1)))); (case side2 => exact (Kd.S_reads' HO1683.out).2.1); rintro e w12 ⟨v1688,rfl,ho0,hb⟩; refine ⟨_,rfl,?_⟩; have n0_:=Aside0.mk (Kd.S_elder' (by exact (Kd.S_mono (Kd.S_far (p:=⟨gb1686,0,none⟩) (Kd.S_types HO1683.out BK1686.out (by decide)) (fun _ hk => hk.2) (.slice Ao10 t1681.length co10)) (fun _ h_ => h_.1))) (Kd.S_base ho0) hb); have n1_:=Aside0.mk (Kd.S_lower (Kd.S_new' ho0 (Kd.S_lt (by exact (Kd.S_mono (Kd.S_far (p:=⟨gb1686,0,none⟩) (Kd.S_types HO1683.out BK1686.out (by decide)) (fun _ hk => hk.2) (.slice Ao10 t1681.length co10)) (fun _ h_ => h_.1))))) (below_size (by repeat (with_reducible first|exact HB.out|refine below_set ?_ GE1686.out)))); have n2_:=Aside0.mk (blk_below (g:=gb1686) (o:=.cells #[.slice Ao10 t1681.length co10] 42 (0,0)) (by refine blk_put (cs:=#[.slice none 0 0]) ?_ 0 _ rfl; exact BK1686.out) hb); have n3_:=Aside0.mk (below_step (by repeat (with_reducible first|exact HB.out|refine below_set ?_ GE1686.out)) hb); clear HO1683; clear BK1686; clear HB; have HO1683:=n0_; have HO1689:=n1_; have BK1686:=n2_; have HB:=n3_; clear n0_ n1_ n2_ n3_; (try clear hb); (try clear hb2); (try clear hk); (try clear hi); (try clear ho0))|((with_reducible refine gate_dst (N:=6) rfl ?_); (try (refine gate_guard (by rfl) ?_; dsimp only)); refine box_event ?hg (N:=6) ?hd (cs:=#[.slice none 0 0]) (t:=42) ?hr ?_; (case hd => rfl); (case hg => rfl); (case hr => (go_simp; done)); intro gb1692 hg w13 hbox hb; have n0_:=Aside0.mk (Kd.S_below (by exact HO1683.out) hb); have n1_:=Aside0.mk (Kd.S_below (by exact HO1689.out) hb); have n2_:=Aside0.mk (blk_below (g:=gb1686) (o:=.cells #[.slice Ao10 t1681.length co10] 42 (0,0)) (by exact BK1686.out) hb); have n3_:=Aside0.mk (below_step (by repeat (((with_reducible (exact HB.out))))) hb); have n4_:=Aside0.mk (hbox); have n5_:=Aside0.mk ((by rw [hg]; exact (below_size (by repeat (((with_reducible (exact HB.out)))))) : w.heap.size ≤ gb1692)); have n6_:=Aside0.mk ((by rw [hg]; exact (below_size (by repeat (((with_reducible (exact HB.out)))))) : w.heap.size ≤ gb1692)); have n7_:=Aside0.mk ((by rw [hg]; exact Nat.ne_of_lt (blk_lt (g:=gb1686) (o:=.cells #[.slice Ao10 t1681.length co10] 42 (0,0)) (by exact BK1686.out)) : gb1686 ≠ gb1692)); have n8_:=Aside0.mk ((by rw [hg]; exact Nat.ne_of_gt (blk_lt (g:=gb1686) (o:=.cells #[.slice Ao10 t1681.length co10] 42 (0,0)) (by exact BK1686.out)) : gb1692 ≠ gb1686)); clear HO1683; clear HO1689; clear BK1686; clear HB; have HO1683:=n0_; have HO1689:=n1_; have BK1686:=n2_; have HB:=n3_; have BK1692:=n4_; have GW1692:=n5_; have GE1692:=n6_; have NB1686_1692:=n7_; have NB1692_1686:=n8_; clear n0_ n1_ n2_ n3_ n4_ n5_ n6_ n7_ n8_; clear hb hbox hg; obtain ⟨Ao14,co14,eo14⟩:=Kd.S_slice HO1689.out; subst eo14; have hnb15:=NB1692_1686.out; have hnc15:=NB1686_1692.out; have hcz16_0 : w13.cell? ⟨gb1692,0,none⟩ = some (.slice none 0 0):=(blk_cell BK1692.out 0).trans rfl; have hfz16_0:=blk_frozen BK1692.out 0; have hcz17_0 : w13.cell? ⟨gb1686,0,none⟩ = some (.slice Ao10 t1681.length co10):=(blk_cell BK1686.out 0).trans rfl; have hfz17_0:=blk_frozen BK1686.out 0)|((with_reducible refine gate_callee (f:=29) rfl ?_); refine goesL_ (some 56) rfl rfl Try.func29 (by kernel_rfl) rfl #[.agg #[.slice Ao10 t1681.length co10],.int .i64 t1684,.int .i64 t1685] rfl (by (try simp only [List.map_toArray,List.map_cons,List.map_nil]); (rfl)) ?_; (with_reducible refine (spec_MoveTop.calls k _ _ t1681 t1684 t1685 t1693 t1696 t1697 _ ?side1 ?side2 A6.out).mono ?_); (case side1 => refine (Kd.S_reads' (e:=24) (base:=w.heap.size) (ok:=fun k_ => (True ∧ some k_ ≠ (.slice Ao14 t1687.length co14 : Value).ownBlock)) (n:=t1681.length) (c:=co10) ?_).2.2; exact (by exact (Kd.S_mono (Kd.S_far (p:=⟨gb1692,0,none⟩) (Kd.S_types HO1683.out BK1692.out (by decide)) (fun _ hk => hk.2) (.slice Ao14 t1687.length co14)) (fun _ h_ => h_.1)))); (case side2 => exact (Kd.S_reads' HO1683.out).2.1); rintro e w18 ⟨v1694,rfl,ho0,hb⟩; refine ⟨_,rfl,?_⟩; have n0_:=Aside0.mk (Kd.S_elder' (by exact (Kd.S_mono (Kd.S_far (p:=⟨gb1692,0,none⟩) (Kd.S_types HO1683.out BK1692.out (by decide)) (fun _ hk => hk.2) (.slice Ao14 t1687.length co14)) (fun _ h_ => h_.1))) (Kd.S_base ho0) hb); have n1_:=Aside0.mk (Kd.S_elder' (by exact (Kd.S_mono (Kd.S_far (p:=⟨gb1692,0,none⟩) (Kd.S_types HO1689.out BK1692.out (by decide)) (fun _ hk => hk.2) (.slice Ao14 t1687.length co14)) (fun _ h_ => h_.1))) (Kd.S_base ho0) hb); have n2_:=Aside0.mk (Kd.S_lower (Kd.S_new' (Kd.S_new' ho0 (Kd.S_lt (by exact (Kd.S_mono (Kd.S_far (p:=⟨gb1692,0,none⟩) (Kd.S_types HO1683.out BK1692.out (by decide)) (fun _ hk => hk.2) (.slice Ao14 t1687.length co14)) (fun _ h_ => h_.1))))) (Kd.S_lt (by exact (Kd.S_mono (Kd.S_far (p:=⟨gb1692,0,none⟩) (Kd.S_types HO1689.out BK1692.out (by decide)) (fun _ hk => hk.2) (.slice Ao14 t1687.length co14)) (fun _ h_ => h_.1))))) (below_size (by repeat (with_reducible first|exact HB.out|refine below_set ?_ GE1692.out)))); have n3_:=Aside0.mk (blk_below (g:=gb1686) (o:=.cells #[.slice Ao10 t1681.length co10] 42 (0,0)) (by refine blk_far ?_ NB1686_1692.out _; exact BK1686.out) hb); have n4_:=Aside0.mk (blk_below (g:=gb1692) (o:=.cells #[.slice Ao14 t1687.length co14] 42 (0,0)) (by refine blk_put (cs:=#[.slice none 0 0]) ?_ 0 _ rfl; exact BK1692.out) hb); have n5_:=Aside0.mk (below_step (by repeat (with_reducible first|exact HB.out|refine below_set ?_ GE1692.out)) hb); clear HO1683; clear HO1689; clear BK1686; clear BK1692; clear HB; have HO1683:=n0_; have HO1689:=n1_; have HO1695:=n2_; have BK1686:=n3_; have BK1692:=n4_; have HB:=n5_; clear n0_ n1_ n2_ n3_ n4_ n5_; (try clear hb); (try clear hb2); (try clear hk); (try clear hi); (try clear ho0))|((with_reducible refine gate_dst (N:=9) rfl ?_); (try (refine gate_guard (by rfl) ?_; dsimp only)); refine box_event ?hg (N:=9) ?hd (cs:=#[.slice none 0 0]) (t:=42) ?hr ?_; (case hd => rfl); (case hg => rfl); (case hr => (go_simp; done)); intro gb1698 hg w19 hbox hb; have n0_:=Aside0.mk (Kd.S_below (by exact HO1683.out) hb); have n1_:=Aside0.mk (Kd.S_below (by exact HO1689.out) hb); have n2_:=Aside0.mk (Kd.S_below (by exact HO1695.out) hb); have n3_:=Aside0.mk (blk_below (g:=gb1686) (o:=.cells #[.slice Ao10 t1681.length co10] 42 (0,0)) (by exact BK1686.out) hb); have n4_:=Aside0.mk (blk_below (g:=gb1692) (o:=.cells #[.slice Ao14 t1687.length co14] 42 (0,0)) (by exact BK1692.out) hb); have n5_:=Aside0.mk (below_step (by repeat (((with_reducible (exact HB.out))))) hb); have n6_:=Aside0.mk (hbox); have n7_:=Aside0.mk ((by rw [hg]; exact (below_size (by repeat (((with_reducible (exact HB.out)))))) : w.heap.size ≤ gb1698)); have n8_:=Aside0.mk ((by rw [hg]; exact (below_size (by repeat (((with_reducible (exact HB.out)))))) : w.heap.size ≤ gb1698)); have n9_:=Aside0.mk ((by rw [hg]; exact Nat.ne_of_lt (blk_lt (g:=gb1686) (o:=.cells #[.slice Ao10 t1681.length co10] 42 (0,0)) (by exact BK1686.out)) : gb1686 ≠ gb1698)); have n10_:=Aside0.mk ((by rw [hg]; exact Nat.ne_of_gt (blk_lt (g:=gb1686) (o:=.cells #[.slice Ao10 t1681.length co10] 42 (0,0)) (by exact BK1686.out)) : gb1698 ≠ gb1686)); have n11_:=Aside0.mk ((by rw [hg]; exact Nat.ne_of_lt (blk_lt (g:=gb1692) (o:=.cells #[.slice Ao14 t1687.length co14] 42 (0,0)) (by exact BK1692.out)) : gb1692 ≠ gb1698)); have n12_:=Aside0.mk ((by rw [hg]; exact Nat.ne_of_gt (blk_lt (g:=gb1692) (o:=.cells #[.slice Ao14 t1687.length co14] 42 (0,0)) (by exact BK1692.out)) : gb1698 ≠ gb1692)); clear HO1683; clear HO1689; clear HO1695; clear BK1686; clear BK1692; clear HB; have HO1683:=n0_; have HO1689:=n1_; have HO1695:=n2_; have BK1686:=n3_; have BK1692:=n4_; have HB:=n5_; have BK1698:=n6_; have GW1698:=n7_; have GE1698:=n8_; have NB1686_1698:=n9_; have NB1698_1686:=n10_; have NB1692_1698:=n11_; have NB1698_1692:=n12_; clear n0_ n1_ n2_ n3_ n4_ n5_ n6_ n7_ n8_ n9_ n10_ n11_ n12_; clear hb hbox hg; obtain ⟨Ao20,co20,eo20⟩:=Kd.S_slice HO1695.out; subst eo20; have hnb21:=NB1698_1686.out; have hnc21:=NB1686_1698.out; have hnb22:=NB1698_1692.out; have hnc22:=NB1692_1698.out; have hcz23_0 : w19.cell? ⟨gb1698,0,none⟩ = some (.slice none 0 0):=(blk_cell BK1698.out 0).trans rfl; have hfz23_0:=blk_frozen BK1698.out 0))
  (try simp only [Act.put,List.setIfInBounds_toArray,List.set_cons_zero,List.set_cons_succ])
  go_cut [73] (fun v73 wc => ∃ (kq : Nat) (x73_6 : Bool),v73 = .bool x73_6 ∧ Aside0 (lw.j0 kq l0 t1684 t1685 t1690 t1691 x73_6 t1681 t1687 = some r) ∧ Aside0 (kq ≤ k) ∧ Aside0 (Kd.Q (Kd.slice 3 (Kd.int .i64)) 24 wc w.heap.size (fun k_ => some k_ ≠ ((.slice Ao14 t1687.length co14) : Value).ownBlock ∧ some k_ ≠ ((.slice Ao20 t1693.length co20) : Value).ownBlock) (.slice Ao10 t1681.length co10) t1681) ∧ Aside0 (Kd.Q (Kd.slice 3 (Kd.int .i64)) 24 wc w.heap.size (fun k_ => some k_ ≠ ((.slice Ao10 t1681.length co10) : Value).ownBlock ∧ some k_ ≠ ((.slice Ao20 t1693.length co20) : Value).ownBlock) (.slice Ao14 t1687.length co14) t1687) ∧ Aside0 (Kd.Q (Kd.slice 3 (Kd.int .i64)) 24 wc w.heap.size (fun k_ => some k_ ≠ ((.slice Ao10 t1681.length co10) : Value).ownBlock ∧ some k_ ≠ ((.slice Ao14 t1687.length co14) : Value).ownBlock) (.slice Ao20 t1693.length co20) t1693) ∧ Aside0 (wc.heap[gb1686]? = some (.cells #[(.slice Ao10 t1681.length co10)] 42 (0,0))) ∧ Aside0 (wc.heap[gb1692]? = some (.cells #[(.slice Ao14 t1687.length co14)] 42 (0,0))) ∧ Aside0 (wc.heap[gb1698]? = some (.cells #[(.slice Ao20 t1693.length co20)] 42 (0,0))) ∧ Aside0 (Below w.heap.size w wc))
  case first =>
   have H:=HC7.out
   clear HC7
   by_cases c24 : (t1691 != t1697) = true
   ·rw [if_pos c24] at H
    have c24b0 : (t1691 != t1697) = true:=c24
    (try (have c24b1 : decide (t1691 = t1697) = false:=by simpa using c24))
    (try (have c24b2 : (t1691 == t1697) = false:=by simpa using c24))
    (try (have c24b3 : ¬ (t1691 = t1697):=by simpa using c24))
    clear c24
    (skip)
    exact absurd H (by simp)
   ·rw [if_neg c24] at H
    have c24b0 : (t1691 != t1697) = false:=by simpa using c24
    (try (have c24b1 : decide (t1691 = t1697) = true:=by simpa using c24))
    (try (have c24b2 : (t1691 == t1697) = true:=by simpa using c24))
    clear c24
    (skip)
    by_cases c25 : t1690 = t1696
    ·rw [if_pos c25] at H
     have c25b0 : (t1690 == t1696) = true:=beq_iff_eq.mpr c25
     have c25b1 : (t1690 != t1696) = false:=bne_eq_false_iff_eq.mpr c25
     clear c25
     replace H:=Option.bind_eq_some_iff.mp H
     obtain ⟨t1699,A260,H⟩:=H
     replace H : (lw.j0 k l0 t1684 t1685 t1690 t1691 (!t1699) t1681 t1687) = some r:=H
     have A26:=Aside0.mk A260
     clear A260
     have H':=Aside0.mk H
     clear H
     have hnb27:=NB1692_1686.out
     have hnc27:=NB1686_1692.out
     have hnb28:=NB1692_1698.out
     have hnc28:=NB1698_1692.out
     have hcz29_0 : w19.cell? ⟨gb1692,0,none⟩ = some (.slice Ao14 t1687.length co14):=(blk_cell BK1692.out 0).trans rfl
     have hfz29_0:=blk_frozen BK1692.out 0
     have hnb30:=NB1698_1686.out
     have hnc30:=NB1686_1698.out
     have hcz31_0 : w19.cell? ⟨gb1698,0,none⟩ = some (.slice none 0 0):=(blk_cell BK1698.out 0).trans rfl
     have hfz31_0:=blk_frozen BK1698.out 0
     go_wp2_with (((go_at_call 39; (with_reducible refine (laws_vYard.calls k _ _ t1687 _ _ t1693 t1699 _ ?side1 ?side2 ?side3 ?side4 A26.out).mono ?_); (case side1 => refine (Kd.S_reads' (e:=24) (base:=w.heap.size) (ok:=fun k_ => ((True ∧ some k_ ≠ (.slice Ao10 t1681.length co10 : Value).ownBlock) ∧ some k_ ≠ (.slice Ao20 t1693.length co20 : Value).ownBlock)) (n:=t1687.length) (c:=co14) ?_).2.2; exact (by exact (Kd.S_mono (Kd.S_far (p:=⟨gb1698,0,none⟩) (Kd.S_types HO1689.out BK1698.out (by decide)) (fun _ hk => hk.2) (.slice Ao20 t1693.length co20)) (fun _ h_ => h_.1)))); (case side2 => exact (Kd.S_reads' HO1689.out).2.1); (case side3 => refine (Kd.S_reads' (e:=24) (base:=w.heap.size) (ok:=fun k_ => ((True ∧ some k_ ≠ (.slice Ao10 t1681.length co10 : Value).ownBlock) ∧ some k_ ≠ (.slice Ao14 t1687.length co14 : Value).ownBlock)) (n:=t1693.length) (c:=co20) ?_).2.2; exact (by exact (Kd.S_mono (Kd.S_far (p:=⟨gb1698,0,none⟩) (Kd.S_types HO1695.out BK1698.out (by decide)) (fun _ hk => hk.2) (.slice Ao20 t1693.length co20)) (fun _ h_ => h_.1)))); (case side4 => exact (Kd.S_reads' HO1695.out).2.1); rintro e w32 ⟨rfl,hb⟩; have n0_:=Aside0.mk (Kd.S_below (by exact (Kd.S_mono (Kd.S_far (p:=⟨gb1698,0,none⟩) (Kd.S_types HO1683.out BK1698.out (by decide)) (fun _ hk => hk.2) (.slice Ao20 t1693.length co20)) (fun _ h_ => h_.1))) hb); have n1_:=Aside0.mk (Kd.S_below (by exact (Kd.S_mono (Kd.S_far (p:=⟨gb1698,0,none⟩) (Kd.S_types HO1689.out BK1698.out (by decide)) (fun _ hk => hk.2) (.slice Ao20 t1693.length co20)) (fun _ h_ => h_.1))) hb); have n2_:=Aside0.mk (Kd.S_below (by exact (Kd.S_mono (Kd.S_far (p:=⟨gb1698,0,none⟩) (Kd.S_types HO1695.out BK1698.out (by decide)) (fun _ hk => hk.2) (.slice Ao20 t1693.length co20)) (fun _ h_ => h_.1))) hb); have n3_:=Aside0.mk (blk_below (g:=gb1686) (o:=.cells #[.slice Ao10 t1681.length co10] 42 (0,0)) (by refine blk_far ?_ NB1686_1698.out _; exact BK1686.out) hb); have n4_:=Aside0.mk (blk_below (g:=gb1692) (o:=.cells #[.slice Ao14 t1687.length co14] 42 (0,0)) (by refine blk_far ?_ NB1692_1698.out _; exact BK1692.out) hb); have n5_:=Aside0.mk (blk_below (g:=gb1698) (o:=.cells #[.slice Ao20 t1693.length co20] 42 (0,0)) (by refine blk_put (cs:=#[.slice none 0 0]) ?_ 0 _ rfl; exact BK1698.out) hb); have n6_:=Aside0.mk (below_step (by repeat (with_reducible first|exact HB.out|refine below_set ?_ GE1698.out)) hb); clear HO1683; clear HO1689; clear HO1695; clear BK1686; clear BK1692; clear BK1698; clear HB; have HO1683:=n0_; have HO1689:=n1_; have HO1695:=n2_; have BK1686:=n3_; have BK1692:=n4_; have BK1698:=n5_; have HB:=n6_; clear n0_ n1_ n2_ n3_ n4_ n5_ n6_; (try clear hb); (try clear hb2); (try clear hk); (try clear hi))))
     go_meet
     case rel => exact ⟨_,(!t1699),(by (rfl)),H',⟨by (omega)⟩,⟨Kd.Q_of_R ((Kd.S_R (by exact Kd.S_mono HO1683.out (fun _ hk => ⟨hk.1.2,hk.2⟩))))⟩,⟨Kd.Q_of_R ((Kd.S_R (by exact Kd.S_mono HO1689.out (fun _ hk => ⟨hk.1.2,hk.2⟩))))⟩,⟨Kd.Q_of_R ((Kd.S_R (by exact Kd.S_mono HO1695.out (fun _ hk => ⟨hk.1.2,hk.2⟩))))⟩,⟨by exact BK1686.out⟩,⟨by exact BK1692.out⟩,⟨by exact BK1698.out⟩,⟨by repeat (((with_reducible (exact HB.out))))⟩⟩
    ·rw [if_neg c25] at H
     have c25b0 : (t1690 == t1696) = false:=beq_eq_false_iff_ne.mpr c25
     have c25b1 : (t1690 != t1696) = true:=bne_iff_ne.mpr c25
     exact absurd H (by simp)
  case rest =>
   clear HC7
   try clear c1
   try clear c2
   try clear p2
   try clear c3
   try clear c8
   try clear c12
   try clear c15
   try clear c21
   try clear c22
   try clear c24
   try clear c24b0
   try clear c24b1
   try clear c24b2
   try clear c25
   try clear c25b0
   try clear c25b1
   try clear c27
   try clear c28
   try clear c29
   try clear c30
   try clear c31
   try clear hcz11_0
   try clear hcz16_0
   try clear hcz17_0
   try clear hcz23_0
   try clear hcz29_0
   try clear hcz31_0
   try clear hfz11_0
   try clear hfz16_0
   try clear hfz17_0
   try clear hfz23_0
   try clear hfz29_0
   try clear hfz31_0
   obtain ⟨kq,x73_6,rfl,HA,HJ6,HO_1687000,HO_1693000,HO_1699000,BK1686,BK1692,BK1698,HB⟩:=hcut
   cases kq with
   | zero => exact absurd HA.out (by simp [lw.j0])
   | succ kj6 =>
    have H:=HA.out
    clear HA
    simp only [lw.j0] at H
    by_cases c33 : x73_6 = true
    ·subst c33
     have H1 : (none) = some r:=by rw [if_pos rfl] at H; exact H
     clear H
     have H:=H1
     clear H1
     exact absurd H (by simp)
    ·replace c33:=Bool.eq_false_iff.mpr c33
     subst c33
     have H1 : (if t1691 = true then ((impl_MoveTop.f kj6 t1687 t1685 t1684).bind fun bt1700 => (if bt1700.2.2 = true then (if bt1700.2.1 = t1690 then ((laws_vYard.f kj6 bt1700.1 t1681).bind fun t1706 => (if t1706 = true then (lw.j1 kj6 l0) else (none))) else (none)) else (none))) else (lw.j1 kj6 l0)) = some r:=by rw [if_neg (show ¬ (false = true) by decide)] at H; exact H
     clear H
     have H:=H1
     clear H1
     have HC34:=Aside0.mk H
     clear H
     go_upto_if 74 with (fail)
     go_cut [] (fun wc => ∃ (kq : Nat),Aside0 (lw.j1 kq l0 = some r) ∧ Aside0 (kq ≤ kj6) ∧ Aside0 (Kd.Q (Kd.slice 3 (Kd.int .i64)) 24 wc w.heap.size (fun k_ => some k_ ≠ ((.slice Ao14 t1687.length co14) : Value).ownBlock ∧ some k_ ≠ ((.slice Ao20 t1693.length co20) : Value).ownBlock) (.slice Ao10 t1681.length co10) t1681) ∧ Aside0 (Kd.Q (Kd.slice 3 (Kd.int .i64)) 24 wc w.heap.size (fun k_ => some k_ ≠ ((.slice Ao10 t1681.length co10) : Value).ownBlock ∧ some k_ ≠ ((.slice Ao20 t1693.length co20) : Value).ownBlock) (.slice Ao14 t1687.length co14) t1687) ∧ Aside0 (Kd.Q (Kd.slice 3 (Kd.int .i64)) 24 wc w.heap.size (fun k_ => some k_ ≠ ((.slice Ao10 t1681.length co10) : Value).ownBlock ∧ some k_ ≠ ((.slice Ao14 t1687.length co14) : Value).ownBlock) (.slice Ao20 t1693.length co20) t1693) ∧ Aside0 (wc.heap[gb1686]? = some (.cells #[(.slice Ao10 t1681.length co10)] 42 (0,0))) ∧ Aside0 (wc.heap[gb1692]? = some (.cells #[(.slice Ao14 t1687.length co14)] 42 (0,0))) ∧ Aside0 (wc.heap[gb1698]? = some (.cells #[(.slice Ao20 t1693.length co20)] 42 (0,0))) ∧ Aside0 (Below w.heap.size w wc))
     case first =>
      have H:=HC34.out
      clear HC34
      by_cases c35 : t1691 = true
      ·subst c35
       have H1 : ((impl_MoveTop.f kj6 t1687 t1685 t1684).bind fun bt1700 => (if bt1700.2.2 = true then (if bt1700.2.1 = t1690 then ((laws_vYard.f kj6 bt1700.1 t1681).bind fun t1706 => (if t1706 = true then (lw.j1 kj6 l0) else (none))) else (none)) else (none))) = some r:=by rw [if_pos rfl] at H; exact H
       clear H
       have H:=H1
       clear H1
       replace H:=Option.bind_eq_some_iff.mp H
       obtain ⟨⟨t1700,t1703,t1704⟩,A360,H⟩:=H
       replace H : (if t1704 = true then (if t1703 = t1690 then ((laws_vYard.f kj6 t1700 t1681).bind fun t1706 => (if t1706 = true then (lw.j1 kj6 l0) else (none))) else (none)) else (none)) = some r:=H
       have A36:=Aside0.mk A360
       clear A360
       by_cases c37 : t1704 = true
       ·subst c37
        have H1 : (if t1703 = t1690 then ((laws_vYard.f kj6 t1700 t1681).bind fun t1706 => (if t1706 = true then (lw.j1 kj6 l0) else (none))) else (none)) = some r:=by rw [if_pos rfl] at H; exact H
        clear H
        have H:=H1
        clear H1
        by_cases c38 : t1703 = t1690
        ·rw [if_pos c38] at H
         have c38b0 : (t1703 == t1690) = true:=beq_iff_eq.mpr c38
         have c38b1 : (t1703 != t1690) = false:=bne_eq_false_iff_eq.mpr c38
         clear c38
         (skip)
         replace H:=Option.bind_eq_some_iff.mp H
         obtain ⟨t1706,A390,H⟩:=H
         replace H : (if t1706 = true then (lw.j1 kj6 l0) else (none)) = some r:=H
         have A39:=Aside0.mk A390
         clear A390
         by_cases c40 : t1706 = true
         ·subst c40
          have H1 : (lw.j1 kj6 l0) = some r:=by rw [if_pos rfl] at H; exact H
          clear H
          have H:=H1
          clear H1
          have H':=Aside0.mk H
          clear H
          have hnb41:=NB1692_1686.out
          have hnc41:=NB1686_1692.out
          have hnb42:=NB1692_1698.out
          have hnc42:=NB1698_1692.out
          have hcz43_0 : wc.cell? ⟨gb1692,0,none⟩ = some (.slice Ao14 t1687.length co14):=(blk_cell BK1692.out 0).trans rfl
          have hfz43_0:=blk_frozen BK1692.out 0
          go_wp2_with (first|((with_reducible refine gate_callee (f:=31) rfl ?_); refine goesL_ (some 79) rfl rfl Try.func31 (by kernel_rfl) rfl #[.agg #[.slice Ao14 t1687.length co14],.int .i64 t1685,.int .i64 t1684] rfl (by (try simp only [List.map_toArray,List.map_cons,List.map_nil]); (rfl)) ?_; (with_reducible refine (impl_MoveTop.calls kj6 _ _ t1687 t1685 t1684 t1700 t1703 true _ ?side1 ?side2 A36.out).mono ?_); (case side1 => repeat ((exact (Kd.Q_reads' HO_1693000.out).2.2))); (case side2 => exact (Kd.Q_reads' HO_1693000.out).2.1); rintro e w44 ⟨v1701,rfl,ho0,hb⟩; refine ⟨_,rfl,?_⟩; have n0_:=Aside0.mk (Kd.Q_elder' (by exact HO_1687000.out) (Kd.S_base ho0) hb); have n1_:=Aside0.mk (Kd.Q_elder' (by exact HO_1693000.out) (Kd.S_base ho0) hb); have n2_:=Aside0.mk (Kd.Q_elder' (by exact HO_1699000.out) (Kd.S_base ho0) hb); have n3_:=Aside0.mk (Kd.S_lower (Kd.S_new' (Kd.S_new' (Kd.S_new' ho0 (Kd.Q_lt (by exact HO_1687000.out))) (Kd.Q_lt (by exact HO_1693000.out))) (Kd.Q_lt (by exact HO_1699000.out))) (below_size (by repeat (((with_reducible (exact HB.out))))))); have n4_:=Aside0.mk (blk_below (g:=gb1686) (o:=.cells #[.slice Ao10 t1681.length co10] 42 (0,0)) (by exact BK1686.out) hb); have n5_:=Aside0.mk (blk_below (g:=gb1692) (o:=.cells #[.slice Ao14 t1687.length co14] 42 (0,0)) (by exact BK1692.out) hb); have n6_:=Aside0.mk (blk_below (g:=gb1698) (o:=.cells #[.slice Ao20 t1693.length co20] 42 (0,0)) (by exact BK1698.out) hb); have n7_:=Aside0.mk (below_step (by repeat (((with_reducible (exact HB.out))))) hb); clear HO_1687000; clear HO_1693000; clear HO_1699000; clear BK1686; clear BK1692; clear BK1698; clear HB; have HO_1687000:=n0_; have HO_1693000:=n1_; have HO_1699000:=n2_; have HO1702:=n3_; have BK1686:=n4_; have BK1692:=n5_; have BK1698:=n6_; have HB:=n7_; clear n0_ n1_ n2_ n3_ n4_ n5_ n6_ n7_; (try clear hb); (try clear hb2); (try clear hk); (try clear hi); (try clear ho0))|((with_reducible refine gate_dst (N:=12) rfl ?_); (try (refine gate_guard (by rfl) ?_; dsimp only)); refine box_event ?hg (N:=12) ?hd (cs:=#[.slice none 0 0]) (t:=42) ?hr ?_; (case hd => rfl); (case hg => rfl); (case hr => (go_simp; done)); intro gb1705 hg w45 hbox hb; have n0_:=Aside0.mk (Kd.Q_below (by exact HO_1687000.out) hb); have n1_:=Aside0.mk (Kd.Q_below (by exact HO_1693000.out) hb); have n2_:=Aside0.mk (Kd.Q_below (by exact HO_1699000.out) hb); have n3_:=Aside0.mk (Kd.S_below (by exact HO1702.out) hb); have n4_:=Aside0.mk (blk_below (g:=gb1686) (o:=.cells #[.slice Ao10 t1681.length co10] 42 (0,0)) (by exact BK1686.out) hb); have n5_:=Aside0.mk (blk_below (g:=gb1692) (o:=.cells #[.slice Ao14 t1687.length co14] 42 (0,0)) (by exact BK1692.out) hb); have n6_:=Aside0.mk (blk_below (g:=gb1698) (o:=.cells #[.slice Ao20 t1693.length co20] 42 (0,0)) (by exact BK1698.out) hb); have n7_:=Aside0.mk (below_step (by repeat (((with_reducible (exact HB.out))))) hb); have n8_:=Aside0.mk (hbox); have n9_:=Aside0.mk ((by rw [hg]; exact (below_size (by repeat (((with_reducible (exact HB.out)))))) : w.heap.size ≤ gb1705)); have n10_:=Aside0.mk ((by rw [hg]; exact (below_size (by repeat (((with_reducible (exact HB.out)))))) : w.heap.size ≤ gb1705)); have n11_:=Aside0.mk ((by rw [hg]; exact Nat.ne_of_lt (blk_lt (g:=gb1686) (o:=.cells #[.slice Ao10 t1681.length co10] 42 (0,0)) (by exact BK1686.out)) : gb1686 ≠ gb1705)); have n12_:=Aside0.mk ((by rw [hg]; exact Nat.ne_of_gt (blk_lt (g:=gb1686) (o:=.cells #[.slice Ao10 t1681.length co10] 42 (0,0)) (by exact BK1686.out)) : gb1705 ≠ gb1686)); have n13_:=Aside0.mk ((by rw [hg]; exact Nat.ne_of_lt (blk_lt (g:=gb1692) (o:=.cells #[.slice Ao14 t1687.length co14] 42 (0,0)) (by exact BK1692.out)) : gb1692 ≠ gb1705)); have n14_:=Aside0.mk ((by rw [hg]; exact Nat.ne_of_gt (blk_lt (g:=gb1692) (o:=.cells #[.slice Ao14 t1687.length co14] 42 (0,0)) (by exact BK1692.out)) : gb1705 ≠ gb1692)); have n15_:=Aside0.mk ((by rw [hg]; exact Nat.ne_of_lt (blk_lt (g:=gb1698) (o:=.cells #[.slice Ao20 t1693.length co20] 42 (0,0)) (by exact BK1698.out)) : gb1698 ≠ gb1705)); have n16_:=Aside0.mk ((by rw [hg]; exact Nat.ne_of_gt (blk_lt (g:=gb1698) (o:=.cells #[.slice Ao20 t1693.length co20] 42 (0,0)) (by exact BK1698.out)) : gb1705 ≠ gb1698)); clear HO_1687000; clear HO_1693000; clear HO_1699000; clear HO1702; clear BK1686; clear BK1692; clear BK1698; clear HB; have HO_1687000:=n0_; have HO_1693000:=n1_; have HO_1699000:=n2_; have HO1702:=n3_; have BK1686:=n4_; have BK1692:=n5_; have BK1698:=n6_; have HB:=n7_; have BK1705:=n8_; have GW1705:=n9_; have GE1705:=n10_; have NB1686_1705:=n11_; have NB1705_1686:=n12_; have NB1692_1705:=n13_; have NB1705_1692:=n14_; have NB1698_1705:=n15_; have NB1705_1698:=n16_; clear n0_ n1_ n2_ n3_ n4_ n5_ n6_ n7_ n8_ n9_ n10_ n11_ n12_ n13_ n14_ n15_ n16_; clear hb hbox hg; obtain ⟨Ao46,co46,eo46⟩:=Kd.S_slice HO1702.out; subst eo46; have hnb47:=NB1705_1686.out; have hnc47:=NB1686_1705.out; have hnb48:=NB1705_1692.out; have hnc48:=NB1692_1705.out; have hnb49:=NB1705_1698.out; have hnc49:=NB1698_1705.out; have hcz50_0 : w45.cell? ⟨gb1705,0,none⟩ = some (.slice none 0 0):=(blk_cell BK1705.out 0).trans rfl; have hfz50_0:=blk_frozen BK1705.out 0; have hnb51:=NB1686_1698.out; have hnc51:=NB1698_1686.out; have hcz52_0 : w45.cell? ⟨gb1686,0,none⟩ = some (.slice Ao10 t1681.length co10):=(blk_cell BK1686.out 0).trans rfl; have hfz52_0:=blk_frozen BK1686.out 0)|(go_at_call 39; (with_reducible refine (laws_vYard.calls kj6 _ _ t1700 _ _ t1681 true _ ?side1 ?side2 ?side3 ?side4 A39.out).mono ?_); (case side1 => refine (Kd.S_reads' (e:=24) (base:=w.heap.size) (ok:=fun k_ => (((True ∧ some k_ ≠ (.slice Ao10 t1681.length co10 : Value).ownBlock) ∧ some k_ ≠ (.slice Ao14 t1687.length co14 : Value).ownBlock) ∧ some k_ ≠ (.slice Ao20 t1693.length co20 : Value).ownBlock)) (n:=t1700.length) (c:=co46) ?_).2.2; exact (by exact (Kd.S_mono (Kd.S_far (p:=⟨gb1705,0,none⟩) (Kd.S_types HO1702.out BK1705.out (by decide)) (fun _ hk => hk.2) (.slice Ao46 t1700.length co46)) (fun _ h_ => h_.1)))); (case side2 => exact (Kd.S_reads' HO1702.out).2.1); (case side3 => refine (Kd.Q_reads' (e:=24) (base:=w.heap.size) (ok:=fun k_ => ((some k_ ≠ (.slice Ao14 t1687.length co14 : Value).ownBlock ∧ some k_ ≠ (.slice Ao20 t1693.length co20 : Value).ownBlock) ∧ some k_ ≠ (.slice Ao46 t1700.length co46 : Value).ownBlock)) (n:=t1681.length) (c:=co10) ?_).2.2; exact (by exact (Kd.Q_mono (Kd.Q_far (p:=⟨gb1705,0,none⟩) (Kd.Q_types HO_1687000.out BK1705.out (by decide)) (fun _ hk => hk.2) (.slice Ao46 t1700.length co46)) (fun _ h_ => h_.1)))); (case side4 => exact (Kd.Q_reads' HO_1687000.out).2.1); rintro e w53 ⟨rfl,hb⟩; have n0_:=Aside0.mk (Kd.Q_below (by exact (Kd.Q_mono (Kd.Q_far (p:=⟨gb1705,0,none⟩) (Kd.Q_types HO_1687000.out BK1705.out (by decide)) (fun _ hk => hk.2) (.slice Ao46 t1700.length co46)) (fun _ h_ => h_.1))) hb); have n1_:=Aside0.mk (Kd.Q_below (by exact (Kd.Q_mono (Kd.Q_far (p:=⟨gb1705,0,none⟩) (Kd.Q_types HO_1693000.out BK1705.out (by decide)) (fun _ hk => hk.2) (.slice Ao46 t1700.length co46)) (fun _ h_ => h_.1))) hb); have n2_:=Aside0.mk (Kd.Q_below (by exact (Kd.Q_mono (Kd.Q_far (p:=⟨gb1705,0,none⟩) (Kd.Q_types HO_1699000.out BK1705.out (by decide)) (fun _ hk => hk.2) (.slice Ao46 t1700.length co46)) (fun _ h_ => h_.1))) hb); have n3_:=Aside0.mk (Kd.S_below (by exact (Kd.S_mono (Kd.S_far (p:=⟨gb1705,0,none⟩) (Kd.S_types HO1702.out BK1705.out (by decide)) (fun _ hk => hk.2) (.slice Ao46 t1700.length co46)) (fun _ h_ => h_.1))) hb); have n4_:=Aside0.mk (blk_below (g:=gb1686) (o:=.cells #[.slice Ao10 t1681.length co10] 42 (0,0)) (by refine blk_far ?_ NB1686_1705.out _; exact BK1686.out) hb); have n5_:=Aside0.mk (blk_below (g:=gb1692) (o:=.cells #[.slice Ao14 t1687.length co14] 42 (0,0)) (by refine blk_far ?_ NB1692_1705.out _; exact BK1692.out) hb); have n6_:=Aside0.mk (blk_below (g:=gb1698) (o:=.cells #[.slice Ao20 t1693.length co20] 42 (0,0)) (by refine blk_far ?_ NB1698_1705.out _; exact BK1698.out) hb); have n7_:=Aside0.mk (blk_below (g:=gb1705) (o:=.cells #[.slice Ao46 t1700.length co46] 42 (0,0)) (by refine blk_put (cs:=#[.slice none 0 0]) ?_ 0 _ rfl; exact BK1705.out) hb); have n8_:=Aside0.mk (below_step (by repeat (with_reducible first|exact HB.out|refine below_set ?_ GE1705.out)) hb); clear HO_1687000; clear HO_1693000; clear HO_1699000; clear HO1702; clear BK1686; clear BK1692; clear BK1698; clear BK1705; clear HB; have HO_1687000:=n0_; have HO_1693000:=n1_; have HO_1699000:=n2_; have HO1702:=n3_; have BK1686:=n4_; have BK1692:=n5_; have BK1698:=n6_; have BK1705:=n7_; have HB:=n8_; clear n0_ n1_ n2_ n3_ n4_ n5_ n6_ n7_ n8_; (try clear hb); (try clear hb2); (try clear hk); (try clear hi)))
          go_meet
          case rel => exact ⟨_,H',⟨by have:=HJ6.out; (omega)⟩,⟨by exact Kd.Q_mono HO_1687000.out (fun _ hk => ⟨hk.1.1,hk.1.2⟩)⟩,⟨by exact Kd.Q_mono HO_1693000.out (fun _ hk => ⟨hk.1.1,hk.1.2⟩)⟩,⟨by exact Kd.Q_mono HO_1699000.out (fun _ hk => ⟨hk.1.1,hk.1.2⟩)⟩,⟨by exact BK1686.out⟩,⟨by exact BK1692.out⟩,⟨by exact BK1698.out⟩,⟨by repeat (((with_reducible (exact HB.out))))⟩⟩
         ·replace c40:=Bool.eq_false_iff.mpr c40
          subst c40
          have H1 : (none) = some r:=by rw [if_neg (show ¬ (false = true) by decide)] at H; exact H
          clear H
          have H:=H1
          clear H1
          exact absurd H (by simp)
        ·rw [if_neg c38] at H
         have c38b0 : (t1703 == t1690) = false:=beq_eq_false_iff_ne.mpr c38
         have c38b1 : (t1703 != t1690) = true:=bne_iff_ne.mpr c38
         (skip)
         exact absurd H (by simp)
       ·replace c37:=Bool.eq_false_iff.mpr c37
        subst c37
        have H1 : (none) = some r:=by rw [if_neg (show ¬ (false = true) by decide)] at H; exact H
        clear H
        have H:=H1
        clear H1
        exact absurd H (by simp)
      ·replace c35:=Bool.eq_false_iff.mpr c35
       subst c35
       have H1 : (lw.j1 kj6 l0) = some r:=by rw [if_neg (show ¬ (false = true) by decide)] at H; exact H
       clear H
       have H:=H1
       clear H1
       have H':=Aside0.mk H
       clear H
       go_wp2
       go_meet
       case rel => exact ⟨_,H',⟨by have:=HJ6.out; (omega)⟩,⟨by exact HO_1687000.out⟩,⟨by exact HO_1693000.out⟩,⟨by exact HO_1699000.out⟩,⟨by exact BK1686.out⟩,⟨by exact BK1692.out⟩,⟨by exact BK1698.out⟩,⟨by repeat (((with_reducible (exact HB.out))))⟩⟩
     case rest =>
      clear HC34
      try clear c1
      try clear c2
      try clear p2
      try clear c3
      try clear c4
      try clear c5
      try clear c6
      try clear c7
      try clear c8
      try clear c12
      try clear c15
      try clear c21
      try clear c22
      try clear c24
      try clear c24b0
      try clear c24b1
      try clear c24b2
      try clear c25
      try clear c25b0
      try clear c25b1
      try clear c27
      try clear c28
      try clear c29
      try clear c30
      try clear c31
      try clear c33
      try clear c35
      try clear c37
      try clear c38
      try clear c38b0
      try clear c38b1
      try clear c40
      try clear c41
      try clear c42
      try clear c47
      try clear c48
      try clear c49
      try clear c51
      try clear c54
      try clear c55
      try clear c60
      try clear c61
      try clear c62
      try clear c64
      try clear c67
      try clear c68
      try clear c73
      try clear c74
      try clear c75
      try clear c77
      try clear c78
      try clear c83
      try clear c84
      try clear c85
      try clear c86
      try clear hcz11_0
      try clear hcz16_0
      try clear hcz17_0
      try clear hcz23_0
      try clear hcz29_0
      try clear hcz31_0
      try clear hcz43_0
      try clear hcz50_0
      try clear hcz52_0
      try clear hcz56_0
      try clear hcz63_0
      try clear hcz65_0
      try clear hcz69_0
      try clear hcz76_0
      try clear hcz79_0
      try clear hcz86_0
      try clear hfz11_0
      try clear hfz16_0
      try clear hfz17_0
      try clear hfz23_0
      try clear hfz29_0
      try clear hfz31_0
      try clear hfz43_0
      try clear hfz50_0
      try clear hfz52_0
      try clear hfz56_0
      try clear hfz63_0
      try clear hfz65_0
      try clear hfz69_0
      try clear hfz76_0
      try clear hfz79_0
      try clear hfz86_0
      try clear p2
      obtain ⟨kq,HA,HJ33,HO_1687000,HO_1693000,HO_1699000,BK1686,BK1692,BK1698,HB⟩:=hcut
      cases kq with
      | zero => exact absurd HA.out (by simp [lw.j1])
      | succ kj33 =>
       have H:=HA.out
       clear HA
       simp only [lw.j1] at H
       replace H:=Option.bind_eq_some_iff.mp H
       obtain ⟨⟨t1707,t1710⟩,A870,H⟩:=H
       replace H : ((impl_BlockersOf.f kj33 t1707 t1710).bind fun bt1712 => ((spec_BlockersOf.f kj33 t1707 t1710).bind fun bt1716 => (if (bt1712.2 != bt1716.2) = true then (none) else ((laws_vInts.f kj33 bt1712.1 bt1716.1).bind fun t1720 => (lw.j2 kj33 l0 t1710 bt1712.1 bt1712.2 (!t1720) t1707))))) = some r:=H
       have A87:=Aside0.mk A870
       clear A870
       replace H:=Option.bind_eq_some_iff.mp H
       obtain ⟨⟨t1712,t1715⟩,A880,H⟩:=H
       replace H : ((spec_BlockersOf.f kj33 t1707 t1710).bind fun bt1716 => (if (t1715 != bt1716.2) = true then (none) else ((laws_vInts.f kj33 t1712 bt1716.1).bind fun t1720 => (lw.j2 kj33 l0 t1710 t1712 t1715 (!t1720) t1707)))) = some r:=H
       have A88:=Aside0.mk A880
       clear A880
       replace H:=Option.bind_eq_some_iff.mp H
       obtain ⟨⟨t1716,t1719⟩,A890,H⟩:=H
       replace H : (if (t1715 != t1719) = true then (none) else ((laws_vInts.f kj33 t1712 t1716).bind fun t1720 => (lw.j2 kj33 l0 t1710 t1712 t1715 (!t1720) t1707))) = some r:=H
       have A89:=Aside0.mk A890
       clear A890
       have HC90:=Aside0.mk H
       clear H
       go_upto_region 15 with (first|((with_reducible refine gate_callee (f:=87) rfl ?_); refine goesL_ (some 98) rfl rfl Try.func87 (by kernel_rfl) rfl #[.slice A0 l0.length c0] rfl (by (try simp only [List.map_toArray,List.map_cons,List.map_nil]); (rfl)) ?_; (with_reducible refine (spec_DrawBlockersOf.calls kj33 _ _ l0 t1707 t1710 _ ?side1 ?side2 A87.out).mono ?_); (case side1 => repeat ((exact (Kd.C_below HR0.out HB.out)))); (case side2 => exact HC0.out); rintro e w91 ⟨v1708,rfl,ho0,hb⟩; refine ⟨_,rfl,?_⟩; have n0_:=Aside0.mk (Kd.Q_elder' (by exact HO_1687000.out) (Kd.S_base ho0) hb); have n1_:=Aside0.mk (Kd.Q_elder' (by exact HO_1693000.out) (Kd.S_base ho0) hb); have n2_:=Aside0.mk (Kd.Q_elder' (by exact HO_1699000.out) (Kd.S_base ho0) hb); have n3_:=Aside0.mk (Kd.S_lower (Kd.S_new' (Kd.S_new' (Kd.S_new' ho0 (Kd.Q_lt (by exact HO_1687000.out))) (Kd.Q_lt (by exact HO_1693000.out))) (Kd.Q_lt (by exact HO_1699000.out))) (below_size (by repeat (((with_reducible (exact HB.out))))))); have n4_:=Aside0.mk (blk_below (g:=gb1686) (o:=.cells #[.slice Ao10 t1681.length co10] 42 (0,0)) (by exact BK1686.out) hb); have n5_:=Aside0.mk (blk_below (g:=gb1692) (o:=.cells #[.slice Ao14 t1687.length co14] 42 (0,0)) (by exact BK1692.out) hb); have n6_:=Aside0.mk (blk_below (g:=gb1698) (o:=.cells #[.slice Ao20 t1693.length co20] 42 (0,0)) (by exact BK1698.out) hb); have n7_:=Aside0.mk (below_step (by repeat (((with_reducible (exact HB.out))))) hb); clear HO_1687000; clear HO_1693000; clear HO_1699000; clear BK1686; clear BK1692; clear BK1698; clear HB; have HO_1687000:=n0_; have HO_1693000:=n1_; have HO_1699000:=n2_; have HO1709:=n3_; have BK1686:=n4_; have BK1692:=n5_; have BK1698:=n6_; have HB:=n7_; clear n0_ n1_ n2_ n3_ n4_ n5_ n6_ n7_; (try clear hb); (try clear hb2); (try clear hk); (try clear hi); (try clear ho0))|((with_reducible refine gate_dst (N:=15) rfl ?_); (try (refine gate_guard (by rfl) ?_; dsimp only)); refine box_event ?hg (N:=15) ?hd (cs:=#[.slice none 0 0]) (t:=42) ?hr ?_; (case hd => rfl); (case hg => rfl); (case hr => (go_simp; done)); intro gb1711 hg w92 hbox hb; have n0_:=Aside0.mk (Kd.Q_below (by exact HO_1687000.out) hb); have n1_:=Aside0.mk (Kd.Q_below (by exact HO_1693000.out) hb); have n2_:=Aside0.mk (Kd.Q_below (by exact HO_1699000.out) hb); have n3_:=Aside0.mk (Kd.S_below (by exact HO1709.out) hb); have n4_:=Aside0.mk (blk_below (g:=gb1686) (o:=.cells #[.slice Ao10 t1681.length co10] 42 (0,0)) (by exact BK1686.out) hb); have n5_:=Aside0.mk (blk_below (g:=gb1692) (o:=.cells #[.slice Ao14 t1687.length co14] 42 (0,0)) (by exact BK1692.out) hb); have n6_:=Aside0.mk (blk_below (g:=gb1698) (o:=.cells #[.slice Ao20 t1693.length co20] 42 (0,0)) (by exact BK1698.out) hb); have n7_:=Aside0.mk (below_step (by repeat (((with_reducible (exact HB.out))))) hb); have n8_:=Aside0.mk (hbox); have n9_:=Aside0.mk ((by rw [hg]; exact (below_size (by repeat (((with_reducible (exact HB.out)))))) : w.heap.size ≤ gb1711)); have n10_:=Aside0.mk ((by rw [hg]; exact (below_size (by repeat (((with_reducible (exact HB.out)))))) : w.heap.size ≤ gb1711)); have n11_:=Aside0.mk ((by rw [hg]; exact Nat.ne_of_lt (blk_lt (g:=gb1686) (o:=.cells #[.slice Ao10 t1681.length co10] 42 (0,0)) (by exact BK1686.out)) : gb1686 ≠ gb1711)); have n12_:=Aside0.mk ((by rw [hg]; exact Nat.ne_of_gt (blk_lt (g:=gb1686) (o:=.cells #[.slice Ao10 t1681.length co10] 42 (0,0)) (by exact BK1686.out)) : gb1711 ≠ gb1686)); have n13_:=Aside0.mk ((by rw [hg]; exact Nat.ne_of_lt (blk_lt (g:=gb1692) (o:=.cells #[.slice Ao14 t1687.length co14] 42 (0,0)) (by exact BK1692.out)) : gb1692 ≠ gb1711)); have n14_:=Aside0.mk ((by rw [hg]; exact Nat.ne_of_gt (blk_lt (g:=gb1692) (o:=.cells #[.slice Ao14 t1687.length co14] 42 (0,0)) (by exact BK1692.out)) : gb1711 ≠ gb1692)); have n15_:=Aside0.mk ((by rw [hg]; exact Nat.ne_of_lt (blk_lt (g:=gb1698) (o:=.cells #[.slice Ao20 t1693.length co20] 42 (0,0)) (by exact BK1698.out)) : gb1698 ≠ gb1711)); have n16_:=Aside0.mk ((by rw [hg]; exact Nat.ne_of_gt (blk_lt (g:=gb1698) (o:=.cells #[.slice Ao20 t1693.length co20] 42 (0,0)) (by exact BK1698.out)) : gb1711 ≠ gb1698)); clear HO_1687000; clear HO_1693000; clear HO_1699000; clear HO1709; clear BK1686; clear BK1692; clear BK1698; clear HB; have HO_1687000:=n0_; have HO_1693000:=n1_; have HO_1699000:=n2_; have HO1709:=n3_; have BK1686:=n4_; have BK1692:=n5_; have BK1698:=n6_; have HB:=n7_; have BK1711:=n8_; have GW1711:=n9_; have GE1711:=n10_; have NB1686_1711:=n11_; have NB1711_1686:=n12_; have NB1692_1711:=n13_; have NB1711_1692:=n14_; have NB1698_1711:=n15_; have NB1711_1698:=n16_; clear n0_ n1_ n2_ n3_ n4_ n5_ n6_ n7_ n8_ n9_ n10_ n11_ n12_ n13_ n14_ n15_ n16_; clear hb hbox hg; obtain ⟨Ao93,co93,eo93⟩:=Kd.S_slice HO1709.out; subst eo93; have hnb94:=NB1711_1686.out; have hnc94:=NB1686_1711.out; have hnb95:=NB1711_1692.out; have hnc95:=NB1692_1711.out; have hnb96:=NB1711_1698.out; have hnc96:=NB1698_1711.out; have hcz97_0 : w92.cell? ⟨gb1711,0,none⟩ = some (.slice none 0 0):=(blk_cell BK1711.out 0).trans rfl; have hfz97_0:=blk_frozen BK1711.out 0)|((with_reducible refine gate_callee (f:=45) rfl ?_); refine goesL_ (some 104) rfl rfl Try.func45 (by kernel_rfl) rfl #[.agg #[.slice Ao93 t1707.length co93],.int .i64 t1710] rfl (by (try simp only [List.map_toArray,List.map_cons,List.map_nil]); (rfl)) ?_; (with_reducible refine (impl_BlockersOf.calls kj33 _ _ t1707 t1710 t1712 t1715 _ ?side1 ?side2 A88.out).mono ?_); (case side1 => refine (Kd.S_reads' (e:=24) (base:=w.heap.size) (ok:=fun k_ => (((True ∧ some k_ ≠ (.slice Ao10 t1681.length co10 : Value).ownBlock) ∧ some k_ ≠ (.slice Ao14 t1687.length co14 : Value).ownBlock) ∧ some k_ ≠ (.slice Ao20 t1693.length co20 : Value).ownBlock)) (n:=t1707.length) (c:=co93) ?_).2.2; exact (by exact (Kd.S_mono (Kd.S_far (p:=⟨gb1711,0,none⟩) (Kd.S_types HO1709.out BK1711.out (by decide)) (fun _ hk => hk.2) (.slice Ao93 t1707.length co93)) (fun _ h_ => h_.1)))); (case side2 => exact (Kd.S_reads' HO1709.out).2.1); rintro e w98 ⟨v1713,rfl,ho0,hb⟩; refine ⟨_,rfl,?_⟩; have n0_:=Aside0.mk (Kd.Q_elder' (by exact (Kd.Q_mono (Kd.Q_far (p:=⟨gb1711,0,none⟩) (Kd.Q_types HO_1687000.out BK1711.out (by decide)) (fun _ hk => hk.2) (.slice Ao93 t1707.length co93)) (fun _ h_ => h_.1))) (Kd.R_base ho0) hb); have n1_:=Aside0.mk (Kd.Q_elder' (by exact (Kd.Q_mono (Kd.Q_far (p:=⟨gb1711,0,none⟩) (Kd.Q_types HO_1693000.out BK1711.out (by decide)) (fun _ hk => hk.2) (.slice Ao93 t1707.length co93)) (fun _ h_ => h_.1))) (Kd.R_base ho0) hb); have n2_:=Aside0.mk (Kd.Q_elder' (by exact (Kd.Q_mono (Kd.Q_far (p:=⟨gb1711,0,none⟩) (Kd.Q_types HO_1699000.out BK1711.out (by decide)) (fun _ hk => hk.2) (.slice Ao93 t1707.length co93)) (fun _ h_ => h_.1))) (Kd.R_base ho0) hb); have n3_:=Aside0.mk (Kd.S_elder' (by exact (Kd.S_mono (Kd.S_far (p:=⟨gb1711,0,none⟩) (Kd.S_types HO1709.out BK1711.out (by decide)) (fun _ hk => hk.2) (.slice Ao93 t1707.length co93)) (fun _ h_ => h_.1))) (Kd.R_base ho0) hb); have n4_:=Aside0.mk (Kd.R_lower ho0 (below_size (by repeat (with_reducible first|exact HB.out|refine below_set ?_ GE1711.out)))); have n5_:=Aside0.mk (blk_below (g:=gb1686) (o:=.cells #[.slice Ao10 t1681.length co10] 42 (0,0)) (by refine blk_far ?_ NB1686_1711.out _; exact BK1686.out) hb); have n6_:=Aside0.mk (blk_below (g:=gb1692) (o:=.cells #[.slice Ao14 t1687.length co14] 42 (0,0)) (by refine blk_far ?_ NB1692_1711.out _; exact BK1692.out) hb); have n7_:=Aside0.mk (blk_below (g:=gb1698) (o:=.cells #[.slice Ao20 t1693.length co20] 42 (0,0)) (by refine blk_far ?_ NB1698_1711.out _; exact BK1698.out) hb); have n8_:=Aside0.mk (blk_below (g:=gb1711) (o:=.cells #[.slice Ao93 t1707.length co93] 42 (0,0)) (by refine blk_put (cs:=#[.slice none 0 0]) ?_ 0 _ rfl; exact BK1711.out) hb); have n9_:=Aside0.mk (below_step (by repeat (with_reducible first|exact HB.out|refine below_set ?_ GE1711.out)) hb); clear HO_1687000; clear HO_1693000; clear HO_1699000; clear HO1709; clear BK1686; clear BK1692; clear BK1698; clear BK1711; clear HB; have HO_1687000:=n0_; have HO_1693000:=n1_; have HO_1699000:=n2_; have HO1709:=n3_; have HO1714:=n4_; have BK1686:=n5_; have BK1692:=n6_; have BK1698:=n7_; have BK1711:=n8_; have HB:=n9_; clear n0_ n1_ n2_ n3_ n4_ n5_ n6_ n7_ n8_ n9_; (try clear hb); (try clear hb2); (try clear hk); (try clear hi); (try clear ho0); have hcz99_0 : w98.cell? ⟨gb1711,0,none⟩ = some (.slice Ao93 t1707.length co93):=(blk_cell BK1711.out 0).trans rfl; have hfz99_0:=blk_frozen BK1711.out 0)|((with_reducible refine gate_callee (f:=88) rfl ?_); refine goesL_ (some 110) rfl rfl Try.func88 (by kernel_rfl) rfl #[.agg #[.slice Ao93 t1707.length co93],.int .i64 t1710] rfl (by (try simp only [List.map_toArray,List.map_cons,List.map_nil]); (rfl)) ?_; (with_reducible refine (spec_BlockersOf.calls kj33 _ _ t1707 t1710 t1716 t1719 _ ?side1 ?side2 A89.out).mono ?_); (case side1 => repeat ((exact (Kd.S_reads' HO1709.out).2.2))); (case side2 => exact (Kd.S_reads' HO1709.out).2.1); rintro e w100 ⟨v1717,rfl,ho0,hb⟩; refine ⟨_,rfl,?_⟩; have n0_:=Aside0.mk (Kd.Q_elder' (by exact HO_1687000.out) (Kd.R_base ho0) hb); have n1_:=Aside0.mk (Kd.Q_elder' (by exact HO_1693000.out) (Kd.R_base ho0) hb); have n2_:=Aside0.mk (Kd.Q_elder' (by exact HO_1699000.out) (Kd.R_base ho0) hb); have n3_:=Aside0.mk (Kd.S_elder' (by exact HO1709.out) (Kd.R_base ho0) hb); have n4_:=Aside0.mk (Kd.R_elder' (by exact HO1714.out) (Kd.R_base ho0) hb); have n5_:=Aside0.mk (Kd.R_lower (Kd.R_new' ho0 (Kd.R_lt (by exact HO1714.out))) (below_size (by repeat (((with_reducible (exact HB.out))))))); have n6_:=Aside0.mk (blk_below (g:=gb1686) (o:=.cells #[.slice Ao10 t1681.length co10] 42 (0,0)) (by exact BK1686.out) hb); have n7_:=Aside0.mk (blk_below (g:=gb1692) (o:=.cells #[.slice Ao14 t1687.length co14] 42 (0,0)) (by exact BK1692.out) hb); have n8_:=Aside0.mk (blk_below (g:=gb1698) (o:=.cells #[.slice Ao20 t1693.length co20] 42 (0,0)) (by exact BK1698.out) hb); have n9_:=Aside0.mk (blk_below (g:=gb1711) (o:=.cells #[.slice Ao93 t1707.length co93] 42 (0,0)) (by exact BK1711.out) hb); have n10_:=Aside0.mk (below_step (by repeat (((with_reducible (exact HB.out))))) hb); clear HO_1687000; clear HO_1693000; clear HO_1699000; clear HO1709; clear HO1714; clear BK1686; clear BK1692; clear BK1698; clear BK1711; clear HB; have HO_1687000:=n0_; have HO_1693000:=n1_; have HO_1699000:=n2_; have HO1709:=n3_; have HO1714:=n4_; have HO1718:=n5_; have BK1686:=n6_; have BK1692:=n7_; have BK1698:=n8_; have BK1711:=n9_; have HB:=n10_; clear n0_ n1_ n2_ n3_ n4_ n5_ n6_ n7_ n8_ n9_ n10_; (try clear hb); (try clear hb2); (try clear hk); (try clear hi); (try clear ho0)))
       (try simp only [Act.put,List.setIfInBounds_toArray,List.set_cons_zero,List.set_cons_succ])
       go_cut [121] (fun v121 wc => ∃ (kq : Nat) (x121_89 : Bool),v121 = .bool x121_89 ∧ Aside0 (lw.j2 kq l0 t1710 t1712 t1715 x121_89 t1707 = some r) ∧ Aside0 (kq ≤ kj33) ∧ Aside0 (Kd.R (Kd.int .i64) 3 wc w.heap.size (fun _ => True) v1713 t1712) ∧ Aside0 (Kd.Q (Kd.slice 3 (Kd.int .i64)) 24 wc w.heap.size (fun k_ => some k_ ≠ (v1713 : Value).ownBlock ∧ some k_ ≠ ((.slice Ao14 t1687.length co14) : Value).ownBlock ∧ some k_ ≠ ((.slice Ao20 t1693.length co20) : Value).ownBlock ∧ some k_ ≠ ((.slice Ao93 t1707.length co93) : Value).ownBlock) (.slice Ao10 t1681.length co10) t1681) ∧ Aside0 (Kd.Q (Kd.slice 3 (Kd.int .i64)) 24 wc w.heap.size (fun k_ => some k_ ≠ (v1713 : Value).ownBlock ∧ some k_ ≠ ((.slice Ao10 t1681.length co10) : Value).ownBlock ∧ some k_ ≠ ((.slice Ao20 t1693.length co20) : Value).ownBlock ∧ some k_ ≠ ((.slice Ao93 t1707.length co93) : Value).ownBlock) (.slice Ao14 t1687.length co14) t1687) ∧ Aside0 (Kd.Q (Kd.slice 3 (Kd.int .i64)) 24 wc w.heap.size (fun k_ => some k_ ≠ (v1713 : Value).ownBlock ∧ some k_ ≠ ((.slice Ao10 t1681.length co10) : Value).ownBlock ∧ some k_ ≠ ((.slice Ao14 t1687.length co14) : Value).ownBlock ∧ some k_ ≠ ((.slice Ao93 t1707.length co93) : Value).ownBlock) (.slice Ao20 t1693.length co20) t1693) ∧ Aside0 (Kd.Q (Kd.slice 3 (Kd.int .i64)) 24 wc w.heap.size (fun k_ => some k_ ≠ (v1713 : Value).ownBlock ∧ some k_ ≠ ((.slice Ao10 t1681.length co10) : Value).ownBlock ∧ some k_ ≠ ((.slice Ao14 t1687.length co14) : Value).ownBlock ∧ some k_ ≠ ((.slice Ao20 t1693.length co20) : Value).ownBlock) (.slice Ao93 t1707.length co93) t1707) ∧ Aside0 (wc.heap[gb1686]? = some (.cells #[(.slice Ao10 t1681.length co10)] 42 (0,0))) ∧ Aside0 (wc.heap[gb1692]? = some (.cells #[(.slice Ao14 t1687.length co14)] 42 (0,0))) ∧ Aside0 (wc.heap[gb1698]? = some (.cells #[(.slice Ao20 t1693.length co20)] 42 (0,0))) ∧ Aside0 (wc.heap[gb1711]? = some (.cells #[(.slice Ao93 t1707.length co93)] 42 (0,0))) ∧ Aside0 (Below w.heap.size w wc))
       case first =>
        have H:=HC90.out
        clear HC90
        by_cases c101 : (t1715 != t1719) = true
        ·rw [if_pos c101] at H
         have c101b0 : (t1715 != t1719) = true:=c101
         (try (have c101b1 : decide (t1715 = t1719) = false:=by simpa using c101))
         (try (have c101b2 : (t1715 == t1719) = false:=by simpa using c101))
         (try (have c101b3 : ¬ (t1715 = t1719):=by simpa using c101))
         clear c101
         (skip)
         exact absurd H (by simp)
        ·rw [if_neg c101] at H
         have c101b0 : (t1715 != t1719) = false:=by simpa using c101
         (try (have c101b1 : decide (t1715 = t1719) = true:=by simpa using c101))
         (try (have c101b2 : (t1715 == t1719) = true:=by simpa using c101))
         clear c101
         (skip)
         replace H:=Option.bind_eq_some_iff.mp H
         obtain ⟨t1720,A1020,H⟩:=H
         replace H : (lw.j2 kj33 l0 t1710 t1712 t1715 (!t1720) t1707) = some r:=H
         have A102:=Aside0.mk A1020
         clear A1020
         have H':=Aside0.mk H
         clear H
         obtain ⟨Ao103,co103,eo103⟩:=Kd.R_slice HO1714.out
         subst eo103
         obtain ⟨Ao104,co104,eo104⟩:=Kd.R_slice HO1718.out
         subst eo104
         go_wp2_with (((go_at_call 71; (with_reducible refine (laws_vInts.calls kj33 _ _ t1712 _ _ t1716 t1720 _ ?side1 ?side2 ?side3 ?side4 A102.out).mono ?_); (case side1 => repeat ((exact (Kd.R_reads' HO1714.out).2.2))); (case side2 => exact (Kd.R_reads' HO1714.out).2.1); (case side3 => repeat ((exact (Kd.R_reads' HO1718.out).2.2))); (case side4 => exact (Kd.R_reads' HO1718.out).2.1); rintro e w' ⟨rfl,⟨nd,rfl⟩⟩)))
         go_meet
         case rel => exact ⟨_,(!t1720),(by (rfl)),H',⟨by have:=HJ6.out; have:=HJ33.out; (omega)⟩,⟨by (with_reducible repeat (apply Kd.R_drewN)); exact Kd.R_mono HO1714.out (fun _ hk => trivial)⟩,⟨by (with_reducible repeat (apply Kd.Q_drewN)); exact Kd.Q_mono HO_1687000.out (fun _ hk => ⟨hk.1.2,⟨hk.1.1.1.1,⟨hk.1.1.1.2,hk.1.1.2⟩⟩⟩)⟩,⟨by (with_reducible repeat (apply Kd.Q_drewN)); exact Kd.Q_mono HO_1693000.out (fun _ hk => ⟨hk.1.2,⟨hk.1.1.1.1,⟨hk.1.1.1.2,hk.1.1.2⟩⟩⟩)⟩,⟨by (with_reducible repeat (apply Kd.Q_drewN)); exact Kd.Q_mono HO_1699000.out (fun _ hk => ⟨hk.1.2,⟨hk.1.1.1.1,⟨hk.1.1.1.2,hk.1.1.2⟩⟩⟩)⟩,⟨Kd.Q_of_R ((Kd.S_R (by (with_reducible repeat (apply Kd.S_drewN)); exact Kd.S_mono HO1709.out (fun _ hk => ⟨hk.1.2,⟨hk.1.1.1.1.2,⟨hk.1.1.1.2,hk.1.1.2⟩⟩⟩))))⟩,⟨by (with_reducible repeat (refine blk_drewN ?_ _)); exact BK1686.out⟩,⟨by (with_reducible repeat (refine blk_drewN ?_ _)); exact BK1692.out⟩,⟨by (with_reducible repeat (refine blk_drewN ?_ _)); exact BK1698.out⟩,⟨by (with_reducible repeat (refine blk_drewN ?_ _)); exact BK1711.out⟩,⟨by repeat (with_reducible first|exact HB.out|apply pw_below_drewN)⟩⟩
       case rest =>
        clear HC90
        try clear c1
        try clear c2
        try clear p2
        try clear c3
        try clear c4
        try clear c5
        try clear c6
        try clear c7
        try clear c8
        try clear c9
        try clear c10
        try clear c12
        try clear c15
        try clear c21
        try clear c22
        try clear c24
        try clear c24b0
        try clear c24b1
        try clear c24b2
        try clear c25
        try clear c25b0
        try clear c25b1
        try clear c27
        try clear c28
        try clear c29
        try clear c30
        try clear c31
        try clear c33
        try clear c35
        try clear c37
        try clear c38
        try clear c38b0
        try clear c38b1
        try clear c40
        try clear c41
        try clear c42
        try clear c45
        try clear c47
        try clear c48
        try clear c49
        try clear c51
        try clear c54
        try clear c55
        try clear c60
        try clear c61
        try clear c62
        try clear c64
        try clear c67
        try clear c68
        try clear c73
        try clear c74
        try clear c75
        try clear c77
        try clear c78
        try clear c83
        try clear c84
        try clear c85
        try clear c86
        try clear c87
        try clear c88
        try clear c94
        try clear c95
        try clear c96
        try clear c101
        try clear c101b0
        try clear c101b1
        try clear c101b2
        try clear hcz11_0
        try clear hcz16_0
        try clear hcz17_0
        try clear hcz23_0
        try clear hcz29_0
        try clear hcz31_0
        try clear hcz43_0
        try clear hcz50_0
        try clear hcz52_0
        try clear hcz56_0
        try clear hcz63_0
        try clear hcz65_0
        try clear hcz69_0
        try clear hcz76_0
        try clear hcz79_0
        try clear hcz86_0
        try clear hcz97_0
        try clear hcz99_0
        try clear hfz11_0
        try clear hfz16_0
        try clear hfz17_0
        try clear hfz23_0
        try clear hfz29_0
        try clear hfz31_0
        try clear hfz43_0
        try clear hfz50_0
        try clear hfz52_0
        try clear hfz56_0
        try clear hfz63_0
        try clear hfz65_0
        try clear hfz69_0
        try clear hfz76_0
        try clear hfz79_0
        try clear hfz86_0
        try clear hfz97_0
        try clear hfz99_0
        try clear p2
        obtain ⟨kq,x121_89,rfl,HA,HJ89,HO_17,HO_1687000,HO_1693000,HO_1699000,HO_1712000,BK1686,BK1692,BK1698,BK1711,HB⟩:=hcut
        cases kq with
        | zero => exact absurd HA.out (by simp [lw.j2])
        | succ kj89 =>
         have H:=HA.out
         clear HA
         simp only [lw.j2] at H
         by_cases c105 : x121_89 = true
         ·subst c105
          have H1 : (none) = some r:=by rw [if_pos rfl] at H; exact H
          clear H
          have H:=H1
          clear H1
          exact absurd H (by simp)
         ·replace c105:=Bool.eq_false_iff.mpr c105
          subst c105
          have H1 : ((impl_PlaceOf.f kj89 t1707 t1710).bind fun bt1721 => (lw.l0 kj89 l0 t1712 t1715 bt1721.2.1 bt1721.2.2 0 t1707)) = some r:=by rw [if_neg (show ¬ (false = true) by decide)] at H; exact H
          clear H
          have H:=H1
          clear H1
          replace H:=Option.bind_eq_some_iff.mp H
          obtain ⟨⟨t1721,t1722,t1723⟩,A1060,H⟩:=H
          replace H : (lw.l0 kj89 l0 t1712 t1715 t1722 t1723 0 t1707) = some r:=H
          have A106:=Aside0.mk A1060
          clear A1060
          have H':=Aside0.mk H
          clear H
          have hnb107:=NB1711_1686.out
          have hnc107:=NB1686_1711.out
          have hnb108:=NB1711_1692.out
          have hnc108:=NB1692_1711.out
          have hnb109:=NB1711_1698.out
          have hnc109:=NB1698_1711.out
          have hcz110_0 : wc.cell? ⟨gb1711,0,none⟩ = some (.slice Ao93 t1707.length co93):=(blk_cell BK1711.out 0).trans rfl
          have hfz110_0:=blk_frozen BK1711.out 0
          go_wp2_with ((((with_reducible refine gate_callee (f:=43) rfl ?_); refine goesL_ (some 125) rfl rfl Try.func43 (by kernel_rfl) rfl #[.agg #[.slice Ao93 t1707.length co93],.int .i64 t1710] rfl (by (try simp only [List.map_toArray,List.map_cons,List.map_nil]); (rfl)) ?_; (with_reducible refine (impl_PlaceOf.calls kj89 _ _ t1707 t1710 t1721 t1722 t1723 _ ?side1 ?side2 A106.out).mono ?_); (case side1 => repeat ((exact (Kd.Q_reads' HO_1712000.out).2.2))); (case side2 => exact (Kd.Q_reads' HO_1712000.out).2.1); rintro e w111 ⟨rfl,hb⟩; refine ⟨_,rfl,?_⟩; have n0_:=Aside0.mk (Kd.R_below (by exact HO_17.out) hb); have n1_:=Aside0.mk (Kd.Q_below (by exact HO_1687000.out) hb); have n2_:=Aside0.mk (Kd.Q_below (by exact HO_1693000.out) hb); have n3_:=Aside0.mk (Kd.Q_below (by exact HO_1699000.out) hb); have n4_:=Aside0.mk (Kd.Q_below (by exact HO_1712000.out) hb); have n5_:=Aside0.mk (blk_below (g:=gb1686) (o:=.cells #[.slice Ao10 t1681.length co10] 42 (0,0)) (by exact BK1686.out) hb); have n6_:=Aside0.mk (blk_below (g:=gb1692) (o:=.cells #[.slice Ao14 t1687.length co14] 42 (0,0)) (by exact BK1692.out) hb); have n7_:=Aside0.mk (blk_below (g:=gb1698) (o:=.cells #[.slice Ao20 t1693.length co20] 42 (0,0)) (by exact BK1698.out) hb); have n8_:=Aside0.mk (blk_below (g:=gb1711) (o:=.cells #[.slice Ao93 t1707.length co93] 42 (0,0)) (by exact BK1711.out) hb); have n9_:=Aside0.mk (below_step (by repeat (((with_reducible (exact HB.out))))) hb); clear HO_17; clear HO_1687000; clear HO_1693000; clear HO_1699000; clear HO_1712000; clear BK1686; clear BK1692; clear BK1698; clear BK1711; clear HB; have HO_17:=n0_; have HO_1687000:=n1_; have HO_1693000:=n2_; have HO_1699000:=n3_; have HO_1712000:=n4_; have BK1686:=n5_; have BK1692:=n6_; have BK1698:=n7_; have BK1711:=n8_; have HB:=n9_; clear n0_ n1_ n2_ n3_ n4_ n5_ n6_ n7_ n8_ n9_; (try clear hb); (try clear hb2); (try clear hk); (try clear hi))))
          go_loopg [24] kj89 (fun kq v24 w' => ∃ (x24_4 : Int),v24 = .int .i64 x24_4 ∧ Aside0 (lw.l0 kq l0 t1712 t1715 t1722 t1723 x24_4 t1707 = some r) ∧ Aside0 (kq ≤ kj89) ∧ Aside0 (Kd.R (Kd.int .i64) 3 w' w.heap.size (fun _ => True) v1713 t1712) ∧ Aside0 (Kd.Q (Kd.slice 3 (Kd.int .i64)) 24 w' w.heap.size (fun k_ => some k_ ≠ (v1713 : Value).ownBlock ∧ some k_ ≠ ((.slice Ao14 t1687.length co14) : Value).ownBlock ∧ some k_ ≠ ((.slice Ao20 t1693.length co20) : Value).ownBlock ∧ some k_ ≠ ((.slice Ao93 t1707.length co93) : Value).ownBlock) (.slice Ao10 t1681.length co10) t1681) ∧ Aside0 (Kd.Q (Kd.slice 3 (Kd.int .i64)) 24 w' w.heap.size (fun k_ => some k_ ≠ (v1713 : Value).ownBlock ∧ some k_ ≠ ((.slice Ao10 t1681.length co10) : Value).ownBlock ∧ some k_ ≠ ((.slice Ao20 t1693.length co20) : Value).ownBlock ∧ some k_ ≠ ((.slice Ao93 t1707.length co93) : Value).ownBlock) (.slice Ao14 t1687.length co14) t1687) ∧ Aside0 (Kd.Q (Kd.slice 3 (Kd.int .i64)) 24 w' w.heap.size (fun k_ => some k_ ≠ (v1713 : Value).ownBlock ∧ some k_ ≠ ((.slice Ao10 t1681.length co10) : Value).ownBlock ∧ some k_ ≠ ((.slice Ao14 t1687.length co14) : Value).ownBlock ∧ some k_ ≠ ((.slice Ao93 t1707.length co93) : Value).ownBlock) (.slice Ao20 t1693.length co20) t1693) ∧ Aside0 (Kd.Q (Kd.slice 3 (Kd.int .i64)) 24 w' w.heap.size (fun k_ => some k_ ≠ (v1713 : Value).ownBlock ∧ some k_ ≠ ((.slice Ao10 t1681.length co10) : Value).ownBlock ∧ some k_ ≠ ((.slice Ao14 t1687.length co14) : Value).ownBlock ∧ some k_ ≠ ((.slice Ao20 t1693.length co20) : Value).ownBlock) (.slice Ao93 t1707.length co93) t1707) ∧ Aside0 (w'.heap[gb1686]? = some (.cells #[(.slice Ao10 t1681.length co10)] 42 (0,0))) ∧ Aside0 (w'.heap[gb1692]? = some (.cells #[(.slice Ao14 t1687.length co14)] 42 (0,0))) ∧ Aside0 (w'.heap[gb1698]? = some (.cells #[(.slice Ao20 t1693.length co20)] 42 (0,0))) ∧ Aside0 (w'.heap[gb1711]? = some (.cells #[(.slice Ao93 t1707.length co93)] 42 (0,0))) ∧ Aside0 (Below w.heap.size w w'))
          case atStart => exact ⟨(0),(by (rfl)),H',⟨Nat.le_refl _⟩,⟨by exact HO_17.out⟩,⟨by exact HO_1687000.out⟩,⟨by exact HO_1693000.out⟩,⟨by exact HO_1699000.out⟩,⟨by exact HO_1712000.out⟩,⟨by exact BK1686.out⟩,⟨by exact BK1692.out⟩,⟨by exact BK1698.out⟩,⟨by exact BK1711.out⟩,⟨by repeat (((with_reducible (exact HB.out))))⟩⟩
          case round =>
           clear H'
           try clear c1
           try clear c2
           try clear p2
           try clear c3
           try clear c4
           try clear c5
           try clear c6
           try clear c7
           try clear c8
           try clear c9
           try clear c10
           try clear c12
           try clear c15
           try clear c21
           try clear c22
           try clear c24
           try clear c24b0
           try clear c24b1
           try clear c24b2
           try clear c25
           try clear c25b0
           try clear c25b1
           try clear c27
           try clear c28
           try clear c29
           try clear c30
           try clear c31
           try clear c33
           try clear c35
           try clear c37
           try clear c38
           try clear c38b0
           try clear c38b1
           try clear c40
           try clear c41
           try clear c42
           try clear c43
           try clear c45
           try clear c47
           try clear c48
           try clear c49
           try clear c51
           try clear c54
           try clear c55
           try clear c60
           try clear c61
           try clear c62
           try clear c64
           try clear c67
           try clear c68
           try clear c73
           try clear c74
           try clear c75
           try clear c77
           try clear c78
           try clear c83
           try clear c84
           try clear c85
           try clear c86
           try clear c87
           try clear c88
           try clear c94
           try clear c95
           try clear c96
           try clear c101
           try clear c101b0
           try clear c101b1
           try clear c101b2
           try clear c105
           try clear c107
           try clear c108
           try clear c109
           try clear hcz110_0
           try clear hcz11_0
           try clear hcz16_0
           try clear hcz17_0
           try clear hcz23_0
           try clear hcz29_0
           try clear hcz31_0
           try clear hcz43_0
           try clear hcz50_0
           try clear hcz52_0
           try clear hcz56_0
           try clear hcz63_0
           try clear hcz65_0
           try clear hcz69_0
           try clear hcz76_0
           try clear hcz79_0
           try clear hcz86_0
           try clear hcz97_0
           try clear hcz99_0
           try clear hfz110_0
           try clear hfz11_0
           try clear hfz16_0
           try clear hfz17_0
           try clear hfz23_0
           try clear hfz29_0
           try clear hfz31_0
           try clear hfz43_0
           try clear hfz50_0
           try clear hfz52_0
           try clear hfz56_0
           try clear hfz63_0
           try clear hfz65_0
           try clear hfz69_0
           try clear hfz76_0
           try clear hfz79_0
           try clear hfz86_0
           try clear hfz97_0
           try clear hfz99_0
           try clear p2
           obtain ⟨x24_4,rfl,HA,HK4,HO_17,HO_1687000,HO_1693000,HO_1699000,HO_1712000,BK1686,BK1692,BK1698,BK1711,HB⟩:=hrel
           cases gk with
           | zero => exact absurd HA.out (by simp [lw.l0])
           | succ k4 =>
            have H:=HA.out
            clear HA
            simp only [lw.l0] at H
            by_cases c112 : x24_4 < (t1712.length : Int)
            ·rw [if_pos c112] at H
             have c112b0 : decide (x24_4 < (t1712.length : Int)) = true:=decide_eq_true c112
             clear c112
             by_cases c113 : 0 ≤ x24_4
             ·rw [if_pos c113] at H
              have c113b0 : decide (0 ≤ x24_4) = true:=decide_eq_true c113
              clear c113
              replace H:=Option.bind_eq_some_iff.mp H
              obtain ⟨⟨t1725,t1726,t1727⟩,A1140,H⟩:=H
              replace H : (if t1727 = true then (if t1726 = (wrap64 ((wrap64 (t1722 + (t1712.length : Int))) - x24_4)) then (lw.l0 k4 l0 t1712 t1715 t1722 t1723 (wrap64 (x24_4 + 1)) t1707) else (none)) else (none)) = some r:=H
              have A114:=Aside0.mk A1140
              clear A1140
              by_cases c115 : t1727 = true
              ·subst c115
               have H1 : (if t1726 = (wrap64 ((wrap64 (t1722 + (t1712.length : Int))) - x24_4)) then (lw.l0 k4 l0 t1712 t1715 t1722 t1723 (wrap64 (x24_4 + 1)) t1707) else (none)) = some r:=by rw [if_pos rfl] at H; exact H
               clear H
               have H:=H1
               clear H1
               by_cases c116 : t1726 = (wrap64 ((wrap64 (t1722 + (t1712.length : Int))) - x24_4))
               ·rw [if_pos c116] at H
                have c116b0 : (t1726 == (wrap64 ((wrap64 (t1722 + (t1712.length : Int))) - x24_4))) = true:=beq_iff_eq.mpr c116
                have c116b1 : (t1726 != (wrap64 ((wrap64 (t1722 + (t1712.length : Int))) - x24_4))) = false:=bne_eq_false_iff_eq.mpr c116
                clear c116
                have H':=Aside0.mk H
                clear H
                obtain ⟨Ao117,co117,eo117⟩:=Kd.R_slice HO_17.out
                subst eo117
                try go_wp2
                have n0_:=Aside0.mk (Kd.R_drew HO_17.out)
                have n1_:=Aside0.mk (Kd.Q_drew HO_1687000.out)
                have n2_:=Aside0.mk (Kd.Q_drew HO_1693000.out)
                have n3_:=Aside0.mk (Kd.Q_drew HO_1699000.out)
                have n4_:=Aside0.mk (Kd.Q_drew HO_1712000.out)
                have n5_:=Aside0.mk (blk_drew BK1686.out)
                have n6_:=Aside0.mk (blk_drew BK1692.out)
                have n7_:=Aside0.mk (blk_drew BK1698.out)
                have n8_:=Aside0.mk (blk_drew BK1711.out)
                have n9_:=Aside0.mk (below_drew1 HB.out)
                clear HO_17
                clear HO_1687000
                clear HO_1693000
                clear HO_1699000
                clear HO_1712000
                clear BK1686
                clear BK1692
                clear BK1698
                clear BK1711
                clear HB
                have HO_17:=n0_
                have HO_1687000:=n1_
                have HO_1693000:=n2_
                have HO_1699000:=n3_
                have HO_1712000:=n4_
                have BK1686:=n5_
                have BK1692:=n6_
                have BK1698:=n7_
                have BK1711:=n8_
                have HB:=n9_
                clear n0_ n1_ n2_ n3_ n4_ n5_ n6_ n7_ n8_ n9_
                have p1724 : 0 ≤ (x24_4 : Int):=of_decide_eq_true (by (with_reducible assumption))
                have q1724 : x24_4 < (t1712.length : Int):=of_decide_eq_true (by (with_reducible assumption))
                obtain ⟨ad1724,e1724,hx1724_0⟩:=Kd.at_int (Kd.R_reads' HO_17.out).2.2 x24_4 p1724 q1724
                cases e1724
                replace p1724:=eq_true p1724
                replace q1724:=eq_true q1724
                refine start_ (n:=13) (S:=fun w' => w'.cell? ⟨gb1711,0,none⟩ = some (.slice Ao93 t1707.length co93) ∧ w'.cell? (ad1724.add (x24_4).toNat) = some (.int .i64 (rd t1712 x24_4))) (ds:=[]) (bd53 13 0) (by kernel_rfl) rfl rfl ⟨(blk_cell BK1711.out 0).trans rfl,hx1724_0⟩ (fun hHeld => ?_); refine with_tabW lw.tab21 lw.bits21 (fun HT_ HW_ => ?_)
                generalize wr.drew = w118 at HO_17 HO_1687000 HO_1693000 HO_1699000 HO_1712000 BK1686 BK1692 BK1698 BK1711 HB hx1724_0 hHeld ⊢
                refine pure_ (i:=1) (N:=some 137) (v:=?_) (a':=?_) (bd53 13 2) rfl rfl (any_of HT_.out (by kernel_rfl)) (fun _ _ _ h => h) (Or.inl ⟨by rfl,?_⟩) ?_ ?_
                rotate_left
                ·intro w'
                 go_simp
                 with_reducible rfl
                rotate_left
                ·simp only [Act.put,List.setIfInBounds_toArray,List.set_cons_zero,List.set_cons_succ,i64_w,i32_w]
                 rfl
                refine pure_ (i:=2) (N:=some 138) (v:=?_) (a':=?_) (bd53 13 6) rfl rfl (any_of HT_.out (by kernel_rfl)) (fun _ _ _ h => h) (Or.inl ⟨by rfl,?_⟩) ?_ ?_
                rotate_left
                ·intro w'
                 go_simp
                 with_reducible rfl
                rotate_left
                ·simp only [Act.put,List.setIfInBounds_toArray,List.set_cons_zero,List.set_cons_succ,i64_w,i32_w]
                 rfl
                refine pure_ (i:=3) (N:=some 139) (v:=?_) (a':=?_) (bd53 13 14) rfl rfl (any_of HT_.out (by kernel_rfl)) (fun _ _ _ h => h) (Or.inl ⟨by rfl,?_⟩) ?_ ?_
                rotate_left
                ·intro w'
                 go_simp
                 with_reducible rfl
                rotate_left
                ·simp only [Act.put,List.setIfInBounds_toArray,List.set_cons_zero,List.set_cons_succ,i64_w,i32_w]
                 rfl
                refine take_ (i:=0) (N:=some 136) (v:=?_) (a':=?_) (bd53 13 15) rfl rfl (take_ofW HT_.out HW_.out (by kernel_rfl)) (fun _ _ _ h => h) (Or.inl ⟨by rfl,?_⟩) hHeld ?_ ?_
                rotate_left
                ·rintro w' ⟨s0,s1⟩
                 go_simp
                 with_reducible rfl
                rotate_left
                ·simp only [Act.put,List.setIfInBounds_toArray,List.set_cons_zero,List.set_cons_succ,i64_w,i32_w]
                 rfl
                refine take_ (i:=4) (N:=some 140) (v:=?_) (a':=?_) (bd53 13 31) rfl rfl (take_ofW HT_.out HW_.out (by kernel_rfl)) (fun _ _ _ h => h) (Or.inl ⟨by rfl,?_⟩) hHeld ?_ ?_
                rotate_left
                ·rintro w' ⟨s0,s1⟩
                 go_simp
                 with_reducible rfl
                rotate_left
                ·simp only [Act.put,List.setIfInBounds_toArray,List.set_cons_zero,List.set_cons_succ,i64_w,i32_w]
                 rfl
                refine one_ (i:=5) (N:=some 141) (bd53 13 63) rfl rfl (one_of HT_.out (by kernel_rfl)) (by decide) (fun K hK => ?_)
                refine goes_ Try.func43 (by kernel_rfl) rfl #[.agg #[.slice Ao93 t1707.length co93],.int .i64 (rd t1712 x24_4)] (by rfl) rfl rfl (by (try simp only [List.map_toArray,List.map_cons,List.map_nil]); (rfl)) ?_
                with_reducible refine (impl_PlaceOf.calls k4 _ _ t1707 (rd t1712 x24_4) t1725 t1726 true _ ?side1 ?side2 A114.out).mono ?_
                (case side1 => repeat ((exact (Kd.Q_reads' HO_1712000.out).2.2)))
                (case side2 => exact (Kd.Q_reads' HO_1712000.out).2.1)
                rintro e w119 ⟨rfl,hb⟩
                have HS1_:=(hb.cell (World.block_lt_of_cell? _ _ (hHeld.2))).trans (hHeld.2)
                refine ⟨_,rfl,?_⟩
                have n0_:=Aside0.mk (Kd.R_below (by exact HO_17.out) hb)
                have n1_:=Aside0.mk (Kd.Q_below (by exact HO_1687000.out) hb)
                have n2_:=Aside0.mk (Kd.Q_below (by exact HO_1693000.out) hb)
                have n3_:=Aside0.mk (Kd.Q_below (by exact HO_1699000.out) hb)
                have n4_:=Aside0.mk (Kd.Q_below (by exact HO_1712000.out) hb)
                have n5_:=Aside0.mk (blk_below (g:=gb1686) (o:=.cells #[.slice Ao10 t1681.length co10] 42 (0,0)) (by exact BK1686.out) hb)
                have n6_:=Aside0.mk (blk_below (g:=gb1692) (o:=.cells #[.slice Ao14 t1687.length co14] 42 (0,0)) (by exact BK1692.out) hb)
                have n7_:=Aside0.mk (blk_below (g:=gb1698) (o:=.cells #[.slice Ao20 t1693.length co20] 42 (0,0)) (by exact BK1698.out) hb)
                have n8_:=Aside0.mk (blk_below (g:=gb1711) (o:=.cells #[.slice Ao93 t1707.length co93] 42 (0,0)) (by exact BK1711.out) hb)
                have n9_:=Aside0.mk (below_step (by repeat (((with_reducible (exact HB.out))))) hb)
                clear HO_17
                clear HO_1687000
                clear HO_1693000
                clear HO_1699000
                clear HO_1712000
                clear BK1686
                clear BK1692
                clear BK1698
                clear BK1711
                clear HB
                have HO_17:=n0_
                have HO_1687000:=n1_
                have HO_1693000:=n2_
                have HO_1699000:=n3_
                have HO_1712000:=n4_
                have BK1686:=n5_
                have BK1692:=n6_
                have BK1698:=n7_
                have BK1711:=n8_
                have HB:=n9_
                clear n0_ n1_ n2_ n3_ n4_ n5_ n6_ n7_ n8_ n9_
                (try clear hb)
                (try clear hb2)
                (try clear hk)
                (try clear hi)
                refine hK.out _ _ ⟨(blk_cell BK1711.out 0).trans rfl,HS1_⟩ (fun hHeld => ?_)
                clear hK K
                refine norm_ (a':=?_) ?_ ?_
                rotate_left
                ·show Act.put _ (some 141) _ = _
                 simp only [Act.put,List.setIfInBounds_toArray,List.set_cons_zero,List.set_cons_succ,i64_w,i32_w]
                 rfl
                refine pure_ (i:=6) (N:=some 135) (v:=?_) (a':=?_) (bd53 13 127) rfl rfl (any_of HT_.out (by kernel_rfl)) (fun _ _ _ h => h) (Or.inl ⟨by rfl,?_⟩) ?_ ?_
                rotate_left
                ·intro w'
                 go_simp
                 with_reducible rfl
                rotate_left
                ·simp only [Act.put,List.setIfInBounds_toArray,List.set_cons_zero,List.set_cons_succ,i64_w,i32_w]
                 rfl
                refine pure_ (i:=7) (N:=some 142) (v:=?_) (a':=?_) (bd53 13 255) rfl rfl (any_of HT_.out (by kernel_rfl)) (fun _ _ _ h => h) (Or.inl ⟨by rfl,?_⟩) ?_ ?_
                rotate_left
                ·intro w'
                 go_simp
                 with_reducible rfl
                rotate_left
                ·simp only [Act.put,List.setIfInBounds_toArray,List.set_cons_zero,List.set_cons_succ,i64_w,i32_w]
                 rfl
                refine pure_ (i:=8) (N:=some 143) (v:=?_) (a':=?_) (bd53 13 511) rfl rfl (any_of HT_.out (by kernel_rfl)) (fun _ _ _ h => h) (Or.inl ⟨by rfl,?_⟩) ?_ ?_
                rotate_left
                ·intro w'
                 go_simp
                 with_reducible rfl
                rotate_left
                ·simp only [Act.put,List.setIfInBounds_toArray,List.set_cons_zero,List.set_cons_succ,i64_w,i32_w]
                 rfl
                refine pure_ (i:=9) (N:=some 144) (v:=?_) (a':=?_) (bd53 13 1023) rfl rfl (any_of HT_.out (by kernel_rfl)) (fun _ _ _ h => h) (Or.inl ⟨by rfl,?_⟩) ?_ ?_
                rotate_left
                ·intro w'
                 go_simp
                 with_reducible rfl
                rotate_left
                ·simp only [Act.put,List.setIfInBounds_toArray,List.set_cons_zero,List.set_cons_succ,i64_w,i32_w]
                 rfl
                refine pure_ (i:=10) (N:=some 25) (v:=?_) (a':=?_) (bd53 13 2047) rfl rfl (any_of HT_.out (by kernel_rfl)) (fun _ _ _ h => h) (Or.inl ⟨by rfl,?_⟩) ?_ ?_
                rotate_left
                ·intro w'
                 go_simp
                 with_reducible rfl
                rotate_left
                ·simp only [Act.put,List.setIfInBounds_toArray,List.set_cons_zero,List.set_cons_succ,i64_w,i32_w]
                 rfl
                refine pure_ (i:=11) (N:=some 26) (v:=?_) (a':=?_) (bd53 13 4095) rfl rfl (any_of HT_.out (by kernel_rfl)) (fun _ _ _ h => h) (Or.inl ⟨by rfl,?_⟩) ?_ ?_
                rotate_left
                ·intro w'
                 go_simp
                 with_reducible rfl
                rotate_left
                ·simp only [Act.put,List.setIfInBounds_toArray,List.set_cons_zero,List.set_cons_succ,i64_w,i32_w]
                 rfl
                refine pure_ (i:=12) (N:=some 27) (v:=?_) (a':=?_) (bd53 13 8191) rfl rfl (any_of HT_.out (by kernel_rfl)) (fun _ _ _ h => h) (Or.inl ⟨by rfl,?_⟩) ?_ ?_
                rotate_left
                ·intro w'
                 go_simp
                 with_reducible rfl
                rotate_left
                ·simp only [Act.put,List.setIfInBounds_toArray,List.set_cons_zero,List.set_cons_succ,i64_w,i32_w]
                 rfl
                refine done_ (done_of HT_.out (by kernel_rfl)) ?_
                try go_wp2
                go_roundg k4
                case measure => have:=HJ6.out; have:=HJ33.out; have:=HJ89.out; have:=HK4.out; omega
                case rel => exact ⟨(wrap64 (x24_4 + 1)),(by (rfl)),H',⟨by have:=HJ6.out; have:=HJ33.out; have:=HJ89.out; have:=HK4.out; omega⟩,⟨by exact HO_17.out⟩,⟨by exact HO_1687000.out⟩,⟨by exact HO_1693000.out⟩,⟨by exact HO_1699000.out⟩,⟨by exact HO_1712000.out⟩,⟨by exact BK1686.out⟩,⟨by exact BK1692.out⟩,⟨by exact BK1698.out⟩,⟨by exact BK1711.out⟩,⟨by repeat (((with_reducible (exact HB.out))))⟩⟩
               ·rw [if_neg c116] at H
                have c116b0 : (t1726 == (wrap64 ((wrap64 (t1722 + (t1712.length : Int))) - x24_4))) = false:=beq_eq_false_iff_ne.mpr c116
                have c116b1 : (t1726 != (wrap64 ((wrap64 (t1722 + (t1712.length : Int))) - x24_4))) = true:=bne_iff_ne.mpr c116
                exact absurd H (by simp)
              ·replace c115:=Bool.eq_false_iff.mpr c115
               subst c115
               have H1 : (none) = some r:=by rw [if_neg (show ¬ (false = true) by decide)] at H; exact H
               clear H
               have H:=H1
               clear H1
               exact absurd H (by simp)
             ·rw [if_neg c113] at H
              exact absurd H (by simp)
            ·rw [if_neg c112] at H
             have c112b0 : decide (x24_4 < (t1712.length : Int)) = false:=decide_eq_false c112
             clear c112
             replace H:=Option.bind_eq_some_iff.mp H
             obtain ⟨⟨t1728,t1731⟩,A1260,H⟩:=H
             replace H : ((impl_SameYard.f k4 t1728 t1731).bind fun bt1736 => ((impl_SameYard.f k4 t1731 t1728).bind fun bt1738 => ((spec_SameYard.f k4 t1728 t1731).bind fun bt1740 => (if (t1723 == t1715) = true then (if (bt1736.1 == bt1740.1) = true then (if (bt1736.2 == bt1740.2) = true then (if (bt1738.2 == bt1736.2) = true then (some (bt1738.1 == bt1736.1)) else (none)) else (none)) else (none)) else (none))))) = some r:=H
             have A126:=Aside0.mk A1260
             clear A1260
             replace H:=Option.bind_eq_some_iff.mp H
             obtain ⟨⟨t1736,t1737⟩,A1270,H⟩:=H
             replace H : ((impl_SameYard.f k4 t1731 t1728).bind fun bt1738 => ((spec_SameYard.f k4 t1728 t1731).bind fun bt1740 => (if (t1723 == t1715) = true then (if (t1736 == bt1740.1) = true then (if (t1737 == bt1740.2) = true then (if (bt1738.2 == t1737) = true then (some (bt1738.1 == t1736)) else (none)) else (none)) else (none)) else (none)))) = some r:=H
             have A127:=Aside0.mk A1270
             clear A1270
             replace H:=Option.bind_eq_some_iff.mp H
             obtain ⟨⟨t1738,t1739⟩,A1280,H⟩:=H
             replace H : ((spec_SameYard.f k4 t1728 t1731).bind fun bt1740 => (if (t1723 == t1715) = true then (if (t1736 == bt1740.1) = true then (if (t1737 == bt1740.2) = true then (if (t1739 == t1737) = true then (some (t1738 == t1736)) else (none)) else (none)) else (none)) else (none))) = some r:=H
             have A128:=Aside0.mk A1280
             clear A1280
             replace H:=Option.bind_eq_some_iff.mp H
             obtain ⟨⟨t1740,t1741⟩,A1290,H⟩:=H
             replace H : (if (t1723 == t1715) = true then (if (t1736 == t1740) = true then (if (t1737 == t1741) = true then (if (t1739 == t1737) = true then (some (t1738 == t1736)) else (none)) else (none)) else (none)) else (none)) = some r:=H
             have A129:=Aside0.mk A1290
             clear A1290
             by_cases c130 : (t1723 == t1715) = true
             ·rw [if_pos c130] at H
              have c130b0 : (t1723 == t1715) = true:=c130
              (try (have c130b1 : decide (t1723 = t1715) = true:=by simpa using c130))
              (try (have c130b2 : (t1723 == t1715) = true:=by simpa using c130))
              clear c130
              by_cases c131 : (t1736 == t1740) = true
              ·rw [if_pos c131] at H
               have c131b0 : (t1736 == t1740) = true:=c131
               (try (have c131b1 : decide (t1736 = t1740) = true:=by simpa using c131))
               (try (have c131b2 : (t1736 == t1740) = true:=by simpa using c131))
               clear c131
               by_cases c132 : (t1737 == t1741) = true
               ·rw [if_pos c132] at H
                have c132b0 : (t1737 == t1741) = true:=c132
                (try (have c132b1 : decide (t1737 = t1741) = true:=by simpa using c132))
                (try (have c132b2 : (t1737 == t1741) = true:=by simpa using c132))
                clear c132
                by_cases c133 : (t1739 == t1737) = true
                ·rw [if_pos c133] at H
                 have c133b0 : (t1739 == t1737) = true:=c133
                 (try (have c133b1 : decide (t1739 = t1737) = true:=by simpa using c133))
                 (try (have c133b2 : (t1739 == t1737) = true:=by simpa using c133))
                 clear c133
                 obtain rfl:=Option.some.inj H
                 obtain ⟨Ao134,co134,eo134⟩:=Kd.R_slice HO_17.out
                 subst eo134
                 go_wp2_with (first|((with_reducible refine gate_callee (f:=89) rfl ?_); refine goesL_ (some 159) rfl rfl Try.func89 (by kernel_rfl) rfl #[.slice A0 l0.length c0] rfl (by (try simp only [List.map_toArray,List.map_cons,List.map_nil]); (rfl)) ?_; (with_reducible refine (spec_DrawSameYard.calls k4 _ _ l0 t1728 t1731 _ ?side1 ?side2 A126.out).mono ?_); (case side1 => repeat ((exact (Kd.C_below HR0.out HB.out)))); (case side2 => exact HC0.out); rintro e w135 ⟨v1729,v1732,rfl,ho0,ho1,hb⟩; refine ⟨_,rfl,?_⟩; have n0_:=Aside0.mk (Kd.R_below (by exact HO_17.out) hb); have n1_:=Aside0.mk (Kd.Q_mono (Kd.Q_told (Kd.Q_told (Kd.Q_old (by exact HO_1687000.out) hb) (Kd.Q_base ho0)) (Kd.Q_base ho1)) (fun _ h_ => h_.1)); have n2_:=Aside0.mk (Kd.Q_mono (Kd.Q_told (Kd.Q_told (Kd.Q_old (by exact HO_1693000.out) hb) (Kd.Q_base ho0)) (Kd.Q_base ho1)) (fun _ h_ => h_.1)); have n3_:=Aside0.mk (Kd.Q_mono (Kd.Q_told (Kd.Q_told (Kd.Q_old (by exact HO_1699000.out) hb) (Kd.Q_base ho0)) (Kd.Q_base ho1)) (fun _ h_ => h_.1)); have n4_:=Aside0.mk (Kd.Q_mono (Kd.Q_told (Kd.Q_told (Kd.Q_old (by exact HO_1712000.out) hb) (Kd.Q_base ho0)) (Kd.Q_base ho1)) (fun _ h_ => h_.1)); have n5_:=Aside0.mk (Kd.Q_lower (Kd.Q_new' (Kd.Q_new' (Kd.Q_new' (Kd.Q_new' (Kd.Q_new' ho0 (Kd.R_lt (by exact HO_17.out))) (Kd.Q_lt (by exact HO_1687000.out))) (Kd.Q_lt (by exact HO_1693000.out))) (Kd.Q_lt (by exact HO_1699000.out))) (Kd.Q_lt (by exact HO_1712000.out))) (below_size (by repeat (((with_reducible (exact HB.out))))))); have n6_:=Aside0.mk (Kd.Q_lower (Kd.Q_new' (Kd.Q_new' (Kd.Q_new' (Kd.Q_new' (Kd.Q_new' ho1 (Kd.R_lt (by exact HO_17.out))) (Kd.Q_lt (by exact HO_1687000.out))) (Kd.Q_lt (by exact HO_1693000.out))) (Kd.Q_lt (by exact HO_1699000.out))) (Kd.Q_lt (by exact HO_1712000.out))) (below_size (by repeat (((with_reducible (exact HB.out))))))); have n7_:=Aside0.mk (blk_below (g:=gb1686) (o:=.cells #[.slice Ao10 t1681.length co10] 42 (0,0)) (by exact BK1686.out) hb); have n8_:=Aside0.mk (blk_below (g:=gb1692) (o:=.cells #[.slice Ao14 t1687.length co14] 42 (0,0)) (by exact BK1692.out) hb); have n9_:=Aside0.mk (blk_below (g:=gb1698) (o:=.cells #[.slice Ao20 t1693.length co20] 42 (0,0)) (by exact BK1698.out) hb); have n10_:=Aside0.mk (blk_below (g:=gb1711) (o:=.cells #[.slice Ao93 t1707.length co93] 42 (0,0)) (by exact BK1711.out) hb); have n11_:=Aside0.mk (below_step (by repeat (((with_reducible (exact HB.out))))) hb); clear HO_17; clear HO_1687000; clear HO_1693000; clear HO_1699000; clear HO_1712000; clear BK1686; clear BK1692; clear BK1698; clear BK1711; clear HB; have HO_17:=n0_; have HO_1687000:=n1_; have HO_1693000:=n2_; have HO_1699000:=n3_; have HO_1712000:=n4_; have HO1730:=n5_; have HO1733:=n6_; have BK1686:=n7_; have BK1692:=n8_; have BK1698:=n9_; have BK1711:=n10_; have HB:=n11_; clear n0_ n1_ n2_ n3_ n4_ n5_ n6_ n7_ n8_ n9_ n10_ n11_; (try clear hb); (try clear hb2); (try clear hk); (try clear hi); (try clear ho0); (try clear ho1))|((with_reducible refine gate_dst (N:=28) rfl ?_); (try (refine gate_guard (by rfl) ?_; dsimp only)); refine box_event ?hg (N:=28) ?hd (cs:=#[.slice none 0 0]) (t:=42) ?hr ?_; (case hd => rfl); (case hg => rfl); (case hr => (go_simp; done)); intro gb1734 hg w136 hbox hb; have n0_:=Aside0.mk (Kd.R_below (by exact HO_17.out) hb); have n1_:=Aside0.mk (Kd.Q_below (by exact HO_1687000.out) hb); have n2_:=Aside0.mk (Kd.Q_below (by exact HO_1693000.out) hb); have n3_:=Aside0.mk (Kd.Q_below (by exact HO_1699000.out) hb); have n4_:=Aside0.mk (Kd.Q_below (by exact HO_1712000.out) hb); have n5_:=Aside0.mk (Kd.Q_below (by exact HO1730.out) hb); have n6_:=Aside0.mk (Kd.Q_below (by exact HO1733.out) hb); have n7_:=Aside0.mk (blk_below (g:=gb1686) (o:=.cells #[.slice Ao10 t1681.length co10] 42 (0,0)) (by exact BK1686.out) hb); have n8_:=Aside0.mk (blk_below (g:=gb1692) (o:=.cells #[.slice Ao14 t1687.length co14] 42 (0,0)) (by exact BK1692.out) hb); have n9_:=Aside0.mk (blk_below (g:=gb1698) (o:=.cells #[.slice Ao20 t1693.length co20] 42 (0,0)) (by exact BK1698.out) hb); have n10_:=Aside0.mk (blk_below (g:=gb1711) (o:=.cells #[.slice Ao93 t1707.length co93] 42 (0,0)) (by exact BK1711.out) hb); have n11_:=Aside0.mk (below_step (by repeat (((with_reducible (exact HB.out))))) hb); have n12_:=Aside0.mk (hbox); have n13_:=Aside0.mk ((by rw [hg]; exact (below_size (by repeat (((with_reducible (exact HB.out)))))) : w.heap.size ≤ gb1734)); have n14_:=Aside0.mk ((by rw [hg]; exact (below_size (by repeat (((with_reducible (exact HB.out)))))) : w.heap.size ≤ gb1734)); have n15_:=Aside0.mk ((by rw [hg]; exact Nat.ne_of_lt (blk_lt (g:=gb1686) (o:=.cells #[.slice Ao10 t1681.length co10] 42 (0,0)) (by exact BK1686.out)) : gb1686 ≠ gb1734)); have n16_:=Aside0.mk ((by rw [hg]; exact Nat.ne_of_gt (blk_lt (g:=gb1686) (o:=.cells #[.slice Ao10 t1681.length co10] 42 (0,0)) (by exact BK1686.out)) : gb1734 ≠ gb1686)); have n17_:=Aside0.mk ((by rw [hg]; exact Nat.ne_of_lt (blk_lt (g:=gb1692) (o:=.cells #[.slice Ao14 t1687.length co14] 42 (0,0)) (by exact BK1692.out)) : gb1692 ≠ gb1734)); have n18_:=Aside0.mk ((by rw [hg]; exact Nat.ne_of_gt (blk_lt (g:=gb1692) (o:=.cells #[.slice Ao14 t1687.length co14] 42 (0,0)) (by exact BK1692.out)) : gb1734 ≠ gb1692)); have n19_:=Aside0.mk ((by rw [hg]; exact Nat.ne_of_lt (blk_lt (g:=gb1698) (o:=.cells #[.slice Ao20 t1693.length co20] 42 (0,0)) (by exact BK1698.out)) : gb1698 ≠ gb1734)); have n20_:=Aside0.mk ((by rw [hg]; exact Nat.ne_of_gt (blk_lt (g:=gb1698) (o:=.cells #[.slice Ao20 t1693.length co20] 42 (0,0)) (by exact BK1698.out)) : gb1734 ≠ gb1698)); have n21_:=Aside0.mk ((by rw [hg]; exact Nat.ne_of_lt (blk_lt (g:=gb1711) (o:=.cells #[.slice Ao93 t1707.length co93] 42 (0,0)) (by exact BK1711.out)) : gb1711 ≠ gb1734)); have n22_:=Aside0.mk ((by rw [hg]; exact Nat.ne_of_gt (blk_lt (g:=gb1711) (o:=.cells #[.slice Ao93 t1707.length co93] 42 (0,0)) (by exact BK1711.out)) : gb1734 ≠ gb1711)); clear HO_17; clear HO_1687000; clear HO_1693000; clear HO_1699000; clear HO_1712000; clear HO1730; clear HO1733; clear BK1686; clear BK1692; clear BK1698; clear BK1711; clear HB; have HO_17:=n0_; have HO_1687000:=n1_; have HO_1693000:=n2_; have HO_1699000:=n3_; have HO_1712000:=n4_; have HO1730:=n5_; have HO1733:=n6_; have BK1686:=n7_; have BK1692:=n8_; have BK1698:=n9_; have BK1711:=n10_; have HB:=n11_; have BK1734:=n12_; have GW1734:=n13_; have GE1734:=n14_; have NB1686_1734:=n15_; have NB1734_1686:=n16_; have NB1692_1734:=n17_; have NB1734_1692:=n18_; have NB1698_1734:=n19_; have NB1734_1698:=n20_; have NB1711_1734:=n21_; have NB1734_1711:=n22_; clear n0_ n1_ n2_ n3_ n4_ n5_ n6_ n7_ n8_ n9_ n10_ n11_ n12_ n13_ n14_ n15_ n16_ n17_ n18_ n19_ n20_ n21_ n22_; clear hb hbox hg)|((with_reducible refine gate_dst (N:=29) rfl ?_); (try (refine gate_guard (by rfl) ?_; dsimp only)); refine box_event ?hg (N:=29) ?hd (cs:=#[.slice none 0 0]) (t:=42) ?hr ?_; (case hd => rfl); (case hg => rfl); (case hr => (go_simp; done)); intro gb1735 hg w137 hbox hb; have n0_:=Aside0.mk (Kd.R_below (by exact HO_17.out) hb); have n1_:=Aside0.mk (Kd.Q_below (by exact HO_1687000.out) hb); have n2_:=Aside0.mk (Kd.Q_below (by exact HO_1693000.out) hb); have n3_:=Aside0.mk (Kd.Q_below (by exact HO_1699000.out) hb); have n4_:=Aside0.mk (Kd.Q_below (by exact HO_1712000.out) hb); have n5_:=Aside0.mk (Kd.Q_below (by exact HO1730.out) hb); have n6_:=Aside0.mk (Kd.Q_below (by exact HO1733.out) hb); have n7_:=Aside0.mk (blk_below (g:=gb1686) (o:=.cells #[.slice Ao10 t1681.length co10] 42 (0,0)) (by exact BK1686.out) hb); have n8_:=Aside0.mk (blk_below (g:=gb1692) (o:=.cells #[.slice Ao14 t1687.length co14] 42 (0,0)) (by exact BK1692.out) hb); have n9_:=Aside0.mk (blk_below (g:=gb1698) (o:=.cells #[.slice Ao20 t1693.length co20] 42 (0,0)) (by exact BK1698.out) hb); have n10_:=Aside0.mk (blk_below (g:=gb1711) (o:=.cells #[.slice Ao93 t1707.length co93] 42 (0,0)) (by exact BK1711.out) hb); have n11_:=Aside0.mk (blk_below (g:=gb1734) (o:=.cells #[.slice none 0 0] 42 (0,0)) (by exact BK1734.out) hb); have n12_:=Aside0.mk (below_step (by repeat (((with_reducible (exact HB.out))))) hb); have n13_:=Aside0.mk (hbox); have n14_:=Aside0.mk ((by rw [hg]; exact (below_size (by repeat (((with_reducible (exact HB.out)))))) : w.heap.size ≤ gb1735)); have n15_:=Aside0.mk ((by rw [hg]; exact (below_size (by repeat (((with_reducible (exact HB.out)))))) : w.heap.size ≤ gb1735)); have n16_:=Aside0.mk ((by rw [hg]; exact Nat.ne_of_lt (blk_lt (g:=gb1686) (o:=.cells #[.slice Ao10 t1681.length co10] 42 (0,0)) (by exact BK1686.out)) : gb1686 ≠ gb1735)); have n17_:=Aside0.mk ((by rw [hg]; exact Nat.ne_of_gt (blk_lt (g:=gb1686) (o:=.cells #[.slice Ao10 t1681.length co10] 42 (0,0)) (by exact BK1686.out)) : gb1735 ≠ gb1686)); have n18_:=Aside0.mk ((by rw [hg]; exact Nat.ne_of_lt (blk_lt (g:=gb1692) (o:=.cells #[.slice Ao14 t1687.length co14] 42 (0,0)) (by exact BK1692.out)) : gb1692 ≠ gb1735)); have n19_:=Aside0.mk ((by rw [hg]; exact Nat.ne_of_gt (blk_lt (g:=gb1692) (o:=.cells #[.slice Ao14 t1687.length co14] 42 (0,0)) (by exact BK1692.out)) : gb1735 ≠ gb1692)); have n20_:=Aside0.mk ((by rw [hg]; exact Nat.ne_of_lt (blk_lt (g:=gb1698) (o:=.cells #[.slice Ao20 t1693.length co20] 42 (0,0)) (by exact BK1698.out)) : gb1698 ≠ gb1735)); have n21_:=Aside0.mk ((by rw [hg]; exact Nat.ne_of_gt (blk_lt (g:=gb1698) (o:=.cells #[.slice Ao20 t1693.length co20] 42 (0,0)) (by exact BK1698.out)) : gb1735 ≠ gb1698)); have n22_:=Aside0.mk ((by rw [hg]; exact Nat.ne_of_lt (blk_lt (g:=gb1711) (o:=.cells #[.slice Ao93 t1707.length co93] 42 (0,0)) (by exact BK1711.out)) : gb1711 ≠ gb1735)); have n23_:=Aside0.mk ((by rw [hg]; exact Nat.ne_of_gt (blk_lt (g:=gb1711) (o:=.cells #[.slice Ao93 t1707.length co93] 42 (0,0)) (by exact BK1711.out)) : gb1735 ≠ gb1711)); have n24_:=Aside0.mk ((by rw [hg]; exact Nat.ne_of_lt (blk_lt (g:=gb1734) (o:=.cells #[.slice none 0 0] 42 (0,0)) (by exact BK1734.out)) : gb1734 ≠ gb1735)); have n25_:=Aside0.mk ((by rw [hg]; exact Nat.ne_of_gt (blk_lt (g:=gb1734) (o:=.cells #[.slice none 0 0] 42 (0,0)) (by exact BK1734.out)) : gb1735 ≠ gb1734)); clear HO_17; clear HO_1687000; clear HO_1693000; clear HO_1699000; clear HO_1712000; clear HO1730; clear HO1733; clear BK1686; clear BK1692; clear BK1698; clear BK1711; clear BK1734; clear HB; have HO_17:=n0_; have HO_1687000:=n1_; have HO_1693000:=n2_; have HO_1699000:=n3_; have HO_1712000:=n4_; have HO1730:=n5_; have HO1733:=n6_; have BK1686:=n7_; have BK1692:=n8_; have BK1698:=n9_; have BK1711:=n10_; have BK1734:=n11_; have HB:=n12_; have BK1735:=n13_; have GW1735:=n14_; have GE1735:=n15_; have NB1686_1735:=n16_; have NB1735_1686:=n17_; have NB1692_1735:=n18_; have NB1735_1692:=n19_; have NB1698_1735:=n20_; have NB1735_1698:=n21_; have NB1711_1735:=n22_; have NB1735_1711:=n23_; have NB1734_1735:=n24_; have NB1735_1734:=n25_; clear n0_ n1_ n2_ n3_ n4_ n5_ n6_ n7_ n8_ n9_ n10_ n11_ n12_ n13_ n14_ n15_ n16_ n17_ n18_ n19_ n20_ n21_ n22_ n23_ n24_ n25_; clear hb hbox hg; obtain ⟨Ao138,co138,eo138,_⟩:=Kd.Q_slice HO1730.out; subst eo138; have hnb139:=NB1734_1686.out; have hnc139:=NB1686_1734.out; have hnb140:=NB1734_1692.out; have hnc140:=NB1692_1734.out; have hnb141:=NB1734_1698.out; have hnc141:=NB1698_1734.out; have hnb142:=NB1734_1711.out; have hnc142:=NB1711_1734.out; have hnb143:=NB1734_1735.out; have hnc143:=NB1735_1734.out; have hcz144_0 : w137.cell? ⟨gb1734,0,none⟩ = some (.slice none 0 0):=(blk_cell BK1734.out 0).trans rfl; have hfz144_0:=blk_frozen BK1734.out 0; obtain ⟨Ao145,co145,eo145,_⟩:=Kd.Q_slice HO1733.out; subst eo145; have hnb146:=NB1735_1686.out; have hnc146:=NB1686_1735.out; have hnb147:=NB1735_1692.out; have hnc147:=NB1692_1735.out; have hnb148:=NB1735_1698.out; have hnc148:=NB1698_1735.out; have hnb149:=NB1735_1711.out; have hnc149:=NB1711_1735.out; have hcz150_0 : w137.cell? ⟨gb1735,0,none⟩ = some (.slice none 0 0):=(blk_cell BK1735.out 0).trans rfl; have hfz150_0:=blk_frozen BK1735.out 0)|((with_reducible refine gate_callee (f:=69) rfl ?_); refine goesL_ (some 165) rfl rfl Try.func69 (by kernel_rfl) rfl #[.agg #[.slice Ao138 t1728.length co138],.agg #[.slice Ao145 t1731.length co145]] rfl (by (try simp only [List.map_toArray,List.map_cons,List.map_nil]); (rfl)) ?_; (with_reducible refine (impl_SameYard.calls k4 _ _ t1728 _ _ t1731 t1736 t1737 _ ?side1 ?side2 ?side3 ?side4 A127.out).mono ?_); (case side1 => refine (Kd.Q_reads' (e:=24) (base:=w.heap.size) (ok:=fun k_ => (((((some k_ ≠ (.slice Ao145 t1731.length co145 : Value).ownBlock ∧ some k_ ≠ (.slice Ao134 t1712.length co134 : Value).ownBlock) ∧ some k_ ≠ (.slice Ao10 t1681.length co10 : Value).ownBlock) ∧ some k_ ≠ (.slice Ao14 t1687.length co14 : Value).ownBlock) ∧ some k_ ≠ (.slice Ao20 t1693.length co20 : Value).ownBlock) ∧ some k_ ≠ (.slice Ao93 t1707.length co93 : Value).ownBlock)) (n:=t1728.length) (c:=co138) ?_).2.2; exact (by exact (Kd.Q_mono (Kd.Q_mono (Kd.Q_far (p:=⟨gb1735,0,none⟩) (Kd.Q_far (p:=⟨gb1734,0,none⟩) (Kd.Q_types (Kd.Q_types HO1730.out BK1734.out (by decide)) BK1735.out (by decide)) (fun _ hk => hk.1.2) (.slice Ao138 t1728.length co138)) (fun _ hk => hk.2) (.slice Ao145 t1731.length co145)) (fun _ h_ => h_.1)) (fun _ h_ => h_.1)))); (case side2 => exact (Kd.Q_reads' HO1730.out).2.1); (case side3 => refine (Kd.Q_reads' (e:=24) (base:=w.heap.size) (ok:=fun k_ => (((((some k_ ≠ (.slice Ao138 t1728.length co138 : Value).ownBlock ∧ some k_ ≠ (.slice Ao134 t1712.length co134 : Value).ownBlock) ∧ some k_ ≠ (.slice Ao10 t1681.length co10 : Value).ownBlock) ∧ some k_ ≠ (.slice Ao14 t1687.length co14 : Value).ownBlock) ∧ some k_ ≠ (.slice Ao20 t1693.length co20 : Value).ownBlock) ∧ some k_ ≠ (.slice Ao93 t1707.length co93 : Value).ownBlock)) (n:=t1731.length) (c:=co145) ?_).2.2; exact (by exact (Kd.Q_mono (Kd.Q_mono (Kd.Q_far (p:=⟨gb1735,0,none⟩) (Kd.Q_far (p:=⟨gb1734,0,none⟩) (Kd.Q_types (Kd.Q_types HO1733.out BK1734.out (by decide)) BK1735.out (by decide)) (fun _ hk => hk.1.2) (.slice Ao138 t1728.length co138)) (fun _ hk => hk.2) (.slice Ao145 t1731.length co145)) (fun _ h_ => h_.1)) (fun _ h_ => h_.1)))); (case side4 => exact (Kd.Q_reads' HO1733.out).2.1); rintro e w151 ⟨rfl,hb⟩; refine ⟨_,rfl,?_⟩; have n0_:=Aside0.mk (Kd.R_below (by exact (Kd.R_mono (Kd.R_mono (Kd.R_far (p:=⟨gb1735,0,none⟩) (Kd.R_far (p:=⟨gb1734,0,none⟩) (Kd.R_types (Kd.R_types HO_17.out BK1734.out (by decide)) BK1735.out (by decide)) (fun _ hk => hk.1.2) (.slice Ao138 t1728.length co138)) (fun _ hk => hk.2) (.slice Ao145 t1731.length co145)) (fun _ h_ => h_.1)) (fun _ h_ => h_.1))) hb); have n1_:=Aside0.mk (Kd.Q_below (by exact (Kd.Q_mono (Kd.Q_mono (Kd.Q_far (p:=⟨gb1735,0,none⟩) (Kd.Q_far (p:=⟨gb1734,0,none⟩) (Kd.Q_types (Kd.Q_types HO_1687000.out BK1734.out (by decide)) BK1735.out (by decide)) (fun _ hk => hk.1.2) (.slice Ao138 t1728.length co138)) (fun _ hk => hk.2) (.slice Ao145 t1731.length co145)) (fun _ h_ => h_.1)) (fun _ h_ => h_.1))) hb); have n2_:=Aside0.mk (Kd.Q_below (by exact (Kd.Q_mono (Kd.Q_mono (Kd.Q_far (p:=⟨gb1735,0,none⟩) (Kd.Q_far (p:=⟨gb1734,0,none⟩) (Kd.Q_types (Kd.Q_types HO_1693000.out BK1734.out (by decide)) BK1735.out (by decide)) (fun _ hk => hk.1.2) (.slice Ao138 t1728.length co138)) (fun _ hk => hk.2) (.slice Ao145 t1731.length co145)) (fun _ h_ => h_.1)) (fun _ h_ => h_.1))) hb); have n3_:=Aside0.mk (Kd.Q_below (by exact (Kd.Q_mono (Kd.Q_mono (Kd.Q_far (p:=⟨gb1735,0,none⟩) (Kd.Q_far (p:=⟨gb1734,0,none⟩) (Kd.Q_types (Kd.Q_types HO_1699000.out BK1734.out (by decide)) BK1735.out (by decide)) (fun _ hk => hk.1.2) (.slice Ao138 t1728.length co138)) (fun _ hk => hk.2) (.slice Ao145 t1731.length co145)) (fun _ h_ => h_.1)) (fun _ h_ => h_.1))) hb); have n4_:=Aside0.mk (Kd.Q_below (by exact (Kd.Q_mono (Kd.Q_mono (Kd.Q_far (p:=⟨gb1735,0,none⟩) (Kd.Q_far (p:=⟨gb1734,0,none⟩) (Kd.Q_types (Kd.Q_types HO_1712000.out BK1734.out (by decide)) BK1735.out (by decide)) (fun _ hk => hk.1.2) (.slice Ao138 t1728.length co138)) (fun _ hk => hk.2) (.slice Ao145 t1731.length co145)) (fun _ h_ => h_.1)) (fun _ h_ => h_.1))) hb); have n5_:=Aside0.mk (Kd.Q_below (by exact (Kd.Q_mono (Kd.Q_mono (Kd.Q_far (p:=⟨gb1735,0,none⟩) (Kd.Q_far (p:=⟨gb1734,0,none⟩) (Kd.Q_types (Kd.Q_types HO1730.out BK1734.out (by decide)) BK1735.out (by decide)) (fun _ hk => hk.1.2) (.slice Ao138 t1728.length co138)) (fun _ hk => hk.2) (.slice Ao145 t1731.length co145)) (fun _ h_ => h_.1)) (fun _ h_ => h_.1))) hb); have n6_:=Aside0.mk (Kd.Q_below (by exact (Kd.Q_mono (Kd.Q_mono (Kd.Q_far (p:=⟨gb1735,0,none⟩) (Kd.Q_far (p:=⟨gb1734,0,none⟩) (Kd.Q_types (Kd.Q_types HO1733.out BK1734.out (by decide)) BK1735.out (by decide)) (fun _ hk => hk.1.2) (.slice Ao138 t1728.length co138)) (fun _ hk => hk.2) (.slice Ao145 t1731.length co145)) (fun _ h_ => h_.1)) (fun _ h_ => h_.1))) hb); have n7_:=Aside0.mk (blk_below (g:=gb1686) (o:=.cells #[.slice Ao10 t1681.length co10] 42 (0,0)) (by refine blk_far ?_ NB1686_1735.out _; refine blk_far ?_ NB1686_1734.out _; exact BK1686.out) hb); have n8_:=Aside0.mk (blk_below (g:=gb1692) (o:=.cells #[.slice Ao14 t1687.length co14] 42 (0,0)) (by refine blk_far ?_ NB1692_1735.out _; refine blk_far ?_ NB1692_1734.out _; exact BK1692.out) hb); have n9_:=Aside0.mk (blk_below (g:=gb1698) (o:=.cells #[.slice Ao20 t1693.length co20] 42 (0,0)) (by refine blk_far ?_ NB1698_1735.out _; refine blk_far ?_ NB1698_1734.out _; exact BK1698.out) hb); have n10_:=Aside0.mk (blk_below (g:=gb1711) (o:=.cells #[.slice Ao93 t1707.length co93] 42 (0,0)) (by refine blk_far ?_ NB1711_1735.out _; refine blk_far ?_ NB1711_1734.out _; exact BK1711.out) hb); have n11_:=Aside0.mk (blk_below (g:=gb1734) (o:=.cells #[.slice Ao138 t1728.length co138] 42 (0,0)) (by refine blk_far ?_ NB1734_1735.out _; refine blk_put (cs:=#[.slice none 0 0]) ?_ 0 _ rfl; exact BK1734.out) hb); have n12_:=Aside0.mk (blk_below (g:=gb1735) (o:=.cells #[.slice Ao145 t1731.length co145] 42 (0,0)) (by refine blk_put (cs:=#[.slice none 0 0]) ?_ 0 _ rfl; refine blk_far ?_ NB1735_1734.out _; exact BK1735.out) hb); have n13_:=Aside0.mk (below_step (by repeat (with_reducible first|exact HB.out|refine below_set ?_ GE1734.out|refine below_set ?_ GE1735.out)) hb); clear HO_17; clear HO_1687000; clear HO_1693000; clear HO_1699000; clear HO_1712000; clear HO1730; clear HO1733; clear BK1686; clear BK1692; clear BK1698; clear BK1711; clear BK1734; clear BK1735; clear HB; have HO_17:=n0_; have HO_1687000:=n1_; have HO_1693000:=n2_; have HO_1699000:=n3_; have HO_1712000:=n4_; have HO1730:=n5_; have HO1733:=n6_; have BK1686:=n7_; have BK1692:=n8_; have BK1698:=n9_; have BK1711:=n10_; have BK1734:=n11_; have BK1735:=n12_; have HB:=n13_; clear n0_ n1_ n2_ n3_ n4_ n5_ n6_ n7_ n8_ n9_ n10_ n11_ n12_ n13_; (try clear hb); (try clear hb2); (try clear hk); (try clear hi); have hcz152_0 : w151.cell? ⟨gb1735,0,none⟩ = some (.slice Ao145 t1731.length co145):=(blk_cell BK1735.out 0).trans rfl; have hfz152_0:=blk_frozen BK1735.out 0; have hcz153_0 : w151.cell? ⟨gb1734,0,none⟩ = some (.slice Ao138 t1728.length co138):=(blk_cell BK1734.out 0).trans rfl; have hfz153_0:=blk_frozen BK1734.out 0)|((with_reducible refine gate_callee (f:=69) rfl ?_); refine goesL_ (some 171) rfl rfl Try.func69 (by kernel_rfl) rfl #[.agg #[.slice Ao145 t1731.length co145],.agg #[.slice Ao138 t1728.length co138]] rfl (by (try simp only [List.map_toArray,List.map_cons,List.map_nil]); (rfl)) ?_; (with_reducible refine (impl_SameYard.calls k4 _ _ t1731 _ _ t1728 t1738 t1739 _ ?side1 ?side2 ?side3 ?side4 A128.out).mono ?_); (case side1 => repeat ((exact (Kd.Q_reads' HO1733.out).2.2))); (case side2 => exact (Kd.Q_reads' HO1733.out).2.1); (case side3 => repeat ((exact (Kd.Q_reads' HO1730.out).2.2))); (case side4 => exact (Kd.Q_reads' HO1730.out).2.1); rintro e w154 ⟨rfl,hb⟩; refine ⟨_,rfl,?_⟩; have n0_:=Aside0.mk (Kd.R_below (by exact HO_17.out) hb); have n1_:=Aside0.mk (Kd.Q_below (by exact HO_1687000.out) hb); have n2_:=Aside0.mk (Kd.Q_below (by exact HO_1693000.out) hb); have n3_:=Aside0.mk (Kd.Q_below (by exact HO_1699000.out) hb); have n4_:=Aside0.mk (Kd.Q_below (by exact HO_1712000.out) hb); have n5_:=Aside0.mk (Kd.Q_below (by exact HO1730.out) hb); have n6_:=Aside0.mk (Kd.Q_below (by exact HO1733.out) hb); have n7_:=Aside0.mk (blk_below (g:=gb1686) (o:=.cells #[.slice Ao10 t1681.length co10] 42 (0,0)) (by exact BK1686.out) hb); have n8_:=Aside0.mk (blk_below (g:=gb1692) (o:=.cells #[.slice Ao14 t1687.length co14] 42 (0,0)) (by exact BK1692.out) hb); have n9_:=Aside0.mk (blk_below (g:=gb1698) (o:=.cells #[.slice Ao20 t1693.length co20] 42 (0,0)) (by exact BK1698.out) hb); have n10_:=Aside0.mk (blk_below (g:=gb1711) (o:=.cells #[.slice Ao93 t1707.length co93] 42 (0,0)) (by exact BK1711.out) hb); have n11_:=Aside0.mk (blk_below (g:=gb1734) (o:=.cells #[.slice Ao138 t1728.length co138] 42 (0,0)) (by exact BK1734.out) hb); have n12_:=Aside0.mk (blk_below (g:=gb1735) (o:=.cells #[.slice Ao145 t1731.length co145] 42 (0,0)) (by exact BK1735.out) hb); have n13_:=Aside0.mk (below_step (by repeat (((with_reducible (exact HB.out))))) hb); clear HO_17; clear HO_1687000; clear HO_1693000; clear HO_1699000; clear HO_1712000; clear HO1730; clear HO1733; clear BK1686; clear BK1692; clear BK1698; clear BK1711; clear BK1734; clear BK1735; clear HB; have HO_17:=n0_; have HO_1687000:=n1_; have HO_1693000:=n2_; have HO_1699000:=n3_; have HO_1712000:=n4_; have HO1730:=n5_; have HO1733:=n6_; have BK1686:=n7_; have BK1692:=n8_; have BK1698:=n9_; have BK1711:=n10_; have BK1734:=n11_; have BK1735:=n12_; have HB:=n13_; clear n0_ n1_ n2_ n3_ n4_ n5_ n6_ n7_ n8_ n9_ n10_ n11_ n12_ n13_; (try clear hb); (try clear hb2); (try clear hk); (try clear hi); have hcz155_0 : w154.cell? ⟨gb1734,0,none⟩ = some (.slice Ao138 t1728.length co138):=(blk_cell BK1734.out 0).trans rfl; have hfz155_0:=blk_frozen BK1734.out 0; have hcz156_0 : w154.cell? ⟨gb1735,0,none⟩ = some (.slice Ao145 t1731.length co145):=(blk_cell BK1735.out 0).trans rfl; have hfz156_0:=blk_frozen BK1735.out 0)|((with_reducible refine gate_callee (f:=68) rfl ?_); refine goesL_ (some 177) rfl rfl Try.func68 (by kernel_rfl) rfl #[.agg #[.slice Ao138 t1728.length co138],.agg #[.slice Ao145 t1731.length co145]] rfl (by (try simp only [List.map_toArray,List.map_cons,List.map_nil]); (rfl)) ?_; (with_reducible refine (spec_SameYard.calls k4 _ _ t1728 _ _ t1731 t1740 t1741 _ ?side1 ?side2 ?side3 ?side4 A129.out).mono ?_); (case side1 => repeat ((exact (Kd.Q_reads' HO1730.out).2.2))); (case side2 => exact (Kd.Q_reads' HO1730.out).2.1); (case side3 => repeat ((exact (Kd.Q_reads' HO1733.out).2.2))); (case side4 => exact (Kd.Q_reads' HO1733.out).2.1); rintro e w157 ⟨rfl,hb⟩; refine ⟨_,rfl,?_⟩; have n0_:=Aside0.mk (Kd.R_below (by exact HO_17.out) hb); have n1_:=Aside0.mk (Kd.Q_below (by exact HO_1687000.out) hb); have n2_:=Aside0.mk (Kd.Q_below (by exact HO_1693000.out) hb); have n3_:=Aside0.mk (Kd.Q_below (by exact HO_1699000.out) hb); have n4_:=Aside0.mk (Kd.Q_below (by exact HO_1712000.out) hb); have n5_:=Aside0.mk (Kd.Q_below (by exact HO1730.out) hb); have n6_:=Aside0.mk (Kd.Q_below (by exact HO1733.out) hb); have n7_:=Aside0.mk (blk_below (g:=gb1686) (o:=.cells #[.slice Ao10 t1681.length co10] 42 (0,0)) (by exact BK1686.out) hb); have n8_:=Aside0.mk (blk_below (g:=gb1692) (o:=.cells #[.slice Ao14 t1687.length co14] 42 (0,0)) (by exact BK1692.out) hb); have n9_:=Aside0.mk (blk_below (g:=gb1698) (o:=.cells #[.slice Ao20 t1693.length co20] 42 (0,0)) (by exact BK1698.out) hb); have n10_:=Aside0.mk (blk_below (g:=gb1711) (o:=.cells #[.slice Ao93 t1707.length co93] 42 (0,0)) (by exact BK1711.out) hb); have n11_:=Aside0.mk (blk_below (g:=gb1734) (o:=.cells #[.slice Ao138 t1728.length co138] 42 (0,0)) (by exact BK1734.out) hb); have n12_:=Aside0.mk (blk_below (g:=gb1735) (o:=.cells #[.slice Ao145 t1731.length co145] 42 (0,0)) (by exact BK1735.out) hb); have n13_:=Aside0.mk (below_step (by repeat (((with_reducible (exact HB.out))))) hb); clear HO_17; clear HO_1687000; clear HO_1693000; clear HO_1699000; clear HO_1712000; clear HO1730; clear HO1733; clear BK1686; clear BK1692; clear BK1698; clear BK1711; clear BK1734; clear BK1735; clear HB; have HO_17:=n0_; have HO_1687000:=n1_; have HO_1693000:=n2_; have HO_1699000:=n3_; have HO_1712000:=n4_; have HO1730:=n5_; have HO1733:=n6_; have BK1686:=n7_; have BK1692:=n8_; have BK1698:=n9_; have BK1711:=n10_; have BK1734:=n11_; have BK1735:=n12_; have HB:=n13_; clear n0_ n1_ n2_ n3_ n4_ n5_ n6_ n7_ n8_ n9_ n10_ n11_ n12_ n13_; (try clear hb); (try clear hb2); (try clear hk); (try clear hi)))
                 go_ret
                 exact ⟨by (rfl),by repeat (((with_reducible (exact HB.out))))⟩
                ·rw [if_neg c133] at H
                 have c133b0 : (t1739 == t1737) = false:=by simpa using c133
                 (try (have c133b1 : decide (t1739 = t1737) = false:=by simpa using c133))
                 (try (have c133b2 : (t1739 == t1737) = false:=by simpa using c133))
                 (try (have c133b3 : ¬ (t1739 = t1737):=by simpa using c133))
                 clear c133
                 exact absurd H (by simp)
               ·rw [if_neg c132] at H
                have c132b0 : (t1737 == t1741) = false:=by simpa using c132
                (try (have c132b1 : decide (t1737 = t1741) = false:=by simpa using c132))
                (try (have c132b2 : (t1737 == t1741) = false:=by simpa using c132))
                (try (have c132b3 : ¬ (t1737 = t1741):=by simpa using c132))
                clear c132
                exact absurd H (by simp)
              ·rw [if_neg c131] at H
               have c131b0 : (t1736 == t1740) = false:=by simpa using c131
               (try (have c131b1 : decide (t1736 = t1740) = false:=by simpa using c131))
               (try (have c131b2 : (t1736 == t1740) = false:=by simpa using c131))
               (try (have c131b3 : ¬ (t1736 = t1740):=by simpa using c131))
               clear c131
               exact absurd H (by simp)
             ·rw [if_neg c130] at H
              have c130b0 : (t1723 == t1715) = false:=by simpa using c130
              (try (have c130b1 : decide (t1723 = t1715) = false:=by simpa using c130))
              (try (have c130b2 : (t1723 == t1715) = false:=by simpa using c130))
              (try (have c130b3 : ¬ (t1723 = t1715):=by simpa using c130))
              clear c130
              exact absurd H (by simp)

end Go.Proofs.Ytlldonokjgoajaa.X
