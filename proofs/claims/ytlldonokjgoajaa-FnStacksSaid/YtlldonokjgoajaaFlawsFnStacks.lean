-- Written by a program of ours (wip/bin/xprint.py,over the kit's print.py) out of the translation. Not trusted: Lean checks it.
import Derived.Test.YtlldonokjgoajaaX0
import Derived.Test.YtlldonokjgoajaaFbV
import Derived.Test.YtlldonokjgoajaaFimplBlockersOf
import Derived.Test.YtlldonokjgoajaaFimplFreePlaces
import Derived.Test.YtlldonokjgoajaaFimplPlaceOf
import Derived.Test.YtlldonokjgoajaaFimplPutBox
import Derived.Test.YtlldonokjgoajaaFimplStackHeights
import Derived.Test.YtlldonokjgoajaaFimplTakeBox
import Derived.Test.YtlldonokjgoajaaFimplTopOf
import Derived.Test.YtlldonokjgoajaaFspecDrawPutBox
import Derived.Test.YtlldonokjgoajaaFspecIsValidYard
import Derived.Test.YtlldonokjgoajaaFspecPutBox
import Derived.Test.YtlldonokjgoajaaGIsValidYard
namespace Go.Proofs.Ytlldonokjgoajaa.X
open Go.RowKit Go.Proofs.YtlldonokjgoajaaW.PrintWords Go.Proofs.YtlldonokjgoajaaW.PrintLast Go.Proofs.YtlldonokjgoajaaW.PrintMore
def lbc36 : Nat → Nat → List Bool
 | 0,_ => []
 | n+1,m => (m%2==1) :: lbc36 n (m/2)
def bc36 (n m : Nat) : Array Bool := ⟨lbc36 n m⟩
attribute [local go_sem] max2_int min2_int max_two min_two max_three min_three max_four min_four   -- for this text's walks alone
set_option linter.unusedVariables false
set_option linter.unusedSimpArgs false

/-! ### laws_FnStacks: function 5 -/
def lw.j0 : Nat → Int → Int → Bool → Bool → List (List Int) → List (List Int) → Option (Bool)
 | 0,_,_,_,_,_,_ => none
 | k + 1,x4,x5,x7,x62,x742000,x747000 => if x62 = true then (none) else (if x7 = true then ((impl_TopOf.f k x747000 x4).bind fun bt755 => ((impl_PlaceOf.f k x747000 x5).bind fun bt757 => ((impl_TakeBox.f k x747000 x5).bind fun bt760 => ((impl_BlockersOf.f k x747000 x5).bind fun bt765 => ((impl_FreePlaces.f k x742000).bind fun bt769 => ((impl_FreePlaces.f k x747000).bind fun bt771 => ((impl_StackHeights.f k x747000).bind fun bt773 => (if bt755.2 = true then (if bt755.1 = x5 then (if bt757.2.2 = true then (if bt757.1 = x4 then (if bt760.2 = true then ((laws_vYard.f k bt760.1 x742000).bind fun t777 => (if t777 = true then (if bt765.2 = true then (if (bt765.1.length : Int) = 0 then (if bt769.2 = true then (if bt771.2 = true then (if bt771.1 = (wrap64 (bt769.1 - 1)) then (if bt773.2 = true then (if (bt773.1.length : Int) > bt757.1 then (if 0 ≤ bt757.1 then (if bt757.1 < (bt773.1.length : Int) then (some ((rd bt773.1 bt757.1) == (wrap64 (bt757.2.1 + 1)))) else (none)) else (none)) else (none)) else (none)) else (none)) else (none)) else (none)) else (none)) else (none)) else (none))) else (none)) else (none)) else (none)) else (none)) else (none))))))))) else (some ((x747000.length : Int) == 0)))
def lw.f (k : Nat) (l0 : List Int) : Option (Bool):=(laws_vBig.f l0).bind fun t735 => (if t735 = true then (some true) else ((spec_DrawPutBox.f k l0).bind fun bt736 => ((impl_PutBox.f k bt736.1 bt736.2.1 bt736.2.2).bind fun bt742 => ((spec_PutBox.f k bt736.1 bt736.2.1 bt736.2.2).bind fun bt747 => (if (bt742.2 != bt747.2) = true then (none) else ((laws_vYard.f k bt742.1 bt747.1).bind fun t752 => (if t752 = true then ((impl_IsValidYard.f bt736.1).bind fun t753 => ((spec_IsValidYard.f k bt736.1).bind fun t754 => (lw.j0 k bt736.2.1 bt736.2.2 bt742.2 (t753 != t754) bt736.1 bt742.1))) else (none))))))))
theorem lw.mono_l : ∀ k,(∀ y0 y1 y2 y3 y4 y5,LeO (lw.j0 k y0 y1 y2 y3 y4 y5) (lw.j0 (k + 1) y0 y1 y2 y3 y4 y5))
 | 0 => fun _ _ _ _ _ _ r h => by simp [lw.j0] at h
 | k + 1 => by
  have ih0:=lw.mono_l k
  ·intro y0 y1 y2 y3 y4 y5
   unfold lw.j0
   repeat' first
   | (with_reducible exact ih0 _ _ _ _ _ _)
   | (with_reducible exact impl_BlockersOf.mono _ _ _)
   | (with_reducible exact impl_FreePlaces.mono _ _)
   | (with_reducible exact impl_PlaceOf.mono _ _ _)
   | (with_reducible exact impl_PutBox.mono _ _ _ _)
   | (with_reducible exact impl_StackHeights.mono _ _)
   | (with_reducible exact impl_TakeBox.mono _ _ _)
   | (with_reducible exact impl_TopOf.mono _ _ _)
   | (with_reducible exact laws_vYard.mono _ _ _)
   | (with_reducible exact spec_DrawPutBox.mono _ _)
   | (with_reducible exact spec_IsValidYard.mono _ _)
   | (with_reducible exact spec_PutBox.mono _ _ _ _)
   | (with_reducible exact LeO.refl _)
   | (with_reducible exact LeO.none _)
   | (with_reducible refine LeO.ite ?_ ?_)
   | (with_reducible refine LeO.bind ?_ (fun _ => ?_))
   | exact ih0 _ _ _ _ _ _
   | exact impl_BlockersOf.mono _ _ _
   | exact impl_FreePlaces.mono _ _
   | exact impl_PlaceOf.mono _ _ _
   | exact impl_PutBox.mono _ _ _ _
   | exact impl_StackHeights.mono _ _
   | exact impl_TakeBox.mono _ _ _
   | exact impl_TopOf.mono _ _ _
   | exact laws_vYard.mono _ _ _
   | exact spec_DrawPutBox.mono _ _
   | exact spec_IsValidYard.mono _ _
   | exact spec_PutBox.mono _ _ _ _
   | exact LeO.none _
   | refine LeO.ite ?_ ?_
   | refine LeO.bind ?_ (fun _ => ?_)
theorem lw.mono : ∀ a0 k,LeO (lw.f k a0) (lw.f (k + 1) a0):=by
 intro a0 k
 have ih0:=lw.mono_l k
 unfold lw.f
 repeat' first
   | (with_reducible exact ih0 _ _ _ _ _ _)
   | (with_reducible exact impl_BlockersOf.mono _ _ _)
   | (with_reducible exact impl_FreePlaces.mono _ _)
   | (with_reducible exact impl_PlaceOf.mono _ _ _)
   | (with_reducible exact impl_PutBox.mono _ _ _ _)
   | (with_reducible exact impl_StackHeights.mono _ _)
   | (with_reducible exact impl_TakeBox.mono _ _ _)
   | (with_reducible exact impl_TopOf.mono _ _ _)
   | (with_reducible exact laws_vYard.mono _ _ _)
   | (with_reducible exact spec_DrawPutBox.mono _ _)
   | (with_reducible exact spec_IsValidYard.mono _ _)
   | (with_reducible exact spec_PutBox.mono _ _ _ _)
   | (with_reducible exact LeO.refl _)
   | (with_reducible exact LeO.none _)
   | (with_reducible refine LeO.ite ?_ ?_)
   | (with_reducible refine LeO.bind ?_ (fun _ => ?_))
   | exact ih0 _ _ _ _ _ _
   | exact impl_BlockersOf.mono _ _ _
   | exact impl_FreePlaces.mono _ _
   | exact impl_PlaceOf.mono _ _ _
   | exact impl_PutBox.mono _ _ _ _
   | exact impl_StackHeights.mono _ _
   | exact impl_TakeBox.mono _ _ _
   | exact impl_TopOf.mono _ _ _
   | exact laws_vYard.mono _ _ _
   | exact spec_DrawPutBox.mono _ _
   | exact spec_IsValidYard.mono _ _
   | exact spec_PutBox.mono _ _ _ _
   | exact LeO.none _
   | refine LeO.ite ?_ ?_
   | refine LeO.bind ?_ (fun _ => ?_)
def lw.T6 : Bool × List (List Nat × List Nat):=(true,[([],[]),([],[]),([0,1],[0,1]),([2],[2]),([3],[3]),([3],[3]),([4,5,3,3],[3,4,5]),([6,3],[3,6]),([3,7],[3,7]),([8,6],[8]),([9],[9]),([10,9,9],[9,10]),([9],[9]),([12,11,9],[9,12]),([11,13,9],[9,11,13]),([9,14],[9,14])])
def lw.B6 : List Nat:=[0,0,3,7,15,15,63,127,255,511,1023,2047,1023,8191,16383,32767]
theorem lw.tab6 : rtab .any (opsOf Try.f5 6) = lw.T6:=by kernel_rfl
theorem lw.bits6 : waitsOk lw.T6.2 lw.B6 = true:=by kernel_rfl
set_option maxHeartbeats 8000000 in
set_option maxRecDepth 100000 in
theorem lw.calls (k : Nat) (A0 : Option Addr) (c0 : Nat) (l0 : List Int) (r : Bool) (w : World) (hr0 : Kd.C (Kd.int .u8) w A0 l0.length l0) (hc0 : l0.length ≤ c0) (h : lw.f k l0 = some r) :
  Calls Try.prog 5 #[.slice A0 l0.length c0] w fun e w' => e = .returned (.bool r) ∧ Below w.heap.size w w':=by
 have hu42:=Try.underlying42
 have HR0:=Aside0.mk hr0
 have HC0:=Aside0.mk hc0
 clear hr0 hc0
 have HB:=Aside0.mk (Below.refl w.heap.size w)
 have H : ((laws_vBig.f l0).bind fun t735 => (if t735 = true then (some true) else ((spec_DrawPutBox.f k l0).bind fun bt736 => ((impl_PutBox.f k bt736.1 bt736.2.1 bt736.2.2).bind fun bt742 => ((spec_PutBox.f k bt736.1 bt736.2.1 bt736.2.2).bind fun bt747 => (if (bt742.2 != bt747.2) = true then (none) else ((laws_vYard.f k bt742.1 bt747.1).bind fun t752 => (if t752 = true then ((impl_IsValidYard.f bt736.1).bind fun t753 => ((spec_IsValidYard.f k bt736.1).bind fun t754 => (lw.j0 k bt736.2.1 bt736.2.2 bt742.2 (t753 != t754) bt736.1 bt742.1))) else (none))))))))) = some r:=h
 clear h
 replace H:=Option.bind_eq_some_iff.mp H
 obtain ⟨t735,A20,H⟩:=H
 replace H : (if t735 = true then (some true) else ((spec_DrawPutBox.f k l0).bind fun bt736 => ((impl_PutBox.f k bt736.1 bt736.2.1 bt736.2.2).bind fun bt742 => ((spec_PutBox.f k bt736.1 bt736.2.1 bt736.2.2).bind fun bt747 => (if (bt742.2 != bt747.2) = true then (none) else ((laws_vYard.f k bt742.1 bt747.1).bind fun t752 => (if t752 = true then ((impl_IsValidYard.f bt736.1).bind fun t753 => ((spec_IsValidYard.f k bt736.1).bind fun t754 => (lw.j0 k bt736.2.1 bt736.2.2 bt742.2 (t753 != t754) bt736.1 bt742.1))) else (none)))))))) = some r:=H
 have A2:=Aside0.mk A20
 clear A20
 by_cases c3 : t735 = true
 ·subst c3
  have H1 : (some true) = some r:=by rw [if_pos rfl] at H; exact H
  clear H
  have H:=H1
  clear H1
  obtain rfl:=Option.some.inj H
  go_enter Try.func5,Try.ntmps5
  go_wp2_with (first|((with_reducible refine gate_callee (f:=35) rfl ?_); refine goesL_ (some 26) rfl rfl Try.func35 (by kernel_rfl) rfl #[.slice A0 l0.length c0] rfl (by (try simp only [List.map_toArray,List.map_cons,List.map_nil]); first|done|rfl|(simp only [List.length_drop,List.length_take]; rfl)) ?_; (with_reducible refine (laws_vBig.calls _ _ l0 true _ ?side1 ?side2 A2.out).mono ?_); (case side1 => repeat (first|exact HR0.out|(with_reducible refine Kd.C_alloc ?_ _)|(with_reducible refine Kd.C_drewN ?_ _)|(with_reducible refine Kd.C_drew ?_))); (case side2 => exact HC0.out); rintro e w' ⟨rfl,⟨nd,rfl⟩⟩; refine ⟨_,rfl,?_⟩))
  go_ret
  exact ⟨by first|rfl|(simp [errW_none,errW_some] <;> rfl)|(simp [*,errW_none,errW_some] <;> rfl),by repeat (first|(with_reducible first|exact HB.out|apply below_alloc|apply pw_below_drewN|apply below_drew1)|exact HB.out)⟩
 ·replace c3:=Bool.eq_false_iff.mpr c3
  subst c3
  have H1 : ((spec_DrawPutBox.f k l0).bind fun bt736 => ((impl_PutBox.f k bt736.1 bt736.2.1 bt736.2.2).bind fun bt742 => ((spec_PutBox.f k bt736.1 bt736.2.1 bt736.2.2).bind fun bt747 => (if (bt742.2 != bt747.2) = true then (none) else ((laws_vYard.f k bt742.1 bt747.1).bind fun t752 => (if t752 = true then ((impl_IsValidYard.f bt736.1).bind fun t753 => ((spec_IsValidYard.f k bt736.1).bind fun t754 => (lw.j0 k bt736.2.1 bt736.2.2 bt742.2 (t753 != t754) bt736.1 bt742.1))) else (none))))))) = some r:=by rw [if_neg (show ¬ (false = true) by decide)] at H; exact H
  clear H
  have H:=H1
  clear H1
  replace H:=Option.bind_eq_some_iff.mp H
  obtain ⟨⟨t736,t739,t740⟩,A40,H⟩:=H
  replace H : ((impl_PutBox.f k t736 t739 t740).bind fun bt742 => ((spec_PutBox.f k t736 t739 t740).bind fun bt747 => (if (bt742.2 != bt747.2) = true then (none) else ((laws_vYard.f k bt742.1 bt747.1).bind fun t752 => (if t752 = true then ((impl_IsValidYard.f t736).bind fun t753 => ((spec_IsValidYard.f k t736).bind fun t754 => (lw.j0 k t739 t740 bt742.2 (t753 != t754) t736 bt742.1))) else (none)))))) = some r:=H
  have A4:=Aside0.mk A40
  clear A40
  replace H:=Option.bind_eq_some_iff.mp H
  obtain ⟨⟨t742,t745⟩,A50,H⟩:=H
  replace H : ((spec_PutBox.f k t736 t739 t740).bind fun bt747 => (if (t745 != bt747.2) = true then (none) else ((laws_vYard.f k t742 bt747.1).bind fun t752 => (if t752 = true then ((impl_IsValidYard.f t736).bind fun t753 => ((spec_IsValidYard.f k t736).bind fun t754 => (lw.j0 k t739 t740 t745 (t753 != t754) t736 t742))) else (none))))) = some r:=H
  have A5:=Aside0.mk A50
  clear A50
  replace H:=Option.bind_eq_some_iff.mp H
  obtain ⟨⟨t747,t750⟩,A60,H⟩:=H
  replace H : (if (t745 != t750) = true then (none) else ((laws_vYard.f k t742 t747).bind fun t752 => (if t752 = true then ((impl_IsValidYard.f t736).bind fun t753 => ((spec_IsValidYard.f k t736).bind fun t754 => (lw.j0 k t739 t740 t745 (t753 != t754) t736 t742))) else (none)))) = some r:=H
  have A6:=Aside0.mk A60
  clear A60
  have HC7:=Aside0.mk H
  clear H
  go_enter Try.func5,Try.ntmps5
  go_upto_region 6 with (first|((with_reducible refine gate_callee (f:=35) rfl ?_); refine goesL_ (some 26) rfl rfl Try.func35 (by kernel_rfl) rfl #[.slice A0 l0.length c0] rfl (by (try simp only [List.map_toArray,List.map_cons,List.map_nil]); first|done|rfl|(simp only [List.length_drop,List.length_take]; rfl)) ?_; (with_reducible refine (laws_vBig.calls _ _ l0 false _ ?side1 ?side2 A2.out).mono ?_); (case side1 => repeat (first|exact HR0.out|(with_reducible refine Kd.C_alloc ?_ _)|(with_reducible refine Kd.C_drewN ?_ _)|(with_reducible refine Kd.C_drew ?_))); (case side2 => exact HC0.out); rintro e w' ⟨rfl,⟨nd,rfl⟩⟩; refine ⟨_,rfl,?_⟩)|((with_reducible refine gate_callee (f:=36) rfl ?_); refine goesL_ (some 29) rfl rfl Try.func36 (by kernel_rfl) rfl #[.slice A0 l0.length c0] rfl (by (try simp only [List.map_toArray,List.map_cons,List.map_nil]); first|done|rfl|(simp only [List.length_drop,List.length_take]; rfl)) ?_; (with_reducible refine (spec_DrawPutBox.calls k _ _ l0 t736 t739 t740 _ ?side1 ?side2 A4.out).mono ?_); (case side1 => repeat (first|exact HR0.out|(with_reducible refine Kd.C_alloc ?_ _)|(with_reducible refine Kd.C_drewN ?_ _)|(with_reducible refine Kd.C_drew ?_))); (case side2 => exact HC0.out); rintro e w8 ⟨v737,rfl,ho0,hb⟩; refine ⟨_,rfl,?_⟩; have n0_:=Aside0.mk (Kd.N_lower (Kd.N_mono (ok':=fun k_ => True) (Kd.S_N (Kd.S_bound ho0)) (fun k_ hk_ => trivial)) (below_size (by repeat (first|(with_reducible first|exact HB.out|apply below_alloc|apply pw_below_drewN|apply below_drew1)|exact HB.out)))); have n1_:=Aside0.mk (below_step (by repeat (first|(with_reducible first|exact HB.out|apply below_alloc|apply pw_below_drewN|apply below_drew1)|exact HB.out)) hb); clear HB; have HO738:=n0_; have HB:=n1_; clear n0_ n1_; (try clear hb); (try clear hb2); (try clear hk); (try clear hi); (try clear ho0))|((with_reducible refine gate_dst (N:=3) rfl ?_); (try (refine gate_guard (by rfl) ?_; dsimp only)); refine box_event ?hg (N:=3) ?hd (cs:=#[.slice none 0 0]) (t:=42) ?hr ?_; (case hd => rfl); (case hg => rfl); (case hr => first|(go_simp; done)|(go_simp; rfl)); intro gb741 hg w9 hbox hb; have n0_:=Aside0.mk (Kd.N_below (Kd.N_elderB (by (with_reducible repeat (first|apply Kd.N_alloc|apply Kd.N_drewN|apply Kd.N_drew)); exact HO738.out) gb741 (Nat.le_of_eq hg.symm)) hb); have n1_:=Aside0.mk (below_step (by repeat (first|(with_reducible first|exact HB.out|apply below_alloc|apply pw_below_drewN|apply below_drew1)|exact HB.out)) hb); have n2_:=Aside0.mk (hbox); have n3_:=Aside0.mk ((by rw [hg]; exact (below_size (by repeat (first|(with_reducible first|exact HB.out|apply below_alloc|apply pw_below_drewN|apply below_drew1)|exact HB.out))) : w.heap.size ≤ gb741)); have n4_:=Aside0.mk ((by rw [hg]; exact (below_size (by repeat (first|(with_reducible first|exact HB.out|apply below_alloc|apply pw_below_drewN|apply below_drew1)|exact HB.out))) : w.heap.size ≤ gb741)); clear HO738; clear HB; have HO738:=n0_; have HB:=n1_; have BK741:=n2_; have GW741:=n3_; have GE741:=n4_; clear n0_ n1_ n2_ n3_ n4_; clear hb hbox hg; obtain ⟨Ao10,co10,eo10⟩:=Kd.N_slice HO738.out; subst eo10; have hcz11_0 : w9.cell? ⟨gb741,0,none⟩ = some (.slice none 0 0):=(blk_cell BK741.out 0).trans rfl; have hfz11_0:=blk_frozen BK741.out 0)|((with_reducible refine gate_callee (f:=37) rfl ?_); refine goesL_ (some 37) rfl rfl Try.func37 (by kernel_rfl) rfl #[.agg #[.slice Ao10 t736.length co10],.int .i64 t739,.int .i64 t740] rfl (by (try simp only [List.map_toArray,List.map_cons,List.map_nil]); first|done|rfl|(simp only [List.length_drop,List.length_take]; rfl)) ?_; (with_reducible refine (impl_PutBox.calls k _ _ t736 t739 t740 t742 t745 _ ?side1 ?side2 A5.out).mono ?_); (case side1 => refine (Kd.N_reads' (e:=24) (base:=w.heap.size) (ok:=fun k_ => (True ∧ k_ ≠ gb741)) (n:=t736.length) (c:=co10) ?_).2.2; exact (by (with_reducible repeat (first|apply Kd.N_alloc|apply Kd.N_drewN|apply Kd.N_drew)); exact (Kd.N_mono (Kd.N_far (p:=⟨gb741,0,none⟩) (Kd.N_mono HO738.out (fun k_ hk => (⟨hk,hk.2⟩ : _ ∧ k_ ≠ gb741))) (fun _ hk => hk.2) (.slice Ao10 t736.length co10)) (fun _ h_ => h_.1)))); (case side2 => exact (Kd.N_reads' HO738.out).2.1); rintro e w12 ⟨v743,rfl,ho0,hb⟩; refine ⟨_,rfl,?_⟩; have n0_:=Aside0.mk (Kd.N_elder' (by (with_reducible repeat (first|apply Kd.N_alloc|apply Kd.N_drewN|apply Kd.N_drew)); exact (Kd.N_mono (Kd.N_far (p:=⟨gb741,0,none⟩) (Kd.N_mono HO738.out (fun k_ hk => (⟨hk,hk.2⟩ : _ ∧ k_ ≠ gb741))) (fun _ hk => hk.2) (.slice Ao10 t736.length co10)) (fun _ h_ => h_.1))) (by first|exact Kd.S_base ho0|exact Kd.N_base ho0) hb); have n1_:=Aside0.mk (Kd.N_lower (Kd.N_mono (ok':=fun k_ => some k_ ≠ (.slice Ao10 t736.length co10 : Value).ownBlock ∧ k_ ≠ gb741) (Kd.S_N (Kd.S_bound ho0)) (fun k_ hk_ => ⟨(Kd.fresh' (Kd.N_lt (by (with_reducible repeat (first|apply Kd.N_alloc|apply Kd.N_drewN|apply Kd.N_drew)); exact (Kd.N_mono (Kd.N_far (p:=⟨gb741,0,none⟩) (Kd.N_mono HO738.out (fun k_ hk => (⟨hk,hk.2⟩ : _ ∧ k_ ≠ gb741))) (fun _ hk => hk.2) (.slice Ao10 t736.length co10)) (fun _ h_ => h_.1)))) k_ hk_.2.1),(Kd.freshB (g:=gb741) (o:=.cells #[.slice Ao10 t736.length co10] 42 (0,0)) (by (with_reducible repeat (first|refine blk_drewN ?_ _|refine blk_drew ?_|refine blk_alloc ?_ _)); refine blk_put (cs:=#[.slice none 0 0]) ?_ 0 _ rfl; (with_reducible repeat (first|refine blk_drewN ?_ _|refine blk_drew ?_|refine blk_alloc ?_ _)); exact BK741.out) k_ hk_.2.1)⟩)) (below_size (by repeat (first|(with_reducible first|exact HB.out|apply below_alloc|apply pw_below_drewN|apply below_drew1|refine below_set ?_ GE741.out)|exact HB.out)))); have n2_:=Aside0.mk (blk_below (g:=gb741) (o:=.cells #[.slice Ao10 t736.length co10] 42 (0,0)) (by (with_reducible repeat (first|refine blk_drewN ?_ _|refine blk_drew ?_|refine blk_alloc ?_ _)); refine blk_put (cs:=#[.slice none 0 0]) ?_ 0 _ rfl; (with_reducible repeat (first|refine blk_drewN ?_ _|refine blk_drew ?_|refine blk_alloc ?_ _)); exact BK741.out) hb); have n3_:=Aside0.mk (below_step (by repeat (first|(with_reducible first|exact HB.out|apply below_alloc|apply pw_below_drewN|apply below_drew1|refine below_set ?_ GE741.out)|exact HB.out)) hb); clear HO738; clear BK741; clear HB; have HO738:=n0_; have HO744:=n1_; have BK741:=n2_; have HB:=n3_; clear n0_ n1_ n2_ n3_; (try clear hb); (try clear hb2); (try clear hk); (try clear hi); (try clear ho0))|((with_reducible refine gate_dst (N:=6) rfl ?_); (try (refine gate_guard (by rfl) ?_; dsimp only)); refine box_event ?hg (N:=6) ?hd (cs:=#[.slice none 0 0]) (t:=42) ?hr ?_; (case hd => rfl); (case hg => rfl); (case hr => first|(go_simp; done)|(go_simp; rfl)); intro gb746 hg w13 hbox hb; have n0_:=Aside0.mk (Kd.N_below (Kd.N_elderB (by (with_reducible repeat (first|apply Kd.N_alloc|apply Kd.N_drewN|apply Kd.N_drew)); exact HO738.out) gb746 (Nat.le_of_eq hg.symm)) hb); have n1_:=Aside0.mk (Kd.N_below (Kd.N_elderB (by (with_reducible repeat (first|apply Kd.N_alloc|apply Kd.N_drewN|apply Kd.N_drew)); exact HO744.out) gb746 (Nat.le_of_eq hg.symm)) hb); have n2_:=Aside0.mk (blk_below (g:=gb741) (o:=.cells #[.slice Ao10 t736.length co10] 42 (0,0)) (by (with_reducible repeat (first|refine blk_drewN ?_ _|refine blk_drew ?_|refine blk_alloc ?_ _)); exact BK741.out) hb); have n3_:=Aside0.mk (below_step (by repeat (first|(with_reducible first|exact HB.out|apply below_alloc|apply pw_below_drewN|apply below_drew1|refine below_set ?_ GE741.out)|exact HB.out)) hb); have n4_:=Aside0.mk (hbox); have n5_:=Aside0.mk ((by rw [hg]; exact (below_size (by repeat (first|(with_reducible first|exact HB.out|apply below_alloc|apply pw_below_drewN|apply below_drew1|refine below_set ?_ GE741.out)|exact HB.out))) : w.heap.size ≤ gb746)); have n6_:=Aside0.mk ((by rw [hg]; exact (below_size (by repeat (first|(with_reducible first|exact HB.out|apply below_alloc|apply pw_below_drewN|apply below_drew1|refine below_set ?_ GE741.out)|exact HB.out))) : w.heap.size ≤ gb746)); have n7_:=Aside0.mk ((by rw [hg]; exact Nat.ne_of_lt (blk_lt (g:=gb741) (o:=.cells #[.slice Ao10 t736.length co10] 42 (0,0)) (by (with_reducible repeat (first|refine blk_drewN ?_ _|refine blk_drew ?_|refine blk_alloc ?_ _)); exact BK741.out)) : gb741 ≠ gb746)); have n8_:=Aside0.mk ((by rw [hg]; exact Nat.ne_of_gt (blk_lt (g:=gb741) (o:=.cells #[.slice Ao10 t736.length co10] 42 (0,0)) (by (with_reducible repeat (first|refine blk_drewN ?_ _|refine blk_drew ?_|refine blk_alloc ?_ _)); exact BK741.out)) : gb746 ≠ gb741)); clear HO738; clear HO744; clear BK741; clear HB; have HO738:=n0_; have HO744:=n1_; have BK741:=n2_; have HB:=n3_; have BK746:=n4_; have GW746:=n5_; have GE746:=n6_; have NB741_746:=n7_; have NB746_741:=n8_; clear n0_ n1_ n2_ n3_ n4_ n5_ n6_ n7_ n8_; clear hb hbox hg; obtain ⟨Ao14,co14,eo14⟩:=Kd.N_slice HO744.out; subst eo14; have hnb15:=NB746_741.out; have hnc15:=NB741_746.out; have hcz16_0 : w13.cell? ⟨gb746,0,none⟩ = some (.slice none 0 0):=(blk_cell BK746.out 0).trans rfl; have hfz16_0:=blk_frozen BK746.out 0; have hcz17_0 : w13.cell? ⟨gb741,0,none⟩ = some (.slice Ao10 t736.length co10):=(blk_cell BK741.out 0).trans rfl; have hfz17_0:=blk_frozen BK741.out 0)|((with_reducible refine gate_callee (f:=38) rfl ?_); refine goesL_ (some 44) rfl rfl Try.func38 (by kernel_rfl) rfl #[.agg #[.slice Ao10 t736.length co10],.int .i64 t739,.int .i64 t740] rfl (by (try simp only [List.map_toArray,List.map_cons,List.map_nil]); first|done|rfl|(simp only [List.length_drop,List.length_take]; rfl)) ?_; (with_reducible refine (spec_PutBox.calls k _ _ t736 t739 t740 t747 t750 _ ?side1 ?side2 A6.out).mono ?_); (case side1 => refine (Kd.N_reads' (e:=24) (base:=w.heap.size) (ok:=fun k_ => (((True ∧ k_ ≠ gb741) ∧ some k_ ≠ (.slice Ao14 t742.length co14 : Value).ownBlock) ∧ k_ ≠ gb746)) (n:=t736.length) (c:=co10) ?_).2.2; exact (by (with_reducible repeat (first|apply Kd.N_alloc|apply Kd.N_drewN|apply Kd.N_drew)); exact (Kd.N_mono (Kd.N_far (p:=⟨gb746,0,none⟩) (Kd.N_mono HO738.out (fun k_ hk => (⟨hk,hk.2⟩ : _ ∧ k_ ≠ gb746))) (fun _ hk => hk.2) (.slice Ao14 t742.length co14)) (fun _ h_ => h_.1)))); (case side2 => exact (Kd.N_reads' HO738.out).2.1); rintro e w18 ⟨v748,rfl,ho0,hb⟩; refine ⟨_,rfl,?_⟩; have n0_:=Aside0.mk (Kd.N_elder' (by (with_reducible repeat (first|apply Kd.N_alloc|apply Kd.N_drewN|apply Kd.N_drew)); exact (Kd.N_mono (Kd.N_far (p:=⟨gb746,0,none⟩) (Kd.N_mono HO738.out (fun k_ hk => (⟨hk,hk.2⟩ : _ ∧ k_ ≠ gb746))) (fun _ hk => hk.2) (.slice Ao14 t742.length co14)) (fun _ h_ => h_.1))) (by first|exact Kd.S_base ho0|exact Kd.N_base ho0) hb); have n1_:=Aside0.mk (Kd.N_elder' (by (with_reducible repeat (first|apply Kd.N_alloc|apply Kd.N_drewN|apply Kd.N_drew)); exact (Kd.N_mono (Kd.N_far (p:=⟨gb746,0,none⟩) (Kd.N_mono HO744.out (fun k_ hk => (⟨hk,hk.2⟩ : _ ∧ k_ ≠ gb746))) (fun _ hk => hk.2) (.slice Ao14 t742.length co14)) (fun _ h_ => h_.1))) (by first|exact Kd.S_base ho0|exact Kd.N_base ho0) hb); have n2_:=Aside0.mk (Kd.N_lower (Kd.N_mono (ok':=fun k_ => some k_ ≠ (.slice Ao10 t736.length co10 : Value).ownBlock ∧ some k_ ≠ (.slice Ao14 t742.length co14 : Value).ownBlock ∧ k_ ≠ gb741 ∧ k_ ≠ gb746) (Kd.S_N (Kd.S_bound ho0)) (fun k_ hk_ => ⟨(Kd.fresh' (Kd.N_lt (by (with_reducible repeat (first|apply Kd.N_alloc|apply Kd.N_drewN|apply Kd.N_drew)); exact (Kd.N_mono (Kd.N_far (p:=⟨gb746,0,none⟩) (Kd.N_mono HO738.out (fun k_ hk => (⟨hk,hk.2⟩ : _ ∧ k_ ≠ gb746))) (fun _ hk => hk.2) (.slice Ao14 t742.length co14)) (fun _ h_ => h_.1)))) k_ hk_.2.1),(Kd.fresh' (Kd.N_lt (by (with_reducible repeat (first|apply Kd.N_alloc|apply Kd.N_drewN|apply Kd.N_drew)); exact (Kd.N_mono (Kd.N_far (p:=⟨gb746,0,none⟩) (Kd.N_mono HO744.out (fun k_ hk => (⟨hk,hk.2⟩ : _ ∧ k_ ≠ gb746))) (fun _ hk => hk.2) (.slice Ao14 t742.length co14)) (fun _ h_ => h_.1)))) k_ hk_.2.1),(Kd.freshB (g:=gb741) (o:=.cells #[.slice Ao10 t736.length co10] 42 (0,0)) (by (with_reducible repeat (first|refine blk_drewN ?_ _|refine blk_drew ?_|refine blk_alloc ?_ _)); refine blk_far ?_ NB741_746.out _; (with_reducible repeat (first|refine blk_drewN ?_ _|refine blk_drew ?_|refine blk_alloc ?_ _)); exact BK741.out) k_ hk_.2.1),(Kd.freshB (g:=gb746) (o:=.cells #[.slice Ao14 t742.length co14] 42 (0,0)) (by (with_reducible repeat (first|refine blk_drewN ?_ _|refine blk_drew ?_|refine blk_alloc ?_ _)); refine blk_put (cs:=#[.slice none 0 0]) ?_ 0 _ rfl; (with_reducible repeat (first|refine blk_drewN ?_ _|refine blk_drew ?_|refine blk_alloc ?_ _)); exact BK746.out) k_ hk_.2.1)⟩)) (below_size (by repeat (first|(with_reducible first|exact HB.out|apply below_alloc|apply pw_below_drewN|apply below_drew1|refine below_set ?_ GE741.out|refine below_set ?_ GE746.out)|exact HB.out)))); have n3_:=Aside0.mk (blk_below (g:=gb741) (o:=.cells #[.slice Ao10 t736.length co10] 42 (0,0)) (by (with_reducible repeat (first|refine blk_drewN ?_ _|refine blk_drew ?_|refine blk_alloc ?_ _)); refine blk_far ?_ NB741_746.out _; (with_reducible repeat (first|refine blk_drewN ?_ _|refine blk_drew ?_|refine blk_alloc ?_ _)); exact BK741.out) hb); have n4_:=Aside0.mk (blk_below (g:=gb746) (o:=.cells #[.slice Ao14 t742.length co14] 42 (0,0)) (by (with_reducible repeat (first|refine blk_drewN ?_ _|refine blk_drew ?_|refine blk_alloc ?_ _)); refine blk_put (cs:=#[.slice none 0 0]) ?_ 0 _ rfl; (with_reducible repeat (first|refine blk_drewN ?_ _|refine blk_drew ?_|refine blk_alloc ?_ _)); exact BK746.out) hb); have n5_:=Aside0.mk (below_step (by repeat (first|(with_reducible first|exact HB.out|apply below_alloc|apply pw_below_drewN|apply below_drew1|refine below_set ?_ GE741.out|refine below_set ?_ GE746.out)|exact HB.out)) hb); clear HO738; clear HO744; clear BK741; clear BK746; clear HB; have HO738:=n0_; have HO744:=n1_; have HO749:=n2_; have BK741:=n3_; have BK746:=n4_; have HB:=n5_; clear n0_ n1_ n2_ n3_ n4_ n5_; (try clear hb); (try clear hb2); (try clear hk); (try clear hi); (try clear ho0))|((with_reducible refine gate_dst (N:=8) rfl ?_); (try (refine gate_guard (by rfl) ?_; dsimp only)); refine box_event ?hg (N:=8) ?hd (cs:=#[.slice none 0 0]) (t:=42) ?hr ?_; (case hd => rfl); (case hg => rfl); (case hr => first|(go_simp; done)|(go_simp; rfl)); intro gb751 hg w19 hbox hb; have n0_:=Aside0.mk (Kd.N_below (Kd.N_elderB (by (with_reducible repeat (first|apply Kd.N_alloc|apply Kd.N_drewN|apply Kd.N_drew)); exact HO738.out) gb751 (Nat.le_of_eq hg.symm)) hb); have n1_:=Aside0.mk (Kd.N_below (Kd.N_elderB (by (with_reducible repeat (first|apply Kd.N_alloc|apply Kd.N_drewN|apply Kd.N_drew)); exact HO744.out) gb751 (Nat.le_of_eq hg.symm)) hb); have n2_:=Aside0.mk (Kd.N_below (Kd.N_elderB (by (with_reducible repeat (first|apply Kd.N_alloc|apply Kd.N_drewN|apply Kd.N_drew)); exact HO749.out) gb751 (Nat.le_of_eq hg.symm)) hb); have n3_:=Aside0.mk (blk_below (g:=gb741) (o:=.cells #[.slice Ao10 t736.length co10] 42 (0,0)) (by (with_reducible repeat (first|refine blk_drewN ?_ _|refine blk_drew ?_|refine blk_alloc ?_ _)); exact BK741.out) hb); have n4_:=Aside0.mk (blk_below (g:=gb746) (o:=.cells #[.slice Ao14 t742.length co14] 42 (0,0)) (by (with_reducible repeat (first|refine blk_drewN ?_ _|refine blk_drew ?_|refine blk_alloc ?_ _)); exact BK746.out) hb); have n5_:=Aside0.mk (below_step (by repeat (first|(with_reducible first|exact HB.out|apply below_alloc|apply pw_below_drewN|apply below_drew1|refine below_set ?_ GE741.out|refine below_set ?_ GE746.out)|exact HB.out)) hb); have n6_:=Aside0.mk (hbox); have n7_:=Aside0.mk ((by rw [hg]; exact (below_size (by repeat (first|(with_reducible first|exact HB.out|apply below_alloc|apply pw_below_drewN|apply below_drew1|refine below_set ?_ GE741.out|refine below_set ?_ GE746.out)|exact HB.out))) : w.heap.size ≤ gb751)); have n8_:=Aside0.mk ((by rw [hg]; exact (below_size (by repeat (first|(with_reducible first|exact HB.out|apply below_alloc|apply pw_below_drewN|apply below_drew1|refine below_set ?_ GE741.out|refine below_set ?_ GE746.out)|exact HB.out))) : w.heap.size ≤ gb751)); have n9_:=Aside0.mk ((by rw [hg]; exact Nat.ne_of_lt (blk_lt (g:=gb741) (o:=.cells #[.slice Ao10 t736.length co10] 42 (0,0)) (by (with_reducible repeat (first|refine blk_drewN ?_ _|refine blk_drew ?_|refine blk_alloc ?_ _)); exact BK741.out)) : gb741 ≠ gb751)); have n10_:=Aside0.mk ((by rw [hg]; exact Nat.ne_of_gt (blk_lt (g:=gb741) (o:=.cells #[.slice Ao10 t736.length co10] 42 (0,0)) (by (with_reducible repeat (first|refine blk_drewN ?_ _|refine blk_drew ?_|refine blk_alloc ?_ _)); exact BK741.out)) : gb751 ≠ gb741)); have n11_:=Aside0.mk ((by rw [hg]; exact Nat.ne_of_lt (blk_lt (g:=gb746) (o:=.cells #[.slice Ao14 t742.length co14] 42 (0,0)) (by (with_reducible repeat (first|refine blk_drewN ?_ _|refine blk_drew ?_|refine blk_alloc ?_ _)); exact BK746.out)) : gb746 ≠ gb751)); have n12_:=Aside0.mk ((by rw [hg]; exact Nat.ne_of_gt (blk_lt (g:=gb746) (o:=.cells #[.slice Ao14 t742.length co14] 42 (0,0)) (by (with_reducible repeat (first|refine blk_drewN ?_ _|refine blk_drew ?_|refine blk_alloc ?_ _)); exact BK746.out)) : gb751 ≠ gb746)); clear HO738; clear HO744; clear HO749; clear BK741; clear BK746; clear HB; have HO738:=n0_; have HO744:=n1_; have HO749:=n2_; have BK741:=n3_; have BK746:=n4_; have HB:=n5_; have BK751:=n6_; have GW751:=n7_; have GE751:=n8_; have NB741_751:=n9_; have NB751_741:=n10_; have NB746_751:=n11_; have NB751_746:=n12_; clear n0_ n1_ n2_ n3_ n4_ n5_ n6_ n7_ n8_ n9_ n10_ n11_ n12_; clear hb hbox hg; obtain ⟨Ao20,co20,eo20⟩:=Kd.N_slice HO749.out; subst eo20; have hnb21:=NB751_741.out; have hnc21:=NB741_751.out; have hnb22:=NB751_746.out; have hnc22:=NB746_751.out; have hcz23_0 : w19.cell? ⟨gb751,0,none⟩ = some (.slice none 0 0):=(blk_cell BK751.out 0).trans rfl; have hfz23_0:=blk_frozen BK751.out 0))
  (try simp only [Act.put,List.setIfInBounds_toArray,List.set_cons_zero,List.set_cons_succ])
  go_cut [62] (fun v62 wc => ∃ (kq : Nat) (x62_6 : Bool),v62 = .bool x62_6 ∧ Aside0 (lw.j0 kq t739 t740 t745 x62_6 t736 t742 = some r) ∧ Aside0 (kq ≤ k) ∧ Aside0 (Kd.N (Kd.slice 3 (Kd.int .i64)) 24 wc w.heap.size (fun k_ => some k_ ≠ ((.slice Ao14 t742.length co14) : Value).ownBlock ∧ some k_ ≠ ((.slice Ao20 t747.length co20) : Value).ownBlock ∧ k_ ≠ gb741 ∧ k_ ≠ gb746 ∧ k_ ≠ gb751) (.slice Ao10 t736.length co10) t736) ∧ Aside0 (Kd.N (Kd.slice 3 (Kd.int .i64)) 24 wc w.heap.size (fun k_ => some k_ ≠ ((.slice Ao10 t736.length co10) : Value).ownBlock ∧ some k_ ≠ ((.slice Ao20 t747.length co20) : Value).ownBlock ∧ k_ ≠ gb741 ∧ k_ ≠ gb746 ∧ k_ ≠ gb751) (.slice Ao14 t742.length co14) t742) ∧ Aside0 (Kd.N (Kd.slice 3 (Kd.int .i64)) 24 wc w.heap.size (fun k_ => some k_ ≠ ((.slice Ao10 t736.length co10) : Value).ownBlock ∧ some k_ ≠ ((.slice Ao14 t742.length co14) : Value).ownBlock ∧ k_ ≠ gb741 ∧ k_ ≠ gb746 ∧ k_ ≠ gb751) (.slice Ao20 t747.length co20) t747) ∧ Aside0 (wc.heap[gb741]? = some (.cells #[(.slice Ao10 t736.length co10)] 42 (0,0))) ∧ Aside0 (wc.heap[gb746]? = some (.cells #[(.slice Ao14 t742.length co14)] 42 (0,0))) ∧ Aside0 (wc.heap[gb751]? = some (.cells #[(.slice Ao20 t747.length co20)] 42 (0,0))) ∧ Aside0 (Below w.heap.size w wc))
  case first =>
   have H:=HC7.out
   clear HC7
   by_cases c24 : (t745 != t750) = true
   ·rw [if_pos c24] at H
    have c24b0 : (t745 != t750) = true:=c24
    (try (have c24b1 : decide (t745 = t750) = false:=by simpa using c24))
    (try (have c24b2 : (t745 == t750) = false:=by simpa using c24))
    (try (have c24b3 : ¬ (t745 = t750):=by simpa using c24))
    clear c24
    (first|rw [c24b0]|(simp only [i64_w,i32_w]; rw [c24b0])|skip)
    exact absurd H (by simp)
   ·rw [if_neg c24] at H
    have c24b0 : (t745 != t750) = false:=by simpa using c24
    (try (have c24b1 : decide (t745 = t750) = true:=by simpa using c24))
    (try (have c24b2 : (t745 == t750) = true:=by simpa using c24))
    clear c24
    (first|rw [c24b0]|(simp only [i64_w,i32_w]; rw [c24b0])|skip)
    replace H:=Option.bind_eq_some_iff.mp H
    obtain ⟨t752,A270,H⟩:=H
    replace H : (if t752 = true then ((impl_IsValidYard.f t736).bind fun t753 => ((spec_IsValidYard.f k t736).bind fun t754 => (lw.j0 k t739 t740 t745 (t753 != t754) t736 t742))) else (none)) = some r:=H
    have A27:=Aside0.mk A270
    clear A270
    by_cases c28 : t752 = true
    ·subst c28
     have H1 : ((impl_IsValidYard.f t736).bind fun t753 => ((spec_IsValidYard.f k t736).bind fun t754 => (lw.j0 k t739 t740 t745 (t753 != t754) t736 t742))) = some r:=by rw [if_pos rfl] at H; exact H
     clear H
     have H:=H1
     clear H1
     replace H:=Option.bind_eq_some_iff.mp H
     obtain ⟨t753,A290,H⟩:=H
     replace H : ((spec_IsValidYard.f k t736).bind fun t754 => (lw.j0 k t739 t740 t745 (t753 != t754) t736 t742)) = some r:=H
     have A29:=Aside0.mk A290
     clear A290
     replace H:=Option.bind_eq_some_iff.mp H
     obtain ⟨t754,A300,H⟩:=H
     replace H : (lw.j0 k t739 t740 t745 (t753 != t754) t736 t742) = some r:=H
     have A30:=Aside0.mk A300
     clear A300
     have H':=Aside0.mk H
     clear H
     try go_wp2
     have n0_ : Aside0 (Kd.N (Kd.slice 3 (Kd.int .i64)) 24 (w19.setCell ⟨gb751,0,none⟩ (.slice Ao20 t747.length co20)) w.heap.size (fun k_ => some k_ ≠ (.slice Ao14 t742.length co14 : Value).ownBlock ∧ some k_ ≠ (.slice Ao20 t747.length co20 : Value).ownBlock ∧ k_ ≠ gb741 ∧ k_ ≠ gb746 ∧ k_ ≠ gb751) (.slice Ao10 t736.length co10) t736):=⟨by (with_reducible repeat (first|apply Kd.N_alloc|apply Kd.N_drewN|apply Kd.N_drew)); exact Kd.N_mono (Kd.N_far (p:=⟨gb751,0,none⟩) (Kd.N_mono HO738.out (fun k_ hk => (⟨hk,hk.2⟩ : _ ∧ k_ ≠ gb751))) (fun _ hk => hk.2) (.slice Ao20 t747.length co20)) (fun _ hk => ⟨hk.1.1.1.1.2,⟨hk.1.1.2,⟨hk.1.1.1.1.1.2,⟨hk.1.1.1.2,hk.1.2⟩⟩⟩⟩)⟩
     have n1_ : Aside0 (Kd.N (Kd.slice 3 (Kd.int .i64)) 24 (w19.setCell ⟨gb751,0,none⟩ (.slice Ao20 t747.length co20)) w.heap.size (fun k_ => some k_ ≠ (.slice Ao10 t736.length co10 : Value).ownBlock ∧ some k_ ≠ (.slice Ao20 t747.length co20 : Value).ownBlock ∧ k_ ≠ gb741 ∧ k_ ≠ gb746 ∧ k_ ≠ gb751) (.slice Ao14 t742.length co14) t742):=⟨by (with_reducible repeat (first|apply Kd.N_alloc|apply Kd.N_drewN|apply Kd.N_drew)); exact Kd.N_mono (Kd.N_far (p:=⟨gb751,0,none⟩) (Kd.N_mono HO744.out (fun k_ hk => (⟨hk,hk.2⟩ : _ ∧ k_ ≠ gb751))) (fun _ hk => hk.2) (.slice Ao20 t747.length co20)) (fun _ hk => ⟨hk.1.1.1.1.1,⟨hk.1.1.2,⟨hk.1.1.1.1.2,⟨hk.1.1.1.2,hk.1.2⟩⟩⟩⟩)⟩
     have n2_ : Aside0 (Kd.N (Kd.slice 3 (Kd.int .i64)) 24 (w19.setCell ⟨gb751,0,none⟩ (.slice Ao20 t747.length co20)) w.heap.size (fun k_ => some k_ ≠ (.slice Ao10 t736.length co10 : Value).ownBlock ∧ some k_ ≠ (.slice Ao14 t742.length co14 : Value).ownBlock ∧ k_ ≠ gb741 ∧ k_ ≠ gb746 ∧ k_ ≠ gb751) (.slice Ao20 t747.length co20) t747):=⟨by (with_reducible repeat (first|apply Kd.N_alloc|apply Kd.N_drewN|apply Kd.N_drew)); exact Kd.N_mono (Kd.N_far (p:=⟨gb751,0,none⟩) (Kd.N_mono HO749.out (fun k_ hk => (⟨hk,hk.2⟩ : _ ∧ k_ ≠ gb751))) (fun _ hk => hk.2) (.slice Ao20 t747.length co20)) (fun _ hk => ⟨hk.1.1.1,⟨hk.1.1.2.1,⟨hk.1.1.2.2.1,⟨hk.1.1.2.2.2,hk.1.2⟩⟩⟩⟩)⟩
     have n3_ : Aside0 ((w19.setCell ⟨gb751,0,none⟩ (.slice Ao20 t747.length co20)).heap[gb741]? = some (.cells #[.slice Ao10 t736.length co10] 42 (0,0))):=⟨by (with_reducible repeat (first|refine blk_drewN ?_ _|refine blk_drew ?_|refine blk_alloc ?_ _)); refine blk_far ?_ NB741_751.out _; (with_reducible repeat (first|refine blk_drewN ?_ _|refine blk_drew ?_|refine blk_alloc ?_ _)); exact BK741.out⟩
     have n4_ : Aside0 ((w19.setCell ⟨gb751,0,none⟩ (.slice Ao20 t747.length co20)).heap[gb746]? = some (.cells #[.slice Ao14 t742.length co14] 42 (0,0))):=⟨by (with_reducible repeat (first|refine blk_drewN ?_ _|refine blk_drew ?_|refine blk_alloc ?_ _)); refine blk_far ?_ NB746_751.out _; (with_reducible repeat (first|refine blk_drewN ?_ _|refine blk_drew ?_|refine blk_alloc ?_ _)); exact BK746.out⟩
     have n5_ : Aside0 ((w19.setCell ⟨gb751,0,none⟩ (.slice Ao20 t747.length co20)).heap[gb751]? = some (.cells #[.slice Ao20 t747.length co20] 42 (0,0))):=⟨by (with_reducible repeat (first|refine blk_drewN ?_ _|refine blk_drew ?_|refine blk_alloc ?_ _)); refine blk_put (cs:=#[.slice none 0 0]) ?_ 0 _ rfl; (with_reducible repeat (first|refine blk_drewN ?_ _|refine blk_drew ?_|refine blk_alloc ?_ _)); exact BK751.out⟩
     have n6_ : Aside0 (Below w.heap.size w (w19.setCell ⟨gb751,0,none⟩ (.slice Ao20 t747.length co20))):=⟨by repeat (first|(with_reducible first|exact HB.out|apply below_alloc|apply pw_below_drewN|apply below_drew1|refine below_set ?_ GE741.out|refine below_set ?_ GE746.out|refine below_set ?_ GE751.out)|exact HB.out)⟩
     (try clear HO738)
     (try clear HO744)
     (try clear HO749)
     (try clear BK741)
     (try clear BK746)
     (try clear BK751)
     (try clear HB)
     generalize (w19.setCell ⟨gb751,0,none⟩ (.slice Ao20 t747.length co20)) = w31 at n0_ n1_ n2_ n3_ n4_ n5_ n6_ ⊢
     have HO738:=n0_
     have HO744:=n1_
     have HO749:=n2_
     have BK741:=n3_
     have BK746:=n4_
     have BK751:=n5_
     have HB:=n6_
     clear n0_ n1_ n2_ n3_ n4_ n5_ n6_
     have n0_:=Aside0.mk (Kd.N_drew HO738.out)
     have n1_:=Aside0.mk (Kd.N_drew HO744.out)
     have n2_:=Aside0.mk (Kd.N_drew HO749.out)
     have n3_:=Aside0.mk (blk_drew BK741.out)
     have n4_:=Aside0.mk (blk_drew BK746.out)
     have n5_:=Aside0.mk (blk_drew BK751.out)
     have n6_:=Aside0.mk (below_drew1 HB.out)
     clear HO738
     clear HO744
     clear HO749
     clear BK741
     clear BK746
     clear BK751
     clear HB
     have HO738:=n0_
     have HO744:=n1_
     have HO749:=n2_
     have BK741:=n3_
     have BK746:=n4_
     have BK751:=n5_
     have HB:=n6_
     clear n0_ n1_ n2_ n3_ n4_ n5_ n6_
     refine start_ (n:=16) (S:=fun w' => w'.cell? ⟨gb746,0,none⟩ = some (.slice Ao14 t742.length co14) ∧ w'.cell? ⟨gb751,0,none⟩ = some (.slice Ao20 t747.length co20) ∧ w'.cell? ⟨gb741,0,none⟩ = some (.slice Ao10 t736.length co10)) (ds:=[]) (bc36 16 0) (by kernel_rfl) rfl rfl ⟨(blk_cell BK746.out 0).trans rfl,(blk_cell BK751.out 0).trans rfl,(blk_cell BK741.out 0).trans rfl⟩ (fun hHeld => ?_); refine with_tabW lw.tab6 lw.bits6 (fun HT_ HW_ => ?_)
     generalize w31.drew = w32 at HO738 HO744 HO749 BK741 BK746 BK751 HB hHeld ⊢
     refine pure_ (i:=0) (N:=some 47) (v:=?_) (a':=?_) (bc36 16 1) rfl rfl (any_of HT_.out (by kernel_rfl)) (fun _ _ _ h => h) (Or.inl ⟨by rfl,?_⟩) ?_ ?_
     rotate_left
     ·intro w'
      go_simp
      with_reducible rfl
     rotate_left
     ·simp only [Act.put,List.setIfInBounds_toArray,List.set_cons_zero,List.set_cons_succ,i64_w,i32_w]
      rfl
     refine pure_ (i:=1) (N:=some 48) (v:=?_) (a':=?_) (bc36 16 3) rfl rfl (any_of HT_.out (by kernel_rfl)) (fun _ _ _ h => h) (Or.inl ⟨by rfl,?_⟩) ?_ ?_
     rotate_left
     ·intro w'
      go_simp
      with_reducible rfl
     rotate_left
     ·simp only [Act.put,List.setIfInBounds_toArray,List.set_cons_zero,List.set_cons_succ,i64_w,i32_w]
      rfl
     refine pure_ (i:=2) (N:=some 49) (v:=?_) (a':=?_) (bc36 16 7) rfl rfl (any_of HT_.out (by kernel_rfl)) (fun _ _ _ h => h) (Or.inl ⟨by rfl,?_⟩) ?_ ?_
     rotate_left
     ·intro w'
      go_simp
      with_reducible rfl
     rotate_left
     ·simp only [Act.put,List.setIfInBounds_toArray,List.set_cons_zero,List.set_cons_succ,i64_w,i32_w]
      rfl
     refine pure_ (i:=3) (N:=some 50) (v:=?_) (a':=?_) (bc36 16 15) rfl rfl (any_of HT_.out (by kernel_rfl)) (fun _ _ _ h => h) (Or.inl ⟨by rfl,?_⟩) ?_ ?_
     rotate_left
     ·intro w'
      go_simp
      with_reducible rfl
     rotate_left
     ·simp only [Act.put,List.setIfInBounds_toArray,List.set_cons_zero,List.set_cons_succ,i64_w,i32_w]
      rfl
     refine take_ (i:=4) (N:=some 51) (v:=?_) (a':=?_) (bc36 16 31) rfl rfl (take_ofW HT_.out HW_.out (by kernel_rfl)) (fun _ _ _ h => h) (Or.inl ⟨by rfl,?_⟩) hHeld ?_ ?_
     rotate_left
     ·rintro w' ⟨s0,s1,s2⟩
      go_simp
      with_reducible rfl
     rotate_left
     ·simp only [Act.put,List.setIfInBounds_toArray,List.set_cons_zero,List.set_cons_succ,i64_w,i32_w]
      rfl
     refine take_ (i:=5) (N:=some 52) (v:=?_) (a':=?_) (bc36 16 63) rfl rfl (take_ofW HT_.out HW_.out (by kernel_rfl)) (fun _ _ _ h => h) (Or.inl ⟨by rfl,?_⟩) hHeld ?_ ?_
     rotate_left
     ·rintro w' ⟨s0,s1,s2⟩
      go_simp
      with_reducible rfl
     rotate_left
     ·simp only [Act.put,List.setIfInBounds_toArray,List.set_cons_zero,List.set_cons_succ,i64_w,i32_w]
      rfl
     refine one_ (i:=6) (N:=some 53) (bc36 16 127) rfl rfl (one_of HT_.out (by kernel_rfl)) (by decide) (fun K hK => ?_)
     refine goes_ Try.func39 (by kernel_rfl) rfl #[.agg #[.slice Ao14 t742.length co14],.agg #[.slice Ao20 t747.length co20]] (by rfl) rfl rfl (by (try simp only [List.map_toArray,List.map_cons,List.map_nil]); first|done|rfl|(simp only [List.length_drop,List.length_take]; rfl)) ?_
     with_reducible refine (laws_vYard.calls k _ _ t742 _ _ t747 true _ ?side1 ?side2 ?side3 ?side4 A27.out).mono ?_
     (case side1 => repeat (first|exact (Kd.N_reads' HO744.out).2.2|(with_reducible refine Kd.C_alloc ?_ _)|(with_reducible refine Kd.C_drewN ?_ _)|(with_reducible refine Kd.C_drew ?_)))
     (case side2 => exact (Kd.N_reads' HO744.out).2.1)
     (case side3 => repeat (first|exact (Kd.N_reads' HO749.out).2.2|(with_reducible refine Kd.C_alloc ?_ _)|(with_reducible refine Kd.C_drewN ?_ _)|(with_reducible refine Kd.C_drew ?_)))
     (case side4 => exact (Kd.N_reads' HO749.out).2.1)
     rintro e w33 ⟨rfl,hb⟩
     refine ⟨_,rfl,?_⟩
     have n0_:=Aside0.mk (Kd.N_below (by (with_reducible repeat (first|apply Kd.N_alloc|apply Kd.N_drewN|apply Kd.N_drew)); exact HO738.out) hb)
     have n1_:=Aside0.mk (Kd.N_below (by (with_reducible repeat (first|apply Kd.N_alloc|apply Kd.N_drewN|apply Kd.N_drew)); exact HO744.out) hb)
     have n2_:=Aside0.mk (Kd.N_below (by (with_reducible repeat (first|apply Kd.N_alloc|apply Kd.N_drewN|apply Kd.N_drew)); exact HO749.out) hb)
     have n3_:=Aside0.mk (blk_below (g:=gb741) (o:=.cells #[.slice Ao10 t736.length co10] 42 (0,0)) (by (with_reducible repeat (first|refine blk_drewN ?_ _|refine blk_drew ?_|refine blk_alloc ?_ _)); exact BK741.out) hb)
     have n4_:=Aside0.mk (blk_below (g:=gb746) (o:=.cells #[.slice Ao14 t742.length co14] 42 (0,0)) (by (with_reducible repeat (first|refine blk_drewN ?_ _|refine blk_drew ?_|refine blk_alloc ?_ _)); exact BK746.out) hb)
     have n5_:=Aside0.mk (blk_below (g:=gb751) (o:=.cells #[.slice Ao20 t747.length co20] 42 (0,0)) (by (with_reducible repeat (first|refine blk_drewN ?_ _|refine blk_drew ?_|refine blk_alloc ?_ _)); exact BK751.out) hb)
     have n6_:=Aside0.mk (below_step (by repeat (first|(with_reducible first|exact HB.out|apply below_alloc|apply pw_below_drewN|apply below_drew1|refine below_set ?_ GE741.out|refine below_set ?_ GE746.out|refine below_set ?_ GE751.out)|exact HB.out)) hb)
     clear HO738
     clear HO744
     clear HO749
     clear BK741
     clear BK746
     clear BK751
     clear HB
     have HO738:=n0_
     have HO744:=n1_
     have HO749:=n2_
     have BK741:=n3_
     have BK746:=n4_
     have BK751:=n5_
     have HB:=n6_
     clear n0_ n1_ n2_ n3_ n4_ n5_ n6_
     (try clear hb)
     (try clear hb2)
     (try clear hk)
     (try clear hi)
     refine hK.out _ _ ⟨(blk_cell BK746.out 0).trans rfl,(blk_cell BK751.out 0).trans rfl,(blk_cell BK741.out 0).trans rfl⟩ (fun hHeld => ?_)
     clear hK K
     refine norm_ (a':=?_) ?_ ?_
     rotate_left
     ·show Act.put _ (some 53) _ = _
      simp only [Act.put,List.setIfInBounds_toArray,List.set_cons_zero,List.set_cons_succ,i64_w,i32_w]
      rfl
     refine pure_ (i:=7) (N:=some 54) (v:=?_) (a':=?_) (bc36 16 255) rfl rfl (any_of HT_.out (by kernel_rfl)) (fun _ _ _ h => h) (Or.inl ⟨by rfl,?_⟩) ?_ ?_
     rotate_left
     ·intro w'
      go_simp
      with_reducible rfl
     rotate_left
     ·simp only [Act.put,List.setIfInBounds_toArray,List.set_cons_zero,List.set_cons_succ,i64_w,i32_w]
      rfl
     refine pure_ (i:=8) (N:=some 55) (v:=?_) (a':=?_) (bc36 16 511) rfl rfl (any_of HT_.out (by kernel_rfl)) (fun _ _ _ h => h) (Or.inl ⟨by rfl,?_⟩) ?_ ?_
     rotate_left
     ·intro w'
      go_simp
      with_reducible rfl
     rotate_left
     ·simp only [Act.put,List.setIfInBounds_toArray,List.set_cons_zero,List.set_cons_succ,i64_w,i32_w]
      rfl
     refine pure_ (i:=9) (N:=some 56) (v:=?_) (a':=?_) (bc36 16 1023) rfl rfl (any_of HT_.out (by kernel_rfl)) (fun _ _ _ h => h) (Or.inl ⟨by rfl,?_⟩) ?_ ?_
     rotate_left
     ·intro w'
      go_simp
      with_reducible rfl
     rotate_left
     ·simp only [Act.put,List.setIfInBounds_toArray,List.set_cons_zero,List.set_cons_succ,i64_w,i32_w]
      rfl
     refine take_ (i:=10) (N:=some 57) (v:=?_) (a':=?_) (bc36 16 2047) rfl rfl (take_ofW HT_.out HW_.out (by kernel_rfl)) (fun _ _ _ h => h) (Or.inl ⟨by rfl,?_⟩) hHeld ?_ ?_
     rotate_left
     ·rintro w' ⟨s0,s1,s2⟩
      go_simp
      with_reducible rfl
     rotate_left
     ·simp only [Act.put,List.setIfInBounds_toArray,List.set_cons_zero,List.set_cons_succ,i64_w,i32_w]
      rfl
     refine take_ (i:=12) (N:=some 59) (v:=?_) (a':=?_) (bc36 16 6143) rfl rfl (take_ofW HT_.out HW_.out (by kernel_rfl)) (fun _ _ _ h => h) (Or.inl ⟨by rfl,?_⟩) hHeld ?_ ?_
     rotate_left
     ·rintro w' ⟨s0,s1,s2⟩
      go_simp
      with_reducible rfl
     rotate_left
     ·simp only [Act.put,List.setIfInBounds_toArray,List.set_cons_zero,List.set_cons_succ,i64_w,i32_w]
      rfl
     refine one_ (i:=11) (N:=some 58) (bc36 16 8191) rfl rfl (one_of HT_.out (by kernel_rfl)) (by decide) (fun K hK => ?_)
     refine goes_ Try.func40 (by kernel_rfl) rfl #[.agg #[.slice Ao10 t736.length co10]] (by rfl) rfl rfl (by (try simp only [List.map_toArray,List.map_cons,List.map_nil]); first|done|rfl|(simp only [List.length_drop,List.length_take]; rfl)) ?_
     with_reducible refine (impl_IsValidYard.calls _ _ t736 t753 _ ?side1 ?side2 A29.out).mono ?_
     (case side1 => repeat (first|exact (Kd.N_reads' HO738.out).2.2|(with_reducible refine Kd.C_alloc ?_ _)|(with_reducible refine Kd.C_drewN ?_ _)|(with_reducible refine Kd.C_drew ?_)))
     (case side2 => exact (Kd.N_reads' HO738.out).2.1)
     rintro e w34 ⟨rfl,hb⟩
     refine ⟨_,rfl,?_⟩
     have n0_:=Aside0.mk (Kd.N_below (by (with_reducible repeat (first|apply Kd.N_alloc|apply Kd.N_drewN|apply Kd.N_drew)); exact HO738.out) hb)
     have n1_:=Aside0.mk (Kd.N_below (by (with_reducible repeat (first|apply Kd.N_alloc|apply Kd.N_drewN|apply Kd.N_drew)); exact HO744.out) hb)
     have n2_:=Aside0.mk (Kd.N_below (by (with_reducible repeat (first|apply Kd.N_alloc|apply Kd.N_drewN|apply Kd.N_drew)); exact HO749.out) hb)
     have n3_:=Aside0.mk (blk_below (g:=gb741) (o:=.cells #[.slice Ao10 t736.length co10] 42 (0,0)) (by (with_reducible repeat (first|refine blk_drewN ?_ _|refine blk_drew ?_|refine blk_alloc ?_ _)); exact BK741.out) hb)
     have n4_:=Aside0.mk (blk_below (g:=gb746) (o:=.cells #[.slice Ao14 t742.length co14] 42 (0,0)) (by (with_reducible repeat (first|refine blk_drewN ?_ _|refine blk_drew ?_|refine blk_alloc ?_ _)); exact BK746.out) hb)
     have n5_:=Aside0.mk (blk_below (g:=gb751) (o:=.cells #[.slice Ao20 t747.length co20] 42 (0,0)) (by (with_reducible repeat (first|refine blk_drewN ?_ _|refine blk_drew ?_|refine blk_alloc ?_ _)); exact BK751.out) hb)
     have n6_:=Aside0.mk (below_step (by repeat (first|(with_reducible first|exact HB.out|apply below_alloc|apply pw_below_drewN|apply below_drew1|refine below_set ?_ GE741.out|refine below_set ?_ GE746.out|refine below_set ?_ GE751.out)|exact HB.out)) hb)
     clear HO738
     clear HO744
     clear HO749
     clear BK741
     clear BK746
     clear BK751
     clear HB
     have HO738:=n0_
     have HO744:=n1_
     have HO749:=n2_
     have BK741:=n3_
     have BK746:=n4_
     have BK751:=n5_
     have HB:=n6_
     clear n0_ n1_ n2_ n3_ n4_ n5_ n6_
     (try clear hb)
     (try clear hb2)
     (try clear hk)
     (try clear hi)
     refine hK.out _ _ ⟨(blk_cell BK746.out 0).trans rfl,(blk_cell BK751.out 0).trans rfl,(blk_cell BK741.out 0).trans rfl⟩ (fun hHeld => ?_)
     clear hK K
     refine norm_ (a':=?_) ?_ ?_
     rotate_left
     ·show Act.put _ (some 58) _ = _
      simp only [Act.put,List.setIfInBounds_toArray,List.set_cons_zero,List.set_cons_succ,i64_w,i32_w]
      rfl
     refine one_ (i:=13) (N:=some 60) (bc36 16 16383) rfl rfl (one_of HT_.out (by kernel_rfl)) (by decide) (fun K hK => ?_)
     refine goes_ Try.func41 (by kernel_rfl) rfl #[.agg #[.slice Ao10 t736.length co10]] (by rfl) rfl rfl (by (try simp only [List.map_toArray,List.map_cons,List.map_nil]); first|done|rfl|(simp only [List.length_drop,List.length_take]; rfl)) ?_
     with_reducible refine (spec_IsValidYard.calls k _ _ t736 t754 _ ?side1 ?side2 A30.out).mono ?_
     (case side1 => repeat (first|exact (Kd.N_reads' HO738.out).2.2|(with_reducible refine Kd.C_alloc ?_ _)|(with_reducible refine Kd.C_drewN ?_ _)|(with_reducible refine Kd.C_drew ?_)))
     (case side2 => exact (Kd.N_reads' HO738.out).2.1)
     rintro e w35 ⟨rfl,hb⟩
     refine ⟨_,rfl,?_⟩
     have n0_:=Aside0.mk (Kd.N_below (by (with_reducible repeat (first|apply Kd.N_alloc|apply Kd.N_drewN|apply Kd.N_drew)); exact HO738.out) hb)
     have n1_:=Aside0.mk (Kd.N_below (by (with_reducible repeat (first|apply Kd.N_alloc|apply Kd.N_drewN|apply Kd.N_drew)); exact HO744.out) hb)
     have n2_:=Aside0.mk (Kd.N_below (by (with_reducible repeat (first|apply Kd.N_alloc|apply Kd.N_drewN|apply Kd.N_drew)); exact HO749.out) hb)
     have n3_:=Aside0.mk (blk_below (g:=gb741) (o:=.cells #[.slice Ao10 t736.length co10] 42 (0,0)) (by (with_reducible repeat (first|refine blk_drewN ?_ _|refine blk_drew ?_|refine blk_alloc ?_ _)); exact BK741.out) hb)
     have n4_:=Aside0.mk (blk_below (g:=gb746) (o:=.cells #[.slice Ao14 t742.length co14] 42 (0,0)) (by (with_reducible repeat (first|refine blk_drewN ?_ _|refine blk_drew ?_|refine blk_alloc ?_ _)); exact BK746.out) hb)
     have n5_:=Aside0.mk (blk_below (g:=gb751) (o:=.cells #[.slice Ao20 t747.length co20] 42 (0,0)) (by (with_reducible repeat (first|refine blk_drewN ?_ _|refine blk_drew ?_|refine blk_alloc ?_ _)); exact BK751.out) hb)
     have n6_:=Aside0.mk (below_step (by repeat (first|(with_reducible first|exact HB.out|apply below_alloc|apply pw_below_drewN|apply below_drew1|refine below_set ?_ GE741.out|refine below_set ?_ GE746.out|refine below_set ?_ GE751.out)|exact HB.out)) hb)
     clear HO738
     clear HO744
     clear HO749
     clear BK741
     clear BK746
     clear BK751
     clear HB
     have HO738:=n0_
     have HO744:=n1_
     have HO749:=n2_
     have BK741:=n3_
     have BK746:=n4_
     have BK751:=n5_
     have HB:=n6_
     clear n0_ n1_ n2_ n3_ n4_ n5_ n6_
     (try clear hb)
     (try clear hb2)
     (try clear hk)
     (try clear hi)
     refine hK.out _ _ ⟨(blk_cell BK746.out 0).trans rfl,(blk_cell BK751.out 0).trans rfl,(blk_cell BK741.out 0).trans rfl⟩ (fun hHeld => ?_)
     clear hK K
     refine norm_ (a':=?_) ?_ ?_
     rotate_left
     ·show Act.put _ (some 60) _ = _
      simp only [Act.put,List.setIfInBounds_toArray,List.set_cons_zero,List.set_cons_succ,i64_w,i32_w]
      rfl
     refine pure_ (i:=14) (N:=some 61) (v:=?_) (a':=?_) (bc36 16 32767) rfl rfl (any_of HT_.out (by kernel_rfl)) (fun _ _ _ h => h) (Or.inl ⟨by rfl,?_⟩) ?_ ?_
     rotate_left
     ·intro w'
      go_simp
      with_reducible rfl
     rotate_left
     ·simp only [Act.put,List.setIfInBounds_toArray,List.set_cons_zero,List.set_cons_succ,i64_w,i32_w]
      rfl
     refine pure_ (i:=15) (N:=some 62) (v:=?_) (a':=?_) (bc36 16 65535) rfl rfl (any_of HT_.out (by kernel_rfl)) (fun _ _ _ h => h) (Or.inl ⟨by rfl,?_⟩) ?_ ?_
     rotate_left
     ·intro w'
      go_simp
      with_reducible rfl
     rotate_left
     ·simp only [Act.put,List.setIfInBounds_toArray,List.set_cons_zero,List.set_cons_succ,i64_w,i32_w]
      rfl
     refine done_ (done_of HT_.out (by kernel_rfl)) ?_
     try go_wp2
     go_meet
     case rel => exact ⟨_,((t753 != t754)),(by first|rfl|(simp; done)|(simp [*]; done)),H',⟨by first|omega|exact Nat.le_refl _⟩,⟨by (with_reducible repeat (first|apply Kd.N_alloc|apply Kd.N_drewN|apply Kd.N_drew)); exact HO738.out⟩,⟨by (with_reducible repeat (first|apply Kd.N_alloc|apply Kd.N_drewN|apply Kd.N_drew)); exact HO744.out⟩,⟨by (with_reducible repeat (first|apply Kd.N_alloc|apply Kd.N_drewN|apply Kd.N_drew)); exact HO749.out⟩,⟨by (with_reducible repeat (first|refine blk_drewN ?_ _|refine blk_drew ?_|refine blk_alloc ?_ _)); exact BK741.out⟩,⟨by (with_reducible repeat (first|refine blk_drewN ?_ _|refine blk_drew ?_|refine blk_alloc ?_ _)); exact BK746.out⟩,⟨by (with_reducible repeat (first|refine blk_drewN ?_ _|refine blk_drew ?_|refine blk_alloc ?_ _)); exact BK751.out⟩,⟨by repeat (first|(with_reducible first|exact HB.out|apply below_alloc|apply pw_below_drewN|apply below_drew1|refine below_set ?_ GE741.out|refine below_set ?_ GE746.out|refine below_set ?_ GE751.out)|exact HB.out)⟩⟩
    ·replace c28:=Bool.eq_false_iff.mpr c28
     subst c28
     have H1 : (none) = some r:=by rw [if_neg (show ¬ (false = true) by decide)] at H; exact H
     clear H
     have H:=H1
     clear H1
     exact absurd H (by simp)
  case rest =>
   clear HC7
   try clear c2
   try clear p2
   try clear c3
   try clear c4
   try clear c24
   try clear c24b0
   try clear c24b1
   try clear c24b2
   try clear c28
   obtain ⟨kq,x62_6,rfl,HA,HJ6,HO_742000,HO_747000,HO_752000,BK741,BK746,BK751,HB⟩:=hcut
   cases kq with
   | zero => exact absurd HA.out (by simp [lw.j0])
   | succ kj6 =>
    have H:=HA.out
    clear HA
    simp only [lw.j0] at H
    by_cases c39 : x62_6 = true
    ·subst c39
     have H1 : (none) = some r:=by rw [if_pos rfl] at H; exact H
     clear H
     have H:=H1
     clear H1
     exact absurd H (by simp)
    ·replace c39:=Bool.eq_false_iff.mpr c39
     subst c39
     have H1 : (if t745 = true then ((impl_TopOf.f kj6 t742 t739).bind fun bt755 => ((impl_PlaceOf.f kj6 t742 t740).bind fun bt757 => ((impl_TakeBox.f kj6 t742 t740).bind fun bt760 => ((impl_BlockersOf.f kj6 t742 t740).bind fun bt765 => ((impl_FreePlaces.f kj6 t736).bind fun bt769 => ((impl_FreePlaces.f kj6 t742).bind fun bt771 => ((impl_StackHeights.f kj6 t742).bind fun bt773 => (if bt755.2 = true then (if bt755.1 = t740 then (if bt757.2.2 = true then (if bt757.1 = t739 then (if bt760.2 = true then ((laws_vYard.f kj6 bt760.1 t736).bind fun t777 => (if t777 = true then (if bt765.2 = true then (if (bt765.1.length : Int) = 0 then (if bt769.2 = true then (if bt771.2 = true then (if bt771.1 = (wrap64 (bt769.1 - 1)) then (if bt773.2 = true then (if (bt773.1.length : Int) > bt757.1 then (if 0 ≤ bt757.1 then (if bt757.1 < (bt773.1.length : Int) then (some ((rd bt773.1 bt757.1) == (wrap64 (bt757.2.1 + 1)))) else (none)) else (none)) else (none)) else (none)) else (none)) else (none)) else (none)) else (none)) else (none)) else (none))) else (none)) else (none)) else (none)) else (none)) else (none))))))))) else (some ((t742.length : Int) == 0))) = some r:=by rw [if_neg (show ¬ (false = true) by decide)] at H; exact H
     clear H
     have H:=H1
     clear H1
     by_cases c40 : t745 = true
     ·subst c40
      have H1 : ((impl_TopOf.f kj6 t742 t739).bind fun bt755 => ((impl_PlaceOf.f kj6 t742 t740).bind fun bt757 => ((impl_TakeBox.f kj6 t742 t740).bind fun bt760 => ((impl_BlockersOf.f kj6 t742 t740).bind fun bt765 => ((impl_FreePlaces.f kj6 t736).bind fun bt769 => ((impl_FreePlaces.f kj6 t742).bind fun bt771 => ((impl_StackHeights.f kj6 t742).bind fun bt773 => (if bt755.2 = true then (if bt755.1 = t740 then (if bt757.2.2 = true then (if bt757.1 = t739 then (if bt760.2 = true then ((laws_vYard.f kj6 bt760.1 t736).bind fun t777 => (if t777 = true then (if bt765.2 = true then (if (bt765.1.length : Int) = 0 then (if bt769.2 = true then (if bt771.2 = true then (if bt771.1 = (wrap64 (bt769.1 - 1)) then (if bt773.2 = true then (if (bt773.1.length : Int) > bt757.1 then (if 0 ≤ bt757.1 then (if bt757.1 < (bt773.1.length : Int) then (some ((rd bt773.1 bt757.1) == (wrap64 (bt757.2.1 + 1)))) else (none)) else (none)) else (none)) else (none)) else (none)) else (none)) else (none)) else (none)) else (none)) else (none))) else (none)) else (none)) else (none)) else (none)) else (none))))))))) = some r:=by rw [if_pos rfl] at H; exact H
      clear H
      have H:=H1
      clear H1
      replace H:=Option.bind_eq_some_iff.mp H
      obtain ⟨⟨t755,t756⟩,A410,H⟩:=H
      replace H : ((impl_PlaceOf.f kj6 t742 t740).bind fun bt757 => ((impl_TakeBox.f kj6 t742 t740).bind fun bt760 => ((impl_BlockersOf.f kj6 t742 t740).bind fun bt765 => ((impl_FreePlaces.f kj6 t736).bind fun bt769 => ((impl_FreePlaces.f kj6 t742).bind fun bt771 => ((impl_StackHeights.f kj6 t742).bind fun bt773 => (if t756 = true then (if t755 = t740 then (if bt757.2.2 = true then (if bt757.1 = t739 then (if bt760.2 = true then ((laws_vYard.f kj6 bt760.1 t736).bind fun t777 => (if t777 = true then (if bt765.2 = true then (if (bt765.1.length : Int) = 0 then (if bt769.2 = true then (if bt771.2 = true then (if bt771.1 = (wrap64 (bt769.1 - 1)) then (if bt773.2 = true then (if (bt773.1.length : Int) > bt757.1 then (if 0 ≤ bt757.1 then (if bt757.1 < (bt773.1.length : Int) then (some ((rd bt773.1 bt757.1) == (wrap64 (bt757.2.1 + 1)))) else (none)) else (none)) else (none)) else (none)) else (none)) else (none)) else (none)) else (none)) else (none)) else (none))) else (none)) else (none)) else (none)) else (none)) else (none)))))))) = some r:=H
      have A41:=Aside0.mk A410
      clear A410
      replace H:=Option.bind_eq_some_iff.mp H
      obtain ⟨⟨t757,t758,t759⟩,A420,H⟩:=H
      replace H : ((impl_TakeBox.f kj6 t742 t740).bind fun bt760 => ((impl_BlockersOf.f kj6 t742 t740).bind fun bt765 => ((impl_FreePlaces.f kj6 t736).bind fun bt769 => ((impl_FreePlaces.f kj6 t742).bind fun bt771 => ((impl_StackHeights.f kj6 t742).bind fun bt773 => (if t756 = true then (if t755 = t740 then (if t759 = true then (if t757 = t739 then (if bt760.2 = true then ((laws_vYard.f kj6 bt760.1 t736).bind fun t777 => (if t777 = true then (if bt765.2 = true then (if (bt765.1.length : Int) = 0 then (if bt769.2 = true then (if bt771.2 = true then (if bt771.1 = (wrap64 (bt769.1 - 1)) then (if bt773.2 = true then (if (bt773.1.length : Int) > t757 then (if 0 ≤ t757 then (if t757 < (bt773.1.length : Int) then (some ((rd bt773.1 t757) == (wrap64 (t758 + 1)))) else (none)) else (none)) else (none)) else (none)) else (none)) else (none)) else (none)) else (none)) else (none)) else (none))) else (none)) else (none)) else (none)) else (none)) else (none))))))) = some r:=H
      have A42:=Aside0.mk A420
      clear A420
      replace H:=Option.bind_eq_some_iff.mp H
      obtain ⟨⟨t760,t763⟩,A430,H⟩:=H
      replace H : ((impl_BlockersOf.f kj6 t742 t740).bind fun bt765 => ((impl_FreePlaces.f kj6 t736).bind fun bt769 => ((impl_FreePlaces.f kj6 t742).bind fun bt771 => ((impl_StackHeights.f kj6 t742).bind fun bt773 => (if t756 = true then (if t755 = t740 then (if t759 = true then (if t757 = t739 then (if t763 = true then ((laws_vYard.f kj6 t760 t736).bind fun t777 => (if t777 = true then (if bt765.2 = true then (if (bt765.1.length : Int) = 0 then (if bt769.2 = true then (if bt771.2 = true then (if bt771.1 = (wrap64 (bt769.1 - 1)) then (if bt773.2 = true then (if (bt773.1.length : Int) > t757 then (if 0 ≤ t757 then (if t757 < (bt773.1.length : Int) then (some ((rd bt773.1 t757) == (wrap64 (t758 + 1)))) else (none)) else (none)) else (none)) else (none)) else (none)) else (none)) else (none)) else (none)) else (none)) else (none))) else (none)) else (none)) else (none)) else (none)) else (none)))))) = some r:=H
      have A43:=Aside0.mk A430
      clear A430
      replace H:=Option.bind_eq_some_iff.mp H
      obtain ⟨⟨t765,t768⟩,A440,H⟩:=H
      replace H : ((impl_FreePlaces.f kj6 t736).bind fun bt769 => ((impl_FreePlaces.f kj6 t742).bind fun bt771 => ((impl_StackHeights.f kj6 t742).bind fun bt773 => (if t756 = true then (if t755 = t740 then (if t759 = true then (if t757 = t739 then (if t763 = true then ((laws_vYard.f kj6 t760 t736).bind fun t777 => (if t777 = true then (if t768 = true then (if (t765.length : Int) = 0 then (if bt769.2 = true then (if bt771.2 = true then (if bt771.1 = (wrap64 (bt769.1 - 1)) then (if bt773.2 = true then (if (bt773.1.length : Int) > t757 then (if 0 ≤ t757 then (if t757 < (bt773.1.length : Int) then (some ((rd bt773.1 t757) == (wrap64 (t758 + 1)))) else (none)) else (none)) else (none)) else (none)) else (none)) else (none)) else (none)) else (none)) else (none)) else (none))) else (none)) else (none)) else (none)) else (none)) else (none))))) = some r:=H
      have A44:=Aside0.mk A440
      clear A440
      replace H:=Option.bind_eq_some_iff.mp H
      obtain ⟨⟨t769,t770⟩,A450,H⟩:=H
      replace H : ((impl_FreePlaces.f kj6 t742).bind fun bt771 => ((impl_StackHeights.f kj6 t742).bind fun bt773 => (if t756 = true then (if t755 = t740 then (if t759 = true then (if t757 = t739 then (if t763 = true then ((laws_vYard.f kj6 t760 t736).bind fun t777 => (if t777 = true then (if t768 = true then (if (t765.length : Int) = 0 then (if t770 = true then (if bt771.2 = true then (if bt771.1 = (wrap64 (t769 - 1)) then (if bt773.2 = true then (if (bt773.1.length : Int) > t757 then (if 0 ≤ t757 then (if t757 < (bt773.1.length : Int) then (some ((rd bt773.1 t757) == (wrap64 (t758 + 1)))) else (none)) else (none)) else (none)) else (none)) else (none)) else (none)) else (none)) else (none)) else (none)) else (none))) else (none)) else (none)) else (none)) else (none)) else (none)))) = some r:=H
      have A45:=Aside0.mk A450
      clear A450
      replace H:=Option.bind_eq_some_iff.mp H
      obtain ⟨⟨t771,t772⟩,A460,H⟩:=H
      replace H : ((impl_StackHeights.f kj6 t742).bind fun bt773 => (if t756 = true then (if t755 = t740 then (if t759 = true then (if t757 = t739 then (if t763 = true then ((laws_vYard.f kj6 t760 t736).bind fun t777 => (if t777 = true then (if t768 = true then (if (t765.length : Int) = 0 then (if t770 = true then (if t772 = true then (if t771 = (wrap64 (t769 - 1)) then (if bt773.2 = true then (if (bt773.1.length : Int) > t757 then (if 0 ≤ t757 then (if t757 < (bt773.1.length : Int) then (some ((rd bt773.1 t757) == (wrap64 (t758 + 1)))) else (none)) else (none)) else (none)) else (none)) else (none)) else (none)) else (none)) else (none)) else (none)) else (none))) else (none)) else (none)) else (none)) else (none)) else (none))) = some r:=H
      have A46:=Aside0.mk A460
      clear A460
      replace H:=Option.bind_eq_some_iff.mp H
      obtain ⟨⟨t773,t776⟩,A470,H⟩:=H
      replace H : (if t756 = true then (if t755 = t740 then (if t759 = true then (if t757 = t739 then (if t763 = true then ((laws_vYard.f kj6 t760 t736).bind fun t777 => (if t777 = true then (if t768 = true then (if (t765.length : Int) = 0 then (if t770 = true then (if t772 = true then (if t771 = (wrap64 (t769 - 1)) then (if t776 = true then (if (t773.length : Int) > t757 then (if 0 ≤ t757 then (if t757 < (t773.length : Int) then (some ((rd t773 t757) == (wrap64 (t758 + 1)))) else (none)) else (none)) else (none)) else (none)) else (none)) else (none)) else (none)) else (none)) else (none)) else (none))) else (none)) else (none)) else (none)) else (none)) else (none)) = some r:=H
      have A47:=Aside0.mk A470
      clear A470
      by_cases c48 : t756 = true
      ·subst c48
       have H1 : (if t755 = t740 then (if t759 = true then (if t757 = t739 then (if t763 = true then ((laws_vYard.f kj6 t760 t736).bind fun t777 => (if t777 = true then (if t768 = true then (if (t765.length : Int) = 0 then (if t770 = true then (if t772 = true then (if t771 = (wrap64 (t769 - 1)) then (if t776 = true then (if (t773.length : Int) > t757 then (if 0 ≤ t757 then (if t757 < (t773.length : Int) then (some ((rd t773 t757) == (wrap64 (t758 + 1)))) else (none)) else (none)) else (none)) else (none)) else (none)) else (none)) else (none)) else (none)) else (none)) else (none))) else (none)) else (none)) else (none)) else (none)) = some r:=by rw [if_pos rfl] at H; exact H
       clear H
       have H:=H1
       clear H1
       by_cases c49 : t755 = t740
       ·rw [if_pos c49] at H
        have c49b0 : (t755 == t740) = true:=beq_iff_eq.mpr c49
        have c49b1 : (t755 != t740) = false:=bne_eq_false_iff_eq.mpr c49
        clear c49
        by_cases c50 : t759 = true
        ·subst c50
         have H1 : (if t757 = t739 then (if t763 = true then ((laws_vYard.f kj6 t760 t736).bind fun t777 => (if t777 = true then (if t768 = true then (if (t765.length : Int) = 0 then (if t770 = true then (if t772 = true then (if t771 = (wrap64 (t769 - 1)) then (if t776 = true then (if (t773.length : Int) > t757 then (if 0 ≤ t757 then (if t757 < (t773.length : Int) then (some ((rd t773 t757) == (wrap64 (t758 + 1)))) else (none)) else (none)) else (none)) else (none)) else (none)) else (none)) else (none)) else (none)) else (none)) else (none))) else (none)) else (none)) = some r:=by rw [if_pos rfl] at H; exact H
         clear H
         have H:=H1
         clear H1
         by_cases c51 : t757 = t739
         ·rw [if_pos c51] at H
          have c51b0 : (t757 == t739) = true:=beq_iff_eq.mpr c51
          have c51b1 : (t757 != t739) = false:=bne_eq_false_iff_eq.mpr c51
          clear c51
          by_cases c52 : t763 = true
          ·subst c52
           have H1 : ((laws_vYard.f kj6 t760 t736).bind fun t777 => (if t777 = true then (if t768 = true then (if (t765.length : Int) = 0 then (if t770 = true then (if t772 = true then (if t771 = (wrap64 (t769 - 1)) then (if t776 = true then (if (t773.length : Int) > t757 then (if 0 ≤ t757 then (if t757 < (t773.length : Int) then (some ((rd t773 t757) == (wrap64 (t758 + 1)))) else (none)) else (none)) else (none)) else (none)) else (none)) else (none)) else (none)) else (none)) else (none)) else (none))) = some r:=by rw [if_pos rfl] at H; exact H
           clear H
           have H:=H1
           clear H1
           replace H:=Option.bind_eq_some_iff.mp H
           obtain ⟨t777,A530,H⟩:=H
           replace H : (if t777 = true then (if t768 = true then (if (t765.length : Int) = 0 then (if t770 = true then (if t772 = true then (if t771 = (wrap64 (t769 - 1)) then (if t776 = true then (if (t773.length : Int) > t757 then (if 0 ≤ t757 then (if t757 < (t773.length : Int) then (some ((rd t773 t757) == (wrap64 (t758 + 1)))) else (none)) else (none)) else (none)) else (none)) else (none)) else (none)) else (none)) else (none)) else (none)) else (none)) = some r:=H
           have A53:=Aside0.mk A530
           clear A530
           by_cases c54 : t777 = true
           ·subst c54
            have H1 : (if t768 = true then (if (t765.length : Int) = 0 then (if t770 = true then (if t772 = true then (if t771 = (wrap64 (t769 - 1)) then (if t776 = true then (if (t773.length : Int) > t757 then (if 0 ≤ t757 then (if t757 < (t773.length : Int) then (some ((rd t773 t757) == (wrap64 (t758 + 1)))) else (none)) else (none)) else (none)) else (none)) else (none)) else (none)) else (none)) else (none)) else (none)) = some r:=by rw [if_pos rfl] at H; exact H
            clear H
            have H:=H1
            clear H1
            by_cases c55 : t768 = true
            ·subst c55
             have H1 : (if (t765.length : Int) = 0 then (if t770 = true then (if t772 = true then (if t771 = (wrap64 (t769 - 1)) then (if t776 = true then (if (t773.length : Int) > t757 then (if 0 ≤ t757 then (if t757 < (t773.length : Int) then (some ((rd t773 t757) == (wrap64 (t758 + 1)))) else (none)) else (none)) else (none)) else (none)) else (none)) else (none)) else (none)) else (none)) = some r:=by rw [if_pos rfl] at H; exact H
             clear H
             have H:=H1
             clear H1
             by_cases c56 : (t765.length : Int) = 0
             ·rw [if_pos c56] at H
              have c56b0 : ((t765.length : Int) == 0) = true:=beq_iff_eq.mpr c56
              have c56b1 : ((t765.length : Int) != 0) = false:=bne_eq_false_iff_eq.mpr c56
              clear c56
              by_cases c57 : t770 = true
              ·subst c57
               have H1 : (if t772 = true then (if t771 = (wrap64 (t769 - 1)) then (if t776 = true then (if (t773.length : Int) > t757 then (if 0 ≤ t757 then (if t757 < (t773.length : Int) then (some ((rd t773 t757) == (wrap64 (t758 + 1)))) else (none)) else (none)) else (none)) else (none)) else (none)) else (none)) = some r:=by rw [if_pos rfl] at H; exact H
               clear H
               have H:=H1
               clear H1
               by_cases c58 : t772 = true
               ·subst c58
                have H1 : (if t771 = (wrap64 (t769 - 1)) then (if t776 = true then (if (t773.length : Int) > t757 then (if 0 ≤ t757 then (if t757 < (t773.length : Int) then (some ((rd t773 t757) == (wrap64 (t758 + 1)))) else (none)) else (none)) else (none)) else (none)) else (none)) = some r:=by rw [if_pos rfl] at H; exact H
                clear H
                have H:=H1
                clear H1
                by_cases c59 : t771 = (wrap64 (t769 - 1))
                ·rw [if_pos c59] at H
                 have c59b0 : (t771 == (wrap64 (t769 - 1))) = true:=beq_iff_eq.mpr c59
                 have c59b1 : (t771 != (wrap64 (t769 - 1))) = false:=bne_eq_false_iff_eq.mpr c59
                 clear c59
                 by_cases c60 : t776 = true
                 ·subst c60
                  have H1 : (if (t773.length : Int) > t757 then (if 0 ≤ t757 then (if t757 < (t773.length : Int) then (some ((rd t773 t757) == (wrap64 (t758 + 1)))) else (none)) else (none)) else (none)) = some r:=by rw [if_pos rfl] at H; exact H
                  clear H
                  have H:=H1
                  clear H1
                  by_cases c61 : (t773.length : Int) > t757
                  ·rw [if_pos c61] at H
                   have c61b0 : decide (t757 < (t773.length : Int)) = true:=decide_eq_true c61
                   clear c61
                   by_cases c62 : 0 ≤ t757
                   ·rw [if_pos c62] at H
                    have c62b0 : decide (0 ≤ t757) = true:=decide_eq_true c62
                    clear c62
                    by_cases c63 : t757 < (t773.length : Int)
                    ·rw [if_pos c63] at H
                     have c63b0 : decide (t757 < (t773.length : Int)) = true:=decide_eq_true c63
                     clear c63
                     obtain rfl:=Option.some.inj H
                     have hnb64:=NB746_741.out
                     have hnc64:=NB741_746.out
                     have hnb65:=NB746_751.out
                     have hnc65:=NB751_746.out
                     have hcz66_0 : wc.cell? ⟨gb746,0,none⟩ = some (.slice Ao14 t742.length co14):=(blk_cell BK746.out 0).trans rfl
                     have hfz66_0:=blk_frozen BK746.out 0
                     go_wp2_with (first|((with_reducible refine gate_callee (f:=42) rfl ?_); refine goesL_ (some 72) rfl rfl Try.func42 (by kernel_rfl) rfl #[.agg #[.slice Ao14 t742.length co14],.int .i64 t739] rfl (by (try simp only [List.map_toArray,List.map_cons,List.map_nil]); first|done|rfl|(simp only [List.length_drop,List.length_take]; rfl)) ?_; (with_reducible refine (impl_TopOf.calls kj6 _ _ t742 t739 t755 true _ ?side1 ?side2 A41.out).mono ?_); (case side1 => repeat (first|exact (Kd.N_reads' HO_747000.out).2.2|(with_reducible refine Kd.C_alloc ?_ _)|(with_reducible refine Kd.C_drewN ?_ _)|(with_reducible refine Kd.C_drew ?_))); (case side2 => exact (Kd.N_reads' HO_747000.out).2.1); rintro e w67 ⟨rfl,hb⟩; refine ⟨_,rfl,?_⟩; have n0_:=Aside0.mk (Kd.N_below (by (with_reducible repeat (first|apply Kd.N_alloc|apply Kd.N_drewN|apply Kd.N_drew)); exact HO_742000.out) hb); have n1_:=Aside0.mk (Kd.N_below (by (with_reducible repeat (first|apply Kd.N_alloc|apply Kd.N_drewN|apply Kd.N_drew)); exact HO_747000.out) hb); have n2_:=Aside0.mk (Kd.N_below (by (with_reducible repeat (first|apply Kd.N_alloc|apply Kd.N_drewN|apply Kd.N_drew)); exact HO_752000.out) hb); have n3_:=Aside0.mk (blk_below (g:=gb741) (o:=.cells #[.slice Ao10 t736.length co10] 42 (0,0)) (by (with_reducible repeat (first|refine blk_drewN ?_ _|refine blk_drew ?_|refine blk_alloc ?_ _)); exact BK741.out) hb); have n4_:=Aside0.mk (blk_below (g:=gb746) (o:=.cells #[.slice Ao14 t742.length co14] 42 (0,0)) (by (with_reducible repeat (first|refine blk_drewN ?_ _|refine blk_drew ?_|refine blk_alloc ?_ _)); exact BK746.out) hb); have n5_:=Aside0.mk (blk_below (g:=gb751) (o:=.cells #[.slice Ao20 t747.length co20] 42 (0,0)) (by (with_reducible repeat (first|refine blk_drewN ?_ _|refine blk_drew ?_|refine blk_alloc ?_ _)); exact BK751.out) hb); have n6_:=Aside0.mk (below_step (by repeat (first|(with_reducible first|exact HB.out|apply below_alloc|apply pw_below_drewN|apply below_drew1|refine below_set ?_ GE741.out|refine below_set ?_ GE746.out|refine below_set ?_ GE751.out)|exact HB.out)) hb); clear HO_742000; clear HO_747000; clear HO_752000; clear BK741; clear BK746; clear BK751; clear HB; have HO_742000:=n0_; have HO_747000:=n1_; have HO_752000:=n2_; have BK741:=n3_; have BK746:=n4_; have BK751:=n5_; have HB:=n6_; clear n0_ n1_ n2_ n3_ n4_ n5_ n6_; (try clear hb); (try clear hb2); (try clear hk); (try clear hi); have hcz68_0 : w67.cell? ⟨gb746,0,none⟩ = some (.slice Ao14 t742.length co14):=(blk_cell BK746.out 0).trans rfl; have hfz68_0:=blk_frozen BK746.out 0)|((with_reducible refine gate_callee (f:=43) rfl ?_); refine goesL_ (some 78) rfl rfl Try.func43 (by kernel_rfl) rfl #[.agg #[.slice Ao14 t742.length co14],.int .i64 t740] rfl (by (try simp only [List.map_toArray,List.map_cons,List.map_nil]); first|done|rfl|(simp only [List.length_drop,List.length_take]; rfl)) ?_; (with_reducible refine (impl_PlaceOf.calls kj6 _ _ t742 t740 t757 t758 true _ ?side1 ?side2 A42.out).mono ?_); (case side1 => repeat (first|exact (Kd.N_reads' HO_747000.out).2.2|(with_reducible refine Kd.C_alloc ?_ _)|(with_reducible refine Kd.C_drewN ?_ _)|(with_reducible refine Kd.C_drew ?_))); (case side2 => exact (Kd.N_reads' HO_747000.out).2.1); rintro e w69 ⟨rfl,hb⟩; refine ⟨_,rfl,?_⟩; have n0_:=Aside0.mk (Kd.N_below (by (with_reducible repeat (first|apply Kd.N_alloc|apply Kd.N_drewN|apply Kd.N_drew)); exact HO_742000.out) hb); have n1_:=Aside0.mk (Kd.N_below (by (with_reducible repeat (first|apply Kd.N_alloc|apply Kd.N_drewN|apply Kd.N_drew)); exact HO_747000.out) hb); have n2_:=Aside0.mk (Kd.N_below (by (with_reducible repeat (first|apply Kd.N_alloc|apply Kd.N_drewN|apply Kd.N_drew)); exact HO_752000.out) hb); have n3_:=Aside0.mk (blk_below (g:=gb741) (o:=.cells #[.slice Ao10 t736.length co10] 42 (0,0)) (by (with_reducible repeat (first|refine blk_drewN ?_ _|refine blk_drew ?_|refine blk_alloc ?_ _)); exact BK741.out) hb); have n4_:=Aside0.mk (blk_below (g:=gb746) (o:=.cells #[.slice Ao14 t742.length co14] 42 (0,0)) (by (with_reducible repeat (first|refine blk_drewN ?_ _|refine blk_drew ?_|refine blk_alloc ?_ _)); exact BK746.out) hb); have n5_:=Aside0.mk (blk_below (g:=gb751) (o:=.cells #[.slice Ao20 t747.length co20] 42 (0,0)) (by (with_reducible repeat (first|refine blk_drewN ?_ _|refine blk_drew ?_|refine blk_alloc ?_ _)); exact BK751.out) hb); have n6_:=Aside0.mk (below_step (by repeat (first|(with_reducible first|exact HB.out|apply below_alloc|apply pw_below_drewN|apply below_drew1|refine below_set ?_ GE741.out|refine below_set ?_ GE746.out|refine below_set ?_ GE751.out)|exact HB.out)) hb); clear HO_742000; clear HO_747000; clear HO_752000; clear BK741; clear BK746; clear BK751; clear HB; have HO_742000:=n0_; have HO_747000:=n1_; have HO_752000:=n2_; have BK741:=n3_; have BK746:=n4_; have BK751:=n5_; have HB:=n6_; clear n0_ n1_ n2_ n3_ n4_ n5_ n6_; (try clear hb); (try clear hb2); (try clear hk); (try clear hi); have hcz70_0 : w69.cell? ⟨gb746,0,none⟩ = some (.slice Ao14 t742.length co14):=(blk_cell BK746.out 0).trans rfl; have hfz70_0:=blk_frozen BK746.out 0)|((with_reducible refine gate_callee (f:=44) rfl ?_); refine goesL_ (some 85) rfl rfl Try.func44 (by kernel_rfl) rfl #[.agg #[.slice Ao14 t742.length co14],.int .i64 t740] rfl (by (try simp only [List.map_toArray,List.map_cons,List.map_nil]); first|done|rfl|(simp only [List.length_drop,List.length_take]; rfl)) ?_; (with_reducible refine (impl_TakeBox.calls kj6 _ _ t742 t740 t760 true _ ?side1 ?side2 A43.out).mono ?_); (case side1 => repeat (first|exact (Kd.N_reads' HO_747000.out).2.2|(with_reducible refine Kd.C_alloc ?_ _)|(with_reducible refine Kd.C_drewN ?_ _)|(with_reducible refine Kd.C_drew ?_))); (case side2 => exact (Kd.N_reads' HO_747000.out).2.1); rintro e w71 ⟨v761,rfl,ho0,hb⟩; refine ⟨_,rfl,?_⟩; have n0_:=Aside0.mk (Kd.N_elder' (by (with_reducible repeat (first|apply Kd.N_alloc|apply Kd.N_drewN|apply Kd.N_drew)); exact HO_742000.out) (by first|exact Kd.S_base ho0|exact Kd.N_base ho0) hb); have n1_:=Aside0.mk (Kd.N_elder' (by (with_reducible repeat (first|apply Kd.N_alloc|apply Kd.N_drewN|apply Kd.N_drew)); exact HO_747000.out) (by first|exact Kd.S_base ho0|exact Kd.N_base ho0) hb); have n2_:=Aside0.mk (Kd.N_elder' (by (with_reducible repeat (first|apply Kd.N_alloc|apply Kd.N_drewN|apply Kd.N_drew)); exact HO_752000.out) (by first|exact Kd.S_base ho0|exact Kd.N_base ho0) hb); have n3_:=Aside0.mk (Kd.N_lower (Kd.N_mono (ok':=fun k_ => some k_ ≠ (.slice Ao10 t736.length co10 : Value).ownBlock ∧ some k_ ≠ (.slice Ao14 t742.length co14 : Value).ownBlock ∧ some k_ ≠ (.slice Ao20 t747.length co20 : Value).ownBlock ∧ k_ ≠ gb741 ∧ k_ ≠ gb746 ∧ k_ ≠ gb751) ho0 (fun k_ hk_ => ⟨(Kd.fresh' (Kd.N_lt (by (with_reducible repeat (first|apply Kd.N_alloc|apply Kd.N_drewN|apply Kd.N_drew)); exact HO_742000.out)) k_ hk_),(Kd.fresh' (Kd.N_lt (by (with_reducible repeat (first|apply Kd.N_alloc|apply Kd.N_drewN|apply Kd.N_drew)); exact HO_747000.out)) k_ hk_),(Kd.fresh' (Kd.N_lt (by (with_reducible repeat (first|apply Kd.N_alloc|apply Kd.N_drewN|apply Kd.N_drew)); exact HO_752000.out)) k_ hk_),(Kd.freshB (g:=gb741) (o:=.cells #[.slice Ao10 t736.length co10] 42 (0,0)) (by (with_reducible repeat (first|refine blk_drewN ?_ _|refine blk_drew ?_|refine blk_alloc ?_ _)); exact BK741.out) k_ hk_),(Kd.freshB (g:=gb746) (o:=.cells #[.slice Ao14 t742.length co14] 42 (0,0)) (by (with_reducible repeat (first|refine blk_drewN ?_ _|refine blk_drew ?_|refine blk_alloc ?_ _)); exact BK746.out) k_ hk_),(Kd.freshB (g:=gb751) (o:=.cells #[.slice Ao20 t747.length co20] 42 (0,0)) (by (with_reducible repeat (first|refine blk_drewN ?_ _|refine blk_drew ?_|refine blk_alloc ?_ _)); exact BK751.out) k_ hk_)⟩)) (below_size (by repeat (first|(with_reducible first|exact HB.out|apply below_alloc|apply pw_below_drewN|apply below_drew1|refine below_set ?_ GE741.out|refine below_set ?_ GE746.out|refine below_set ?_ GE751.out)|exact HB.out)))); have n4_:=Aside0.mk (blk_below (g:=gb741) (o:=.cells #[.slice Ao10 t736.length co10] 42 (0,0)) (by (with_reducible repeat (first|refine blk_drewN ?_ _|refine blk_drew ?_|refine blk_alloc ?_ _)); exact BK741.out) hb); have n5_:=Aside0.mk (blk_below (g:=gb746) (o:=.cells #[.slice Ao14 t742.length co14] 42 (0,0)) (by (with_reducible repeat (first|refine blk_drewN ?_ _|refine blk_drew ?_|refine blk_alloc ?_ _)); exact BK746.out) hb); have n6_:=Aside0.mk (blk_below (g:=gb751) (o:=.cells #[.slice Ao20 t747.length co20] 42 (0,0)) (by (with_reducible repeat (first|refine blk_drewN ?_ _|refine blk_drew ?_|refine blk_alloc ?_ _)); exact BK751.out) hb); have n7_:=Aside0.mk (below_step (by repeat (first|(with_reducible first|exact HB.out|apply below_alloc|apply pw_below_drewN|apply below_drew1|refine below_set ?_ GE741.out|refine below_set ?_ GE746.out|refine below_set ?_ GE751.out)|exact HB.out)) hb); clear HO_742000; clear HO_747000; clear HO_752000; clear BK741; clear BK746; clear BK751; clear HB; have HO_742000:=n0_; have HO_747000:=n1_; have HO_752000:=n2_; have HO762:=n3_; have BK741:=n4_; have BK746:=n5_; have BK751:=n6_; have HB:=n7_; clear n0_ n1_ n2_ n3_ n4_ n5_ n6_ n7_; (try clear hb); (try clear hb2); (try clear hk); (try clear hi); (try clear ho0))|((with_reducible refine gate_dst (N:=15) rfl ?_); (try (refine gate_guard (by rfl) ?_; dsimp only)); refine box_event ?hg (N:=15) ?hd (cs:=#[.slice none 0 0]) (t:=42) ?hr ?_; (case hd => rfl); (case hg => rfl); (case hr => first|(go_simp; done)|(go_simp; rfl)); intro gb764 hg w72 hbox hb; have n0_:=Aside0.mk (Kd.N_below (Kd.N_elderB (by (with_reducible repeat (first|apply Kd.N_alloc|apply Kd.N_drewN|apply Kd.N_drew)); exact HO_742000.out) gb764 (Nat.le_of_eq hg.symm)) hb); have n1_:=Aside0.mk (Kd.N_below (Kd.N_elderB (by (with_reducible repeat (first|apply Kd.N_alloc|apply Kd.N_drewN|apply Kd.N_drew)); exact HO_747000.out) gb764 (Nat.le_of_eq hg.symm)) hb); have n2_:=Aside0.mk (Kd.N_below (Kd.N_elderB (by (with_reducible repeat (first|apply Kd.N_alloc|apply Kd.N_drewN|apply Kd.N_drew)); exact HO_752000.out) gb764 (Nat.le_of_eq hg.symm)) hb); have n3_:=Aside0.mk (Kd.N_below (Kd.N_elderB (by (with_reducible repeat (first|apply Kd.N_alloc|apply Kd.N_drewN|apply Kd.N_drew)); exact HO762.out) gb764 (Nat.le_of_eq hg.symm)) hb); have n4_:=Aside0.mk (blk_below (g:=gb741) (o:=.cells #[.slice Ao10 t736.length co10] 42 (0,0)) (by (with_reducible repeat (first|refine blk_drewN ?_ _|refine blk_drew ?_|refine blk_alloc ?_ _)); exact BK741.out) hb); have n5_:=Aside0.mk (blk_below (g:=gb746) (o:=.cells #[.slice Ao14 t742.length co14] 42 (0,0)) (by (with_reducible repeat (first|refine blk_drewN ?_ _|refine blk_drew ?_|refine blk_alloc ?_ _)); exact BK746.out) hb); have n6_:=Aside0.mk (blk_below (g:=gb751) (o:=.cells #[.slice Ao20 t747.length co20] 42 (0,0)) (by (with_reducible repeat (first|refine blk_drewN ?_ _|refine blk_drew ?_|refine blk_alloc ?_ _)); exact BK751.out) hb); have n7_:=Aside0.mk (below_step (by repeat (first|(with_reducible first|exact HB.out|apply below_alloc|apply pw_below_drewN|apply below_drew1|refine below_set ?_ GE741.out|refine below_set ?_ GE746.out|refine below_set ?_ GE751.out)|exact HB.out)) hb); have n8_:=Aside0.mk (hbox); have n9_:=Aside0.mk ((by rw [hg]; exact (below_size (by repeat (first|(with_reducible first|exact HB.out|apply below_alloc|apply pw_below_drewN|apply below_drew1|refine below_set ?_ GE741.out|refine below_set ?_ GE746.out|refine below_set ?_ GE751.out)|exact HB.out))) : w.heap.size ≤ gb764)); have n10_:=Aside0.mk ((by rw [hg]; exact (below_size (by repeat (first|(with_reducible first|exact HB.out|apply below_alloc|apply pw_below_drewN|apply below_drew1|refine below_set ?_ GE741.out|refine below_set ?_ GE746.out|refine below_set ?_ GE751.out)|exact HB.out))) : w.heap.size ≤ gb764)); have n11_:=Aside0.mk ((by rw [hg]; exact Nat.ne_of_lt (blk_lt (g:=gb741) (o:=.cells #[.slice Ao10 t736.length co10] 42 (0,0)) (by (with_reducible repeat (first|refine blk_drewN ?_ _|refine blk_drew ?_|refine blk_alloc ?_ _)); exact BK741.out)) : gb741 ≠ gb764)); have n12_:=Aside0.mk ((by rw [hg]; exact Nat.ne_of_gt (blk_lt (g:=gb741) (o:=.cells #[.slice Ao10 t736.length co10] 42 (0,0)) (by (with_reducible repeat (first|refine blk_drewN ?_ _|refine blk_drew ?_|refine blk_alloc ?_ _)); exact BK741.out)) : gb764 ≠ gb741)); have n13_:=Aside0.mk ((by rw [hg]; exact Nat.ne_of_lt (blk_lt (g:=gb746) (o:=.cells #[.slice Ao14 t742.length co14] 42 (0,0)) (by (with_reducible repeat (first|refine blk_drewN ?_ _|refine blk_drew ?_|refine blk_alloc ?_ _)); exact BK746.out)) : gb746 ≠ gb764)); have n14_:=Aside0.mk ((by rw [hg]; exact Nat.ne_of_gt (blk_lt (g:=gb746) (o:=.cells #[.slice Ao14 t742.length co14] 42 (0,0)) (by (with_reducible repeat (first|refine blk_drewN ?_ _|refine blk_drew ?_|refine blk_alloc ?_ _)); exact BK746.out)) : gb764 ≠ gb746)); have n15_:=Aside0.mk ((by rw [hg]; exact Nat.ne_of_lt (blk_lt (g:=gb751) (o:=.cells #[.slice Ao20 t747.length co20] 42 (0,0)) (by (with_reducible repeat (first|refine blk_drewN ?_ _|refine blk_drew ?_|refine blk_alloc ?_ _)); exact BK751.out)) : gb751 ≠ gb764)); have n16_:=Aside0.mk ((by rw [hg]; exact Nat.ne_of_gt (blk_lt (g:=gb751) (o:=.cells #[.slice Ao20 t747.length co20] 42 (0,0)) (by (with_reducible repeat (first|refine blk_drewN ?_ _|refine blk_drew ?_|refine blk_alloc ?_ _)); exact BK751.out)) : gb764 ≠ gb751)); clear HO_742000; clear HO_747000; clear HO_752000; clear HO762; clear BK741; clear BK746; clear BK751; clear HB; have HO_742000:=n0_; have HO_747000:=n1_; have HO_752000:=n2_; have HO762:=n3_; have BK741:=n4_; have BK746:=n5_; have BK751:=n6_; have HB:=n7_; have BK764:=n8_; have GW764:=n9_; have GE764:=n10_; have NB741_764:=n11_; have NB764_741:=n12_; have NB746_764:=n13_; have NB764_746:=n14_; have NB751_764:=n15_; have NB764_751:=n16_; clear n0_ n1_ n2_ n3_ n4_ n5_ n6_ n7_ n8_ n9_ n10_ n11_ n12_ n13_ n14_ n15_ n16_; clear hb hbox hg; obtain ⟨Ao73,co73,eo73⟩:=Kd.N_slice HO762.out; subst eo73; have hnb74:=NB764_741.out; have hnc74:=NB741_764.out; have hnb75:=NB764_746.out; have hnc75:=NB746_764.out; have hnb76:=NB764_751.out; have hnc76:=NB751_764.out; have hcz77_0 : w72.cell? ⟨gb764,0,none⟩ = some (.slice none 0 0):=(blk_cell BK764.out 0).trans rfl; have hfz77_0:=blk_frozen BK764.out 0; have hcz78_0 : w72.cell? ⟨gb746,0,none⟩ = some (.slice Ao14 t742.length co14):=(blk_cell BK746.out 0).trans rfl; have hfz78_0:=blk_frozen BK746.out 0)|((with_reducible refine gate_callee (f:=45) rfl ?_); refine goesL_ (some 91) rfl rfl Try.func45 (by kernel_rfl) rfl #[.agg #[.slice Ao14 t742.length co14],.int .i64 t740] rfl (by (try simp only [List.map_toArray,List.map_cons,List.map_nil]); first|done|rfl|(simp only [List.length_drop,List.length_take]; rfl)) ?_; (with_reducible refine (impl_BlockersOf.calls kj6 _ _ t742 t740 t765 true _ ?side1 ?side2 A44.out).mono ?_); (case side1 => refine (Kd.N_reads' (e:=24) (base:=w.heap.size) (ok:=fun k_ => (((some k_ ≠ (.slice Ao10 t736.length co10 : Value).ownBlock ∧ (some k_ ≠ (.slice Ao20 t747.length co20 : Value).ownBlock ∧ (k_ ≠ gb741 ∧ (k_ ≠ gb746 ∧ k_ ≠ gb751)))) ∧ some k_ ≠ (.slice Ao73 t760.length co73 : Value).ownBlock) ∧ k_ ≠ gb764)) (n:=t742.length) (c:=co14) ?_).2.2; exact (by (with_reducible repeat (first|apply Kd.N_alloc|apply Kd.N_drewN|apply Kd.N_drew)); exact (Kd.N_mono (Kd.N_far (p:=⟨gb764,0,none⟩) (Kd.N_mono HO_747000.out (fun k_ hk => (⟨hk,hk.2⟩ : _ ∧ k_ ≠ gb764))) (fun _ hk => hk.2) (.slice Ao73 t760.length co73)) (fun _ h_ => h_.1)))); (case side2 => exact (Kd.N_reads' HO_747000.out).2.1); rintro e w79 ⟨v766,rfl,ho0,hb⟩; refine ⟨_,rfl,?_⟩; have n0_:=Aside0.mk (Kd.N_elder' (by (with_reducible repeat (first|apply Kd.N_alloc|apply Kd.N_drewN|apply Kd.N_drew)); exact (Kd.N_mono (Kd.N_far (p:=⟨gb764,0,none⟩) (Kd.N_mono HO_742000.out (fun k_ hk => (⟨hk,hk.2⟩ : _ ∧ k_ ≠ gb764))) (fun _ hk => hk.2) (.slice Ao73 t760.length co73)) (fun _ h_ => h_.1))) (Kd.R_base ho0) hb); have n1_:=Aside0.mk (Kd.N_elder' (by (with_reducible repeat (first|apply Kd.N_alloc|apply Kd.N_drewN|apply Kd.N_drew)); exact (Kd.N_mono (Kd.N_far (p:=⟨gb764,0,none⟩) (Kd.N_mono HO_747000.out (fun k_ hk => (⟨hk,hk.2⟩ : _ ∧ k_ ≠ gb764))) (fun _ hk => hk.2) (.slice Ao73 t760.length co73)) (fun _ h_ => h_.1))) (Kd.R_base ho0) hb); have n2_:=Aside0.mk (Kd.N_elder' (by (with_reducible repeat (first|apply Kd.N_alloc|apply Kd.N_drewN|apply Kd.N_drew)); exact (Kd.N_mono (Kd.N_far (p:=⟨gb764,0,none⟩) (Kd.N_mono HO_752000.out (fun k_ hk => (⟨hk,hk.2⟩ : _ ∧ k_ ≠ gb764))) (fun _ hk => hk.2) (.slice Ao73 t760.length co73)) (fun _ h_ => h_.1))) (Kd.R_base ho0) hb); have n3_:=Aside0.mk (Kd.N_elder' (by (with_reducible repeat (first|apply Kd.N_alloc|apply Kd.N_drewN|apply Kd.N_drew)); exact (Kd.N_mono (Kd.N_far (p:=⟨gb764,0,none⟩) (Kd.N_mono HO762.out (fun k_ hk => (⟨hk,hk.2⟩ : _ ∧ k_ ≠ gb764))) (fun _ hk => hk.2) (.slice Ao73 t760.length co73)) (fun _ h_ => h_.1))) (Kd.R_base ho0) hb); have n4_:=Aside0.mk (Kd.R_lower ho0 (below_size (by repeat (first|(with_reducible first|exact HB.out|apply below_alloc|apply pw_below_drewN|apply below_drew1|refine below_set ?_ GE741.out|refine below_set ?_ GE746.out|refine below_set ?_ GE751.out|refine below_set ?_ GE764.out)|exact HB.out)))); have n5_:=Aside0.mk (blk_below (g:=gb741) (o:=.cells #[.slice Ao10 t736.length co10] 42 (0,0)) (by (with_reducible repeat (first|refine blk_drewN ?_ _|refine blk_drew ?_|refine blk_alloc ?_ _)); refine blk_far ?_ NB741_764.out _; (with_reducible repeat (first|refine blk_drewN ?_ _|refine blk_drew ?_|refine blk_alloc ?_ _)); exact BK741.out) hb); have n6_:=Aside0.mk (blk_below (g:=gb746) (o:=.cells #[.slice Ao14 t742.length co14] 42 (0,0)) (by (with_reducible repeat (first|refine blk_drewN ?_ _|refine blk_drew ?_|refine blk_alloc ?_ _)); refine blk_far ?_ NB746_764.out _; (with_reducible repeat (first|refine blk_drewN ?_ _|refine blk_drew ?_|refine blk_alloc ?_ _)); exact BK746.out) hb); have n7_:=Aside0.mk (blk_below (g:=gb751) (o:=.cells #[.slice Ao20 t747.length co20] 42 (0,0)) (by (with_reducible repeat (first|refine blk_drewN ?_ _|refine blk_drew ?_|refine blk_alloc ?_ _)); refine blk_far ?_ NB751_764.out _; (with_reducible repeat (first|refine blk_drewN ?_ _|refine blk_drew ?_|refine blk_alloc ?_ _)); exact BK751.out) hb); have n8_:=Aside0.mk (blk_below (g:=gb764) (o:=.cells #[.slice Ao73 t760.length co73] 42 (0,0)) (by (with_reducible repeat (first|refine blk_drewN ?_ _|refine blk_drew ?_|refine blk_alloc ?_ _)); refine blk_put (cs:=#[.slice none 0 0]) ?_ 0 _ rfl; (with_reducible repeat (first|refine blk_drewN ?_ _|refine blk_drew ?_|refine blk_alloc ?_ _)); exact BK764.out) hb); have n9_:=Aside0.mk (below_step (by repeat (first|(with_reducible first|exact HB.out|apply below_alloc|apply pw_below_drewN|apply below_drew1|refine below_set ?_ GE741.out|refine below_set ?_ GE746.out|refine below_set ?_ GE751.out|refine below_set ?_ GE764.out)|exact HB.out)) hb); clear HO_742000; clear HO_747000; clear HO_752000; clear HO762; clear BK741; clear BK746; clear BK751; clear BK764; clear HB; have HO_742000:=n0_; have HO_747000:=n1_; have HO_752000:=n2_; have HO762:=n3_; have HO767:=n4_; have BK741:=n5_; have BK746:=n6_; have BK751:=n7_; have BK764:=n8_; have HB:=n9_; clear n0_ n1_ n2_ n3_ n4_ n5_ n6_ n7_ n8_ n9_; (try clear hb); (try clear hb2); (try clear hk); (try clear hi); (try clear ho0); have hnb80:=NB741_751.out; have hnc80:=NB751_741.out; have hcz81_0 : w79.cell? ⟨gb741,0,none⟩ = some (.slice Ao10 t736.length co10):=(blk_cell BK741.out 0).trans rfl; have hfz81_0:=blk_frozen BK741.out 0)|((with_reducible refine gate_callee (f:=46) rfl ?_); refine goesL_ (some 96) rfl rfl Try.func46 (by kernel_rfl) rfl #[.agg #[.slice Ao10 t736.length co10]] rfl (by (try simp only [List.map_toArray,List.map_cons,List.map_nil]); first|done|rfl|(simp only [List.length_drop,List.length_take]; rfl)) ?_; (with_reducible refine (impl_FreePlaces.calls kj6 _ _ t736 t769 true _ ?side1 ?side2 A45.out).mono ?_); (case side1 => repeat (first|exact (Kd.N_reads' HO_742000.out).2.2|(with_reducible refine Kd.C_alloc ?_ _)|(with_reducible refine Kd.C_drewN ?_ _)|(with_reducible refine Kd.C_drew ?_))); (case side2 => exact (Kd.N_reads' HO_742000.out).2.1); rintro e w82 ⟨rfl,hb⟩; refine ⟨_,rfl,?_⟩; have n0_:=Aside0.mk (Kd.N_below (by (with_reducible repeat (first|apply Kd.N_alloc|apply Kd.N_drewN|apply Kd.N_drew)); exact HO_742000.out) hb); have n1_:=Aside0.mk (Kd.N_below (by (with_reducible repeat (first|apply Kd.N_alloc|apply Kd.N_drewN|apply Kd.N_drew)); exact HO_747000.out) hb); have n2_:=Aside0.mk (Kd.N_below (by (with_reducible repeat (first|apply Kd.N_alloc|apply Kd.N_drewN|apply Kd.N_drew)); exact HO_752000.out) hb); have n3_:=Aside0.mk (Kd.N_below (by (with_reducible repeat (first|apply Kd.N_alloc|apply Kd.N_drewN|apply Kd.N_drew)); exact HO762.out) hb); have n4_:=Aside0.mk (Kd.R_below (by (with_reducible repeat (first|apply Kd.R_alloc|apply Kd.R_drewN|apply Kd.R_drew)); exact HO767.out) hb); have n5_:=Aside0.mk (blk_below (g:=gb741) (o:=.cells #[.slice Ao10 t736.length co10] 42 (0,0)) (by (with_reducible repeat (first|refine blk_drewN ?_ _|refine blk_drew ?_|refine blk_alloc ?_ _)); exact BK741.out) hb); have n6_:=Aside0.mk (blk_below (g:=gb746) (o:=.cells #[.slice Ao14 t742.length co14] 42 (0,0)) (by (with_reducible repeat (first|refine blk_drewN ?_ _|refine blk_drew ?_|refine blk_alloc ?_ _)); exact BK746.out) hb); have n7_:=Aside0.mk (blk_below (g:=gb751) (o:=.cells #[.slice Ao20 t747.length co20] 42 (0,0)) (by (with_reducible repeat (first|refine blk_drewN ?_ _|refine blk_drew ?_|refine blk_alloc ?_ _)); exact BK751.out) hb); have n8_:=Aside0.mk (blk_below (g:=gb764) (o:=.cells #[.slice Ao73 t760.length co73] 42 (0,0)) (by (with_reducible repeat (first|refine blk_drewN ?_ _|refine blk_drew ?_|refine blk_alloc ?_ _)); exact BK764.out) hb); have n9_:=Aside0.mk (below_step (by repeat (first|(with_reducible first|exact HB.out|apply below_alloc|apply pw_below_drewN|apply below_drew1|refine below_set ?_ GE741.out|refine below_set ?_ GE746.out|refine below_set ?_ GE751.out|refine below_set ?_ GE764.out)|exact HB.out)) hb); clear HO_742000; clear HO_747000; clear HO_752000; clear HO762; clear HO767; clear BK741; clear BK746; clear BK751; clear BK764; clear HB; have HO_742000:=n0_; have HO_747000:=n1_; have HO_752000:=n2_; have HO762:=n3_; have HO767:=n4_; have BK741:=n5_; have BK746:=n6_; have BK751:=n7_; have BK764:=n8_; have HB:=n9_; clear n0_ n1_ n2_ n3_ n4_ n5_ n6_ n7_ n8_ n9_; (try clear hb); (try clear hb2); (try clear hk); (try clear hi); have hcz83_0 : w82.cell? ⟨gb746,0,none⟩ = some (.slice Ao14 t742.length co14):=(blk_cell BK746.out 0).trans rfl; have hfz83_0:=blk_frozen BK746.out 0)|((with_reducible refine gate_callee (f:=46) rfl ?_); refine goesL_ (some 101) rfl rfl Try.func46 (by kernel_rfl) rfl #[.agg #[.slice Ao14 t742.length co14]] rfl (by (try simp only [List.map_toArray,List.map_cons,List.map_nil]); first|done|rfl|(simp only [List.length_drop,List.length_take]; rfl)) ?_; (with_reducible refine (impl_FreePlaces.calls kj6 _ _ t742 t771 true _ ?side1 ?side2 A46.out).mono ?_); (case side1 => repeat (first|exact (Kd.N_reads' HO_747000.out).2.2|(with_reducible refine Kd.C_alloc ?_ _)|(with_reducible refine Kd.C_drewN ?_ _)|(with_reducible refine Kd.C_drew ?_))); (case side2 => exact (Kd.N_reads' HO_747000.out).2.1); rintro e w84 ⟨rfl,hb⟩; refine ⟨_,rfl,?_⟩; have n0_:=Aside0.mk (Kd.N_below (by (with_reducible repeat (first|apply Kd.N_alloc|apply Kd.N_drewN|apply Kd.N_drew)); exact HO_742000.out) hb); have n1_:=Aside0.mk (Kd.N_below (by (with_reducible repeat (first|apply Kd.N_alloc|apply Kd.N_drewN|apply Kd.N_drew)); exact HO_747000.out) hb); have n2_:=Aside0.mk (Kd.N_below (by (with_reducible repeat (first|apply Kd.N_alloc|apply Kd.N_drewN|apply Kd.N_drew)); exact HO_752000.out) hb); have n3_:=Aside0.mk (Kd.N_below (by (with_reducible repeat (first|apply Kd.N_alloc|apply Kd.N_drewN|apply Kd.N_drew)); exact HO762.out) hb); have n4_:=Aside0.mk (Kd.R_below (by (with_reducible repeat (first|apply Kd.R_alloc|apply Kd.R_drewN|apply Kd.R_drew)); exact HO767.out) hb); have n5_:=Aside0.mk (blk_below (g:=gb741) (o:=.cells #[.slice Ao10 t736.length co10] 42 (0,0)) (by (with_reducible repeat (first|refine blk_drewN ?_ _|refine blk_drew ?_|refine blk_alloc ?_ _)); exact BK741.out) hb); have n6_:=Aside0.mk (blk_below (g:=gb746) (o:=.cells #[.slice Ao14 t742.length co14] 42 (0,0)) (by (with_reducible repeat (first|refine blk_drewN ?_ _|refine blk_drew ?_|refine blk_alloc ?_ _)); exact BK746.out) hb); have n7_:=Aside0.mk (blk_below (g:=gb751) (o:=.cells #[.slice Ao20 t747.length co20] 42 (0,0)) (by (with_reducible repeat (first|refine blk_drewN ?_ _|refine blk_drew ?_|refine blk_alloc ?_ _)); exact BK751.out) hb); have n8_:=Aside0.mk (blk_below (g:=gb764) (o:=.cells #[.slice Ao73 t760.length co73] 42 (0,0)) (by (with_reducible repeat (first|refine blk_drewN ?_ _|refine blk_drew ?_|refine blk_alloc ?_ _)); exact BK764.out) hb); have n9_:=Aside0.mk (below_step (by repeat (first|(with_reducible first|exact HB.out|apply below_alloc|apply pw_below_drewN|apply below_drew1|refine below_set ?_ GE741.out|refine below_set ?_ GE746.out|refine below_set ?_ GE751.out|refine below_set ?_ GE764.out)|exact HB.out)) hb); clear HO_742000; clear HO_747000; clear HO_752000; clear HO762; clear HO767; clear BK741; clear BK746; clear BK751; clear BK764; clear HB; have HO_742000:=n0_; have HO_747000:=n1_; have HO_752000:=n2_; have HO762:=n3_; have HO767:=n4_; have BK741:=n5_; have BK746:=n6_; have BK751:=n7_; have BK764:=n8_; have HB:=n9_; clear n0_ n1_ n2_ n3_ n4_ n5_ n6_ n7_ n8_ n9_; (try clear hb); (try clear hb2); (try clear hk); (try clear hi); have hcz85_0 : w84.cell? ⟨gb746,0,none⟩ = some (.slice Ao14 t742.length co14):=(blk_cell BK746.out 0).trans rfl; have hfz85_0:=blk_frozen BK746.out 0)|((with_reducible refine gate_callee (f:=47) rfl ?_); refine goesL_ (some 106) rfl rfl Try.func47 (by kernel_rfl) rfl #[.agg #[.slice Ao14 t742.length co14]] rfl (by (try simp only [List.map_toArray,List.map_cons,List.map_nil]); first|done|rfl|(simp only [List.length_drop,List.length_take]; rfl)) ?_; (with_reducible refine (impl_StackHeights.calls kj6 _ _ t742 t773 true _ ?side1 ?side2 A47.out).mono ?_); (case side1 => repeat (first|exact (Kd.N_reads' HO_747000.out).2.2|(with_reducible refine Kd.C_alloc ?_ _)|(with_reducible refine Kd.C_drewN ?_ _)|(with_reducible refine Kd.C_drew ?_))); (case side2 => exact (Kd.N_reads' HO_747000.out).2.1); rintro e w86 ⟨v774,rfl,ho0,hb⟩; refine ⟨_,rfl,?_⟩; have n0_:=Aside0.mk (Kd.N_elder' (by (with_reducible repeat (first|apply Kd.N_alloc|apply Kd.N_drewN|apply Kd.N_drew)); exact HO_742000.out) (Kd.R_base ho0) hb); have n1_:=Aside0.mk (Kd.N_elder' (by (with_reducible repeat (first|apply Kd.N_alloc|apply Kd.N_drewN|apply Kd.N_drew)); exact HO_747000.out) (Kd.R_base ho0) hb); have n2_:=Aside0.mk (Kd.N_elder' (by (with_reducible repeat (first|apply Kd.N_alloc|apply Kd.N_drewN|apply Kd.N_drew)); exact HO_752000.out) (Kd.R_base ho0) hb); have n3_:=Aside0.mk (Kd.N_elder' (by (with_reducible repeat (first|apply Kd.N_alloc|apply Kd.N_drewN|apply Kd.N_drew)); exact HO762.out) (Kd.R_base ho0) hb); have n4_:=Aside0.mk (Kd.R_elder' (by (with_reducible repeat (first|apply Kd.R_alloc|apply Kd.R_drewN|apply Kd.R_drew)); exact HO767.out) (Kd.R_base ho0) hb); have n5_:=Aside0.mk (Kd.R_lower (Kd.R_new' ho0 (Kd.R_lt (by (with_reducible repeat (first|apply Kd.R_alloc|apply Kd.R_drewN|apply Kd.R_drew)); exact HO767.out))) (below_size (by repeat (first|(with_reducible first|exact HB.out|apply below_alloc|apply pw_below_drewN|apply below_drew1|refine below_set ?_ GE741.out|refine below_set ?_ GE746.out|refine below_set ?_ GE751.out|refine below_set ?_ GE764.out)|exact HB.out)))); have n6_:=Aside0.mk (blk_below (g:=gb741) (o:=.cells #[.slice Ao10 t736.length co10] 42 (0,0)) (by (with_reducible repeat (first|refine blk_drewN ?_ _|refine blk_drew ?_|refine blk_alloc ?_ _)); exact BK741.out) hb); have n7_:=Aside0.mk (blk_below (g:=gb746) (o:=.cells #[.slice Ao14 t742.length co14] 42 (0,0)) (by (with_reducible repeat (first|refine blk_drewN ?_ _|refine blk_drew ?_|refine blk_alloc ?_ _)); exact BK746.out) hb); have n8_:=Aside0.mk (blk_below (g:=gb751) (o:=.cells #[.slice Ao20 t747.length co20] 42 (0,0)) (by (with_reducible repeat (first|refine blk_drewN ?_ _|refine blk_drew ?_|refine blk_alloc ?_ _)); exact BK751.out) hb); have n9_:=Aside0.mk (blk_below (g:=gb764) (o:=.cells #[.slice Ao73 t760.length co73] 42 (0,0)) (by (with_reducible repeat (first|refine blk_drewN ?_ _|refine blk_drew ?_|refine blk_alloc ?_ _)); exact BK764.out) hb); have n10_:=Aside0.mk (below_step (by repeat (first|(with_reducible first|exact HB.out|apply below_alloc|apply pw_below_drewN|apply below_drew1|refine below_set ?_ GE741.out|refine below_set ?_ GE746.out|refine below_set ?_ GE751.out|refine below_set ?_ GE764.out)|exact HB.out)) hb); clear HO_742000; clear HO_747000; clear HO_752000; clear HO762; clear HO767; clear BK741; clear BK746; clear BK751; clear BK764; clear HB; have HO_742000:=n0_; have HO_747000:=n1_; have HO_752000:=n2_; have HO762:=n3_; have HO767:=n4_; have HO775:=n5_; have BK741:=n6_; have BK746:=n7_; have BK751:=n8_; have BK764:=n9_; have HB:=n10_; clear n0_ n1_ n2_ n3_ n4_ n5_ n6_ n7_ n8_ n9_ n10_; (try clear hb); (try clear hb2); (try clear hk); (try clear hi); (try clear ho0); have hcz87_0 : w86.cell? ⟨gb764,0,none⟩ = some (.slice Ao73 t760.length co73):=(blk_cell BK764.out 0).trans rfl; have hfz87_0:=blk_frozen BK764.out 0; have hcz88_0 : w86.cell? ⟨gb741,0,none⟩ = some (.slice Ao10 t736.length co10):=(blk_cell BK741.out 0).trans rfl; have hfz88_0:=blk_frozen BK741.out 0)|(go_at_call 39; (with_reducible refine (laws_vYard.calls kj6 _ _ t760 _ _ t736 true _ ?side1 ?side2 ?side3 ?side4 A53.out).mono ?_); (case side1 => repeat (first|exact (Kd.N_reads' HO762.out).2.2|(with_reducible refine Kd.C_alloc ?_ _)|(with_reducible refine Kd.C_drewN ?_ _)|(with_reducible refine Kd.C_drew ?_))); (case side2 => exact (Kd.N_reads' HO762.out).2.1); (case side3 => repeat (first|exact (Kd.N_reads' HO_742000.out).2.2|(with_reducible refine Kd.C_alloc ?_ _)|(with_reducible refine Kd.C_drewN ?_ _)|(with_reducible refine Kd.C_drew ?_))); (case side4 => exact (Kd.N_reads' HO_742000.out).2.1); rintro e w89 ⟨rfl,hb⟩; have n0_:=Aside0.mk (Kd.N_below (by (with_reducible repeat (first|apply Kd.N_alloc|apply Kd.N_drewN|apply Kd.N_drew)); exact HO_742000.out) hb); have n1_:=Aside0.mk (Kd.N_below (by (with_reducible repeat (first|apply Kd.N_alloc|apply Kd.N_drewN|apply Kd.N_drew)); exact HO_747000.out) hb); have n2_:=Aside0.mk (Kd.N_below (by (with_reducible repeat (first|apply Kd.N_alloc|apply Kd.N_drewN|apply Kd.N_drew)); exact HO_752000.out) hb); have n3_:=Aside0.mk (Kd.N_below (by (with_reducible repeat (first|apply Kd.N_alloc|apply Kd.N_drewN|apply Kd.N_drew)); exact HO762.out) hb); have n4_:=Aside0.mk (Kd.R_below (by (with_reducible repeat (first|apply Kd.R_alloc|apply Kd.R_drewN|apply Kd.R_drew)); exact HO767.out) hb); have n5_:=Aside0.mk (Kd.R_below (by (with_reducible repeat (first|apply Kd.R_alloc|apply Kd.R_drewN|apply Kd.R_drew)); exact HO775.out) hb); have n6_:=Aside0.mk (blk_below (g:=gb741) (o:=.cells #[.slice Ao10 t736.length co10] 42 (0,0)) (by (with_reducible repeat (first|refine blk_drewN ?_ _|refine blk_drew ?_|refine blk_alloc ?_ _)); exact BK741.out) hb); have n7_:=Aside0.mk (blk_below (g:=gb746) (o:=.cells #[.slice Ao14 t742.length co14] 42 (0,0)) (by (with_reducible repeat (first|refine blk_drewN ?_ _|refine blk_drew ?_|refine blk_alloc ?_ _)); exact BK746.out) hb); have n8_:=Aside0.mk (blk_below (g:=gb751) (o:=.cells #[.slice Ao20 t747.length co20] 42 (0,0)) (by (with_reducible repeat (first|refine blk_drewN ?_ _|refine blk_drew ?_|refine blk_alloc ?_ _)); exact BK751.out) hb); have n9_:=Aside0.mk (blk_below (g:=gb764) (o:=.cells #[.slice Ao73 t760.length co73] 42 (0,0)) (by (with_reducible repeat (first|refine blk_drewN ?_ _|refine blk_drew ?_|refine blk_alloc ?_ _)); exact BK764.out) hb); have n10_:=Aside0.mk (below_step (by repeat (first|(with_reducible first|exact HB.out|apply below_alloc|apply pw_below_drewN|apply below_drew1|refine below_set ?_ GE741.out|refine below_set ?_ GE746.out|refine below_set ?_ GE751.out|refine below_set ?_ GE764.out)|exact HB.out)) hb); clear HO_742000; clear HO_747000; clear HO_752000; clear HO762; clear HO767; clear HO775; clear BK741; clear BK746; clear BK751; clear BK764; clear HB; have HO_742000:=n0_; have HO_747000:=n1_; have HO_752000:=n2_; have HO762:=n3_; have HO767:=n4_; have HO775:=n5_; have BK741:=n6_; have BK746:=n7_; have BK751:=n8_; have BK764:=n9_; have HB:=n10_; clear n0_ n1_ n2_ n3_ n4_ n5_ n6_ n7_ n8_ n9_ n10_; (try clear hb); (try clear hb2); (try clear hk); (try clear hi); obtain ⟨Ao90,co90,eo90⟩:=Kd.R_slice HO767.out; subst eo90; obtain ⟨Ao91,co91,eo91⟩:=Kd.R_slice HO775.out; subst eo91; have p778 : 0 ≤ (t757 : Int):=of_decide_eq_true (by first|(with_reducible assumption)|assumption); have q778 : t757 < (t773.length : Int):=of_decide_eq_true (by first|(with_reducible assumption)|assumption); obtain ⟨ad778,e778,hx778_0⟩:=Kd.at_int (Kd.R_reads' HO775.out).2.2 t757 p778 q778; cases e778; replace p778:=eq_true p778; replace q778:=eq_true q778))
                     go_ret
                     exact ⟨by first|rfl|(simp [errW_none,errW_some] <;> rfl)|(simp [*,errW_none,errW_some] <;> rfl),by repeat (first|(with_reducible first|exact HB.out|apply below_alloc|apply pw_below_drewN|apply below_drew1|refine below_set ?_ GE741.out|refine below_set ?_ GE746.out|refine below_set ?_ GE751.out|refine below_set ?_ GE764.out)|exact HB.out)⟩
                    ·rw [if_neg c63] at H
                     exact absurd H (by simp)
                   ·rw [if_neg c62] at H
                    exact absurd H (by simp)
                  ·rw [if_neg c61] at H
                   have c61b0 : decide (t757 < (t773.length : Int)) = false:=decide_eq_false c61
                   clear c61
                   exact absurd H (by simp)
                 ·replace c60:=Bool.eq_false_iff.mpr c60
                  subst c60
                  have H1 : (none) = some r:=by rw [if_neg (show ¬ (false = true) by decide)] at H; exact H
                  clear H
                  have H:=H1
                  clear H1
                  exact absurd H (by simp)
                ·rw [if_neg c59] at H
                 have c59b0 : (t771 == (wrap64 (t769 - 1))) = false:=beq_eq_false_iff_ne.mpr c59
                 have c59b1 : (t771 != (wrap64 (t769 - 1))) = true:=bne_iff_ne.mpr c59
                 exact absurd H (by simp)
               ·replace c58:=Bool.eq_false_iff.mpr c58
                subst c58
                have H1 : (none) = some r:=by rw [if_neg (show ¬ (false = true) by decide)] at H; exact H
                clear H
                have H:=H1
                clear H1
                exact absurd H (by simp)
              ·replace c57:=Bool.eq_false_iff.mpr c57
               subst c57
               have H1 : (none) = some r:=by rw [if_neg (show ¬ (false = true) by decide)] at H; exact H
               clear H
               have H:=H1
               clear H1
               exact absurd H (by simp)
             ·rw [if_neg c56] at H
              have c56b0 : ((t765.length : Int) == 0) = false:=beq_eq_false_iff_ne.mpr c56
              have c56b1 : ((t765.length : Int) != 0) = true:=bne_iff_ne.mpr c56
              have c56b2 : ¬ (t765 = []):=fun h_ => c56 (by rw [h_]; rfl)
              exact absurd H (by simp)
            ·replace c55:=Bool.eq_false_iff.mpr c55
             subst c55
             have H1 : (none) = some r:=by rw [if_neg (show ¬ (false = true) by decide)] at H; exact H
             clear H
             have H:=H1
             clear H1
             exact absurd H (by simp)
           ·replace c54:=Bool.eq_false_iff.mpr c54
            subst c54
            have H1 : (none) = some r:=by rw [if_neg (show ¬ (false = true) by decide)] at H; exact H
            clear H
            have H:=H1
            clear H1
            exact absurd H (by simp)
          ·replace c52:=Bool.eq_false_iff.mpr c52
           subst c52
           have H1 : (none) = some r:=by rw [if_neg (show ¬ (false = true) by decide)] at H; exact H
           clear H
           have H:=H1
           clear H1
           exact absurd H (by simp)
         ·rw [if_neg c51] at H
          have c51b0 : (t757 == t739) = false:=beq_eq_false_iff_ne.mpr c51
          have c51b1 : (t757 != t739) = true:=bne_iff_ne.mpr c51
          exact absurd H (by simp)
        ·replace c50:=Bool.eq_false_iff.mpr c50
         subst c50
         have H1 : (none) = some r:=by rw [if_neg (show ¬ (false = true) by decide)] at H; exact H
         clear H
         have H:=H1
         clear H1
         exact absurd H (by simp)
       ·rw [if_neg c49] at H
        have c49b0 : (t755 == t740) = false:=beq_eq_false_iff_ne.mpr c49
        have c49b1 : (t755 != t740) = true:=bne_iff_ne.mpr c49
        exact absurd H (by simp)
      ·replace c48:=Bool.eq_false_iff.mpr c48
       subst c48
       have H1 : (none) = some r:=by rw [if_neg (show ¬ (false = true) by decide)] at H; exact H
       clear H
       have H:=H1
       clear H1
       exact absurd H (by simp)
     ·replace c40:=Bool.eq_false_iff.mpr c40
      subst c40
      have H1 : (some ((t742.length : Int) == 0)) = some r:=by rw [if_neg (show ¬ (false = true) by decide)] at H; exact H
      clear H
      have H:=H1
      clear H1
      obtain rfl:=Option.some.inj H
      have hnb422:=NB746_741.out
      have hnc422:=NB741_746.out
      have hnb423:=NB746_751.out
      have hnc423:=NB751_746.out
      have hcz424_0 : wc.cell? ⟨gb746,0,none⟩ = some (.slice Ao14 t742.length co14):=(blk_cell BK746.out 0).trans rfl
      have hfz424_0:=blk_frozen BK746.out 0
      go_wp2
      go_ret
      exact ⟨by first|rfl|(simp [errW_none,errW_some] <;> rfl)|(simp [*,errW_none,errW_some] <;> rfl),by repeat (first|(with_reducible first|exact HB.out|apply below_alloc|apply pw_below_drewN|apply below_drew1|refine below_set ?_ GE741.out|refine below_set ?_ GE746.out|refine below_set ?_ GE751.out)|exact HB.out)⟩

end Go.Proofs.Ytlldonokjgoajaa.X
