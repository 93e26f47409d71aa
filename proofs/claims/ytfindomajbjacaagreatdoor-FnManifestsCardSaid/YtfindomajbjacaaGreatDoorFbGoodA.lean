-- Written by a program of ours (wip/bin/xprint.py,over the kit's print.py) out of the translation. Not trusted: Lean checks it.
import Derived.Test.YtfindomajbjacaaGreatDoorX0
import Derived.Test.YtfindomajbjacaaGreatDoorFbIds
import Derived.Test.YtfindomajbjacaaGreatDoorFbList
namespace Go.Proofs.YtfindomajbjacaaGreatDoor.X
open Go.RowKit Go.Proofs.YtfindomajbjacaaGreatDoorW.PrintWords Go.Proofs.YtfindomajbjacaaGreatDoorW.PrintLast Go.Proofs.YtfindomajbjacaaGreatDoorW.PrintMore
attribute [local go_sem] max2_int min2_int max_two min_two max_three min_three max_four min_four   -- for this text's walks alone
set_option linter.unusedVariables false
set_option linter.unusedSimpArgs false

/-! ### impl_IsValidContainer: function 65 -/
def impl_IsValidContainer.f (k : Nat) (a0_0 : ByteArray) (a0_1 : Int) (a0_2 : Int) (a0_3 : Int) (a0_4 : Int) : Option (Bool):=(impl_IsValidId.f k a0_0).bind fun t766 => (if t766 = true then ((impl_within.f a0_1 1 2).bind fun t767 => (if t767 = true then ((impl_within.f a0_3 1 3).bind fun t768 => (if t768 = true then ((impl_within.f a0_2 1 32000).bind fun t769 => (if t769 = true then ((impl_within.f a0_4 1 9).bind fun t770 => (some t770)) else (some false))) else (some false))) else (some false))) else (some false))
theorem impl_IsValidContainer.mono : ∀ a0 a1 a2 a3 a4 k,LeO (impl_IsValidContainer.f k a0 a1 a2 a3 a4) (impl_IsValidContainer.f (k + 1) a0 a1 a2 a3 a4):=by
 intro a0 a1 a2 a3 a4 k
 unfold impl_IsValidContainer.f
 repeat' first
   | (with_reducible exact impl_IsValidId.mono _ _)
   | (with_reducible exact LeO.refl _)
   | (with_reducible exact LeO.none _)
   | (with_reducible refine LeO.ite ?_ ?_)
   | (with_reducible refine LeO.bind ?_ (fun _ => ?_))
   | exact impl_IsValidId.mono _ _
   | exact LeO.none _
   | refine LeO.ite ?_ ?_
   | refine LeO.bind ?_ (fun _ => ?_)
set_option maxHeartbeats 8000000 in
set_option maxRecDepth 100000 in
theorem impl_IsValidContainer.calls (k : Nat) (a0_0 : ByteArray) (a0_1 : Int) (a0_2 : Int) (a0_3 : Int) (a0_4 : Int) (r : Bool) (w : World) (h : impl_IsValidContainer.f k a0_0 a0_1 a0_2 a0_3 a0_4 = some r) :
  Calls Tryz.prog 65 #[.agg #[.string a0_0,.int .i64 a0_1,.int .i64 a0_2,.int .i64 a0_3,.int .i64 a0_4]] w fun e w' => e = .returned (.bool r) ∧ Below w.heap.size w w':=by
 have hu50:=Tryz.underlying50
 have HB:=Aside0.mk (Below.refl w.heap.size w)
 have H : ((impl_IsValidId.f k a0_0).bind fun t766 => (if t766 = true then ((impl_within.f a0_1 1 2).bind fun t767 => (if t767 = true then ((impl_within.f a0_3 1 3).bind fun t768 => (if t768 = true then ((impl_within.f a0_2 1 32000).bind fun t769 => (if t769 = true then ((impl_within.f a0_4 1 9).bind fun t770 => (some t770)) else (some false))) else (some false))) else (some false))) else (some false))) = some r:=h
 clear h
 replace H:=Option.bind_eq_some_iff.mp H
 obtain ⟨t766,A20,H⟩:=H
 replace H : (if t766 = true then ((impl_within.f a0_1 1 2).bind fun t767 => (if t767 = true then ((impl_within.f a0_3 1 3).bind fun t768 => (if t768 = true then ((impl_within.f a0_2 1 32000).bind fun t769 => (if t769 = true then ((impl_within.f a0_4 1 9).bind fun t770 => (some t770)) else (some false))) else (some false))) else (some false))) else (some false)) = some r:=H
 have A2:=Aside0.mk A20
 clear A20
 by_cases c3 : t766 = true
 ·subst c3
  have H1 : ((impl_within.f a0_1 1 2).bind fun t767 => (if t767 = true then ((impl_within.f a0_3 1 3).bind fun t768 => (if t768 = true then ((impl_within.f a0_2 1 32000).bind fun t769 => (if t769 = true then ((impl_within.f a0_4 1 9).bind fun t770 => (some t770)) else (some false))) else (some false))) else (some false))) = some r:=by rw [if_pos rfl] at H; exact H
  clear H
  have H:=H1
  clear H1
  replace H:=Option.bind_eq_some_iff.mp H
  obtain ⟨t767,A40,H⟩:=H
  replace H : (if t767 = true then ((impl_within.f a0_3 1 3).bind fun t768 => (if t768 = true then ((impl_within.f a0_2 1 32000).bind fun t769 => (if t769 = true then ((impl_within.f a0_4 1 9).bind fun t770 => (some t770)) else (some false))) else (some false))) else (some false)) = some r:=H
  have A4:=Aside0.mk A40
  clear A40
  by_cases c5 : t767 = true
  ·subst c5
   have H1 : ((impl_within.f a0_3 1 3).bind fun t768 => (if t768 = true then ((impl_within.f a0_2 1 32000).bind fun t769 => (if t769 = true then ((impl_within.f a0_4 1 9).bind fun t770 => (some t770)) else (some false))) else (some false))) = some r:=by rw [if_pos rfl] at H; exact H
   clear H
   have H:=H1
   clear H1
   replace H:=Option.bind_eq_some_iff.mp H
   obtain ⟨t768,A60,H⟩:=H
   replace H : (if t768 = true then ((impl_within.f a0_2 1 32000).bind fun t769 => (if t769 = true then ((impl_within.f a0_4 1 9).bind fun t770 => (some t770)) else (some false))) else (some false)) = some r:=H
   have A6:=Aside0.mk A60
   clear A60
   by_cases c7 : t768 = true
   ·subst c7
    have H1 : ((impl_within.f a0_2 1 32000).bind fun t769 => (if t769 = true then ((impl_within.f a0_4 1 9).bind fun t770 => (some t770)) else (some false))) = some r:=by rw [if_pos rfl] at H; exact H
    clear H
    have H:=H1
    clear H1
    replace H:=Option.bind_eq_some_iff.mp H
    obtain ⟨t769,A80,H⟩:=H
    replace H : (if t769 = true then ((impl_within.f a0_4 1 9).bind fun t770 => (some t770)) else (some false)) = some r:=H
    have A8:=Aside0.mk A80
    clear A80
    by_cases c9 : t769 = true
    ·subst c9
     have H1 : ((impl_within.f a0_4 1 9).bind fun t770 => (some t770)) = some r:=by rw [if_pos rfl] at H; exact H
     clear H
     have H:=H1
     clear H1
     replace H:=Option.bind_eq_some_iff.mp H
     obtain ⟨t770,A100,H⟩:=H
     replace H : (some t770) = some r:=H
     have A10:=Aside0.mk A100
     clear A100
     obtain rfl:=Option.some.inj H
     go_enter Tryz.func65,Tryz.ntmps65
     go_wp2_with (first|((with_reducible refine gate_dst (N:=1) rfl ?_); refine box_event ?hg (N:=1) ?hd (cs:=#[.string a0_0,.int .i64 a0_1,.int .i64 a0_2,.int .i64 a0_3,.int .i64 a0_4]) (t:=50) ?hr ?_; (case hd => rfl); (case hg => rfl); (case hr => (go_simp; done)); intro gb765 hg w11 hbox hb; have n0_:=Aside0.mk (below_step (by repeat (((with_reducible (exact HB.out))))) hb); have n1_:=Aside0.mk (hbox); have n2_:=Aside0.mk ((by rw [hg]; exact (below_size (by repeat (((with_reducible (exact HB.out)))))) : w.heap.size ≤ gb765)); have n3_:=Aside0.mk ((by rw [hg]; exact (below_size (by repeat (((with_reducible (exact HB.out)))))) : w.heap.size ≤ gb765)); clear HB; have HB:=n0_; have BK765:=n1_; have GW765:=n2_; have GE765:=n3_; clear n0_ n1_ n2_ n3_; clear hb hbox hg; have hcz12_0 : w11.cell? ⟨gb765,0,none⟩ = some (.string a0_0):=(blk_cell BK765.out 0).trans rfl; have hcz12_1 : w11.cell? ⟨gb765,1,none⟩ = some (.int .i64 a0_1):=(blk_cell BK765.out 1).trans rfl; have hcz12_2 : w11.cell? ⟨gb765,2,none⟩ = some (.int .i64 a0_2):=(blk_cell BK765.out 2).trans rfl; have hcz12_3 : w11.cell? ⟨gb765,3,none⟩ = some (.int .i64 a0_3):=(blk_cell BK765.out 3).trans rfl; have hcz12_4 : w11.cell? ⟨gb765,4,none⟩ = some (.int .i64 a0_4):=(blk_cell BK765.out 4).trans rfl; have hfz12_0:=blk_frozen BK765.out 0; have hfz12_1:=blk_frozen BK765.out 1; have hfz12_2:=blk_frozen BK765.out 2; have hfz12_3:=blk_frozen BK765.out 3; have hfz12_4:=blk_frozen BK765.out 4)|((with_reducible refine gate_callee (f:=86) rfl ?_); refine goesL_ (some 5) rfl rfl Tryz.func86 (by kernel_rfl) rfl #[.string a0_0] rfl (by (try simp only [List.map_toArray,List.map_cons,List.map_nil]); (rfl)) ?_; (with_reducible refine (impl_IsValidId.calls k a0_0 true _ A2.out).mono ?_); rintro e w' ⟨rfl,⟨nd,rfl⟩⟩; refine ⟨_,rfl,?_⟩)|(go_at_call 35; (with_reducible refine (impl_within.calls a0_1 1 2 true _ A4.out).mono ?_); rintro e w' ⟨rfl,⟨nd,rfl⟩⟩)|(go_at_call 35; (with_reducible refine (impl_within.calls a0_3 1 3 true _ A6.out).mono ?_); rintro e w' ⟨rfl,⟨nd,rfl⟩⟩)|(go_at_call 35; (with_reducible refine (impl_within.calls a0_2 1 32000 true _ A8.out).mono ?_); rintro e w' ⟨rfl,⟨nd,rfl⟩⟩)|(go_at_call 35; (with_reducible refine (impl_within.calls a0_4 1 9 t770 _ A10.out).mono ?_); rintro e w' ⟨rfl,⟨nd,rfl⟩⟩))
     go_ret
     exact ⟨by (rfl),by repeat (with_reducible first|exact HB.out|apply pw_below_drewN)⟩
    ·replace c9:=Bool.eq_false_iff.mpr c9
     subst c9
     have H1 : (some false) = some r:=by rw [if_neg (show ¬ (false = true) by decide)] at H; exact H
     clear H
     have H:=H1
     clear H1
     obtain rfl:=Option.some.inj H
     go_enter Tryz.func65,Tryz.ntmps65
     go_wp2_with (first|((with_reducible refine gate_dst (N:=1) rfl ?_); refine box_event ?hg (N:=1) ?hd (cs:=#[.string a0_0,.int .i64 a0_1,.int .i64 a0_2,.int .i64 a0_3,.int .i64 a0_4]) (t:=50) ?hr ?_; (case hd => rfl); (case hg => rfl); (case hr => (go_simp; done)); intro gb765 hg w13 hbox hb; have n0_:=Aside0.mk (below_step (by repeat (((with_reducible (exact HB.out))))) hb); have n1_:=Aside0.mk (hbox); have n2_:=Aside0.mk ((by rw [hg]; exact (below_size (by repeat (((with_reducible (exact HB.out)))))) : w.heap.size ≤ gb765)); have n3_:=Aside0.mk ((by rw [hg]; exact (below_size (by repeat (((with_reducible (exact HB.out)))))) : w.heap.size ≤ gb765)); clear HB; have HB:=n0_; have BK765:=n1_; have GW765:=n2_; have GE765:=n3_; clear n0_ n1_ n2_ n3_; clear hb hbox hg; have hcz14_0 : w13.cell? ⟨gb765,0,none⟩ = some (.string a0_0):=(blk_cell BK765.out 0).trans rfl; have hcz14_1 : w13.cell? ⟨gb765,1,none⟩ = some (.int .i64 a0_1):=(blk_cell BK765.out 1).trans rfl; have hcz14_2 : w13.cell? ⟨gb765,2,none⟩ = some (.int .i64 a0_2):=(blk_cell BK765.out 2).trans rfl; have hcz14_3 : w13.cell? ⟨gb765,3,none⟩ = some (.int .i64 a0_3):=(blk_cell BK765.out 3).trans rfl; have hcz14_4 : w13.cell? ⟨gb765,4,none⟩ = some (.int .i64 a0_4):=(blk_cell BK765.out 4).trans rfl; have hfz14_0:=blk_frozen BK765.out 0; have hfz14_1:=blk_frozen BK765.out 1; have hfz14_2:=blk_frozen BK765.out 2; have hfz14_3:=blk_frozen BK765.out 3; have hfz14_4:=blk_frozen BK765.out 4)|((with_reducible refine gate_callee (f:=86) rfl ?_); refine goesL_ (some 5) rfl rfl Tryz.func86 (by kernel_rfl) rfl #[.string a0_0] rfl (by (try simp only [List.map_toArray,List.map_cons,List.map_nil]); (rfl)) ?_; (with_reducible refine (impl_IsValidId.calls k a0_0 true _ A2.out).mono ?_); rintro e w' ⟨rfl,⟨nd,rfl⟩⟩; refine ⟨_,rfl,?_⟩)|(go_at_call 35; (with_reducible refine (impl_within.calls a0_1 1 2 true _ A4.out).mono ?_); rintro e w' ⟨rfl,⟨nd,rfl⟩⟩)|(go_at_call 35; (with_reducible refine (impl_within.calls a0_3 1 3 true _ A6.out).mono ?_); rintro e w' ⟨rfl,⟨nd,rfl⟩⟩)|(go_at_call 35; (with_reducible refine (impl_within.calls a0_2 1 32000 false _ A8.out).mono ?_); rintro e w' ⟨rfl,⟨nd,rfl⟩⟩))
     go_ret
     exact ⟨by (rfl),by repeat (with_reducible first|exact HB.out|apply pw_below_drewN)⟩
   ·replace c7:=Bool.eq_false_iff.mpr c7
    subst c7
    have H1 : (some false) = some r:=by rw [if_neg (show ¬ (false = true) by decide)] at H; exact H
    clear H
    have H:=H1
    clear H1
    obtain rfl:=Option.some.inj H
    go_enter Tryz.func65,Tryz.ntmps65
    go_wp2_with (first|((with_reducible refine gate_dst (N:=1) rfl ?_); refine box_event ?hg (N:=1) ?hd (cs:=#[.string a0_0,.int .i64 a0_1,.int .i64 a0_2,.int .i64 a0_3,.int .i64 a0_4]) (t:=50) ?hr ?_; (case hd => rfl); (case hg => rfl); (case hr => (go_simp; done)); intro gb765 hg w15 hbox hb; have n0_:=Aside0.mk (below_step (by repeat (((with_reducible (exact HB.out))))) hb); have n1_:=Aside0.mk (hbox); have n2_:=Aside0.mk ((by rw [hg]; exact (below_size (by repeat (((with_reducible (exact HB.out)))))) : w.heap.size ≤ gb765)); have n3_:=Aside0.mk ((by rw [hg]; exact (below_size (by repeat (((with_reducible (exact HB.out)))))) : w.heap.size ≤ gb765)); clear HB; have HB:=n0_; have BK765:=n1_; have GW765:=n2_; have GE765:=n3_; clear n0_ n1_ n2_ n3_; clear hb hbox hg; have hcz16_0 : w15.cell? ⟨gb765,0,none⟩ = some (.string a0_0):=(blk_cell BK765.out 0).trans rfl; have hcz16_1 : w15.cell? ⟨gb765,1,none⟩ = some (.int .i64 a0_1):=(blk_cell BK765.out 1).trans rfl; have hcz16_2 : w15.cell? ⟨gb765,2,none⟩ = some (.int .i64 a0_2):=(blk_cell BK765.out 2).trans rfl; have hcz16_3 : w15.cell? ⟨gb765,3,none⟩ = some (.int .i64 a0_3):=(blk_cell BK765.out 3).trans rfl; have hcz16_4 : w15.cell? ⟨gb765,4,none⟩ = some (.int .i64 a0_4):=(blk_cell BK765.out 4).trans rfl; have hfz16_0:=blk_frozen BK765.out 0; have hfz16_1:=blk_frozen BK765.out 1; have hfz16_2:=blk_frozen BK765.out 2; have hfz16_3:=blk_frozen BK765.out 3; have hfz16_4:=blk_frozen BK765.out 4)|((with_reducible refine gate_callee (f:=86) rfl ?_); refine goesL_ (some 5) rfl rfl Tryz.func86 (by kernel_rfl) rfl #[.string a0_0] rfl (by (try simp only [List.map_toArray,List.map_cons,List.map_nil]); (rfl)) ?_; (with_reducible refine (impl_IsValidId.calls k a0_0 true _ A2.out).mono ?_); rintro e w' ⟨rfl,⟨nd,rfl⟩⟩; refine ⟨_,rfl,?_⟩)|(go_at_call 35; (with_reducible refine (impl_within.calls a0_1 1 2 true _ A4.out).mono ?_); rintro e w' ⟨rfl,⟨nd,rfl⟩⟩)|(go_at_call 35; (with_reducible refine (impl_within.calls a0_3 1 3 false _ A6.out).mono ?_); rintro e w' ⟨rfl,⟨nd,rfl⟩⟩))
    go_ret
    exact ⟨by (rfl),by repeat (with_reducible first|exact HB.out|apply pw_below_drewN)⟩
  ·replace c5:=Bool.eq_false_iff.mpr c5
   subst c5
   have H1 : (some false) = some r:=by rw [if_neg (show ¬ (false = true) by decide)] at H; exact H
   clear H
   have H:=H1
   clear H1
   obtain rfl:=Option.some.inj H
   go_enter Tryz.func65,Tryz.ntmps65
   go_wp2_with (first|((with_reducible refine gate_dst (N:=1) rfl ?_); refine box_event ?hg (N:=1) ?hd (cs:=#[.string a0_0,.int .i64 a0_1,.int .i64 a0_2,.int .i64 a0_3,.int .i64 a0_4]) (t:=50) ?hr ?_; (case hd => rfl); (case hg => rfl); (case hr => (go_simp; done)); intro gb765 hg w17 hbox hb; have n0_:=Aside0.mk (below_step (by repeat (((with_reducible (exact HB.out))))) hb); have n1_:=Aside0.mk (hbox); have n2_:=Aside0.mk ((by rw [hg]; exact (below_size (by repeat (((with_reducible (exact HB.out)))))) : w.heap.size ≤ gb765)); have n3_:=Aside0.mk ((by rw [hg]; exact (below_size (by repeat (((with_reducible (exact HB.out)))))) : w.heap.size ≤ gb765)); clear HB; have HB:=n0_; have BK765:=n1_; have GW765:=n2_; have GE765:=n3_; clear n0_ n1_ n2_ n3_; clear hb hbox hg; have hcz18_0 : w17.cell? ⟨gb765,0,none⟩ = some (.string a0_0):=(blk_cell BK765.out 0).trans rfl; have hcz18_1 : w17.cell? ⟨gb765,1,none⟩ = some (.int .i64 a0_1):=(blk_cell BK765.out 1).trans rfl; have hcz18_2 : w17.cell? ⟨gb765,2,none⟩ = some (.int .i64 a0_2):=(blk_cell BK765.out 2).trans rfl; have hcz18_3 : w17.cell? ⟨gb765,3,none⟩ = some (.int .i64 a0_3):=(blk_cell BK765.out 3).trans rfl; have hcz18_4 : w17.cell? ⟨gb765,4,none⟩ = some (.int .i64 a0_4):=(blk_cell BK765.out 4).trans rfl; have hfz18_0:=blk_frozen BK765.out 0; have hfz18_1:=blk_frozen BK765.out 1; have hfz18_2:=blk_frozen BK765.out 2; have hfz18_3:=blk_frozen BK765.out 3; have hfz18_4:=blk_frozen BK765.out 4)|((with_reducible refine gate_callee (f:=86) rfl ?_); refine goesL_ (some 5) rfl rfl Tryz.func86 (by kernel_rfl) rfl #[.string a0_0] rfl (by (try simp only [List.map_toArray,List.map_cons,List.map_nil]); (rfl)) ?_; (with_reducible refine (impl_IsValidId.calls k a0_0 true _ A2.out).mono ?_); rintro e w' ⟨rfl,⟨nd,rfl⟩⟩; refine ⟨_,rfl,?_⟩)|(go_at_call 35; (with_reducible refine (impl_within.calls a0_1 1 2 false _ A4.out).mono ?_); rintro e w' ⟨rfl,⟨nd,rfl⟩⟩))
   go_ret
   exact ⟨by (rfl),by repeat (with_reducible first|exact HB.out|apply pw_below_drewN)⟩
 ·replace c3:=Bool.eq_false_iff.mpr c3
  subst c3
  have H1 : (some false) = some r:=by rw [if_neg (show ¬ (false = true) by decide)] at H; exact H
  clear H
  have H:=H1
  clear H1
  obtain rfl:=Option.some.inj H
  go_enter Tryz.func65,Tryz.ntmps65
  go_wp2_with (first|((with_reducible refine gate_dst (N:=1) rfl ?_); refine box_event ?hg (N:=1) ?hd (cs:=#[.string a0_0,.int .i64 a0_1,.int .i64 a0_2,.int .i64 a0_3,.int .i64 a0_4]) (t:=50) ?hr ?_; (case hd => rfl); (case hg => rfl); (case hr => (go_simp; done)); intro gb765 hg w19 hbox hb; have n0_:=Aside0.mk (below_step (by repeat (((with_reducible (exact HB.out))))) hb); have n1_:=Aside0.mk (hbox); have n2_:=Aside0.mk ((by rw [hg]; exact (below_size (by repeat (((with_reducible (exact HB.out)))))) : w.heap.size ≤ gb765)); have n3_:=Aside0.mk ((by rw [hg]; exact (below_size (by repeat (((with_reducible (exact HB.out)))))) : w.heap.size ≤ gb765)); clear HB; have HB:=n0_; have BK765:=n1_; have GW765:=n2_; have GE765:=n3_; clear n0_ n1_ n2_ n3_; clear hb hbox hg; have hcz20_0 : w19.cell? ⟨gb765,0,none⟩ = some (.string a0_0):=(blk_cell BK765.out 0).trans rfl; have hcz20_1 : w19.cell? ⟨gb765,1,none⟩ = some (.int .i64 a0_1):=(blk_cell BK765.out 1).trans rfl; have hcz20_2 : w19.cell? ⟨gb765,2,none⟩ = some (.int .i64 a0_2):=(blk_cell BK765.out 2).trans rfl; have hcz20_3 : w19.cell? ⟨gb765,3,none⟩ = some (.int .i64 a0_3):=(blk_cell BK765.out 3).trans rfl; have hcz20_4 : w19.cell? ⟨gb765,4,none⟩ = some (.int .i64 a0_4):=(blk_cell BK765.out 4).trans rfl; have hfz20_0:=blk_frozen BK765.out 0; have hfz20_1:=blk_frozen BK765.out 1; have hfz20_2:=blk_frozen BK765.out 2; have hfz20_3:=blk_frozen BK765.out 3; have hfz20_4:=blk_frozen BK765.out 4)|((with_reducible refine gate_callee (f:=86) rfl ?_); refine goesL_ (some 5) rfl rfl Tryz.func86 (by kernel_rfl) rfl #[.string a0_0] rfl (by (try simp only [List.map_toArray,List.map_cons,List.map_nil]); (rfl)) ?_; (with_reducible refine (impl_IsValidId.calls k a0_0 false _ A2.out).mono ?_); rintro e w' ⟨rfl,⟨nd,rfl⟩⟩; refine ⟨_,rfl,?_⟩))
  go_ret
  exact ⟨by (rfl),by repeat (with_reducible first|exact HB.out|apply pw_below_drewN)⟩

/-! ### spec_l2Good: function 83 -/
def spec_l2Good.f (k : Nat) (a0_0 : ByteArray) (a0_1 : Int) (a0_2 : Int) (a0_3 : Int) (a0_4 : Int) : Option (Bool):=(spec_l2Id.f k a0_0).bind fun t849 => (if t849 = true then ((spec_l1In.f a0_1 1 2).bind fun t850 => (if t850 = true then ((spec_l1In.f a0_2 1 32000).bind fun t851 => (if t851 = true then ((spec_l1In.f a0_3 1 3).bind fun t852 => (if t852 = true then ((spec_l1In.f a0_4 1 9).bind fun t853 => (some t853)) else (some false))) else (some false))) else (some false))) else (some false))
theorem spec_l2Good.mono : ∀ a0 a1 a2 a3 a4 k,LeO (spec_l2Good.f k a0 a1 a2 a3 a4) (spec_l2Good.f (k + 1) a0 a1 a2 a3 a4):=by
 intro a0 a1 a2 a3 a4 k
 unfold spec_l2Good.f
 repeat' first
   | (with_reducible exact spec_l2Id.mono _ _)
   | (with_reducible exact LeO.refl _)
   | (with_reducible exact LeO.none _)
   | (with_reducible refine LeO.ite ?_ ?_)
   | (with_reducible refine LeO.bind ?_ (fun _ => ?_))
   | exact spec_l2Id.mono _ _
   | exact LeO.none _
   | refine LeO.ite ?_ ?_
   | refine LeO.bind ?_ (fun _ => ?_)
set_option maxHeartbeats 8000000 in
set_option maxRecDepth 100000 in
theorem spec_l2Good.calls (k : Nat) (a0_0 : ByteArray) (a0_1 : Int) (a0_2 : Int) (a0_3 : Int) (a0_4 : Int) (r : Bool) (w : World) (h : spec_l2Good.f k a0_0 a0_1 a0_2 a0_3 a0_4 = some r) :
  Calls Tryz.prog 83 #[.agg #[.string a0_0,.int .i64 a0_1,.int .i64 a0_2,.int .i64 a0_3,.int .i64 a0_4]] w fun e w' => e = .returned (.bool r) ∧ Below w.heap.size w w':=by
 have hu50:=Tryz.underlying50
 have HB:=Aside0.mk (Below.refl w.heap.size w)
 have H : ((spec_l2Id.f k a0_0).bind fun t849 => (if t849 = true then ((spec_l1In.f a0_1 1 2).bind fun t850 => (if t850 = true then ((spec_l1In.f a0_2 1 32000).bind fun t851 => (if t851 = true then ((spec_l1In.f a0_3 1 3).bind fun t852 => (if t852 = true then ((spec_l1In.f a0_4 1 9).bind fun t853 => (some t853)) else (some false))) else (some false))) else (some false))) else (some false))) = some r:=h
 clear h
 replace H:=Option.bind_eq_some_iff.mp H
 obtain ⟨t849,A20,H⟩:=H
 replace H : (if t849 = true then ((spec_l1In.f a0_1 1 2).bind fun t850 => (if t850 = true then ((spec_l1In.f a0_2 1 32000).bind fun t851 => (if t851 = true then ((spec_l1In.f a0_3 1 3).bind fun t852 => (if t852 = true then ((spec_l1In.f a0_4 1 9).bind fun t853 => (some t853)) else (some false))) else (some false))) else (some false))) else (some false)) = some r:=H
 have A2:=Aside0.mk A20
 clear A20
 by_cases c3 : t849 = true
 ·subst c3
  have H1 : ((spec_l1In.f a0_1 1 2).bind fun t850 => (if t850 = true then ((spec_l1In.f a0_2 1 32000).bind fun t851 => (if t851 = true then ((spec_l1In.f a0_3 1 3).bind fun t852 => (if t852 = true then ((spec_l1In.f a0_4 1 9).bind fun t853 => (some t853)) else (some false))) else (some false))) else (some false))) = some r:=by rw [if_pos rfl] at H; exact H
  clear H
  have H:=H1
  clear H1
  replace H:=Option.bind_eq_some_iff.mp H
  obtain ⟨t850,A40,H⟩:=H
  replace H : (if t850 = true then ((spec_l1In.f a0_2 1 32000).bind fun t851 => (if t851 = true then ((spec_l1In.f a0_3 1 3).bind fun t852 => (if t852 = true then ((spec_l1In.f a0_4 1 9).bind fun t853 => (some t853)) else (some false))) else (some false))) else (some false)) = some r:=H
  have A4:=Aside0.mk A40
  clear A40
  by_cases c5 : t850 = true
  ·subst c5
   have H1 : ((spec_l1In.f a0_2 1 32000).bind fun t851 => (if t851 = true then ((spec_l1In.f a0_3 1 3).bind fun t852 => (if t852 = true then ((spec_l1In.f a0_4 1 9).bind fun t853 => (some t853)) else (some false))) else (some false))) = some r:=by rw [if_pos rfl] at H; exact H
   clear H
   have H:=H1
   clear H1
   replace H:=Option.bind_eq_some_iff.mp H
   obtain ⟨t851,A60,H⟩:=H
   replace H : (if t851 = true then ((spec_l1In.f a0_3 1 3).bind fun t852 => (if t852 = true then ((spec_l1In.f a0_4 1 9).bind fun t853 => (some t853)) else (some false))) else (some false)) = some r:=H
   have A6:=Aside0.mk A60
   clear A60
   by_cases c7 : t851 = true
   ·subst c7
    have H1 : ((spec_l1In.f a0_3 1 3).bind fun t852 => (if t852 = true then ((spec_l1In.f a0_4 1 9).bind fun t853 => (some t853)) else (some false))) = some r:=by rw [if_pos rfl] at H; exact H
    clear H
    have H:=H1
    clear H1
    replace H:=Option.bind_eq_some_iff.mp H
    obtain ⟨t852,A80,H⟩:=H
    replace H : (if t852 = true then ((spec_l1In.f a0_4 1 9).bind fun t853 => (some t853)) else (some false)) = some r:=H
    have A8:=Aside0.mk A80
    clear A80
    by_cases c9 : t852 = true
    ·subst c9
     have H1 : ((spec_l1In.f a0_4 1 9).bind fun t853 => (some t853)) = some r:=by rw [if_pos rfl] at H; exact H
     clear H
     have H:=H1
     clear H1
     replace H:=Option.bind_eq_some_iff.mp H
     obtain ⟨t853,A100,H⟩:=H
     replace H : (some t853) = some r:=H
     have A10:=Aside0.mk A100
     clear A100
     obtain rfl:=Option.some.inj H
     go_enter Tryz.func83,Tryz.ntmps83
     go_wp2_with (first|((with_reducible refine gate_dst (N:=1) rfl ?_); refine box_event ?hg (N:=1) ?hd (cs:=#[.string a0_0,.int .i64 a0_1,.int .i64 a0_2,.int .i64 a0_3,.int .i64 a0_4]) (t:=50) ?hr ?_; (case hd => rfl); (case hg => rfl); (case hr => (go_simp; done)); intro gb848 hg w11 hbox hb; have n0_:=Aside0.mk (below_step (by repeat (((with_reducible (exact HB.out))))) hb); have n1_:=Aside0.mk (hbox); have n2_:=Aside0.mk ((by rw [hg]; exact (below_size (by repeat (((with_reducible (exact HB.out)))))) : w.heap.size ≤ gb848)); have n3_:=Aside0.mk ((by rw [hg]; exact (below_size (by repeat (((with_reducible (exact HB.out)))))) : w.heap.size ≤ gb848)); clear HB; have HB:=n0_; have BK848:=n1_; have GW848:=n2_; have GE848:=n3_; clear n0_ n1_ n2_ n3_; clear hb hbox hg; have hcz12_0 : w11.cell? ⟨gb848,0,none⟩ = some (.string a0_0):=(blk_cell BK848.out 0).trans rfl; have hcz12_1 : w11.cell? ⟨gb848,1,none⟩ = some (.int .i64 a0_1):=(blk_cell BK848.out 1).trans rfl; have hcz12_2 : w11.cell? ⟨gb848,2,none⟩ = some (.int .i64 a0_2):=(blk_cell BK848.out 2).trans rfl; have hcz12_3 : w11.cell? ⟨gb848,3,none⟩ = some (.int .i64 a0_3):=(blk_cell BK848.out 3).trans rfl; have hcz12_4 : w11.cell? ⟨gb848,4,none⟩ = some (.int .i64 a0_4):=(blk_cell BK848.out 4).trans rfl; have hfz12_0:=blk_frozen BK848.out 0; have hfz12_1:=blk_frozen BK848.out 1; have hfz12_2:=blk_frozen BK848.out 2; have hfz12_3:=blk_frozen BK848.out 3; have hfz12_4:=blk_frozen BK848.out 4)|((with_reducible refine gate_callee (f:=103) rfl ?_); refine goesL_ (some 5) rfl rfl Tryz.func103 (by kernel_rfl) rfl #[.string a0_0] rfl (by (try simp only [List.map_toArray,List.map_cons,List.map_nil]); (rfl)) ?_; (with_reducible refine (spec_l2Id.calls k a0_0 true _ A2.out).mono ?_); rintro e w' ⟨rfl,⟨nd,rfl⟩⟩; refine ⟨_,rfl,?_⟩)|(go_at_call 71; (with_reducible refine (spec_l1In.calls a0_1 1 2 true _ A4.out).mono ?_); rintro e w' ⟨rfl,⟨nd,rfl⟩⟩)|(go_at_call 71; (with_reducible refine (spec_l1In.calls a0_2 1 32000 true _ A6.out).mono ?_); rintro e w' ⟨rfl,⟨nd,rfl⟩⟩)|(go_at_call 71; (with_reducible refine (spec_l1In.calls a0_3 1 3 true _ A8.out).mono ?_); rintro e w' ⟨rfl,⟨nd,rfl⟩⟩)|(go_at_call 71; (with_reducible refine (spec_l1In.calls a0_4 1 9 t853 _ A10.out).mono ?_); rintro e w' ⟨rfl,⟨nd,rfl⟩⟩))
     go_ret
     exact ⟨by (rfl),by repeat (with_reducible first|exact HB.out|apply pw_below_drewN)⟩
    ·replace c9:=Bool.eq_false_iff.mpr c9
     subst c9
     have H1 : (some false) = some r:=by rw [if_neg (show ¬ (false = true) by decide)] at H; exact H
     clear H
     have H:=H1
     clear H1
     obtain rfl:=Option.some.inj H
     go_enter Tryz.func83,Tryz.ntmps83
     go_wp2_with (first|((with_reducible refine gate_dst (N:=1) rfl ?_); refine box_event ?hg (N:=1) ?hd (cs:=#[.string a0_0,.int .i64 a0_1,.int .i64 a0_2,.int .i64 a0_3,.int .i64 a0_4]) (t:=50) ?hr ?_; (case hd => rfl); (case hg => rfl); (case hr => (go_simp; done)); intro gb848 hg w13 hbox hb; have n0_:=Aside0.mk (below_step (by repeat (((with_reducible (exact HB.out))))) hb); have n1_:=Aside0.mk (hbox); have n2_:=Aside0.mk ((by rw [hg]; exact (below_size (by repeat (((with_reducible (exact HB.out)))))) : w.heap.size ≤ gb848)); have n3_:=Aside0.mk ((by rw [hg]; exact (below_size (by repeat (((with_reducible (exact HB.out)))))) : w.heap.size ≤ gb848)); clear HB; have HB:=n0_; have BK848:=n1_; have GW848:=n2_; have GE848:=n3_; clear n0_ n1_ n2_ n3_; clear hb hbox hg; have hcz14_0 : w13.cell? ⟨gb848,0,none⟩ = some (.string a0_0):=(blk_cell BK848.out 0).trans rfl; have hcz14_1 : w13.cell? ⟨gb848,1,none⟩ = some (.int .i64 a0_1):=(blk_cell BK848.out 1).trans rfl; have hcz14_2 : w13.cell? ⟨gb848,2,none⟩ = some (.int .i64 a0_2):=(blk_cell BK848.out 2).trans rfl; have hcz14_3 : w13.cell? ⟨gb848,3,none⟩ = some (.int .i64 a0_3):=(blk_cell BK848.out 3).trans rfl; have hcz14_4 : w13.cell? ⟨gb848,4,none⟩ = some (.int .i64 a0_4):=(blk_cell BK848.out 4).trans rfl; have hfz14_0:=blk_frozen BK848.out 0; have hfz14_1:=blk_frozen BK848.out 1; have hfz14_2:=blk_frozen BK848.out 2; have hfz14_3:=blk_frozen BK848.out 3; have hfz14_4:=blk_frozen BK848.out 4)|((with_reducible refine gate_callee (f:=103) rfl ?_); refine goesL_ (some 5) rfl rfl Tryz.func103 (by kernel_rfl) rfl #[.string a0_0] rfl (by (try simp only [List.map_toArray,List.map_cons,List.map_nil]); (rfl)) ?_; (with_reducible refine (spec_l2Id.calls k a0_0 true _ A2.out).mono ?_); rintro e w' ⟨rfl,⟨nd,rfl⟩⟩; refine ⟨_,rfl,?_⟩)|(go_at_call 71; (with_reducible refine (spec_l1In.calls a0_1 1 2 true _ A4.out).mono ?_); rintro e w' ⟨rfl,⟨nd,rfl⟩⟩)|(go_at_call 71; (with_reducible refine (spec_l1In.calls a0_2 1 32000 true _ A6.out).mono ?_); rintro e w' ⟨rfl,⟨nd,rfl⟩⟩)|(go_at_call 71; (with_reducible refine (spec_l1In.calls a0_3 1 3 false _ A8.out).mono ?_); rintro e w' ⟨rfl,⟨nd,rfl⟩⟩))
     go_ret
     exact ⟨by (rfl),by repeat (with_reducible first|exact HB.out|apply pw_below_drewN)⟩
   ·replace c7:=Bool.eq_false_iff.mpr c7
    subst c7
    have H1 : (some false) = some r:=by rw [if_neg (show ¬ (false = true) by decide)] at H; exact H
    clear H
    have H:=H1
    clear H1
    obtain rfl:=Option.some.inj H
    go_enter Tryz.func83,Tryz.ntmps83
    go_wp2_with (first|((with_reducible refine gate_dst (N:=1) rfl ?_); refine box_event ?hg (N:=1) ?hd (cs:=#[.string a0_0,.int .i64 a0_1,.int .i64 a0_2,.int .i64 a0_3,.int .i64 a0_4]) (t:=50) ?hr ?_; (case hd => rfl); (case hg => rfl); (case hr => (go_simp; done)); intro gb848 hg w15 hbox hb; have n0_:=Aside0.mk (below_step (by repeat (((with_reducible (exact HB.out))))) hb); have n1_:=Aside0.mk (hbox); have n2_:=Aside0.mk ((by rw [hg]; exact (below_size (by repeat (((with_reducible (exact HB.out)))))) : w.heap.size ≤ gb848)); have n3_:=Aside0.mk ((by rw [hg]; exact (below_size (by repeat (((with_reducible (exact HB.out)))))) : w.heap.size ≤ gb848)); clear HB; have HB:=n0_; have BK848:=n1_; have GW848:=n2_; have GE848:=n3_; clear n0_ n1_ n2_ n3_; clear hb hbox hg; have hcz16_0 : w15.cell? ⟨gb848,0,none⟩ = some (.string a0_0):=(blk_cell BK848.out 0).trans rfl; have hcz16_1 : w15.cell? ⟨gb848,1,none⟩ = some (.int .i64 a0_1):=(blk_cell BK848.out 1).trans rfl; have hcz16_2 : w15.cell? ⟨gb848,2,none⟩ = some (.int .i64 a0_2):=(blk_cell BK848.out 2).trans rfl; have hcz16_3 : w15.cell? ⟨gb848,3,none⟩ = some (.int .i64 a0_3):=(blk_cell BK848.out 3).trans rfl; have hcz16_4 : w15.cell? ⟨gb848,4,none⟩ = some (.int .i64 a0_4):=(blk_cell BK848.out 4).trans rfl; have hfz16_0:=blk_frozen BK848.out 0; have hfz16_1:=blk_frozen BK848.out 1; have hfz16_2:=blk_frozen BK848.out 2; have hfz16_3:=blk_frozen BK848.out 3; have hfz16_4:=blk_frozen BK848.out 4)|((with_reducible refine gate_callee (f:=103) rfl ?_); refine goesL_ (some 5) rfl rfl Tryz.func103 (by kernel_rfl) rfl #[.string a0_0] rfl (by (try simp only [List.map_toArray,List.map_cons,List.map_nil]); (rfl)) ?_; (with_reducible refine (spec_l2Id.calls k a0_0 true _ A2.out).mono ?_); rintro e w' ⟨rfl,⟨nd,rfl⟩⟩; refine ⟨_,rfl,?_⟩)|(go_at_call 71; (with_reducible refine (spec_l1In.calls a0_1 1 2 true _ A4.out).mono ?_); rintro e w' ⟨rfl,⟨nd,rfl⟩⟩)|(go_at_call 71; (with_reducible refine (spec_l1In.calls a0_2 1 32000 false _ A6.out).mono ?_); rintro e w' ⟨rfl,⟨nd,rfl⟩⟩))
    go_ret
    exact ⟨by (rfl),by repeat (with_reducible first|exact HB.out|apply pw_below_drewN)⟩
  ·replace c5:=Bool.eq_false_iff.mpr c5
   subst c5
   have H1 : (some false) = some r:=by rw [if_neg (show ¬ (false = true) by decide)] at H; exact H
   clear H
   have H:=H1
   clear H1
   obtain rfl:=Option.some.inj H
   go_enter Tryz.func83,Tryz.ntmps83
   go_wp2_with (first|((with_reducible refine gate_dst (N:=1) rfl ?_); refine box_event ?hg (N:=1) ?hd (cs:=#[.string a0_0,.int .i64 a0_1,.int .i64 a0_2,.int .i64 a0_3,.int .i64 a0_4]) (t:=50) ?hr ?_; (case hd => rfl); (case hg => rfl); (case hr => (go_simp; done)); intro gb848 hg w17 hbox hb; have n0_:=Aside0.mk (below_step (by repeat (((with_reducible (exact HB.out))))) hb); have n1_:=Aside0.mk (hbox); have n2_:=Aside0.mk ((by rw [hg]; exact (below_size (by repeat (((with_reducible (exact HB.out)))))) : w.heap.size ≤ gb848)); have n3_:=Aside0.mk ((by rw [hg]; exact (below_size (by repeat (((with_reducible (exact HB.out)))))) : w.heap.size ≤ gb848)); clear HB; have HB:=n0_; have BK848:=n1_; have GW848:=n2_; have GE848:=n3_; clear n0_ n1_ n2_ n3_; clear hb hbox hg; have hcz18_0 : w17.cell? ⟨gb848,0,none⟩ = some (.string a0_0):=(blk_cell BK848.out 0).trans rfl; have hcz18_1 : w17.cell? ⟨gb848,1,none⟩ = some (.int .i64 a0_1):=(blk_cell BK848.out 1).trans rfl; have hcz18_2 : w17.cell? ⟨gb848,2,none⟩ = some (.int .i64 a0_2):=(blk_cell BK848.out 2).trans rfl; have hcz18_3 : w17.cell? ⟨gb848,3,none⟩ = some (.int .i64 a0_3):=(blk_cell BK848.out 3).trans rfl; have hcz18_4 : w17.cell? ⟨gb848,4,none⟩ = some (.int .i64 a0_4):=(blk_cell BK848.out 4).trans rfl; have hfz18_0:=blk_frozen BK848.out 0; have hfz18_1:=blk_frozen BK848.out 1; have hfz18_2:=blk_frozen BK848.out 2; have hfz18_3:=blk_frozen BK848.out 3; have hfz18_4:=blk_frozen BK848.out 4)|((with_reducible refine gate_callee (f:=103) rfl ?_); refine goesL_ (some 5) rfl rfl Tryz.func103 (by kernel_rfl) rfl #[.string a0_0] rfl (by (try simp only [List.map_toArray,List.map_cons,List.map_nil]); (rfl)) ?_; (with_reducible refine (spec_l2Id.calls k a0_0 true _ A2.out).mono ?_); rintro e w' ⟨rfl,⟨nd,rfl⟩⟩; refine ⟨_,rfl,?_⟩)|(go_at_call 71; (with_reducible refine (spec_l1In.calls a0_1 1 2 false _ A4.out).mono ?_); rintro e w' ⟨rfl,⟨nd,rfl⟩⟩))
   go_ret
   exact ⟨by (rfl),by repeat (with_reducible first|exact HB.out|apply pw_below_drewN)⟩
 ·replace c3:=Bool.eq_false_iff.mpr c3
  subst c3
  have H1 : (some false) = some r:=by rw [if_neg (show ¬ (false = true) by decide)] at H; exact H
  clear H
  have H:=H1
  clear H1
  obtain rfl:=Option.some.inj H
  go_enter Tryz.func83,Tryz.ntmps83
  go_wp2_with (first|((with_reducible refine gate_dst (N:=1) rfl ?_); refine box_event ?hg (N:=1) ?hd (cs:=#[.string a0_0,.int .i64 a0_1,.int .i64 a0_2,.int .i64 a0_3,.int .i64 a0_4]) (t:=50) ?hr ?_; (case hd => rfl); (case hg => rfl); (case hr => (go_simp; done)); intro gb848 hg w19 hbox hb; have n0_:=Aside0.mk (below_step (by repeat (((with_reducible (exact HB.out))))) hb); have n1_:=Aside0.mk (hbox); have n2_:=Aside0.mk ((by rw [hg]; exact (below_size (by repeat (((with_reducible (exact HB.out)))))) : w.heap.size ≤ gb848)); have n3_:=Aside0.mk ((by rw [hg]; exact (below_size (by repeat (((with_reducible (exact HB.out)))))) : w.heap.size ≤ gb848)); clear HB; have HB:=n0_; have BK848:=n1_; have GW848:=n2_; have GE848:=n3_; clear n0_ n1_ n2_ n3_; clear hb hbox hg; have hcz20_0 : w19.cell? ⟨gb848,0,none⟩ = some (.string a0_0):=(blk_cell BK848.out 0).trans rfl; have hcz20_1 : w19.cell? ⟨gb848,1,none⟩ = some (.int .i64 a0_1):=(blk_cell BK848.out 1).trans rfl; have hcz20_2 : w19.cell? ⟨gb848,2,none⟩ = some (.int .i64 a0_2):=(blk_cell BK848.out 2).trans rfl; have hcz20_3 : w19.cell? ⟨gb848,3,none⟩ = some (.int .i64 a0_3):=(blk_cell BK848.out 3).trans rfl; have hcz20_4 : w19.cell? ⟨gb848,4,none⟩ = some (.int .i64 a0_4):=(blk_cell BK848.out 4).trans rfl; have hfz20_0:=blk_frozen BK848.out 0; have hfz20_1:=blk_frozen BK848.out 1; have hfz20_2:=blk_frozen BK848.out 2; have hfz20_3:=blk_frozen BK848.out 3; have hfz20_4:=blk_frozen BK848.out 4)|((with_reducible refine gate_callee (f:=103) rfl ?_); refine goesL_ (some 5) rfl rfl Tryz.func103 (by kernel_rfl) rfl #[.string a0_0] rfl (by (try simp only [List.map_toArray,List.map_cons,List.map_nil]); (rfl)) ?_; (with_reducible refine (spec_l2Id.calls k a0_0 false _ A2.out).mono ?_); rintro e w' ⟨rfl,⟨nd,rfl⟩⟩; refine ⟨_,rfl,?_⟩))
  go_ret
  exact ⟨by (rfl),by repeat (with_reducible first|exact HB.out|apply pw_below_drewN)⟩

end Go.Proofs.YtfindomajbjacaaGreatDoor.X
