-- Written by a program of ours (wip/bin/xprint.py,over the kit's print.py) out of the translation. Not trusted: Lean checks it.
import Derived.Test.YtlldonokjgoajaaX0
import Derived.Test.YtlldonokjgoajaaFspecDrawPlaceOf
namespace Go.Proofs.Ytlldonokjgoajaa.X
open Go.RowKit Go.Proofs.YtlldonokjgoajaaW.PrintWords Go.Proofs.YtlldonokjgoajaaW.PrintLast Go.Proofs.YtlldonokjgoajaaW.PrintMore
attribute [local go_sem] max2_int min2_int max_two min_two max_three min_three max_four min_four   -- for this text's walks alone
set_option linter.unusedVariables false
set_option linter.unusedSimpArgs false

/-! ### spec_DrawBlockersOf: function 87 -/
def spec_DrawBlockersOf.f (k : Nat) (l0 : List Int) : Option ((List (List Int)) × Int):=(spec_DrawPlaceOf.f k l0).bind fun bt1632 => (some (bt1632.1,bt1632.2))
theorem spec_DrawBlockersOf.mono : ∀ a0 k,LeO (spec_DrawBlockersOf.f k a0) (spec_DrawBlockersOf.f (k + 1) a0):=by
 intro a0 k
 unfold spec_DrawBlockersOf.f
 repeat' first
   | (with_reducible exact spec_DrawPlaceOf.mono _ _)
   | (with_reducible exact LeO.refl _)
   | (with_reducible exact LeO.none _)
   | (with_reducible refine LeO.ite ?_ ?_)
   | (with_reducible refine LeO.bind ?_ (fun _ => ?_))
   | exact spec_DrawPlaceOf.mono _ _
   | exact LeO.none _
   | refine LeO.ite ?_ ?_
   | refine LeO.bind ?_ (fun _ => ?_)
set_option maxHeartbeats 8000000 in
set_option maxRecDepth 100000 in
theorem spec_DrawBlockersOf.calls (k : Nat) (A0 : Option Addr) (c0 : Nat) (l0 : List Int) (r1 : List (List Int)) (r2 : Int) (w : World) (hr0 : Kd.C (Kd.int .u8) w A0 l0.length l0) (hc0 : l0.length ≤ c0) (h : spec_DrawBlockersOf.f k l0 = some (r1,r2)) :
  Calls Try.prog 87 #[.slice A0 l0.length c0] w fun e w' => ∃ v0_ : Value,e = .returned (.tuple #[.agg #[v0_],.int .i64 r2]) ∧ Kd.S (Kd.slice 3 (Kd.int .i64)) 24 w' w.heap.size (fun _ => True) v0_ r1 ∧ Below w.heap.size w w':=by
 have hu42:=Try.underlying42
 have HR0:=Aside0.mk hr0
 have HC0:=Aside0.mk hc0
 clear hr0 hc0
 have HB:=Aside0.mk (Below.refl w.heap.size w)
 have H : ((spec_DrawPlaceOf.f k l0).bind fun bt1632 => (some (bt1632.1,bt1632.2))) = some (r1,r2):=h
 clear h
 replace H:=Option.bind_eq_some_iff.mp H
 obtain ⟨⟨t1632,t1635⟩,A20,H⟩:=H
 replace H : (some (t1632,t1635)) = some (r1,r2):=H
 have A2:=Aside0.mk A20
 clear A20
 simp only [Option.some.injEq,Prod.mk.injEq] at H
 obtain ⟨rfl,rfl⟩:=H
 go_enter Try.func87,Try.ntmps87
 go_wp2_with (first|((with_reducible refine gate_dst (N:=2) rfl ?_); refine box_event ?hg (N:=2) ?hd (cs:=#[.slice none 0 0]) (t:=42) ?hr ?_; (case hd => rfl); (case hg => rfl); (case hr => first|(go_simp; done)|(go_simp; rfl)); intro gb1631 hg w3 hbox hb; have n0_:=Aside0.mk (below_step (by repeat (first|(with_reducible first|exact HB.out|apply below_alloc|apply pw_below_drewN|apply below_drew1)|exact HB.out)) hb); have n1_:=Aside0.mk (hbox); have n2_:=Aside0.mk ((by rw [hg]; exact (below_size (by repeat (first|(with_reducible first|exact HB.out|apply below_alloc|apply pw_below_drewN|apply below_drew1)|exact HB.out))) : w.heap.size ≤ gb1631)); have n3_:=Aside0.mk ((by rw [hg]; exact (below_size (by repeat (first|(with_reducible first|exact HB.out|apply below_alloc|apply pw_below_drewN|apply below_drew1)|exact HB.out))) : w.heap.size ≤ gb1631)); clear HB; have HB:=n0_; have BK1631:=n1_; have GW1631:=n2_; have GE1631:=n3_; clear n0_ n1_ n2_ n3_; clear hb hbox hg)|((with_reducible refine gate_callee (f:=156) rfl ?_); refine goesL_ (some 5) rfl rfl Try.func156 (by kernel_rfl) rfl #[.slice A0 l0.length c0] rfl (by (try simp only [List.map_toArray,List.map_cons,List.map_nil]); first|done|rfl|(simp only [List.length_drop,List.length_take]; rfl)) ?_; (with_reducible refine (spec_DrawPlaceOf.calls k _ _ l0 t1632 t1635 _ ?side1 ?side2 A2.out).mono ?_); (case side1 => repeat (first|exact (Kd.C_below HR0.out HB.out)|(with_reducible refine Kd.C_alloc ?_ _)|(with_reducible refine Kd.C_drewN ?_ _)|(with_reducible refine Kd.C_drew ?_))); (case side2 => exact HC0.out); rintro e w4 ⟨v1633,rfl,ho0,hb⟩; refine ⟨_,rfl,?_⟩; have n0_:=Aside0.mk (Kd.S_lower ho0 (below_size (by repeat (first|(with_reducible first|exact HB.out|apply below_alloc|apply pw_below_drewN|apply below_drew1|refine below_set ?_ GE1631.out)|exact HB.out)))); have n1_:=Aside0.mk (blk_below (g:=gb1631) (o:=.cells #[.slice none 0 0] 42 (0,0)) (by (with_reducible repeat (first|refine blk_drewN ?_ _|refine blk_drew ?_|refine blk_alloc ?_ _)); exact BK1631.out) hb); have n2_:=Aside0.mk (below_step (by repeat (first|(with_reducible first|exact HB.out|apply below_alloc|apply pw_below_drewN|apply below_drew1|refine below_set ?_ GE1631.out)|exact HB.out)) hb); clear BK1631; clear HB; have HO1634:=n0_; have BK1631:=n1_; have HB:=n2_; clear n0_ n1_ n2_; (try clear hb); (try clear hb2); (try clear hk); (try clear hi); (try clear ho0); obtain ⟨Ao5,co5,eo5⟩:=Kd.S_slice HO1634.out; subst eo5; have hcz6_0 : w4.cell? ⟨gb1631,0,none⟩ = some (.slice none 0 0):=(blk_cell BK1631.out 0).trans rfl; have hfz6_0:=blk_frozen BK1631.out 0))
 refine bodyPost_ret (results_ct rfl _ _ gb1631 42 #[.slice Ao5 t1632.length co5] (0,0) _ rfl (by (with_reducible repeat (first|refine blk_drewN ?_ _|refine blk_drew ?_|refine blk_alloc ?_ _)); refine blk_put (cs:=#[.slice none 0 0]) ?_ 0 _ rfl; (with_reducible repeat (first|refine blk_drewN ?_ _|refine blk_drew ?_|refine blk_alloc ?_ _)); exact BK1631.out) Try.underlying42 rfl (by kernel_rfl)) rfl ?_
 exact ⟨_,by first|rfl|(simp [errW_none,errW_some] <;> rfl)|(simp [*,errW_none,errW_some] <;> rfl),by (with_reducible repeat (first|apply Kd.S_alloc|apply Kd.S_drewN|apply Kd.S_drew)); exact Kd.S_mono (Kd.S_far (p:=⟨gb1631,0,none⟩) (Kd.S_types HO1634.out BK1631.out (by decide)) (fun _ hk => hk.2) (.slice Ao5 t1632.length co5)) (fun _ hk => trivial),by repeat (first|(with_reducible first|exact HB.out|apply below_alloc|apply pw_below_drewN|apply below_drew1|refine below_set ?_ GE1631.out)|exact HB.out)⟩

end Go.Proofs.Ytlldonokjgoajaa.X
