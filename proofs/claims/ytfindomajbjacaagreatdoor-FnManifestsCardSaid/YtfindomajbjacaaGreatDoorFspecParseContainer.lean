-- Written by a program of ours (wip/bin/xprint.py,over the kit's print.py) out of the translation. Not trusted: Lean checks it.
import Derived.Test.YtfindomajbjacaaGreatDoorX0
import Derived.Test.YtfindomajbjacaaGreatDoorFspecl4Parse
namespace Go.Proofs.YtfindomajbjacaaGreatDoor.X
open Go.RowKit Go.Proofs.YtfindomajbjacaaGreatDoorW.PrintWords Go.Proofs.YtfindomajbjacaaGreatDoorW.PrintLast Go.Proofs.YtfindomajbjacaaGreatDoorW.PrintMore
attribute [local go_sem] max2_int min2_int max_two min_two max_three min_three max_four min_four   -- for this text's walks alone
set_option linter.unusedVariables false
set_option linter.unusedSimpArgs false

/-! ### spec_ParseContainer: function 30 -/
def spec_ParseContainer.f (k : Nat) (a0 : ByteArray) : Option (ByteArray × Int × Int × Int × Int × Bool):=(spec_l4Parse.f k a0).bind fun bt938 => (some (bt938.1,bt938.2.1,bt938.2.2.1,bt938.2.2.2.1,bt938.2.2.2.2.1,bt938.2.2.2.2.2))
theorem spec_ParseContainer.mono : ∀ a0 k,LeO (spec_ParseContainer.f k a0) (spec_ParseContainer.f (k + 1) a0):=by
 intro a0 k
 unfold spec_ParseContainer.f
 repeat' first
   | (with_reducible exact spec_l4Parse.mono _ _)
   | (with_reducible exact LeO.refl _)
   | (with_reducible exact LeO.none _)
   | (with_reducible refine LeO.ite ?_ ?_)
   | (with_reducible refine LeO.bind ?_ (fun _ => ?_))
   | exact spec_l4Parse.mono _ _
   | exact LeO.none _
   | refine LeO.ite ?_ ?_
   | refine LeO.bind ?_ (fun _ => ?_)
set_option maxHeartbeats 8000000 in
set_option maxRecDepth 100000 in
theorem spec_ParseContainer.calls (k : Nat) (a0 : ByteArray) (r1 : ByteArray) (r2 : Int) (r3 : Int) (r4 : Int) (r5 : Int) (r6 : Bool) (w : World) (h : spec_ParseContainer.f k a0 = some (r1,r2,r3,r4,r5,r6)) :
  Calls Tryz.prog 30 #[.string a0] w fun e w' => e = .returned (.tuple #[.agg #[.string r1,.int .i64 r2,.int .i64 r3,.int .i64 r4,.int .i64 r5],.bool r6]) ∧ Below w.heap.size w w':=by
 have hu50:=Tryz.underlying50
 have HB:=Aside0.mk (Below.refl w.heap.size w)
 have H : ((spec_l4Parse.f k a0).bind fun bt938 => (some (bt938.1,bt938.2.1,bt938.2.2.1,bt938.2.2.2.1,bt938.2.2.2.2.1,bt938.2.2.2.2.2))) = some (r1,r2,r3,r4,r5,r6):=h
 clear h
 replace H:=Option.bind_eq_some_iff.mp H
 obtain ⟨⟨t938,t939,t940,t941,t942,t943⟩,A20,H⟩:=H
 replace H : (some (t938,t939,t940,t941,t942,t943)) = some (r1,r2,r3,r4,r5,r6):=H
 have A2:=Aside0.mk A20
 clear A20
 simp only [Option.some.injEq,Prod.mk.injEq] at H
 obtain ⟨rfl,rfl,rfl,rfl,rfl,rfl⟩:=H
 go_enter Tryz.func30,Tryz.ntmps30
 go_wp2_with (first|((with_reducible refine gate_dst (N:=2) rfl ?_); refine box_event ?hg (N:=2) ?hd (cs:=#[.string (⟨#[]⟩ : ByteArray),.int .i64 0,.int .i64 0,.int .i64 0,.int .i64 0]) (t:=50) ?hr ?_; (case hd => rfl); (case hg => rfl); (case hr => first|(go_simp; done)|(go_simp; rfl)); intro gb937 hg w3 hbox hb; have n0_:=Aside0.mk (below_step (by repeat (first|(with_reducible first|exact HB.out|apply below_alloc|apply pw_below_drewN|apply below_drew1)|exact HB.out)) hb); have n1_:=Aside0.mk (hbox); have n2_:=Aside0.mk ((by rw [hg]; exact (below_size (by repeat (first|(with_reducible first|exact HB.out|apply below_alloc|apply pw_below_drewN|apply below_drew1)|exact HB.out))) : w.heap.size ≤ gb937)); have n3_:=Aside0.mk ((by rw [hg]; exact (below_size (by repeat (first|(with_reducible first|exact HB.out|apply below_alloc|apply pw_below_drewN|apply below_drew1)|exact HB.out))) : w.heap.size ≤ gb937)); clear HB; have HB:=n0_; have BK937:=n1_; have GW937:=n2_; have GE937:=n3_; clear n0_ n1_ n2_ n3_; clear hb hbox hg)|((with_reducible refine gate_callee (f:=67) rfl ?_); refine goesL_ (some 5) rfl rfl Tryz.func67 (by kernel_rfl) rfl #[.string a0] rfl (by (try simp only [List.map_toArray,List.map_cons,List.map_nil]); first|done|rfl|(simp only [List.length_drop,List.length_take]; rfl)) ?_; (with_reducible refine (spec_l4Parse.calls k a0 t938 t939 t940 t941 t942 t943 _ A2.out).mono ?_); rintro e w4 ⟨rfl,hb⟩; refine ⟨_,rfl,?_⟩; have n0_:=Aside0.mk (blk_below (g:=gb937) (o:=.cells #[.string (⟨#[]⟩ : ByteArray),.int .i64 0,.int .i64 0,.int .i64 0,.int .i64 0] 50 (0,0)) (by (with_reducible repeat (first|refine blk_drewN ?_ _|refine blk_drew ?_|refine blk_alloc ?_ _)); exact BK937.out) hb); have n1_:=Aside0.mk (below_step (by repeat (first|(with_reducible first|exact HB.out|apply below_alloc|apply pw_below_drewN|apply below_drew1|refine below_set ?_ GE937.out)|exact HB.out)) hb); clear BK937; clear HB; have BK937:=n0_; have HB:=n1_; clear n0_ n1_; (try clear hb); (try clear hb2); (try clear hk); (try clear hi); have hcz5_0 : w4.cell? ⟨gb937,0,none⟩ = some (.string (⟨#[]⟩ : ByteArray)):=(blk_cell BK937.out 0).trans rfl; have hcz5_1 : w4.cell? ⟨gb937,1,none⟩ = some (.int .i64 0):=(blk_cell BK937.out 1).trans rfl; have hcz5_2 : w4.cell? ⟨gb937,2,none⟩ = some (.int .i64 0):=(blk_cell BK937.out 2).trans rfl; have hcz5_3 : w4.cell? ⟨gb937,3,none⟩ = some (.int .i64 0):=(blk_cell BK937.out 3).trans rfl; have hcz5_4 : w4.cell? ⟨gb937,4,none⟩ = some (.int .i64 0):=(blk_cell BK937.out 4).trans rfl; have hfz5_0:=blk_frozen BK937.out 0; have hfz5_1:=blk_frozen BK937.out 1; have hfz5_2:=blk_frozen BK937.out 2; have hfz5_3:=blk_frozen BK937.out 3; have hfz5_4:=blk_frozen BK937.out 4))
 refine bodyPost_ret (results_ct rfl _ _ gb937 50 #[.string t938,.int .i64 t939,.int .i64 t940,.int .i64 t941,.int .i64 t942] (0,0) _ rfl (by (with_reducible repeat (first|refine blk_drewN ?_ _|refine blk_drew ?_|refine blk_alloc ?_ _)); refine blk_put (cs:=#[.string t938,.int .i64 t939,.int .i64 t940,.int .i64 t941,.int .i64 0]) ?_ 4 _ rfl; (with_reducible repeat (first|refine blk_drewN ?_ _|refine blk_drew ?_|refine blk_alloc ?_ _)); refine blk_put (cs:=#[.string t938,.int .i64 t939,.int .i64 t940,.int .i64 0,.int .i64 0]) ?_ 3 _ rfl; (with_reducible repeat (first|refine blk_drewN ?_ _|refine blk_drew ?_|refine blk_alloc ?_ _)); refine blk_put (cs:=#[.string t938,.int .i64 t939,.int .i64 0,.int .i64 0,.int .i64 0]) ?_ 2 _ rfl; (with_reducible repeat (first|refine blk_drewN ?_ _|refine blk_drew ?_|refine blk_alloc ?_ _)); refine blk_put (cs:=#[.string t938,.int .i64 0,.int .i64 0,.int .i64 0,.int .i64 0]) ?_ 1 _ rfl; (with_reducible repeat (first|refine blk_drewN ?_ _|refine blk_drew ?_|refine blk_alloc ?_ _)); refine blk_put (cs:=#[.string (⟨#[]⟩ : ByteArray),.int .i64 0,.int .i64 0,.int .i64 0,.int .i64 0]) ?_ 0 _ rfl; (with_reducible repeat (first|refine blk_drewN ?_ _|refine blk_drew ?_|refine blk_alloc ?_ _)); exact BK937.out) Tryz.underlying50 rfl (by kernel_rfl)) rfl ?_
 exact ⟨by first|rfl|(simp [errW_none,errW_some] <;> rfl)|(simp [*,errW_none,errW_some] <;> rfl),by repeat (first|(with_reducible first|exact HB.out|apply below_alloc|apply pw_below_drewN|apply below_drew1|refine below_set ?_ GE937.out)|exact HB.out)⟩

end Go.Proofs.YtfindomajbjacaaGreatDoor.X
