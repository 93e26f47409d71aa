-- Written by a program of ours (wip/bin/xprint.py,over the kit's print.py) out of the translation. Not trusted: Lean checks it.
import Derived.Test.YtfindomajbjacaaGreatDoorX0
import Derived.Test.YtfindomajbjacaaGreatDoorLaid
import Derived.Test.YtfindomajbjacaaGreatDoorFbCText
import Derived.Test.YtfindomajbjacaaGreatDoorFbGoodA
namespace Go.Proofs.YtfindomajbjacaaGreatDoor.X
open Go.RowKit Go.Proofs.YtfindomajbjacaaGreatDoorW.PrintWords Go.Proofs.YtfindomajbjacaaGreatDoorW.PrintLast Go.Proofs.YtfindomajbjacaaGreatDoorW.PrintMore
attribute [local go_sem] max2_int min2_int max_two min_two max_three min_three max_four min_four   -- for this text's walks alone
set_option linter.unusedVariables false
set_option linter.unusedSimpArgs false

/-! ### impl_ContainerText: function 29 -/
def impl_ContainerText.f (k : Nat) (a0_0 : ByteArray) (a0_1 : Int) (a0_2 : Int) (a0_3 : Int) (a0_4 : Int) : Option (ByteArray × Bool):=(impl_IsValidContainer.f k a0_0 a0_1 a0_2 a0_3 a0_4).bind fun t909 => (if t909 = true then ((impl_containerText.f a0_0 a0_1 a0_2 a0_3 a0_4).bind fun t910 => (some (t910,true))) else (some ((⟨#[]⟩ : ByteArray),false)))
theorem impl_ContainerText.mono : ∀ a0 a1 a2 a3 a4 k,LeO (impl_ContainerText.f k a0 a1 a2 a3 a4) (impl_ContainerText.f (k + 1) a0 a1 a2 a3 a4):=by
 intro a0 a1 a2 a3 a4 k
 unfold impl_ContainerText.f
 repeat' first
   | (with_reducible exact impl_IsValidContainer.mono _ _ _ _ _ _)
   | (with_reducible exact LeO.refl _)
   | (with_reducible exact LeO.none _)
   | (with_reducible refine LeO.ite ?_ ?_)
   | (with_reducible refine LeO.bind ?_ (fun _ => ?_))
   | exact impl_IsValidContainer.mono _ _ _ _ _ _
   | exact LeO.none _
   | refine LeO.ite ?_ ?_
   | refine LeO.bind ?_ (fun _ => ?_)
set_option maxHeartbeats 8000000 in
set_option maxRecDepth 100000 in
theorem impl_ContainerText.calls (k : Nat) (a0_0 : ByteArray) (a0_1 : Int) (a0_2 : Int) (a0_3 : Int) (a0_4 : Int) (r1 : ByteArray) (r2 : Bool) (w : World) (hL : Laid w) (h : impl_ContainerText.f k a0_0 a0_1 a0_2 a0_3 a0_4 = some (r1,r2)) :
  Calls Tryz.prog 29 #[.agg #[.string a0_0,.int .i64 a0_1,.int .i64 a0_2,.int .i64 a0_3,.int .i64 a0_4]] w fun e w' => e = .returned (.tuple #[.string r1,.bool r2]) ∧ Below w.heap.size w w':=by
 have HL:=Aside0.mk hL
 clear hL
 have hu50:=Tryz.underlying50
 have HB:=Aside0.mk (Below.refl w.heap.size w)
 have H : ((impl_IsValidContainer.f k a0_0 a0_1 a0_2 a0_3 a0_4).bind fun t909 => (if t909 = true then ((impl_containerText.f a0_0 a0_1 a0_2 a0_3 a0_4).bind fun t910 => (some (t910,true))) else (some ((⟨#[]⟩ : ByteArray),false)))) = some (r1,r2):=h
 clear h
 replace H:=Option.bind_eq_some_iff.mp H
 obtain ⟨t909,A20,H⟩:=H
 replace H : (if t909 = true then ((impl_containerText.f a0_0 a0_1 a0_2 a0_3 a0_4).bind fun t910 => (some (t910,true))) else (some ((⟨#[]⟩ : ByteArray),false))) = some (r1,r2):=H
 have A2:=Aside0.mk A20
 clear A20
 by_cases c3 : t909 = true
 ·subst c3
  have H1 : ((impl_containerText.f a0_0 a0_1 a0_2 a0_3 a0_4).bind fun t910 => (some (t910,true))) = some (r1,r2):=by rw [if_pos rfl] at H; exact H
  clear H
  have H:=H1
  clear H1
  replace H:=Option.bind_eq_some_iff.mp H
  obtain ⟨t910,A40,H⟩:=H
  replace H : (some (t910,true)) = some (r1,r2):=H
  have A4:=Aside0.mk A40
  clear A40
  simp only [Option.some.injEq,Prod.mk.injEq] at H
  obtain ⟨rfl,rfl⟩:=H
  go_enter Tryz.func29,Tryz.ntmps29
  go_wp2_with (first|((with_reducible refine gate_dst (N:=1) rfl ?_); refine box_event ?hg (N:=1) ?hd (cs:=#[.string a0_0,.int .i64 a0_1,.int .i64 a0_2,.int .i64 a0_3,.int .i64 a0_4]) (t:=50) ?hr ?_; (case hd => rfl); (case hg => rfl); (case hr => (go_simp; done)); intro gb908 hg w5 hbox hb; have n0_:=Aside0.mk (below_step (by repeat (((with_reducible (exact HB.out))))) hb); have n1_:=Aside0.mk (hbox); have n2_:=Aside0.mk ((by rw [hg]; exact (below_size (by repeat (((with_reducible (exact HB.out)))))) : w.heap.size ≤ gb908)); have n3_:=Aside0.mk ((by rw [hg]; exact (below_size (by repeat (((with_reducible (exact HB.out)))))) : w.heap.size ≤ gb908)); clear HB; have HB:=n0_; have BK908:=n1_; have GW908:=n2_; have GE908:=n3_; clear n0_ n1_ n2_ n3_; clear hb hbox hg; have hcz6_0 : w5.cell? ⟨gb908,0,none⟩ = some (.string a0_0):=(blk_cell BK908.out 0).trans rfl; have hcz6_1 : w5.cell? ⟨gb908,1,none⟩ = some (.int .i64 a0_1):=(blk_cell BK908.out 1).trans rfl; have hcz6_2 : w5.cell? ⟨gb908,2,none⟩ = some (.int .i64 a0_2):=(blk_cell BK908.out 2).trans rfl; have hcz6_3 : w5.cell? ⟨gb908,3,none⟩ = some (.int .i64 a0_3):=(blk_cell BK908.out 3).trans rfl; have hcz6_4 : w5.cell? ⟨gb908,4,none⟩ = some (.int .i64 a0_4):=(blk_cell BK908.out 4).trans rfl; have hfz6_0:=blk_frozen BK908.out 0; have hfz6_1:=blk_frozen BK908.out 1; have hfz6_2:=blk_frozen BK908.out 2; have hfz6_3:=blk_frozen BK908.out 3; have hfz6_4:=blk_frozen BK908.out 4)|((with_reducible refine gate_callee (f:=65) rfl ?_); refine goesL_ (some 5) rfl rfl Tryz.func65 (by kernel_rfl) rfl #[.agg #[.string a0_0,.int .i64 a0_1,.int .i64 a0_2,.int .i64 a0_3,.int .i64 a0_4]] rfl (by (try simp only [List.map_toArray,List.map_cons,List.map_nil]); (rfl)) ?_; (with_reducible refine (impl_IsValidContainer.calls k a0_0 a0_1 a0_2 a0_3 a0_4 true _ A2.out).mono ?_); rintro e w7 ⟨rfl,hb⟩; refine ⟨_,rfl,?_⟩; have n0_:=Aside0.mk (blk_below (g:=gb908) (o:=.cells #[.string a0_0,.int .i64 a0_1,.int .i64 a0_2,.int .i64 a0_3,.int .i64 a0_4] 50 (0,0)) (by exact BK908.out) hb); have n1_:=Aside0.mk (below_step (by repeat (((with_reducible (exact HB.out))))) hb); clear BK908; clear HB; have BK908:=n0_; have HB:=n1_; clear n0_ n1_; (try clear hb); (try clear hb2); (try clear hk); (try clear hi); have hcz8_0 : w7.cell? ⟨gb908,0,none⟩ = some (.string a0_0):=(blk_cell BK908.out 0).trans rfl; have hcz8_1 : w7.cell? ⟨gb908,1,none⟩ = some (.int .i64 a0_1):=(blk_cell BK908.out 1).trans rfl; have hcz8_2 : w7.cell? ⟨gb908,2,none⟩ = some (.int .i64 a0_2):=(blk_cell BK908.out 2).trans rfl; have hcz8_3 : w7.cell? ⟨gb908,3,none⟩ = some (.int .i64 a0_3):=(blk_cell BK908.out 3).trans rfl; have hcz8_4 : w7.cell? ⟨gb908,4,none⟩ = some (.int .i64 a0_4):=(blk_cell BK908.out 4).trans rfl; have hfz8_0:=blk_frozen BK908.out 0; have hfz8_1:=blk_frozen BK908.out 1; have hfz8_2:=blk_frozen BK908.out 2; have hfz8_3:=blk_frozen BK908.out 3; have hfz8_4:=blk_frozen BK908.out 4)|((with_reducible refine gate_callee (f:=66) rfl ?_); refine goesL_ (some 8) rfl rfl Tryz.func66 (by kernel_rfl) rfl #[.agg #[.string a0_0,.int .i64 a0_1,.int .i64 a0_2,.int .i64 a0_3,.int .i64 a0_4]] rfl (by (try simp only [List.map_toArray,List.map_cons,List.map_nil]); (rfl)) ?_; (with_reducible refine (impl_containerText.calls a0_0 a0_1 a0_2 a0_3 a0_4 t910 _ ?sideL A4.out).mono ?_); (case sideL => (with_reducible exact Laid.below HL.out HB.out)); rintro e w9 ⟨rfl,hb⟩; refine ⟨_,rfl,?_⟩; have n0_:=Aside0.mk (blk_below (g:=gb908) (o:=.cells #[.string a0_0,.int .i64 a0_1,.int .i64 a0_2,.int .i64 a0_3,.int .i64 a0_4] 50 (0,0)) (by exact BK908.out) hb); have n1_:=Aside0.mk (below_step (by repeat (((with_reducible (exact HB.out))))) hb); clear BK908; clear HB; have BK908:=n0_; have HB:=n1_; clear n0_ n1_; (try clear hb); (try clear hb2); (try clear hk); (try clear hi)))
  go_ret2
  exact ⟨by (rfl),by repeat (((with_reducible (exact HB.out))))⟩
 ·replace c3:=Bool.eq_false_iff.mpr c3
  subst c3
  have H1 : (some ((⟨#[]⟩ : ByteArray),false)) = some (r1,r2):=by rw [if_neg (show ¬ (false = true) by decide)] at H; exact H
  clear H
  have H:=H1
  clear H1
  simp only [Option.some.injEq,Prod.mk.injEq] at H
  obtain ⟨rfl,rfl⟩:=H
  go_enter Tryz.func29,Tryz.ntmps29
  go_wp2_with (first|((with_reducible refine gate_dst (N:=1) rfl ?_); refine box_event ?hg (N:=1) ?hd (cs:=#[.string a0_0,.int .i64 a0_1,.int .i64 a0_2,.int .i64 a0_3,.int .i64 a0_4]) (t:=50) ?hr ?_; (case hd => rfl); (case hg => rfl); (case hr => (go_simp; done)); intro gb908 hg w10 hbox hb; have n0_:=Aside0.mk (below_step (by repeat (((with_reducible (exact HB.out))))) hb); have n1_:=Aside0.mk (hbox); have n2_:=Aside0.mk ((by rw [hg]; exact (below_size (by repeat (((with_reducible (exact HB.out)))))) : w.heap.size ≤ gb908)); have n3_:=Aside0.mk ((by rw [hg]; exact (below_size (by repeat (((with_reducible (exact HB.out)))))) : w.heap.size ≤ gb908)); clear HB; have HB:=n0_; have BK908:=n1_; have GW908:=n2_; have GE908:=n3_; clear n0_ n1_ n2_ n3_; clear hb hbox hg; have hcz11_0 : w10.cell? ⟨gb908,0,none⟩ = some (.string a0_0):=(blk_cell BK908.out 0).trans rfl; have hcz11_1 : w10.cell? ⟨gb908,1,none⟩ = some (.int .i64 a0_1):=(blk_cell BK908.out 1).trans rfl; have hcz11_2 : w10.cell? ⟨gb908,2,none⟩ = some (.int .i64 a0_2):=(blk_cell BK908.out 2).trans rfl; have hcz11_3 : w10.cell? ⟨gb908,3,none⟩ = some (.int .i64 a0_3):=(blk_cell BK908.out 3).trans rfl; have hcz11_4 : w10.cell? ⟨gb908,4,none⟩ = some (.int .i64 a0_4):=(blk_cell BK908.out 4).trans rfl; have hfz11_0:=blk_frozen BK908.out 0; have hfz11_1:=blk_frozen BK908.out 1; have hfz11_2:=blk_frozen BK908.out 2; have hfz11_3:=blk_frozen BK908.out 3; have hfz11_4:=blk_frozen BK908.out 4)|((with_reducible refine gate_callee (f:=65) rfl ?_); refine goesL_ (some 5) rfl rfl Tryz.func65 (by kernel_rfl) rfl #[.agg #[.string a0_0,.int .i64 a0_1,.int .i64 a0_2,.int .i64 a0_3,.int .i64 a0_4]] rfl (by (try simp only [List.map_toArray,List.map_cons,List.map_nil]); (rfl)) ?_; (with_reducible refine (impl_IsValidContainer.calls k a0_0 a0_1 a0_2 a0_3 a0_4 false _ A2.out).mono ?_); rintro e w12 ⟨rfl,hb⟩; refine ⟨_,rfl,?_⟩; have n0_:=Aside0.mk (blk_below (g:=gb908) (o:=.cells #[.string a0_0,.int .i64 a0_1,.int .i64 a0_2,.int .i64 a0_3,.int .i64 a0_4] 50 (0,0)) (by exact BK908.out) hb); have n1_:=Aside0.mk (below_step (by repeat (((with_reducible (exact HB.out))))) hb); clear BK908; clear HB; have BK908:=n0_; have HB:=n1_; clear n0_ n1_; (try clear hb); (try clear hb2); (try clear hk); (try clear hi)))
  go_ret2
  exact ⟨by (rfl),by repeat (((with_reducible (exact HB.out))))⟩

end Go.Proofs.YtfindomajbjacaaGreatDoor.X
