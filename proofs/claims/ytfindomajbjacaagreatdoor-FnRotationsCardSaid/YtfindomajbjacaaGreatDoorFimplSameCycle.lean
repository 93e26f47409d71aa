-- Written by a program of ours (wip/bin/xprint.py,over the kit's print.py) out of the translation. Not trusted: Lean checks it.
import Derived.Test.YtfindomajbjacaaGreatDoorX0
import Derived.Test.YtfindomajbjacaaGreatDoorFbList
import Derived.Test.YtfindomajbjacaaGreatDoorFbTurn
import Derived.Test.YtfindomajbjacaaGreatDoorGIsValidRotation
namespace Go.Proofs.YtfindomajbjacaaGreatDoor.X
open Go.RowKit Go.Proofs.YtfindomajbjacaaGreatDoorW.PrintWords Go.Proofs.YtfindomajbjacaaGreatDoorW.PrintLast Go.Proofs.YtfindomajbjacaaGreatDoorW.PrintMore
attribute [local go_sem] max2_int min2_int max_two min_two max_three min_three max_four min_four   -- for this text's walks alone
set_option linter.unusedVariables false
set_option linter.unusedSimpArgs false

/-! ### impl_SameCycle: function 14 -/
mutual
def impl_SameCycle.j0 : Nat → Bool → List Int → List Int → List Int → List Int → Option (Bool × Bool)
 | 0,_,_,_,_,_ => none
 | k + 1,x15,x403000,x403001,x404000,x404001 => if x15 = true then (some (false,false)) else (impl_SameCycle.l0 k (x403000.length : Int) 0 x403000 x403001 x404000 x404001)
def impl_SameCycle.l0 : Nat → Int → Int → List Int → List Int → List Int → List Int → Option (Bool × Bool)
 | 0,_,_,_,_,_,_ => none
 | k + 1,x18,x19,x403000,x403001,x404000,x404001 => if x19 < x18 then ((impl_turned.f x403000 x403001 x19).bind fun bt406 => ((slices_Equal_int_int.f k bt406.1 x404000).bind fun t413 => (if t413 = true then ((slices_Equal_int_int.f k bt406.2 x404001).bind fun t414 => (if t414 = true then (some (true,true)) else (impl_SameCycle.l0 k x18 (wrap64 (x19 + 1)) x403000 x403001 x404000 x404001))) else (impl_SameCycle.l0 k x18 (wrap64 (x19 + 1)) x403000 x403001 x404000 x404001)))) else (some (false,true))
end
def impl_SameCycle.f (k : Nat) (l0_0 : List Int) (l0_1 : List Int) (l1_0 : List Int) (l1_1 : List Int) : Option (Bool × Bool):=(impl_IsValidRotation.f k l0_0 l0_1).bind fun t404 => (if t404 = true then ((impl_IsValidRotation.f k l1_0 l1_1).bind fun t405 => (impl_SameCycle.j0 k (!t405) l0_0 l0_1 l1_0 l1_1)) else (impl_SameCycle.j0 k true l0_0 l0_1 l1_0 l1_1))
theorem impl_SameCycle.mono_l : ∀ k,(∀ y0 y1 y2 y3 y4,LeO (impl_SameCycle.j0 k y0 y1 y2 y3 y4) (impl_SameCycle.j0 (k + 1) y0 y1 y2 y3 y4)) ∧ (∀ y0 y1 y2 y3 y4 y5,LeO (impl_SameCycle.l0 k y0 y1 y2 y3 y4 y5) (impl_SameCycle.l0 (k + 1) y0 y1 y2 y3 y4 y5))
 | 0 => ⟨fun _ _ _ _ _ r h => by simp [impl_SameCycle.j0] at h,fun _ _ _ _ _ _ r h => by simp [impl_SameCycle.l0] at h⟩
 | k + 1 => by
  obtain ⟨ih0,ih1⟩:=impl_SameCycle.mono_l k
  refine ⟨?_,?_⟩ <;> intros <;> first | unfold impl_SameCycle.j0 | unfold impl_SameCycle.l0
  all_goals repeat' first | (with_reducible exact ih0 _ _ _ _ _) | (with_reducible exact ih1 _ _ _ _ _ _) | (with_reducible exact impl_IsValidRotation.mono _ _ _) | (with_reducible exact slices_Equal_int_int.mono _ _ _) | (with_reducible exact LeO.refl _) | (with_reducible exact LeO.none _) | (with_reducible refine LeO.ite ?_ ?_) | (with_reducible refine LeO.bind ?_ (fun _ => ?_)) | exact ih0 _ _ _ _ _ | exact ih1 _ _ _ _ _ _ | refine LeO.ite ?_ ?_ | refine LeO.bind ?_ (fun _ => ?_)
theorem impl_SameCycle.mono : ∀ a0 a1 a2 a3 k,LeO (impl_SameCycle.f k a0 a1 a2 a3) (impl_SameCycle.f (k + 1) a0 a1 a2 a3):=by
 intro a0 a1 a2 a3 k
 obtain ⟨ih0,ih1⟩:=impl_SameCycle.mono_l k
 unfold impl_SameCycle.f
 repeat' first
   | (with_reducible exact ih0 _ _ _ _ _)
   | (with_reducible exact ih1 _ _ _ _ _ _)
   | (with_reducible exact impl_IsValidRotation.mono _ _ _)
   | (with_reducible exact slices_Equal_int_int.mono _ _ _)
   | (with_reducible exact LeO.refl _)
   | (with_reducible exact LeO.none _)
   | (with_reducible refine LeO.ite ?_ ?_)
   | (with_reducible refine LeO.bind ?_ (fun _ => ?_))
   | exact ih0 _ _ _ _ _
   | exact ih1 _ _ _ _ _ _
   | exact impl_IsValidRotation.mono _ _ _
   | exact slices_Equal_int_int.mono _ _ _
   | exact LeO.none _
   | refine LeO.ite ?_ ?_
   | refine LeO.bind ?_ (fun _ => ?_)
set_option maxHeartbeats 8000000 in
set_option maxRecDepth 100000 in
theorem impl_SameCycle.calls (k : Nat) (A0_0 : Option Addr) (c0_0 : Nat) (l0_0 : List Int) (A0_1 : Option Addr) (c0_1 : Nat) (l0_1 : List Int) (A1_0 : Option Addr) (c1_0 : Nat) (l1_0 : List Int) (A1_1 : Option Addr) (c1_1 : Nat) (l1_1 : List Int) (r1 : Bool) (r2 : Bool) (w : World) (hr0_0 : Kd.C (Kd.int .i64) w A0_0 l0_0.length l0_0) (hc0_0 : l0_0.length ≤ c0_0) (hr0_1 : Kd.C (Kd.int .i64) w A0_1 l0_1.length l0_1) (hc0_1 : l0_1.length ≤ c0_1) (hr1_0 : Kd.C (Kd.int .i64) w A1_0 l1_0.length l1_0) (hc1_0 : l1_0.length ≤ c1_0) (hr1_1 : Kd.C (Kd.int .i64) w A1_1 l1_1.length l1_1) (hc1_1 : l1_1.length ≤ c1_1) (h : impl_SameCycle.f k l0_0 l0_1 l1_0 l1_1 = some (r1,r2)) :
  Calls Tryz.prog 14 #[.agg #[.slice A0_0 l0_0.length c0_0,.slice A0_1 l0_1.length c0_1],.agg #[.slice A1_0 l1_0.length c1_0,.slice A1_1 l1_1.length c1_1]] w fun e w' => e = .returned (.tuple #[.bool r1,.bool r2]) ∧ Below w.heap.size w w':=by
 have hu26:=Tryz.underlying26
 have HR0_0:=Aside0.mk hr0_0
 have HC0_0:=Aside0.mk hc0_0
 clear hr0_0 hc0_0
 have HR0_1:=Aside0.mk hr0_1
 have HC0_1:=Aside0.mk hc0_1
 clear hr0_1 hc0_1
 have HR1_0:=Aside0.mk hr1_0
 have HC1_0:=Aside0.mk hc1_0
 clear hr1_0 hc1_0
 have HR1_1:=Aside0.mk hr1_1
 have HC1_1:=Aside0.mk hc1_1
 clear hr1_1 hc1_1
 have HB:=Aside0.mk (Below.refl w.heap.size w)
 have H : ((impl_IsValidRotation.f k l0_0 l0_1).bind fun t404 => (if t404 = true then ((impl_IsValidRotation.f k l1_0 l1_1).bind fun t405 => (impl_SameCycle.j0 k (!t405) l0_0 l0_1 l1_0 l1_1)) else (impl_SameCycle.j0 k true l0_0 l0_1 l1_0 l1_1))) = some (r1,r2):=h
 clear h
 have HC3:=Aside0.mk H
 clear H
 go_enter Tryz.func14,Tryz.ntmps14
 go_upto_region 1 with (first|((with_reducible refine gate_dst (N:=2) rfl ?_); refine box_event ?hg (N:=2) ?hd (cs:=#[.slice A0_0 l0_0.length c0_0,.slice A0_1 l0_1.length c0_1]) (t:=26) ?hr ?_; (case hd => rfl); (case hg => rfl); (case hr => (go_simp; done)); intro gb402 hg w4 hbox hb; have n0_:=Aside0.mk (below_step (by repeat (((with_reducible (exact HB.out))))) hb); have n1_:=Aside0.mk (hbox); have n2_:=Aside0.mk ((by rw [hg]; exact (below_size (by repeat (((with_reducible (exact HB.out)))))) : w.heap.size ≤ gb402)); have n3_:=Aside0.mk ((by rw [hg]; exact (below_size (by repeat (((with_reducible (exact HB.out)))))) : w.heap.size ≤ gb402)); clear HB; have HB:=n0_; have BK402:=n1_; have GW402:=n2_; have GE402:=n3_; clear n0_ n1_ n2_ n3_; clear hb hbox hg)|((with_reducible refine gate_dst (N:=3) rfl ?_); refine box_event ?hg (N:=3) ?hd (cs:=#[.slice A1_0 l1_0.length c1_0,.slice A1_1 l1_1.length c1_1]) (t:=26) ?hr ?_; (case hd => rfl); (case hg => rfl); (case hr => (go_simp; done)); intro gb403 hg w5 hbox hb; have n0_:=Aside0.mk (blk_below (g:=gb402) (o:=.cells #[.slice A0_0 l0_0.length c0_0,.slice A0_1 l0_1.length c0_1] 26 (0,0)) (by exact BK402.out) hb); have n1_:=Aside0.mk (below_step (by repeat (((with_reducible (exact HB.out))))) hb); have n2_:=Aside0.mk (hbox); have n3_:=Aside0.mk ((by rw [hg]; exact (below_size (by repeat (((with_reducible (exact HB.out)))))) : w.heap.size ≤ gb403)); have n4_:=Aside0.mk ((by rw [hg]; exact (below_size (by repeat (((with_reducible (exact HB.out)))))) : w.heap.size ≤ gb403)); have n5_:=Aside0.mk ((by rw [hg]; exact Nat.ne_of_lt (blk_lt (g:=gb402) (o:=.cells #[.slice A0_0 l0_0.length c0_0,.slice A0_1 l0_1.length c0_1] 26 (0,0)) (by exact BK402.out)) : gb402 ≠ gb403)); have n6_:=Aside0.mk ((by rw [hg]; exact Nat.ne_of_gt (blk_lt (g:=gb402) (o:=.cells #[.slice A0_0 l0_0.length c0_0,.slice A0_1 l0_1.length c0_1] 26 (0,0)) (by exact BK402.out)) : gb403 ≠ gb402)); clear BK402; clear HB; have BK402:=n0_; have HB:=n1_; have BK403:=n2_; have GW403:=n3_; have GE403:=n4_; have NB402_403:=n5_; have NB403_402:=n6_; clear n0_ n1_ n2_ n3_ n4_ n5_ n6_; clear hb hbox hg))
 (try simp only [Act.put,List.setIfInBounds_toArray,List.set_cons_zero,List.set_cons_succ])
 go_cut [15] (fun v15 wc => ∃ (kq : Nat) (x15_2 : Bool),v15 = .bool x15_2 ∧ Aside0 (impl_SameCycle.j0 kq x15_2 l0_0 l0_1 l1_0 l1_1 = some (r1,r2)) ∧ Aside0 (kq ≤ k) ∧ Aside0 (wc.heap[gb402]? = some (.cells #[(.slice A0_0 l0_0.length c0_0),(.slice A0_1 l0_1.length c0_1)] 26 (0,0))) ∧ Aside0 (wc.heap[gb403]? = some (.cells #[(.slice A1_0 l1_0.length c1_0),(.slice A1_1 l1_1.length c1_1)] 26 (0,0))) ∧ Aside0 (Below w.heap.size w wc))
 case first =>
  have H:=HC3.out
  clear HC3
  replace H:=Option.bind_eq_some_iff.mp H
  obtain ⟨t404,A60,H⟩:=H
  replace H : (if t404 = true then ((impl_IsValidRotation.f k l1_0 l1_1).bind fun t405 => (impl_SameCycle.j0 k (!t405) l0_0 l0_1 l1_0 l1_1)) else (impl_SameCycle.j0 k true l0_0 l0_1 l1_0 l1_1)) = some (r1,r2):=H
  have A6:=Aside0.mk A60
  clear A60
  by_cases c7 : t404 = true
  ·subst c7
   have H1 : ((impl_IsValidRotation.f k l1_0 l1_1).bind fun t405 => (impl_SameCycle.j0 k (!t405) l0_0 l0_1 l1_0 l1_1)) = some (r1,r2):=by rw [if_pos rfl] at H; exact H
   clear H
   have H:=H1
   clear H1
   replace H:=Option.bind_eq_some_iff.mp H
   obtain ⟨t405,A80,H⟩:=H
   replace H : (impl_SameCycle.j0 k (!t405) l0_0 l0_1 l1_0 l1_1) = some (r1,r2):=H
   have A8:=Aside0.mk A80
   clear A80
   have H':=Aside0.mk H
   clear H
   have hnb9:=NB402_403.out
   have hnc9:=NB403_402.out
   have hcz10_0 : w5.cell? ⟨gb402,0,none⟩ = some (.slice A0_0 l0_0.length c0_0):=(blk_cell BK402.out 0).trans rfl
   have hcz10_1 : w5.cell? ⟨gb402,1,none⟩ = some (.slice A0_1 l0_1.length c0_1):=(blk_cell BK402.out 1).trans rfl
   have hfz10_0:=blk_frozen BK402.out 0
   have hfz10_1:=blk_frozen BK402.out 1
   go_wp2_with (first|((with_reducible refine gate_callee (f:=9) rfl ?_); refine goesL_ (some 9) rfl rfl Tryz.func9 (by kernel_rfl) rfl #[.agg #[.slice A0_0 l0_0.length c0_0,.slice A0_1 l0_1.length c0_1]] rfl (by (try simp only [List.map_toArray,List.map_cons,List.map_nil]); (rfl)) ?_; (with_reducible refine (impl_IsValidRotation.calls k _ _ l0_0 _ _ l0_1 true _ ?side1 ?side2 ?side3 ?side4 A6.out).mono ?_); (case side1 => repeat ((exact (Kd.C_below HR0_0.out HB.out)))); (case side2 => exact HC0_0.out); (case side3 => repeat ((exact (Kd.C_below HR0_1.out HB.out)))); (case side4 => exact HC0_1.out); rintro e w11 ⟨rfl,hb⟩; refine ⟨_,rfl,?_⟩; have n0_:=Aside0.mk (blk_below (g:=gb402) (o:=.cells #[.slice A0_0 l0_0.length c0_0,.slice A0_1 l0_1.length c0_1] 26 (0,0)) (by exact BK402.out) hb); have n1_:=Aside0.mk (blk_below (g:=gb403) (o:=.cells #[.slice A1_0 l1_0.length c1_0,.slice A1_1 l1_1.length c1_1] 26 (0,0)) (by exact BK403.out) hb); have n2_:=Aside0.mk (below_step (by repeat (((with_reducible (exact HB.out))))) hb); clear BK402; clear BK403; clear HB; have BK402:=n0_; have BK403:=n1_; have HB:=n2_; clear n0_ n1_ n2_; (try clear hb); (try clear hb2); (try clear hk); (try clear hi); have hcz12_0 : w11.cell? ⟨gb403,0,none⟩ = some (.slice A1_0 l1_0.length c1_0):=(blk_cell BK403.out 0).trans rfl; have hcz12_1 : w11.cell? ⟨gb403,1,none⟩ = some (.slice A1_1 l1_1.length c1_1):=(blk_cell BK403.out 1).trans rfl; have hfz12_0:=blk_frozen BK403.out 0; have hfz12_1:=blk_frozen BK403.out 1)|(go_at_call 9; (with_reducible refine (impl_IsValidRotation.calls k _ _ l1_0 _ _ l1_1 t405 _ ?side1 ?side2 ?side3 ?side4 A8.out).mono ?_); (case side1 => repeat ((exact (Kd.C_below HR1_0.out HB.out)))); (case side2 => exact HC1_0.out); (case side3 => repeat ((exact (Kd.C_below HR1_1.out HB.out)))); (case side4 => exact HC1_1.out); rintro e w13 ⟨rfl,hb⟩; have n0_:=Aside0.mk (blk_below (g:=gb402) (o:=.cells #[.slice A0_0 l0_0.length c0_0,.slice A0_1 l0_1.length c0_1] 26 (0,0)) (by exact BK402.out) hb); have n1_:=Aside0.mk (blk_below (g:=gb403) (o:=.cells #[.slice A1_0 l1_0.length c1_0,.slice A1_1 l1_1.length c1_1] 26 (0,0)) (by exact BK403.out) hb); have n2_:=Aside0.mk (below_step (by repeat (((with_reducible (exact HB.out))))) hb); clear BK402; clear BK403; clear HB; have BK402:=n0_; have BK403:=n1_; have HB:=n2_; clear n0_ n1_ n2_; (try clear hb); (try clear hb2); (try clear hk); (try clear hi)))
   go_meet
   case rel => exact ⟨_,(!t405),(by (rfl)),H',⟨by (omega)⟩,⟨by exact BK402.out⟩,⟨by exact BK403.out⟩,⟨by repeat (((with_reducible (exact HB.out))))⟩⟩
  ·replace c7:=Bool.eq_false_iff.mpr c7
   subst c7
   have H1 : (impl_SameCycle.j0 k true l0_0 l0_1 l1_0 l1_1) = some (r1,r2):=by rw [if_neg (show ¬ (false = true) by decide)] at H; exact H
   clear H
   have H:=H1
   clear H1
   have H':=Aside0.mk H
   clear H
   have hnb14:=NB402_403.out
   have hnc14:=NB403_402.out
   have hcz15_0 : w5.cell? ⟨gb402,0,none⟩ = some (.slice A0_0 l0_0.length c0_0):=(blk_cell BK402.out 0).trans rfl
   have hcz15_1 : w5.cell? ⟨gb402,1,none⟩ = some (.slice A0_1 l0_1.length c0_1):=(blk_cell BK402.out 1).trans rfl
   have hfz15_0:=blk_frozen BK402.out 0
   have hfz15_1:=blk_frozen BK402.out 1
   go_wp2_with ((((with_reducible refine gate_callee (f:=9) rfl ?_); refine goesL_ (some 9) rfl rfl Tryz.func9 (by kernel_rfl) rfl #[.agg #[.slice A0_0 l0_0.length c0_0,.slice A0_1 l0_1.length c0_1]] rfl (by (try simp only [List.map_toArray,List.map_cons,List.map_nil]); (rfl)) ?_; (with_reducible refine (impl_IsValidRotation.calls k _ _ l0_0 _ _ l0_1 false _ ?side1 ?side2 ?side3 ?side4 A6.out).mono ?_); (case side1 => repeat ((exact (Kd.C_below HR0_0.out HB.out)))); (case side2 => exact HC0_0.out); (case side3 => repeat ((exact (Kd.C_below HR0_1.out HB.out)))); (case side4 => exact HC0_1.out); rintro e w16 ⟨rfl,hb⟩; refine ⟨_,rfl,?_⟩; have n0_:=Aside0.mk (blk_below (g:=gb402) (o:=.cells #[.slice A0_0 l0_0.length c0_0,.slice A0_1 l0_1.length c0_1] 26 (0,0)) (by exact BK402.out) hb); have n1_:=Aside0.mk (blk_below (g:=gb403) (o:=.cells #[.slice A1_0 l1_0.length c1_0,.slice A1_1 l1_1.length c1_1] 26 (0,0)) (by exact BK403.out) hb); have n2_:=Aside0.mk (below_step (by repeat (((with_reducible (exact HB.out))))) hb); clear BK402; clear BK403; clear HB; have BK402:=n0_; have BK403:=n1_; have HB:=n2_; clear n0_ n1_ n2_; (try clear hb); (try clear hb2); (try clear hk); (try clear hi))))
   go_meet
   case rel => exact ⟨_,(true),(by (rfl)),H',⟨by (omega)⟩,⟨by exact BK402.out⟩,⟨by exact BK403.out⟩,⟨by repeat (((with_reducible (exact HB.out))))⟩⟩
 case rest =>
  clear HC3
  try clear c1
  try clear p2
  try clear c7
  try clear c9
  try clear c14
  try clear hcz10_0
  try clear hcz10_1
  try clear hcz12_0
  try clear hcz12_1
  try clear hcz15_0
  try clear hcz15_1
  try clear hfz10_0
  try clear hfz10_1
  try clear hfz12_0
  try clear hfz12_1
  try clear hfz15_0
  try clear hfz15_1
  obtain ⟨kq,x15_2,rfl,HA,HJ2,BK402,BK403,HB⟩:=hcut
  cases kq with
  | zero => exact absurd HA.out (by simp [impl_SameCycle.j0])
  | succ kj2 =>
   have H:=HA.out
   clear HA
   simp only [impl_SameCycle.j0] at H
   by_cases c17 : x15_2 = true
   ·subst c17
    have H1 : (some (false,false)) = some (r1,r2):=by rw [if_pos rfl] at H; exact H
    clear H
    have H:=H1
    clear H1
    simp only [Option.some.injEq,Prod.mk.injEq] at H
    obtain ⟨rfl,rfl⟩:=H
    go_wp2
    go_ret2
    exact ⟨by (rfl),by repeat (((with_reducible (exact HB.out))))⟩
   ·replace c17:=Bool.eq_false_iff.mpr c17
    subst c17
    have H1 : (impl_SameCycle.l0 kj2 (l0_0.length : Int) 0 l0_0 l0_1 l1_0 l1_1) = some (r1,r2):=by rw [if_neg (show ¬ (false = true) by decide)] at H; exact H
    clear H
    have H:=H1
    clear H1
    have H':=Aside0.mk H
    clear H
    have hnb18:=NB402_403.out
    have hnc18:=NB403_402.out
    have hcz19_0 : wc.cell? ⟨gb402,0,none⟩ = some (.slice A0_0 l0_0.length c0_0):=(blk_cell BK402.out 0).trans rfl
    have hcz19_1 : wc.cell? ⟨gb402,1,none⟩ = some (.slice A0_1 l0_1.length c0_1):=(blk_cell BK402.out 1).trans rfl
    have hfz19_0:=blk_frozen BK402.out 0
    have hfz19_1:=blk_frozen BK402.out 1
    go_wp2
    go_loopg [19] kj2 (fun kq v19 w' => ∃ (x19_2 : Int),v19 = .int .i64 x19_2 ∧ Aside0 (impl_SameCycle.l0 kq (l0_0.length : Int) x19_2 l0_0 l0_1 l1_0 l1_1 = some (r1,r2)) ∧ Aside0 (kq ≤ kj2) ∧ Aside0 (w'.heap[gb402]? = some (.cells #[(.slice A0_0 l0_0.length c0_0),(.slice A0_1 l0_1.length c0_1)] 26 (0,0))) ∧ Aside0 (w'.heap[gb403]? = some (.cells #[(.slice A1_0 l1_0.length c1_0),(.slice A1_1 l1_1.length c1_1)] 26 (0,0))) ∧ Aside0 (Below w.heap.size w w'))
    case atStart => exact ⟨(0),(by (rfl)),H',⟨Nat.le_refl _⟩,⟨by exact BK402.out⟩,⟨by exact BK403.out⟩,⟨by repeat (((with_reducible (exact HB.out))))⟩⟩
    case round =>
     clear H'
     try clear c1
     try clear p2
     try clear c7
     try clear c9
     try clear c14
     try clear c17
     try clear c18
     try clear hcz10_0
     try clear hcz10_1
     try clear hcz12_0
     try clear hcz12_1
     try clear hcz15_0
     try clear hcz15_1
     try clear hcz19_0
     try clear hcz19_1
     try clear hfz10_0
     try clear hfz10_1
     try clear hfz12_0
     try clear hfz12_1
     try clear hfz15_0
     try clear hfz15_1
     try clear hfz19_0
     try clear hfz19_1
     try clear p2
     obtain ⟨x19_2,rfl,HA,HK2,BK402,BK403,HB⟩:=hrel
     cases gk with
     | zero => exact absurd HA.out (by simp [impl_SameCycle.l0])
     | succ k2 =>
      have H:=HA.out
      clear HA
      simp only [impl_SameCycle.l0] at H
      by_cases c20 : x19_2 < (l0_0.length : Int)
      ·rw [if_pos c20] at H
       have c20b0 : decide (x19_2 < (l0_0.length : Int)) = true:=decide_eq_true c20
       clear c20
       replace H:=Option.bind_eq_some_iff.mp H
       obtain ⟨⟨t406,t409⟩,A210,H⟩:=H
       replace H : ((slices_Equal_int_int.f k2 t406 l1_0).bind fun t413 => (if t413 = true then ((slices_Equal_int_int.f k2 t409 l1_1).bind fun t414 => (if t414 = true then (some (true,true)) else (impl_SameCycle.l0 k2 (l0_0.length : Int) (wrap64 (x19_2 + 1)) l0_0 l0_1 l1_0 l1_1))) else (impl_SameCycle.l0 k2 (l0_0.length : Int) (wrap64 (x19_2 + 1)) l0_0 l0_1 l1_0 l1_1))) = some (r1,r2):=H
       have A21:=Aside0.mk A210
       clear A210
       replace H:=Option.bind_eq_some_iff.mp H
       obtain ⟨t413,A220,H⟩:=H
       replace H : (if t413 = true then ((slices_Equal_int_int.f k2 t409 l1_1).bind fun t414 => (if t414 = true then (some (true,true)) else (impl_SameCycle.l0 k2 (l0_0.length : Int) (wrap64 (x19_2 + 1)) l0_0 l0_1 l1_0 l1_1))) else (impl_SameCycle.l0 k2 (l0_0.length : Int) (wrap64 (x19_2 + 1)) l0_0 l0_1 l1_0 l1_1)) = some (r1,r2):=H
       have A22:=Aside0.mk A220
       clear A220
       by_cases c23 : t413 = true
       ·subst c23
        have H1 : ((slices_Equal_int_int.f k2 t409 l1_1).bind fun t414 => (if t414 = true then (some (true,true)) else (impl_SameCycle.l0 k2 (l0_0.length : Int) (wrap64 (x19_2 + 1)) l0_0 l0_1 l1_0 l1_1))) = some (r1,r2):=by rw [if_pos rfl] at H; exact H
        clear H
        have H:=H1
        clear H1
        replace H:=Option.bind_eq_some_iff.mp H
        obtain ⟨t414,A240,H⟩:=H
        replace H : (if t414 = true then (some (true,true)) else (impl_SameCycle.l0 k2 (l0_0.length : Int) (wrap64 (x19_2 + 1)) l0_0 l0_1 l1_0 l1_1)) = some (r1,r2):=H
        have A24:=Aside0.mk A240
        clear A240
        by_cases c25 : t414 = true
        ·subst c25
         have H1 : (some (true,true)) = some (r1,r2):=by rw [if_pos rfl] at H; exact H
         clear H
         have H:=H1
         clear H1
         simp only [Option.some.injEq,Prod.mk.injEq] at H
         obtain ⟨rfl,rfl⟩:=H
         have hnb26:=NB402_403.out
         have hnc26:=NB403_402.out
         have hcz27_0 : wr.cell? ⟨gb402,0,none⟩ = some (.slice A0_0 l0_0.length c0_0):=(blk_cell BK402.out 0).trans rfl
         have hcz27_1 : wr.cell? ⟨gb402,1,none⟩ = some (.slice A0_1 l0_1.length c0_1):=(blk_cell BK402.out 1).trans rfl
         have hfz27_0:=blk_frozen BK402.out 0
         have hfz27_1:=blk_frozen BK402.out 1
         go_wp2_with (first|((with_reducible refine gate_callee (f:=41) rfl ?_); refine goesL_ (some 24) rfl rfl Tryz.func41 (by kernel_rfl) rfl #[.agg #[.slice A0_0 l0_0.length c0_0,.slice A0_1 l0_1.length c0_1],.int .i64 x19_2] rfl (by (try simp only [List.map_toArray,List.map_cons,List.map_nil]); (rfl)) ?_; (with_reducible refine (impl_turned.calls _ _ l0_0 _ _ l0_1 x19_2 t406 t409 _ ?side1 ?side2 ?side3 ?side4 A21.out).mono ?_); (case side1 => repeat ((exact (Kd.C_below HR0_0.out HB.out)))); (case side2 => exact HC0_0.out); (case side3 => repeat ((exact (Kd.C_below HR0_1.out HB.out)))); (case side4 => exact HC0_1.out); rintro e w28 ⟨v407,v410,rfl,ho0,ho1,hb⟩; refine ⟨_,rfl,?_⟩; have n0_:=Aside0.mk (Kd.R_lower ho0 (below_size (by repeat (((with_reducible (exact HB.out))))))); have n1_:=Aside0.mk (Kd.R_lower ho1 (below_size (by repeat (((with_reducible (exact HB.out))))))); have n2_:=Aside0.mk (blk_below (g:=gb402) (o:=.cells #[.slice A0_0 l0_0.length c0_0,.slice A0_1 l0_1.length c0_1] 26 (0,0)) (by exact BK402.out) hb); have n3_:=Aside0.mk (blk_below (g:=gb403) (o:=.cells #[.slice A1_0 l1_0.length c1_0,.slice A1_1 l1_1.length c1_1] 26 (0,0)) (by exact BK403.out) hb); have n4_:=Aside0.mk (below_step (by repeat (((with_reducible (exact HB.out))))) hb); clear BK402; clear BK403; clear HB; have HO408:=n0_; have HO411:=n1_; have BK402:=n2_; have BK403:=n3_; have HB:=n4_; clear n0_ n1_ n2_ n3_ n4_; (try clear hb); (try clear hb2); (try clear hk); (try clear hi); (try clear ho0); (try clear ho1))|((with_reducible refine gate_dst (N:=7) rfl ?_); refine box_event ?hg (N:=7) ?hd (cs:=#[.slice none 0 0,.slice none 0 0]) (t:=26) ?hr ?_; (case hd => rfl); (case hg => rfl); (case hr => (go_simp; done)); intro gb412 hg w29 hbox hb; have n0_:=Aside0.mk (Kd.R_below (by exact HO408.out) hb); have n1_:=Aside0.mk (Kd.R_below (by exact HO411.out) hb); have n2_:=Aside0.mk (blk_below (g:=gb402) (o:=.cells #[.slice A0_0 l0_0.length c0_0,.slice A0_1 l0_1.length c0_1] 26 (0,0)) (by exact BK402.out) hb); have n3_:=Aside0.mk (blk_below (g:=gb403) (o:=.cells #[.slice A1_0 l1_0.length c1_0,.slice A1_1 l1_1.length c1_1] 26 (0,0)) (by exact BK403.out) hb); have n4_:=Aside0.mk (below_step (by repeat (((with_reducible (exact HB.out))))) hb); have n5_:=Aside0.mk (hbox); have n6_:=Aside0.mk ((by rw [hg]; exact (below_size (by repeat (((with_reducible (exact HB.out)))))) : w.heap.size ≤ gb412)); have n7_:=Aside0.mk ((by rw [hg]; exact (below_size (by repeat (((with_reducible (exact HB.out)))))) : w.heap.size ≤ gb412)); have n8_:=Aside0.mk ((by rw [hg]; exact Nat.ne_of_lt (blk_lt (g:=gb402) (o:=.cells #[.slice A0_0 l0_0.length c0_0,.slice A0_1 l0_1.length c0_1] 26 (0,0)) (by exact BK402.out)) : gb402 ≠ gb412)); have n9_:=Aside0.mk ((by rw [hg]; exact Nat.ne_of_gt (blk_lt (g:=gb402) (o:=.cells #[.slice A0_0 l0_0.length c0_0,.slice A0_1 l0_1.length c0_1] 26 (0,0)) (by exact BK402.out)) : gb412 ≠ gb402)); have n10_:=Aside0.mk ((by rw [hg]; exact Nat.ne_of_lt (blk_lt (g:=gb403) (o:=.cells #[.slice A1_0 l1_0.length c1_0,.slice A1_1 l1_1.length c1_1] 26 (0,0)) (by exact BK403.out)) : gb403 ≠ gb412)); have n11_:=Aside0.mk ((by rw [hg]; exact Nat.ne_of_gt (blk_lt (g:=gb403) (o:=.cells #[.slice A1_0 l1_0.length c1_0,.slice A1_1 l1_1.length c1_1] 26 (0,0)) (by exact BK403.out)) : gb412 ≠ gb403)); clear HO408; clear HO411; clear BK402; clear BK403; clear HB; have HO408:=n0_; have HO411:=n1_; have BK402:=n2_; have BK403:=n3_; have HB:=n4_; have BK412:=n5_; have GW412:=n6_; have GE412:=n7_; have NB402_412:=n8_; have NB412_402:=n9_; have NB403_412:=n10_; have NB412_403:=n11_; clear n0_ n1_ n2_ n3_ n4_ n5_ n6_ n7_ n8_ n9_ n10_ n11_; clear hb hbox hg; obtain ⟨Ao30,co30,eo30⟩:=Kd.R_slice HO408.out; subst eo30; have hnb31:=NB412_402.out; have hnc31:=NB402_412.out; have hnb32:=NB412_403.out; have hnc32:=NB403_412.out; have hcz33_0 : w29.cell? ⟨gb412,0,none⟩ = some (.slice none 0 0):=(blk_cell BK412.out 0).trans rfl; have hcz33_1 : w29.cell? ⟨gb412,1,none⟩ = some (.slice none 0 0):=(blk_cell BK412.out 1).trans rfl; have hfz33_0:=blk_frozen BK412.out 0; have hfz33_1:=blk_frozen BK412.out 1; obtain ⟨Ao34,co34,eo34⟩:=Kd.R_slice HO411.out; subst eo34; have hcz35_0 : w29.cell? ⟨gb403,0,none⟩ = some (.slice A1_0 l1_0.length c1_0):=(blk_cell BK403.out 0).trans rfl; have hcz35_1 : w29.cell? ⟨gb403,1,none⟩ = some (.slice A1_1 l1_1.length c1_1):=(blk_cell BK403.out 1).trans rfl; have hfz35_0:=blk_frozen BK403.out 0; have hfz35_1:=blk_frozen BK403.out 1)|((with_reducible refine gate_callee (f:=44) rfl ?_); refine goesL_ (some 29) rfl rfl Tryz.func44 (by kernel_rfl) rfl #[.slice Ao30 t406.length co30,.slice A1_0 l1_0.length c1_0] rfl (by (try simp only [List.map_toArray,List.map_cons,List.map_nil]); (rfl)) ?_; (with_reducible refine (slices_Equal_int_int.calls k2 _ _ t406 _ _ l1_0 true _ ?side1 ?side2 ?side3 ?side4 A22.out).mono ?_); (case side1 => refine (Kd.R_reads' (e:=3) (base:=w.heap.size) (ok:=fun k_ => some k_ ≠ (.slice Ao34 t409.length co34 : Value).ownBlock) (n:=t406.length) (c:=co30) ?_).2.2; exact (by exact (Kd.R_mono (Kd.R_far (p:=⟨gb412,1,none⟩) (Kd.R_far (p:=⟨gb412,0,none⟩) (Kd.R_types HO408.out BK412.out (by decide)) (fun _ hk => hk.2) (.slice Ao30 t406.length co30)) (fun _ hk => hk.2) (.slice Ao34 t409.length co34)) (fun _ h_ => h_.1)))); (case side2 => exact (Kd.R_reads' HO408.out).2.1); (case side3 => exact Kd.C_below HR1_0.out (by repeat (with_reducible first|exact HB.out|refine below_set ?_ GE412.out))); (case side4 => exact HC1_0.out); rintro e w' ⟨rfl,⟨nd,rfl⟩⟩; refine ⟨_,rfl,?_⟩)|(go_at_call 44; (with_reducible refine (slices_Equal_int_int.calls k2 _ _ t409 _ _ l1_1 true _ ?side1 ?side2 ?side3 ?side4 A24.out).mono ?_); (case side1 => refine (Kd.R_reads' (e:=3) (base:=w.heap.size) (ok:=fun k_ => some k_ ≠ (.slice Ao30 t406.length co30 : Value).ownBlock) (n:=t409.length) (c:=co34) ?_).2.2; exact (by (with_reducible repeat (apply Kd.R_drewN)); exact (Kd.R_mono (Kd.R_far (p:=⟨gb412,1,none⟩) (Kd.R_far (p:=⟨gb412,0,none⟩) (Kd.R_types HO411.out BK412.out (by decide)) (fun _ hk => hk.2) (.slice Ao30 t406.length co30)) (fun _ hk => hk.2) (.slice Ao34 t409.length co34)) (fun _ h_ => h_.1)))); (case side2 => exact (Kd.R_reads' HO411.out).2.1); (case side3 => exact Kd.C_below HR1_1.out (by repeat (with_reducible first|exact HB.out|apply pw_below_drewN|refine below_set ?_ GE412.out))); (case side4 => exact HC1_1.out); rintro e w' ⟨rfl,⟨nd,rfl⟩⟩))
         go_ret2
         exact ⟨by (rfl),by repeat (with_reducible first|exact HB.out|apply pw_below_drewN|refine below_set ?_ GE412.out)⟩
        ·replace c25:=Bool.eq_false_iff.mpr c25
         subst c25
         have H1 : (impl_SameCycle.l0 k2 (l0_0.length : Int) (wrap64 (x19_2 + 1)) l0_0 l0_1 l1_0 l1_1) = some (r1,r2):=by rw [if_neg (show ¬ (false = true) by decide)] at H; exact H
         clear H
         have H:=H1
         clear H1
         have H':=Aside0.mk H
         clear H
         have hnb36:=NB402_403.out
         have hnc36:=NB403_402.out
         have hcz37_0 : wr.cell? ⟨gb402,0,none⟩ = some (.slice A0_0 l0_0.length c0_0):=(blk_cell BK402.out 0).trans rfl
         have hcz37_1 : wr.cell? ⟨gb402,1,none⟩ = some (.slice A0_1 l0_1.length c0_1):=(blk_cell BK402.out 1).trans rfl
         have hfz37_0:=blk_frozen BK402.out 0
         have hfz37_1:=blk_frozen BK402.out 1
         go_wp2_with (first|((with_reducible refine gate_callee (f:=41) rfl ?_); refine goesL_ (some 24) rfl rfl Tryz.func41 (by kernel_rfl) rfl #[.agg #[.slice A0_0 l0_0.length c0_0,.slice A0_1 l0_1.length c0_1],.int .i64 x19_2] rfl (by (try simp only [List.map_toArray,List.map_cons,List.map_nil]); (rfl)) ?_; (with_reducible refine (impl_turned.calls _ _ l0_0 _ _ l0_1 x19_2 t406 t409 _ ?side1 ?side2 ?side3 ?side4 A21.out).mono ?_); (case side1 => repeat ((exact (Kd.C_below HR0_0.out HB.out)))); (case side2 => exact HC0_0.out); (case side3 => repeat ((exact (Kd.C_below HR0_1.out HB.out)))); (case side4 => exact HC0_1.out); rintro e w38 ⟨v407,v410,rfl,ho0,ho1,hb⟩; refine ⟨_,rfl,?_⟩; have n0_:=Aside0.mk (Kd.R_lower ho0 (below_size (by repeat (((with_reducible (exact HB.out))))))); have n1_:=Aside0.mk (Kd.R_lower ho1 (below_size (by repeat (((with_reducible (exact HB.out))))))); have n2_:=Aside0.mk (blk_below (g:=gb402) (o:=.cells #[.slice A0_0 l0_0.length c0_0,.slice A0_1 l0_1.length c0_1] 26 (0,0)) (by exact BK402.out) hb); have n3_:=Aside0.mk (blk_below (g:=gb403) (o:=.cells #[.slice A1_0 l1_0.length c1_0,.slice A1_1 l1_1.length c1_1] 26 (0,0)) (by exact BK403.out) hb); have n4_:=Aside0.mk (below_step (by repeat (((with_reducible (exact HB.out))))) hb); clear BK402; clear BK403; clear HB; have HO408:=n0_; have HO411:=n1_; have BK402:=n2_; have BK403:=n3_; have HB:=n4_; clear n0_ n1_ n2_ n3_ n4_; (try clear hb); (try clear hb2); (try clear hk); (try clear hi); (try clear ho0); (try clear ho1))|((with_reducible refine gate_dst (N:=7) rfl ?_); refine box_event ?hg (N:=7) ?hd (cs:=#[.slice none 0 0,.slice none 0 0]) (t:=26) ?hr ?_; (case hd => rfl); (case hg => rfl); (case hr => (go_simp; done)); intro gb412 hg w39 hbox hb; have n0_:=Aside0.mk (Kd.R_below (by exact HO408.out) hb); have n1_:=Aside0.mk (Kd.R_below (by exact HO411.out) hb); have n2_:=Aside0.mk (blk_below (g:=gb402) (o:=.cells #[.slice A0_0 l0_0.length c0_0,.slice A0_1 l0_1.length c0_1] 26 (0,0)) (by exact BK402.out) hb); have n3_:=Aside0.mk (blk_below (g:=gb403) (o:=.cells #[.slice A1_0 l1_0.length c1_0,.slice A1_1 l1_1.length c1_1] 26 (0,0)) (by exact BK403.out) hb); have n4_:=Aside0.mk (below_step (by repeat (((with_reducible (exact HB.out))))) hb); have n5_:=Aside0.mk (hbox); have n6_:=Aside0.mk ((by rw [hg]; exact (below_size (by repeat (((with_reducible (exact HB.out)))))) : w.heap.size ≤ gb412)); have n7_:=Aside0.mk ((by rw [hg]; exact (below_size (by repeat (((with_reducible (exact HB.out)))))) : w.heap.size ≤ gb412)); have n8_:=Aside0.mk ((by rw [hg]; exact Nat.ne_of_lt (blk_lt (g:=gb402) (o:=.cells #[.slice A0_0 l0_0.length c0_0,.slice A0_1 l0_1.length c0_1] 26 (0,0)) (by exact BK402.out)) : gb402 ≠ gb412)); have n9_:=Aside0.mk ((by rw [hg]; exact Nat.ne_of_gt (blk_lt (g:=gb402) (o:=.cells #[.slice A0_0 l0_0.length c0_0,.slice A0_1 l0_1.length c0_1] 26 (0,0)) (by exact BK402.out)) : gb412 ≠ gb402)); have n10_:=Aside0.mk ((by rw [hg]; exact Nat.ne_of_lt (blk_lt (g:=gb403) (o:=.cells #[.slice A1_0 l1_0.length c1_0,.slice A1_1 l1_1.length c1_1] 26 (0,0)) (by exact BK403.out)) : gb403 ≠ gb412)); have n11_:=Aside0.mk ((by rw [hg]; exact Nat.ne_of_gt (blk_lt (g:=gb403) (o:=.cells #[.slice A1_0 l1_0.length c1_0,.slice A1_1 l1_1.length c1_1] 26 (0,0)) (by exact BK403.out)) : gb412 ≠ gb403)); clear HO408; clear HO411; clear BK402; clear BK403; clear HB; have HO408:=n0_; have HO411:=n1_; have BK402:=n2_; have BK403:=n3_; have HB:=n4_; have BK412:=n5_; have GW412:=n6_; have GE412:=n7_; have NB402_412:=n8_; have NB412_402:=n9_; have NB403_412:=n10_; have NB412_403:=n11_; clear n0_ n1_ n2_ n3_ n4_ n5_ n6_ n7_ n8_ n9_ n10_ n11_; clear hb hbox hg; obtain ⟨Ao40,co40,eo40⟩:=Kd.R_slice HO408.out; subst eo40; have hnb41:=NB412_402.out; have hnc41:=NB402_412.out; have hnb42:=NB412_403.out; have hnc42:=NB403_412.out; have hcz43_0 : w39.cell? ⟨gb412,0,none⟩ = some (.slice none 0 0):=(blk_cell BK412.out 0).trans rfl; have hcz43_1 : w39.cell? ⟨gb412,1,none⟩ = some (.slice none 0 0):=(blk_cell BK412.out 1).trans rfl; have hfz43_0:=blk_frozen BK412.out 0; have hfz43_1:=blk_frozen BK412.out 1; obtain ⟨Ao44,co44,eo44⟩:=Kd.R_slice HO411.out; subst eo44; have hcz45_0 : w39.cell? ⟨gb403,0,none⟩ = some (.slice A1_0 l1_0.length c1_0):=(blk_cell BK403.out 0).trans rfl; have hcz45_1 : w39.cell? ⟨gb403,1,none⟩ = some (.slice A1_1 l1_1.length c1_1):=(blk_cell BK403.out 1).trans rfl; have hfz45_0:=blk_frozen BK403.out 0; have hfz45_1:=blk_frozen BK403.out 1)|((with_reducible refine gate_callee (f:=44) rfl ?_); refine goesL_ (some 29) rfl rfl Tryz.func44 (by kernel_rfl) rfl #[.slice Ao40 t406.length co40,.slice A1_0 l1_0.length c1_0] rfl (by (try simp only [List.map_toArray,List.map_cons,List.map_nil]); (rfl)) ?_; (with_reducible refine (slices_Equal_int_int.calls k2 _ _ t406 _ _ l1_0 true _ ?side1 ?side2 ?side3 ?side4 A22.out).mono ?_); (case side1 => refine (Kd.R_reads' (e:=3) (base:=w.heap.size) (ok:=fun k_ => some k_ ≠ (.slice Ao44 t409.length co44 : Value).ownBlock) (n:=t406.length) (c:=co40) ?_).2.2; exact (by exact (Kd.R_mono (Kd.R_far (p:=⟨gb412,1,none⟩) (Kd.R_far (p:=⟨gb412,0,none⟩) (Kd.R_types HO408.out BK412.out (by decide)) (fun _ hk => hk.2) (.slice Ao40 t406.length co40)) (fun _ hk => hk.2) (.slice Ao44 t409.length co44)) (fun _ h_ => h_.1)))); (case side2 => exact (Kd.R_reads' HO408.out).2.1); (case side3 => exact Kd.C_below HR1_0.out (by repeat (with_reducible first|exact HB.out|refine below_set ?_ GE412.out))); (case side4 => exact HC1_0.out); rintro e w' ⟨rfl,⟨nd,rfl⟩⟩; refine ⟨_,rfl,?_⟩)|(go_at_call 44; (with_reducible refine (slices_Equal_int_int.calls k2 _ _ t409 _ _ l1_1 false _ ?side1 ?side2 ?side3 ?side4 A24.out).mono ?_); (case side1 => refine (Kd.R_reads' (e:=3) (base:=w.heap.size) (ok:=fun k_ => some k_ ≠ (.slice Ao40 t406.length co40 : Value).ownBlock) (n:=t409.length) (c:=co44) ?_).2.2; exact (by (with_reducible repeat (apply Kd.R_drewN)); exact (Kd.R_mono (Kd.R_far (p:=⟨gb412,1,none⟩) (Kd.R_far (p:=⟨gb412,0,none⟩) (Kd.R_types HO411.out BK412.out (by decide)) (fun _ hk => hk.2) (.slice Ao40 t406.length co40)) (fun _ hk => hk.2) (.slice Ao44 t409.length co44)) (fun _ h_ => h_.1)))); (case side2 => exact (Kd.R_reads' HO411.out).2.1); (case side3 => exact Kd.C_below HR1_1.out (by repeat (with_reducible first|exact HB.out|apply pw_below_drewN|refine below_set ?_ GE412.out))); (case side4 => exact HC1_1.out); rintro e w' ⟨rfl,⟨nd,rfl⟩⟩))
         go_roundg k2
         case measure => have:=HJ2.out; have:=HK2.out; omega
         case rel => exact ⟨(wrap64 (x19_2 + 1)),(by (rfl)),H',⟨by have:=HJ2.out; have:=HK2.out; omega⟩,⟨by (with_reducible repeat (refine blk_drewN ?_ _)); refine blk_far ?_ NB402_412.out _; refine blk_far ?_ NB402_412.out _; exact BK402.out⟩,⟨by (with_reducible repeat (refine blk_drewN ?_ _)); refine blk_far ?_ NB403_412.out _; refine blk_far ?_ NB403_412.out _; exact BK403.out⟩,⟨by repeat (with_reducible first|exact HB.out|apply pw_below_drewN|refine below_set ?_ GE412.out)⟩⟩
       ·replace c23:=Bool.eq_false_iff.mpr c23
        subst c23
        have H1 : (impl_SameCycle.l0 k2 (l0_0.length : Int) (wrap64 (x19_2 + 1)) l0_0 l0_1 l1_0 l1_1) = some (r1,r2):=by rw [if_neg (show ¬ (false = true) by decide)] at H; exact H
        clear H
        have H:=H1
        clear H1
        have H':=Aside0.mk H
        clear H
        have hnb46:=NB402_403.out
        have hnc46:=NB403_402.out
        have hcz47_0 : wr.cell? ⟨gb402,0,none⟩ = some (.slice A0_0 l0_0.length c0_0):=(blk_cell BK402.out 0).trans rfl
        have hcz47_1 : wr.cell? ⟨gb402,1,none⟩ = some (.slice A0_1 l0_1.length c0_1):=(blk_cell BK402.out 1).trans rfl
        have hfz47_0:=blk_frozen BK402.out 0
        have hfz47_1:=blk_frozen BK402.out 1
        go_wp2_with (first|((with_reducible refine gate_callee (f:=41) rfl ?_); refine goesL_ (some 24) rfl rfl Tryz.func41 (by kernel_rfl) rfl #[.agg #[.slice A0_0 l0_0.length c0_0,.slice A0_1 l0_1.length c0_1],.int .i64 x19_2] rfl (by (try simp only [List.map_toArray,List.map_cons,List.map_nil]); (rfl)) ?_; (with_reducible refine (impl_turned.calls _ _ l0_0 _ _ l0_1 x19_2 t406 t409 _ ?side1 ?side2 ?side3 ?side4 A21.out).mono ?_); (case side1 => repeat ((exact (Kd.C_below HR0_0.out HB.out)))); (case side2 => exact HC0_0.out); (case side3 => repeat ((exact (Kd.C_below HR0_1.out HB.out)))); (case side4 => exact HC0_1.out); rintro e w48 ⟨v407,v410,rfl,ho0,ho1,hb⟩; refine ⟨_,rfl,?_⟩; have n0_:=Aside0.mk (Kd.R_lower ho0 (below_size (by repeat (((with_reducible (exact HB.out))))))); have n1_:=Aside0.mk (Kd.R_lower ho1 (below_size (by repeat (((with_reducible (exact HB.out))))))); have n2_:=Aside0.mk (blk_below (g:=gb402) (o:=.cells #[.slice A0_0 l0_0.length c0_0,.slice A0_1 l0_1.length c0_1] 26 (0,0)) (by exact BK402.out) hb); have n3_:=Aside0.mk (blk_below (g:=gb403) (o:=.cells #[.slice A1_0 l1_0.length c1_0,.slice A1_1 l1_1.length c1_1] 26 (0,0)) (by exact BK403.out) hb); have n4_:=Aside0.mk (below_step (by repeat (((with_reducible (exact HB.out))))) hb); clear BK402; clear BK403; clear HB; have HO408:=n0_; have HO411:=n1_; have BK402:=n2_; have BK403:=n3_; have HB:=n4_; clear n0_ n1_ n2_ n3_ n4_; (try clear hb); (try clear hb2); (try clear hk); (try clear hi); (try clear ho0); (try clear ho1))|((with_reducible refine gate_dst (N:=7) rfl ?_); refine box_event ?hg (N:=7) ?hd (cs:=#[.slice none 0 0,.slice none 0 0]) (t:=26) ?hr ?_; (case hd => rfl); (case hg => rfl); (case hr => (go_simp; done)); intro gb412 hg w49 hbox hb; have n0_:=Aside0.mk (Kd.R_below (by exact HO408.out) hb); have n1_:=Aside0.mk (Kd.R_below (by exact HO411.out) hb); have n2_:=Aside0.mk (blk_below (g:=gb402) (o:=.cells #[.slice A0_0 l0_0.length c0_0,.slice A0_1 l0_1.length c0_1] 26 (0,0)) (by exact BK402.out) hb); have n3_:=Aside0.mk (blk_below (g:=gb403) (o:=.cells #[.slice A1_0 l1_0.length c1_0,.slice A1_1 l1_1.length c1_1] 26 (0,0)) (by exact BK403.out) hb); have n4_:=Aside0.mk (below_step (by repeat (((with_reducible (exact HB.out))))) hb); have n5_:=Aside0.mk (hbox); have n6_:=Aside0.mk ((by rw [hg]; exact (below_size (by repeat (((with_reducible (exact HB.out)))))) : w.heap.size ≤ gb412)); have n7_:=Aside0.mk ((by rw [hg]; exact (below_size (by repeat (((with_reducible (exact HB.out)))))) : w.heap.size ≤ gb412)); have n8_:=Aside0.mk ((by rw [hg]; exact Nat.ne_of_lt (blk_lt (g:=gb402) (o:=.cells #[.slice A0_0 l0_0.length c0_0,.slice A0_1 l0_1.length c0_1] 26 (0,0)) (by exact BK402.out)) : gb402 ≠ gb412)); have n9_:=Aside0.mk ((by rw [hg]; exact Nat.ne_of_gt (blk_lt (g:=gb402) (o:=.cells #[.slice A0_0 l0_0.length c0_0,.slice A0_1 l0_1.length c0_1] 26 (0,0)) (by exact BK402.out)) : gb412 ≠ gb402)); have n10_:=Aside0.mk ((by rw [hg]; exact Nat.ne_of_lt (blk_lt (g:=gb403) (o:=.cells #[.slice A1_0 l1_0.length c1_0,.slice A1_1 l1_1.length c1_1] 26 (0,0)) (by exact BK403.out)) : gb403 ≠ gb412)); have n11_:=Aside0.mk ((by rw [hg]; exact Nat.ne_of_gt (blk_lt (g:=gb403) (o:=.cells #[.slice A1_0 l1_0.length c1_0,.slice A1_1 l1_1.length c1_1] 26 (0,0)) (by exact BK403.out)) : gb412 ≠ gb403)); clear HO408; clear HO411; clear BK402; clear BK403; clear HB; have HO408:=n0_; have HO411:=n1_; have BK402:=n2_; have BK403:=n3_; have HB:=n4_; have BK412:=n5_; have GW412:=n6_; have GE412:=n7_; have NB402_412:=n8_; have NB412_402:=n9_; have NB403_412:=n10_; have NB412_403:=n11_; clear n0_ n1_ n2_ n3_ n4_ n5_ n6_ n7_ n8_ n9_ n10_ n11_; clear hb hbox hg; obtain ⟨Ao50,co50,eo50⟩:=Kd.R_slice HO408.out; subst eo50; have hnb51:=NB412_402.out; have hnc51:=NB402_412.out; have hnb52:=NB412_403.out; have hnc52:=NB403_412.out; have hcz53_0 : w49.cell? ⟨gb412,0,none⟩ = some (.slice none 0 0):=(blk_cell BK412.out 0).trans rfl; have hcz53_1 : w49.cell? ⟨gb412,1,none⟩ = some (.slice none 0 0):=(blk_cell BK412.out 1).trans rfl; have hfz53_0:=blk_frozen BK412.out 0; have hfz53_1:=blk_frozen BK412.out 1; obtain ⟨Ao54,co54,eo54⟩:=Kd.R_slice HO411.out; subst eo54; have hcz55_0 : w49.cell? ⟨gb403,0,none⟩ = some (.slice A1_0 l1_0.length c1_0):=(blk_cell BK403.out 0).trans rfl; have hcz55_1 : w49.cell? ⟨gb403,1,none⟩ = some (.slice A1_1 l1_1.length c1_1):=(blk_cell BK403.out 1).trans rfl; have hfz55_0:=blk_frozen BK403.out 0; have hfz55_1:=blk_frozen BK403.out 1)|((with_reducible refine gate_callee (f:=44) rfl ?_); refine goesL_ (some 29) rfl rfl Tryz.func44 (by kernel_rfl) rfl #[.slice Ao50 t406.length co50,.slice A1_0 l1_0.length c1_0] rfl (by (try simp only [List.map_toArray,List.map_cons,List.map_nil]); (rfl)) ?_; (with_reducible refine (slices_Equal_int_int.calls k2 _ _ t406 _ _ l1_0 false _ ?side1 ?side2 ?side3 ?side4 A22.out).mono ?_); (case side1 => refine (Kd.R_reads' (e:=3) (base:=w.heap.size) (ok:=fun k_ => some k_ ≠ (.slice Ao54 t409.length co54 : Value).ownBlock) (n:=t406.length) (c:=co50) ?_).2.2; exact (by exact (Kd.R_mono (Kd.R_far (p:=⟨gb412,1,none⟩) (Kd.R_far (p:=⟨gb412,0,none⟩) (Kd.R_types HO408.out BK412.out (by decide)) (fun _ hk => hk.2) (.slice Ao50 t406.length co50)) (fun _ hk => hk.2) (.slice Ao54 t409.length co54)) (fun _ h_ => h_.1)))); (case side2 => exact (Kd.R_reads' HO408.out).2.1); (case side3 => exact Kd.C_below HR1_0.out (by repeat (with_reducible first|exact HB.out|refine below_set ?_ GE412.out))); (case side4 => exact HC1_0.out); rintro e w' ⟨rfl,⟨nd,rfl⟩⟩; refine ⟨_,rfl,?_⟩))
        go_roundg k2
        case measure => have:=HJ2.out; have:=HK2.out; omega
        case rel => exact ⟨(wrap64 (x19_2 + 1)),(by (rfl)),H',⟨by have:=HJ2.out; have:=HK2.out; omega⟩,⟨by (with_reducible repeat (refine blk_drewN ?_ _)); refine blk_far ?_ NB402_412.out _; refine blk_far ?_ NB402_412.out _; exact BK402.out⟩,⟨by (with_reducible repeat (refine blk_drewN ?_ _)); refine blk_far ?_ NB403_412.out _; refine blk_far ?_ NB403_412.out _; exact BK403.out⟩,⟨by repeat (with_reducible first|exact HB.out|apply pw_below_drewN|refine below_set ?_ GE412.out)⟩⟩
      ·rw [if_neg c20] at H
       have c20b0 : decide (x19_2 < (l0_0.length : Int)) = false:=decide_eq_false c20
       clear c20
       simp only [Option.some.injEq,Prod.mk.injEq] at H
       obtain ⟨rfl,rfl⟩:=H
       go_wp2
       go_ret2
       exact ⟨by (rfl),by repeat (((with_reducible (exact HB.out))))⟩

end Go.Proofs.YtfindomajbjacaaGreatDoor.X
