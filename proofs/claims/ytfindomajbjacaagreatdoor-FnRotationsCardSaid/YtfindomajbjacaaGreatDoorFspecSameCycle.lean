-- Written by a program of ours (wip/bin/xprint.py,over the kit's print.py) out of the translation. Not trusted: Lean checks it.
import Derived.Test.YtfindomajbjacaaGreatDoorX0
import Derived.Test.YtfindomajbjacaaGreatDoorFbList
import Derived.Test.YtfindomajbjacaaGreatDoorFbTurn
import Derived.Test.YtfindomajbjacaaGreatDoorGl3Good
namespace Go.Proofs.YtfindomajbjacaaGreatDoor.X
open Go.RowKit Go.Proofs.YtfindomajbjacaaGreatDoorW.PrintWords Go.Proofs.YtfindomajbjacaaGreatDoorW.PrintLast Go.Proofs.YtfindomajbjacaaGreatDoorW.PrintMore
attribute [local go_sem] max2_int min2_int max_two min_two max_three min_three max_four min_four   -- for this text's walks alone
set_option linter.unusedVariables false
set_option linter.unusedSimpArgs false

/-! ### spec_SameCycle: function 17 -/
mutual
def spec_SameCycle.j0 : Nat → Bool → List Int → List Int → List Int → List Int → Option (Bool × Bool)
 | 0,_,_,_,_,_ => none
 | k + 1,x15,x465000,x465001,x466000,x466001 => if x15 = true then (some (false,false)) else (spec_SameCycle.l0 k 0 x465000 x465001 x466000 x466001)
def spec_SameCycle.l0 : Nat → Int → List Int → List Int → List Int → List Int → Option (Bool × Bool)
 | 0,_,_,_,_,_ => none
 | k + 1,x6,x465000,x465001,x466000,x466001 => if x6 < (x465000.length : Int) then ((spec_l3Turn.f x465000 x465001 x6).bind fun bt468 => ((spec_l1Same.f k bt468.1 x466000).bind fun t475 => (if t475 = true then ((spec_l1Same.f k bt468.2 x466001).bind fun t476 => (if t476 = true then (some (true,true)) else (spec_SameCycle.l0 k (wrap64 (x6 + 1)) x465000 x465001 x466000 x466001))) else (spec_SameCycle.l0 k (wrap64 (x6 + 1)) x465000 x465001 x466000 x466001)))) else (some (false,true))
end
def spec_SameCycle.f (k : Nat) (l0_0 : List Int) (l0_1 : List Int) (l1_0 : List Int) (l1_1 : List Int) : Option (Bool × Bool):=(spec_l3Good.f k l0_0 l0_1).bind fun t466 => (if t466 = true then ((spec_l3Good.f k l1_0 l1_1).bind fun t467 => (spec_SameCycle.j0 k (!t467) l0_0 l0_1 l1_0 l1_1)) else (spec_SameCycle.j0 k true l0_0 l0_1 l1_0 l1_1))
theorem spec_SameCycle.mono_l : ∀ k,(∀ y0 y1 y2 y3 y4,LeO (spec_SameCycle.j0 k y0 y1 y2 y3 y4) (spec_SameCycle.j0 (k + 1) y0 y1 y2 y3 y4)) ∧ (∀ y0 y1 y2 y3 y4,LeO (spec_SameCycle.l0 k y0 y1 y2 y3 y4) (spec_SameCycle.l0 (k + 1) y0 y1 y2 y3 y4))
 | 0 => ⟨fun _ _ _ _ _ r h => by simp [spec_SameCycle.j0] at h,fun _ _ _ _ _ r h => by simp [spec_SameCycle.l0] at h⟩
 | k + 1 => by
  obtain ⟨ih0,ih1⟩:=spec_SameCycle.mono_l k
  refine ⟨?_,?_⟩ <;> intros <;> first | unfold spec_SameCycle.j0 | unfold spec_SameCycle.l0
  all_goals repeat' first | (with_reducible exact ih0 _ _ _ _ _) | (with_reducible exact ih1 _ _ _ _ _) | (with_reducible exact spec_l1Same.mono _ _ _) | (with_reducible exact spec_l3Good.mono _ _ _) | (with_reducible exact LeO.refl _) | (with_reducible exact LeO.none _) | (with_reducible refine LeO.ite ?_ ?_) | (with_reducible refine LeO.bind ?_ (fun _ => ?_)) | exact ih0 _ _ _ _ _ | exact ih1 _ _ _ _ _ | refine LeO.ite ?_ ?_ | refine LeO.bind ?_ (fun _ => ?_)
theorem spec_SameCycle.mono : ∀ a0 a1 a2 a3 k,LeO (spec_SameCycle.f k a0 a1 a2 a3) (spec_SameCycle.f (k + 1) a0 a1 a2 a3):=by
 intro a0 a1 a2 a3 k
 obtain ⟨ih0,ih1⟩:=spec_SameCycle.mono_l k
 unfold spec_SameCycle.f
 repeat' first
   | (with_reducible exact ih0 _ _ _ _ _)
   | (with_reducible exact ih1 _ _ _ _ _)
   | (with_reducible exact spec_l1Same.mono _ _ _)
   | (with_reducible exact spec_l3Good.mono _ _ _)
   | (with_reducible exact LeO.refl _)
   | (with_reducible exact LeO.none _)
   | (with_reducible refine LeO.ite ?_ ?_)
   | (with_reducible refine LeO.bind ?_ (fun _ => ?_))
   | exact ih0 _ _ _ _ _
   | exact ih1 _ _ _ _ _
   | exact spec_l1Same.mono _ _ _
   | exact spec_l3Good.mono _ _ _
   | exact LeO.none _
   | refine LeO.ite ?_ ?_
   | refine LeO.bind ?_ (fun _ => ?_)
set_option maxHeartbeats 8000000 in
set_option maxRecDepth 100000 in
theorem spec_SameCycle.calls (k : Nat) (A0_0 : Option Addr) (c0_0 : Nat) (l0_0 : List Int) (A0_1 : Option Addr) (c0_1 : Nat) (l0_1 : List Int) (A1_0 : Option Addr) (c1_0 : Nat) (l1_0 : List Int) (A1_1 : Option Addr) (c1_1 : Nat) (l1_1 : List Int) (r1 : Bool) (r2 : Bool) (w : World) (hr0_0 : Kd.C (Kd.int .i64) w A0_0 l0_0.length l0_0) (hc0_0 : l0_0.length ≤ c0_0) (hr0_1 : Kd.C (Kd.int .i64) w A0_1 l0_1.length l0_1) (hc0_1 : l0_1.length ≤ c0_1) (hr1_0 : Kd.C (Kd.int .i64) w A1_0 l1_0.length l1_0) (hc1_0 : l1_0.length ≤ c1_0) (hr1_1 : Kd.C (Kd.int .i64) w A1_1 l1_1.length l1_1) (hc1_1 : l1_1.length ≤ c1_1) (h : spec_SameCycle.f k l0_0 l0_1 l1_0 l1_1 = some (r1,r2)) :
  Calls Tryz.prog 17 #[.agg #[.slice A0_0 l0_0.length c0_0,.slice A0_1 l0_1.length c0_1],.agg #[.slice A1_0 l1_0.length c1_0,.slice A1_1 l1_1.length c1_1]] w fun e w' => e = .returned (.tuple #[.bool r1,.bool r2]) ∧ Below w.heap.size w w':=by
 have hu26:=Tryz.underlying26
 have HR0_0:=Aside0.mk hr0_0
 have HC0_0:=Aside0.mk hc0_0
 clear hr0_0 hc0_0
 have HR0_1:=Aside0.mk hr0_1
 have HC0_1:=Aside0.mk hc0_1
 clear hr0_1 hc0_1
 have HR1_0:=Aside0.mk hr1_0
 have HC1_0:=Aside0.mk hc1_0
 clear hr1_0 hc1_0
 have HR1_1:=Aside0.mk hr1_1
 have HC1_1:=Aside0.mk hc1_1
 clear hr1_1 hc1_1
 have HB:=Aside0.mk (Below.refl w.heap.size w)
 have H : ((spec_l3Good.f k l0_0 l0_1).bind fun t466 => (if t466 = true then ((spec_l3Good.f k l1_0 l1_1).bind fun t467 => (spec_SameCycle.j0 k (!t467) l0_0 l0_1 l1_0 l1_1)) else (spec_SameCycle.j0 k true l0_0 l0_1 l1_0 l1_1))) = some (r1,r2):=h
 clear h
 have HC3:=Aside0.mk H
 clear H
 go_enter Tryz.func17,Tryz.ntmps17
 go_upto_region 1 with (first|((with_reducible refine gate_dst (N:=2) rfl ?_); refine box_event ?hg (N:=2) ?hd (cs:=#[.slice A0_0 l0_0.length c0_0,.slice A0_1 l0_1.length c0_1]) (t:=26) ?hr ?_; (case hd => rfl); (case hg => rfl); (case hr => (go_simp; done)); intro gb464 hg w4 hbox hb; have n0_:=Aside0.mk (below_step (by repeat (((with_reducible (exact HB.out))))) hb); have n1_:=Aside0.mk (hbox); have n2_:=Aside0.mk ((by rw [hg]; exact (below_size (by repeat (((with_reducible (exact HB.out)))))) : w.heap.size ≤ gb464)); have n3_:=Aside0.mk ((by rw [hg]; exact (below_size (by repeat (((with_reducible (exact HB.out)))))) : w.heap.size ≤ gb464)); clear HB; have HB:=n0_; have BK464:=n1_; have GW464:=n2_; have GE464:=n3_; clear n0_ n1_ n2_ n3_; clear hb hbox hg)|((with_reducible refine gate_dst (N:=3) rfl ?_); refine box_event ?hg (N:=3) ?hd (cs:=#[.slice A1_0 l1_0.length c1_0,.slice A1_1 l1_1.length c1_1]) (t:=26) ?hr ?_; (case hd => rfl); (case hg => rfl); (case hr => (go_simp; done)); intro gb465 hg w5 hbox hb; have n0_:=Aside0.mk (blk_below (g:=gb464) (o:=.cells #[.slice A0_0 l0_0.length c0_0,.slice A0_1 l0_1.length c0_1] 26 (0,0)) (by exact BK464.out) hb); have n1_:=Aside0.mk (below_step (by repeat (((with_reducible (exact HB.out))))) hb); have n2_:=Aside0.mk (hbox); have n3_:=Aside0.mk ((by rw [hg]; exact (below_size (by repeat (((with_reducible (exact HB.out)))))) : w.heap.size ≤ gb465)); have n4_:=Aside0.mk ((by rw [hg]; exact (below_size (by repeat (((with_reducible (exact HB.out)))))) : w.heap.size ≤ gb465)); have n5_:=Aside0.mk ((by rw [hg]; exact Nat.ne_of_lt (blk_lt (g:=gb464) (o:=.cells #[.slice A0_0 l0_0.length c0_0,.slice A0_1 l0_1.length c0_1] 26 (0,0)) (by exact BK464.out)) : gb464 ≠ gb465)); have n6_:=Aside0.mk ((by rw [hg]; exact Nat.ne_of_gt (blk_lt (g:=gb464) (o:=.cells #[.slice A0_0 l0_0.length c0_0,.slice A0_1 l0_1.length c0_1] 26 (0,0)) (by exact BK464.out)) : gb465 ≠ gb464)); clear BK464; clear HB; have BK464:=n0_; have HB:=n1_; have BK465:=n2_; have GW465:=n3_; have GE465:=n4_; have NB464_465:=n5_; have NB465_464:=n6_; clear n0_ n1_ n2_ n3_ n4_ n5_ n6_; clear hb hbox hg))
 (try simp only [Act.put,List.setIfInBounds_toArray,List.set_cons_zero,List.set_cons_succ])
 go_cut [15] (fun v15 wc => ∃ (kq : Nat) (x15_2 : Bool),v15 = .bool x15_2 ∧ Aside0 (spec_SameCycle.j0 kq x15_2 l0_0 l0_1 l1_0 l1_1 = some (r1,r2)) ∧ Aside0 (kq ≤ k) ∧ Aside0 (wc.heap[gb464]? = some (.cells #[(.slice A0_0 l0_0.length c0_0),(.slice A0_1 l0_1.length c0_1)] 26 (0,0))) ∧ Aside0 (wc.heap[gb465]? = some (.cells #[(.slice A1_0 l1_0.length c1_0),(.slice A1_1 l1_1.length c1_1)] 26 (0,0))) ∧ Aside0 (Below w.heap.size w wc))
 case first =>
  have H:=HC3.out
  clear HC3
  replace H:=Option.bind_eq_some_iff.mp H
  obtain ⟨t466,A60,H⟩:=H
  replace H : (if t466 = true then ((spec_l3Good.f k l1_0 l1_1).bind fun t467 => (spec_SameCycle.j0 k (!t467) l0_0 l0_1 l1_0 l1_1)) else (spec_SameCycle.j0 k true l0_0 l0_1 l1_0 l1_1)) = some (r1,r2):=H
  have A6:=Aside0.mk A60
  clear A60
  by_cases c7 : t466 = true
  ·subst c7
   have H1 : ((spec_l3Good.f k l1_0 l1_1).bind fun t467 => (spec_SameCycle.j0 k (!t467) l0_0 l0_1 l1_0 l1_1)) = some (r1,r2):=by rw [if_pos rfl] at H; exact H
   clear H
   have H:=H1
   clear H1
   replace H:=Option.bind_eq_some_iff.mp H
   obtain ⟨t467,A80,H⟩:=H
   replace H : (spec_SameCycle.j0 k (!t467) l0_0 l0_1 l1_0 l1_1) = some (r1,r2):=H
   have A8:=Aside0.mk A80
   clear A80
   have H':=Aside0.mk H
   clear H
   have hnb9:=NB464_465.out
   have hnc9:=NB465_464.out
   have hcz10_0 : w5.cell? ⟨gb464,0,none⟩ = some (.slice A0_0 l0_0.length c0_0):=(blk_cell BK464.out 0).trans rfl
   have hcz10_1 : w5.cell? ⟨gb464,1,none⟩ = some (.slice A0_1 l0_1.length c0_1):=(blk_cell BK464.out 1).trans rfl
   have hfz10_0:=blk_frozen BK464.out 0
   have hfz10_1:=blk_frozen BK464.out 1
   go_wp2_with (first|((with_reducible refine gate_callee (f:=33) rfl ?_); refine goesL_ (some 9) rfl rfl Tryz.func33 (by kernel_rfl) rfl #[.agg #[.slice A0_0 l0_0.length c0_0,.slice A0_1 l0_1.length c0_1]] rfl (by (try simp only [List.map_toArray,List.map_cons,List.map_nil]); (rfl)) ?_; (with_reducible refine (spec_l3Good.calls k _ _ l0_0 _ _ l0_1 true _ ?side1 ?side2 ?side3 ?side4 A6.out).mono ?_); (case side1 => repeat ((exact (Kd.C_below HR0_0.out HB.out)))); (case side2 => exact HC0_0.out); (case side3 => repeat ((exact (Kd.C_below HR0_1.out HB.out)))); (case side4 => exact HC0_1.out); rintro e w11 ⟨rfl,hb⟩; refine ⟨_,rfl,?_⟩; have n0_:=Aside0.mk (blk_below (g:=gb464) (o:=.cells #[.slice A0_0 l0_0.length c0_0,.slice A0_1 l0_1.length c0_1] 26 (0,0)) (by exact BK464.out) hb); have n1_:=Aside0.mk (blk_below (g:=gb465) (o:=.cells #[.slice A1_0 l1_0.length c1_0,.slice A1_1 l1_1.length c1_1] 26 (0,0)) (by exact BK465.out) hb); have n2_:=Aside0.mk (below_step (by repeat (((with_reducible (exact HB.out))))) hb); clear BK464; clear BK465; clear HB; have BK464:=n0_; have BK465:=n1_; have HB:=n2_; clear n0_ n1_ n2_; (try clear hb); (try clear hb2); (try clear hk); (try clear hi); have hcz12_0 : w11.cell? ⟨gb465,0,none⟩ = some (.slice A1_0 l1_0.length c1_0):=(blk_cell BK465.out 0).trans rfl; have hcz12_1 : w11.cell? ⟨gb465,1,none⟩ = some (.slice A1_1 l1_1.length c1_1):=(blk_cell BK465.out 1).trans rfl; have hfz12_0:=blk_frozen BK465.out 0; have hfz12_1:=blk_frozen BK465.out 1)|(go_at_call 33; (with_reducible refine (spec_l3Good.calls k _ _ l1_0 _ _ l1_1 t467 _ ?side1 ?side2 ?side3 ?side4 A8.out).mono ?_); (case side1 => repeat ((exact (Kd.C_below HR1_0.out HB.out)))); (case side2 => exact HC1_0.out); (case side3 => repeat ((exact (Kd.C_below HR1_1.out HB.out)))); (case side4 => exact HC1_1.out); rintro e w13 ⟨rfl,hb⟩; have n0_:=Aside0.mk (blk_below (g:=gb464) (o:=.cells #[.slice A0_0 l0_0.length c0_0,.slice A0_1 l0_1.length c0_1] 26 (0,0)) (by exact BK464.out) hb); have n1_:=Aside0.mk (blk_below (g:=gb465) (o:=.cells #[.slice A1_0 l1_0.length c1_0,.slice A1_1 l1_1.length c1_1] 26 (0,0)) (by exact BK465.out) hb); have n2_:=Aside0.mk (below_step (by repeat (((with_reducible (exact HB.out))))) hb); clear BK464; clear BK465; clear HB; have BK464:=n0_; have BK465:=n1_; have HB:=n2_; clear n0_ n1_ n2_; (try clear hb); (try clear hb2); (try clear hk); (try clear hi)))
   go_meet
   case rel => exact ⟨_,(!t467),(by (rfl)),H',⟨by (omega)⟩,⟨by exact BK464.out⟩,⟨by exact BK465.out⟩,⟨by repeat (((with_reducible (exact HB.out))))⟩⟩
  ·replace c7:=Bool.eq_false_iff.mpr c7
   subst c7
   have H1 : (spec_SameCycle.j0 k true l0_0 l0_1 l1_0 l1_1) = some (r1,r2):=by rw [if_neg (show ¬ (false = true) by decide)] at H; exact H
   clear H
   have H:=H1
   clear H1
   have H':=Aside0.mk H
   clear H
   have hnb14:=NB464_465.out
   have hnc14:=NB465_464.out
   have hcz15_0 : w5.cell? ⟨gb464,0,none⟩ = some (.slice A0_0 l0_0.length c0_0):=(blk_cell BK464.out 0).trans rfl
   have hcz15_1 : w5.cell? ⟨gb464,1,none⟩ = some (.slice A0_1 l0_1.length c0_1):=(blk_cell BK464.out 1).trans rfl
   have hfz15_0:=blk_frozen BK464.out 0
   have hfz15_1:=blk_frozen BK464.out 1
   go_wp2_with ((((with_reducible refine gate_callee (f:=33) rfl ?_); refine goesL_ (some 9) rfl rfl Tryz.func33 (by kernel_rfl) rfl #[.agg #[.slice A0_0 l0_0.length c0_0,.slice A0_1 l0_1.length c0_1]] rfl (by (try simp only [List.map_toArray,List.map_cons,List.map_nil]); (rfl)) ?_; (with_reducible refine (spec_l3Good.calls k _ _ l0_0 _ _ l0_1 false _ ?side1 ?side2 ?side3 ?side4 A6.out).mono ?_); (case side1 => repeat ((exact (Kd.C_below HR0_0.out HB.out)))); (case side2 => exact HC0_0.out); (case side3 => repeat ((exact (Kd.C_below HR0_1.out HB.out)))); (case side4 => exact HC0_1.out); rintro e w16 ⟨rfl,hb⟩; refine ⟨_,rfl,?_⟩; have n0_:=Aside0.mk (blk_below (g:=gb464) (o:=.cells #[.slice A0_0 l0_0.length c0_0,.slice A0_1 l0_1.length c0_1] 26 (0,0)) (by exact BK464.out) hb); have n1_:=Aside0.mk (blk_below (g:=gb465) (o:=.cells #[.slice A1_0 l1_0.length c1_0,.slice A1_1 l1_1.length c1_1] 26 (0,0)) (by exact BK465.out) hb); have n2_:=Aside0.mk (below_step (by repeat (((with_reducible (exact HB.out))))) hb); clear BK464; clear BK465; clear HB; have BK464:=n0_; have BK465:=n1_; have HB:=n2_; clear n0_ n1_ n2_; (try clear hb); (try clear hb2); (try clear hk); (try clear hi))))
   go_meet
   case rel => exact ⟨_,(true),(by (rfl)),H',⟨by (omega)⟩,⟨by exact BK464.out⟩,⟨by exact BK465.out⟩,⟨by repeat (((with_reducible (exact HB.out))))⟩⟩
 case rest =>
  clear HC3
  try clear c1
  try clear p2
  try clear c3
  try clear c7
  try clear c9
  try clear c14
  try clear hcz10_0
  try clear hcz10_1
  try clear hcz12_0
  try clear hcz12_1
  try clear hcz15_0
  try clear hcz15_1
  try clear hfz10_0
  try clear hfz10_1
  try clear hfz12_0
  try clear hfz12_1
  try clear hfz15_0
  try clear hfz15_1
  obtain ⟨kq,x15_2,rfl,HA,HJ2,BK464,BK465,HB⟩:=hcut
  cases kq with
  | zero => exact absurd HA.out (by simp [spec_SameCycle.j0])
  | succ kj2 =>
   have H:=HA.out
   clear HA
   simp only [spec_SameCycle.j0] at H
   by_cases c17 : x15_2 = true
   ·subst c17
    have H1 : (some (false,false)) = some (r1,r2):=by rw [if_pos rfl] at H; exact H
    clear H
    have H:=H1
    clear H1
    simp only [Option.some.injEq,Prod.mk.injEq] at H
    obtain ⟨rfl,rfl⟩:=H
    go_wp2
    go_ret2
    exact ⟨by (rfl),by repeat (((with_reducible (exact HB.out))))⟩
   ·replace c17:=Bool.eq_false_iff.mpr c17
    subst c17
    have H1 : (spec_SameCycle.l0 kj2 0 l0_0 l0_1 l1_0 l1_1) = some (r1,r2):=by rw [if_neg (show ¬ (false = true) by decide)] at H; exact H
    clear H
    have H:=H1
    clear H1
    have H':=Aside0.mk H
    clear H
    go_wp2
    go_loopg [6] kj2 (fun kq v6 w' => ∃ (x6_2 : Int),v6 = .int .i64 x6_2 ∧ Aside0 (spec_SameCycle.l0 kq x6_2 l0_0 l0_1 l1_0 l1_1 = some (r1,r2)) ∧ Aside0 (kq ≤ kj2) ∧ Aside0 (w'.heap[gb464]? = some (.cells #[(.slice A0_0 l0_0.length c0_0),(.slice A0_1 l0_1.length c0_1)] 26 (0,0))) ∧ Aside0 (w'.heap[gb465]? = some (.cells #[(.slice A1_0 l1_0.length c1_0),(.slice A1_1 l1_1.length c1_1)] 26 (0,0))) ∧ Aside0 (Below w.heap.size w w'))
    case atStart => exact ⟨(0),(by (rfl)),H',⟨Nat.le_refl _⟩,⟨by exact BK464.out⟩,⟨by exact BK465.out⟩,⟨by repeat (((with_reducible (exact HB.out))))⟩⟩
    case round =>
     clear H'
     try clear c1
     try clear p2
     try clear c3
     try clear c7
     try clear c9
     try clear c14
     try clear c17
     try clear hcz10_0
     try clear hcz10_1
     try clear hcz12_0
     try clear hcz12_1
     try clear hcz15_0
     try clear hcz15_1
     try clear hfz10_0
     try clear hfz10_1
     try clear hfz12_0
     try clear hfz12_1
     try clear hfz15_0
     try clear hfz15_1
     try clear p2
     obtain ⟨x6_2,rfl,HA,HK2,BK464,BK465,HB⟩:=hrel
     cases gk with
     | zero => exact absurd HA.out (by simp [spec_SameCycle.l0])
     | succ k2 =>
      have H:=HA.out
      clear HA
      simp only [spec_SameCycle.l0] at H
      by_cases c18 : x6_2 < (l0_0.length : Int)
      ·rw [if_pos c18] at H
       have c18b0 : decide (x6_2 < (l0_0.length : Int)) = true:=decide_eq_true c18
       clear c18
       replace H:=Option.bind_eq_some_iff.mp H
       obtain ⟨⟨t468,t471⟩,A190,H⟩:=H
       replace H : ((spec_l1Same.f k2 t468 l1_0).bind fun t475 => (if t475 = true then ((spec_l1Same.f k2 t471 l1_1).bind fun t476 => (if t476 = true then (some (true,true)) else (spec_SameCycle.l0 k2 (wrap64 (x6_2 + 1)) l0_0 l0_1 l1_0 l1_1))) else (spec_SameCycle.l0 k2 (wrap64 (x6_2 + 1)) l0_0 l0_1 l1_0 l1_1))) = some (r1,r2):=H
       have A19:=Aside0.mk A190
       clear A190
       replace H:=Option.bind_eq_some_iff.mp H
       obtain ⟨t475,A200,H⟩:=H
       replace H : (if t475 = true then ((spec_l1Same.f k2 t471 l1_1).bind fun t476 => (if t476 = true then (some (true,true)) else (spec_SameCycle.l0 k2 (wrap64 (x6_2 + 1)) l0_0 l0_1 l1_0 l1_1))) else (spec_SameCycle.l0 k2 (wrap64 (x6_2 + 1)) l0_0 l0_1 l1_0 l1_1)) = some (r1,r2):=H
       have A20:=Aside0.mk A200
       clear A200
       by_cases c21 : t475 = true
       ·subst c21
        have H1 : ((spec_l1Same.f k2 t471 l1_1).bind fun t476 => (if t476 = true then (some (true,true)) else (spec_SameCycle.l0 k2 (wrap64 (x6_2 + 1)) l0_0 l0_1 l1_0 l1_1))) = some (r1,r2):=by rw [if_pos rfl] at H; exact H
        clear H
        have H:=H1
        clear H1
        replace H:=Option.bind_eq_some_iff.mp H
        obtain ⟨t476,A220,H⟩:=H
        replace H : (if t476 = true then (some (true,true)) else (spec_SameCycle.l0 k2 (wrap64 (x6_2 + 1)) l0_0 l0_1 l1_0 l1_1)) = some (r1,r2):=H
        have A22:=Aside0.mk A220
        clear A220
        by_cases c23 : t476 = true
        ·subst c23
         have H1 : (some (true,true)) = some (r1,r2):=by rw [if_pos rfl] at H; exact H
         clear H
         have H:=H1
         clear H1
         simp only [Option.some.injEq,Prod.mk.injEq] at H
         obtain ⟨rfl,rfl⟩:=H
         have hnb24:=NB464_465.out
         have hnc24:=NB465_464.out
         have hcz25_0 : wr.cell? ⟨gb464,0,none⟩ = some (.slice A0_0 l0_0.length c0_0):=(blk_cell BK464.out 0).trans rfl
         have hcz25_1 : wr.cell? ⟨gb464,1,none⟩ = some (.slice A0_1 l0_1.length c0_1):=(blk_cell BK464.out 1).trans rfl
         have hfz25_0:=blk_frozen BK464.out 0
         have hfz25_1:=blk_frozen BK464.out 1
         go_wp2_with (first|((with_reducible refine gate_callee (f:=43) rfl ?_); refine goesL_ (some 25) rfl rfl Tryz.func43 (by kernel_rfl) rfl #[.agg #[.slice A0_0 l0_0.length c0_0,.slice A0_1 l0_1.length c0_1],.int .i64 x6_2] rfl (by (try simp only [List.map_toArray,List.map_cons,List.map_nil]); (rfl)) ?_; (with_reducible refine (spec_l3Turn.calls _ _ l0_0 _ _ l0_1 x6_2 t468 t471 _ ?side1 ?side2 ?side3 ?side4 A19.out).mono ?_); (case side1 => repeat ((exact (Kd.C_below HR0_0.out HB.out)))); (case side2 => exact HC0_0.out); (case side3 => repeat ((exact (Kd.C_below HR0_1.out HB.out)))); (case side4 => exact HC0_1.out); rintro e w26 ⟨v469,v472,rfl,ho0,ho1,hb⟩; refine ⟨_,rfl,?_⟩; have n0_:=Aside0.mk (Kd.R_lower ho0 (below_size (by repeat (((with_reducible (exact HB.out))))))); have n1_:=Aside0.mk (Kd.R_lower ho1 (below_size (by repeat (((with_reducible (exact HB.out))))))); have n2_:=Aside0.mk (blk_below (g:=gb464) (o:=.cells #[.slice A0_0 l0_0.length c0_0,.slice A0_1 l0_1.length c0_1] 26 (0,0)) (by exact BK464.out) hb); have n3_:=Aside0.mk (blk_below (g:=gb465) (o:=.cells #[.slice A1_0 l1_0.length c1_0,.slice A1_1 l1_1.length c1_1] 26 (0,0)) (by exact BK465.out) hb); have n4_:=Aside0.mk (below_step (by repeat (((with_reducible (exact HB.out))))) hb); clear BK464; clear BK465; clear HB; have HO470:=n0_; have HO473:=n1_; have BK464:=n2_; have BK465:=n3_; have HB:=n4_; clear n0_ n1_ n2_ n3_ n4_; (try clear hb); (try clear hb2); (try clear hk); (try clear hi); (try clear ho0); (try clear ho1))|((with_reducible refine gate_dst (N:=7) rfl ?_); refine box_event ?hg (N:=7) ?hd (cs:=#[.slice none 0 0,.slice none 0 0]) (t:=26) ?hr ?_; (case hd => rfl); (case hg => rfl); (case hr => (go_simp; done)); intro gb474 hg w27 hbox hb; have n0_:=Aside0.mk (Kd.R_below (by exact HO470.out) hb); have n1_:=Aside0.mk (Kd.R_below (by exact HO473.out) hb); have n2_:=Aside0.mk (blk_below (g:=gb464) (o:=.cells #[.slice A0_0 l0_0.length c0_0,.slice A0_1 l0_1.length c0_1] 26 (0,0)) (by exact BK464.out) hb); have n3_:=Aside0.mk (blk_below (g:=gb465) (o:=.cells #[.slice A1_0 l1_0.length c1_0,.slice A1_1 l1_1.length c1_1] 26 (0,0)) (by exact BK465.out) hb); have n4_:=Aside0.mk (below_step (by repeat (((with_reducible (exact HB.out))))) hb); have n5_:=Aside0.mk (hbox); have n6_:=Aside0.mk ((by rw [hg]; exact (below_size (by repeat (((with_reducible (exact HB.out)))))) : w.heap.size ≤ gb474)); have n7_:=Aside0.mk ((by rw [hg]; exact (below_size (by repeat (((with_reducible (exact HB.out)))))) : w.heap.size ≤ gb474)); have n8_:=Aside0.mk ((by rw [hg]; exact Nat.ne_of_lt (blk_lt (g:=gb464) (o:=.cells #[.slice A0_0 l0_0.length c0_0,.slice A0_1 l0_1.length c0_1] 26 (0,0)) (by exact BK464.out)) : gb464 ≠ gb474)); have n9_:=Aside0.mk ((by rw [hg]; exact Nat.ne_of_gt (blk_lt (g:=gb464) (o:=.cells #[.slice A0_0 l0_0.length c0_0,.slice A0_1 l0_1.length c0_1] 26 (0,0)) (by exact BK464.out)) : gb474 ≠ gb464)); have n10_:=Aside0.mk ((by rw [hg]; exact Nat.ne_of_lt (blk_lt (g:=gb465) (o:=.cells #[.slice A1_0 l1_0.length c1_0,.slice A1_1 l1_1.length c1_1] 26 (0,0)) (by exact BK465.out)) : gb465 ≠ gb474)); have n11_:=Aside0.mk ((by rw [hg]; exact Nat.ne_of_gt (blk_lt (g:=gb465) (o:=.cells #[.slice A1_0 l1_0.length c1_0,.slice A1_1 l1_1.length c1_1] 26 (0,0)) (by exact BK465.out)) : gb474 ≠ gb465)); clear HO470; clear HO473; clear BK464; clear BK465; clear HB; have HO470:=n0_; have HO473:=n1_; have BK464:=n2_; have BK465:=n3_; have HB:=n4_; have BK474:=n5_; have GW474:=n6_; have GE474:=n7_; have NB464_474:=n8_; have NB474_464:=n9_; have NB465_474:=n10_; have NB474_465:=n11_; clear n0_ n1_ n2_ n3_ n4_ n5_ n6_ n7_ n8_ n9_ n10_ n11_; clear hb hbox hg; obtain ⟨Ao28,co28,eo28⟩:=Kd.R_slice HO470.out; subst eo28; have hnb29:=NB474_464.out; have hnc29:=NB464_474.out; have hnb30:=NB474_465.out; have hnc30:=NB465_474.out; have hcz31_0 : w27.cell? ⟨gb474,0,none⟩ = some (.slice none 0 0):=(blk_cell BK474.out 0).trans rfl; have hcz31_1 : w27.cell? ⟨gb474,1,none⟩ = some (.slice none 0 0):=(blk_cell BK474.out 1).trans rfl; have hfz31_0:=blk_frozen BK474.out 0; have hfz31_1:=blk_frozen BK474.out 1; obtain ⟨Ao32,co32,eo32⟩:=Kd.R_slice HO473.out; subst eo32; have hcz33_0 : w27.cell? ⟨gb465,0,none⟩ = some (.slice A1_0 l1_0.length c1_0):=(blk_cell BK465.out 0).trans rfl; have hcz33_1 : w27.cell? ⟨gb465,1,none⟩ = some (.slice A1_1 l1_1.length c1_1):=(blk_cell BK465.out 1).trans rfl; have hfz33_0:=blk_frozen BK465.out 0; have hfz33_1:=blk_frozen BK465.out 1)|((with_reducible refine gate_callee (f:=49) rfl ?_); refine goesL_ (some 30) rfl rfl Tryz.func49 (by kernel_rfl) rfl #[.slice Ao28 t468.length co28,.slice A1_0 l1_0.length c1_0] rfl (by (try simp only [List.map_toArray,List.map_cons,List.map_nil]); (rfl)) ?_; (with_reducible refine (spec_l1Same.calls k2 _ _ t468 _ _ l1_0 true _ ?side1 ?side2 ?side3 ?side4 A20.out).mono ?_); (case side1 => refine (Kd.R_reads' (e:=3) (base:=w.heap.size) (ok:=fun k_ => some k_ ≠ (.slice Ao32 t471.length co32 : Value).ownBlock) (n:=t468.length) (c:=co28) ?_).2.2; exact (by exact (Kd.R_mono (Kd.R_far (p:=⟨gb474,1,none⟩) (Kd.R_far (p:=⟨gb474,0,none⟩) (Kd.R_types HO470.out BK474.out (by decide)) (fun _ hk => hk.2) (.slice Ao28 t468.length co28)) (fun _ hk => hk.2) (.slice Ao32 t471.length co32)) (fun _ h_ => h_.1)))); (case side2 => exact (Kd.R_reads' HO470.out).2.1); (case side3 => exact Kd.C_below HR1_0.out (by repeat (with_reducible first|exact HB.out|refine below_set ?_ GE474.out))); (case side4 => exact HC1_0.out); rintro e w' ⟨rfl,⟨nd,rfl⟩⟩; refine ⟨_,rfl,?_⟩)|(go_at_call 49; (with_reducible refine (spec_l1Same.calls k2 _ _ t471 _ _ l1_1 true _ ?side1 ?side2 ?side3 ?side4 A22.out).mono ?_); (case side1 => refine (Kd.R_reads' (e:=3) (base:=w.heap.size) (ok:=fun k_ => some k_ ≠ (.slice Ao28 t468.length co28 : Value).ownBlock) (n:=t471.length) (c:=co32) ?_).2.2; exact (by (with_reducible repeat (apply Kd.R_drewN)); exact (Kd.R_mono (Kd.R_far (p:=⟨gb474,1,none⟩) (Kd.R_far (p:=⟨gb474,0,none⟩) (Kd.R_types HO473.out BK474.out (by decide)) (fun _ hk => hk.2) (.slice Ao28 t468.length co28)) (fun _ hk => hk.2) (.slice Ao32 t471.length co32)) (fun _ h_ => h_.1)))); (case side2 => exact (Kd.R_reads' HO473.out).2.1); (case side3 => exact Kd.C_below HR1_1.out (by repeat (with_reducible first|exact HB.out|apply pw_below_drewN|refine below_set ?_ GE474.out))); (case side4 => exact HC1_1.out); rintro e w' ⟨rfl,⟨nd,rfl⟩⟩))
         go_ret2
         exact ⟨by (rfl),by repeat (with_reducible first|exact HB.out|apply pw_below_drewN|refine below_set ?_ GE474.out)⟩
        ·replace c23:=Bool.eq_false_iff.mpr c23
         subst c23
         have H1 : (spec_SameCycle.l0 k2 (wrap64 (x6_2 + 1)) l0_0 l0_1 l1_0 l1_1) = some (r1,r2):=by rw [if_neg (show ¬ (false = true) by decide)] at H; exact H
         clear H
         have H:=H1
         clear H1
         have H':=Aside0.mk H
         clear H
         have hnb34:=NB464_465.out
         have hnc34:=NB465_464.out
         have hcz35_0 : wr.cell? ⟨gb464,0,none⟩ = some (.slice A0_0 l0_0.length c0_0):=(blk_cell BK464.out 0).trans rfl
         have hcz35_1 : wr.cell? ⟨gb464,1,none⟩ = some (.slice A0_1 l0_1.length c0_1):=(blk_cell BK464.out 1).trans rfl
         have hfz35_0:=blk_frozen BK464.out 0
         have hfz35_1:=blk_frozen BK464.out 1
         go_wp2_with (first|((with_reducible refine gate_callee (f:=43) rfl ?_); refine goesL_ (some 25) rfl rfl Tryz.func43 (by kernel_rfl) rfl #[.agg #[.slice A0_0 l0_0.length c0_0,.slice A0_1 l0_1.length c0_1],.int .i64 x6_2] rfl (by (try simp only [List.map_toArray,List.map_cons,List.map_nil]); (rfl)) ?_; (with_reducible refine (spec_l3Turn.calls _ _ l0_0 _ _ l0_1 x6_2 t468 t471 _ ?side1 ?side2 ?side3 ?side4 A19.out).mono ?_); (case side1 => repeat ((exact (Kd.C_below HR0_0.out HB.out)))); (case side2 => exact HC0_0.out); (case side3 => repeat ((exact (Kd.C_below HR0_1.out HB.out)))); (case side4 => exact HC0_1.out); rintro e w36 ⟨v469,v472,rfl,ho0,ho1,hb⟩; refine ⟨_,rfl,?_⟩; have n0_:=Aside0.mk (Kd.R_lower ho0 (below_size (by repeat (((with_reducible (exact HB.out))))))); have n1_:=Aside0.mk (Kd.R_lower ho1 (below_size (by repeat (((with_reducible (exact HB.out))))))); have n2_:=Aside0.mk (blk_below (g:=gb464) (o:=.cells #[.slice A0_0 l0_0.length c0_0,.slice A0_1 l0_1.length c0_1] 26 (0,0)) (by exact BK464.out) hb); have n3_:=Aside0.mk (blk_below (g:=gb465) (o:=.cells #[.slice A1_0 l1_0.length c1_0,.slice A1_1 l1_1.length c1_1] 26 (0,0)) (by exact BK465.out) hb); have n4_:=Aside0.mk (below_step (by repeat (((with_reducible (exact HB.out))))) hb); clear BK464; clear BK465; clear HB; have HO470:=n0_; have HO473:=n1_; have BK464:=n2_; have BK465:=n3_; have HB:=n4_; clear n0_ n1_ n2_ n3_ n4_; (try clear hb); (try clear hb2); (try clear hk); (try clear hi); (try clear ho0); (try clear ho1))|((with_reducible refine gate_dst (N:=7) rfl ?_); refine box_event ?hg (N:=7) ?hd (cs:=#[.slice none 0 0,.slice none 0 0]) (t:=26) ?hr ?_; (case hd => rfl); (case hg => rfl); (case hr => (go_simp; done)); intro gb474 hg w37 hbox hb; have n0_:=Aside0.mk (Kd.R_below (by exact HO470.out) hb); have n1_:=Aside0.mk (Kd.R_below (by exact HO473.out) hb); have n2_:=Aside0.mk (blk_below (g:=gb464) (o:=.cells #[.slice A0_0 l0_0.length c0_0,.slice A0_1 l0_1.length c0_1] 26 (0,0)) (by exact BK464.out) hb); have n3_:=Aside0.mk (blk_below (g:=gb465) (o:=.cells #[.slice A1_0 l1_0.length c1_0,.slice A1_1 l1_1.length c1_1] 26 (0,0)) (by exact BK465.out) hb); have n4_:=Aside0.mk (below_step (by repeat (((with_reducible (exact HB.out))))) hb); have n5_:=Aside0.mk (hbox); have n6_:=Aside0.mk ((by rw [hg]; exact (below_size (by repeat (((with_reducible (exact HB.out)))))) : w.heap.size ≤ gb474)); have n7_:=Aside0.mk ((by rw [hg]; exact (below_size (by repeat (((with_reducible (exact HB.out)))))) : w.heap.size ≤ gb474)); have n8_:=Aside0.mk ((by rw [hg]; exact Nat.ne_of_lt (blk_lt (g:=gb464) (o:=.cells #[.slice A0_0 l0_0.length c0_0,.slice A0_1 l0_1.length c0_1] 26 (0,0)) (by exact BK464.out)) : gb464 ≠ gb474)); have n9_:=Aside0.mk ((by rw [hg]; exact Nat.ne_of_gt (blk_lt (g:=gb464) (o:=.cells #[.slice A0_0 l0_0.length c0_0,.slice A0_1 l0_1.length c0_1] 26 (0,0)) (by exact BK464.out)) : gb474 ≠ gb464)); have n10_:=Aside0.mk ((by rw [hg]; exact Nat.ne_of_lt (blk_lt (g:=gb465) (o:=.cells #[.slice A1_0 l1_0.length c1_0,.slice A1_1 l1_1.length c1_1] 26 (0,0)) (by exact BK465.out)) : gb465 ≠ gb474)); have n11_:=Aside0.mk ((by rw [hg]; exact Nat.ne_of_gt (blk_lt (g:=gb465) (o:=.cells #[.slice A1_0 l1_0.length c1_0,.slice A1_1 l1_1.length c1_1] 26 (0,0)) (by exact BK465.out)) : gb474 ≠ gb465)); clear HO470; clear HO473; clear BK464; clear BK465; clear HB; have HO470:=n0_; have HO473:=n1_; have BK464:=n2_; have BK465:=n3_; have HB:=n4_; have BK474:=n5_; have GW474:=n6_; have GE474:=n7_; have NB464_474:=n8_; have NB474_464:=n9_; have NB465_474:=n10_; have NB474_465:=n11_; clear n0_ n1_ n2_ n3_ n4_ n5_ n6_ n7_ n8_ n9_ n10_ n11_; clear hb hbox hg; obtain ⟨Ao38,co38,eo38⟩:=Kd.R_slice HO470.out; subst eo38; have hnb39:=NB474_464.out; have hnc39:=NB464_474.out; have hnb40:=NB474_465.out; have hnc40:=NB465_474.out; have hcz41_0 : w37.cell? ⟨gb474,0,none⟩ = some (.slice none 0 0):=(blk_cell BK474.out 0).trans rfl; have hcz41_1 : w37.cell? ⟨gb474,1,none⟩ = some (.slice none 0 0):=(blk_cell BK474.out 1).trans rfl; have hfz41_0:=blk_frozen BK474.out 0; have hfz41_1:=blk_frozen BK474.out 1; obtain ⟨Ao42,co42,eo42⟩:=Kd.R_slice HO473.out; subst eo42; have hcz43_0 : w37.cell? ⟨gb465,0,none⟩ = some (.slice A1_0 l1_0.length c1_0):=(blk_cell BK465.out 0).trans rfl; have hcz43_1 : w37.cell? ⟨gb465,1,none⟩ = some (.slice A1_1 l1_1.length c1_1):=(blk_cell BK465.out 1).trans rfl; have hfz43_0:=blk_frozen BK465.out 0; have hfz43_1:=blk_frozen BK465.out 1)|((with_reducible refine gate_callee (f:=49) rfl ?_); refine goesL_ (some 30) rfl rfl Tryz.func49 (by kernel_rfl) rfl #[.slice Ao38 t468.length co38,.slice A1_0 l1_0.length c1_0] rfl (by (try simp only [List.map_toArray,List.map_cons,List.map_nil]); (rfl)) ?_; (with_reducible refine (spec_l1Same.calls k2 _ _ t468 _ _ l1_0 true _ ?side1 ?side2 ?side3 ?side4 A20.out).mono ?_); (case side1 => refine (Kd.R_reads' (e:=3) (base:=w.heap.size) (ok:=fun k_ => some k_ ≠ (.slice Ao42 t471.length co42 : Value).ownBlock) (n:=t468.length) (c:=co38) ?_).2.2; exact (by exact (Kd.R_mono (Kd.R_far (p:=⟨gb474,1,none⟩) (Kd.R_far (p:=⟨gb474,0,none⟩) (Kd.R_types HO470.out BK474.out (by decide)) (fun _ hk => hk.2) (.slice Ao38 t468.length co38)) (fun _ hk => hk.2) (.slice Ao42 t471.length co42)) (fun _ h_ => h_.1)))); (case side2 => exact (Kd.R_reads' HO470.out).2.1); (case side3 => exact Kd.C_below HR1_0.out (by repeat (with_reducible first|exact HB.out|refine below_set ?_ GE474.out))); (case side4 => exact HC1_0.out); rintro e w' ⟨rfl,⟨nd,rfl⟩⟩; refine ⟨_,rfl,?_⟩)|(go_at_call 49; (with_reducible refine (spec_l1Same.calls k2 _ _ t471 _ _ l1_1 false _ ?side1 ?side2 ?side3 ?side4 A22.out).mono ?_); (case side1 => refine (Kd.R_reads' (e:=3) (base:=w.heap.size) (ok:=fun k_ => some k_ ≠ (.slice Ao38 t468.length co38 : Value).ownBlock) (n:=t471.length) (c:=co42) ?_).2.2; exact (by (with_reducible repeat (apply Kd.R_drewN)); exact (Kd.R_mono (Kd.R_far (p:=⟨gb474,1,none⟩) (Kd.R_far (p:=⟨gb474,0,none⟩) (Kd.R_types HO473.out BK474.out (by decide)) (fun _ hk => hk.2) (.slice Ao38 t468.length co38)) (fun _ hk => hk.2) (.slice Ao42 t471.length co42)) (fun _ h_ => h_.1)))); (case side2 => exact (Kd.R_reads' HO473.out).2.1); (case side3 => exact Kd.C_below HR1_1.out (by repeat (with_reducible first|exact HB.out|apply pw_below_drewN|refine below_set ?_ GE474.out))); (case side4 => exact HC1_1.out); rintro e w' ⟨rfl,⟨nd,rfl⟩⟩))
         go_roundg k2
         case measure => have:=HJ2.out; have:=HK2.out; omega
         case rel => exact ⟨(wrap64 (x6_2 + 1)),(by (rfl)),H',⟨by have:=HJ2.out; have:=HK2.out; omega⟩,⟨by (with_reducible repeat (refine blk_drewN ?_ _)); refine blk_far ?_ NB464_474.out _; refine blk_far ?_ NB464_474.out _; exact BK464.out⟩,⟨by (with_reducible repeat (refine blk_drewN ?_ _)); refine blk_far ?_ NB465_474.out _; refine blk_far ?_ NB465_474.out _; exact BK465.out⟩,⟨by repeat (with_reducible first|exact HB.out|apply pw_below_drewN|refine below_set ?_ GE474.out)⟩⟩
       ·replace c21:=Bool.eq_false_iff.mpr c21
        subst c21
        have H1 : (spec_SameCycle.l0 k2 (wrap64 (x6_2 + 1)) l0_0 l0_1 l1_0 l1_1) = some (r1,r2):=by rw [if_neg (show ¬ (false = true) by decide)] at H; exact H
        clear H
        have H:=H1
        clear H1
        have H':=Aside0.mk H
        clear H
        have hnb44:=NB464_465.out
        have hnc44:=NB465_464.out
        have hcz45_0 : wr.cell? ⟨gb464,0,none⟩ = some (.slice A0_0 l0_0.length c0_0):=(blk_cell BK464.out 0).trans rfl
        have hcz45_1 : wr.cell? ⟨gb464,1,none⟩ = some (.slice A0_1 l0_1.length c0_1):=(blk_cell BK464.out 1).trans rfl
        have hfz45_0:=blk_frozen BK464.out 0
        have hfz45_1:=blk_frozen BK464.out 1
        go_wp2_with (first|((with_reducible refine gate_callee (f:=43) rfl ?_); refine goesL_ (some 25) rfl rfl Tryz.func43 (by kernel_rfl) rfl #[.agg #[.slice A0_0 l0_0.length c0_0,.slice A0_1 l0_1.length c0_1],.int .i64 x6_2] rfl (by (try simp only [List.map_toArray,List.map_cons,List.map_nil]); (rfl)) ?_; (with_reducible refine (spec_l3Turn.calls _ _ l0_0 _ _ l0_1 x6_2 t468 t471 _ ?side1 ?side2 ?side3 ?side4 A19.out).mono ?_); (case side1 => repeat ((exact (Kd.C_below HR0_0.out HB.out)))); (case side2 => exact HC0_0.out); (case side3 => repeat ((exact (Kd.C_below HR0_1.out HB.out)))); (case side4 => exact HC0_1.out); rintro e w46 ⟨v469,v472,rfl,ho0,ho1,hb⟩; refine ⟨_,rfl,?_⟩; have n0_:=Aside0.mk (Kd.R_lower ho0 (below_size (by repeat (((with_reducible (exact HB.out))))))); have n1_:=Aside0.mk (Kd.R_lower ho1 (below_size (by repeat (((with_reducible (exact HB.out))))))); have n2_:=Aside0.mk (blk_below (g:=gb464) (o:=.cells #[.slice A0_0 l0_0.length c0_0,.slice A0_1 l0_1.length c0_1] 26 (0,0)) (by exact BK464.out) hb); have n3_:=Aside0.mk (blk_below (g:=gb465) (o:=.cells #[.slice A1_0 l1_0.length c1_0,.slice A1_1 l1_1.length c1_1] 26 (0,0)) (by exact BK465.out) hb); have n4_:=Aside0.mk (below_step (by repeat (((with_reducible (exact HB.out))))) hb); clear BK464; clear BK465; clear HB; have HO470:=n0_; have HO473:=n1_; have BK464:=n2_; have BK465:=n3_; have HB:=n4_; clear n0_ n1_ n2_ n3_ n4_; (try clear hb); (try clear hb2); (try clear hk); (try clear hi); (try clear ho0); (try clear ho1))|((with_reducible refine gate_dst (N:=7) rfl ?_); refine box_event ?hg (N:=7) ?hd (cs:=#[.slice none 0 0,.slice none 0 0]) (t:=26) ?hr ?_; (case hd => rfl); (case hg => rfl); (case hr => (go_simp; done)); intro gb474 hg w47 hbox hb; have n0_:=Aside0.mk (Kd.R_below (by exact HO470.out) hb); have n1_:=Aside0.mk (Kd.R_below (by exact HO473.out) hb); have n2_:=Aside0.mk (blk_below (g:=gb464) (o:=.cells #[.slice A0_0 l0_0.length c0_0,.slice A0_1 l0_1.length c0_1] 26 (0,0)) (by exact BK464.out) hb); have n3_:=Aside0.mk (blk_below (g:=gb465) (o:=.cells #[.slice A1_0 l1_0.length c1_0,.slice A1_1 l1_1.length c1_1] 26 (0,0)) (by exact BK465.out) hb); have n4_:=Aside0.mk (below_step (by repeat (((with_reducible (exact HB.out))))) hb); have n5_:=Aside0.mk (hbox); have n6_:=Aside0.mk ((by rw [hg]; exact (below_size (by repeat (((with_reducible (exact HB.out)))))) : w.heap.size ≤ gb474)); have n7_:=Aside0.mk ((by rw [hg]; exact (below_size (by repeat (((with_reducible (exact HB.out)))))) : w.heap.size ≤ gb474)); have n8_:=Aside0.mk ((by rw [hg]; exact Nat.ne_of_lt (blk_lt (g:=gb464) (o:=.cells #[.slice A0_0 l0_0.length c0_0,.slice A0_1 l0_1.length c0_1] 26 (0,0)) (by exact BK464.out)) : gb464 ≠ gb474)); have n9_:=Aside0.mk ((by rw [hg]; exact Nat.ne_of_gt (blk_lt (g:=gb464) (o:=.cells #[.slice A0_0 l0_0.length c0_0,.slice A0_1 l0_1.length c0_1] 26 (0,0)) (by exact BK464.out)) : gb474 ≠ gb464)); have n10_:=Aside0.mk ((by rw [hg]; exact Nat.ne_of_lt (blk_lt (g:=gb465) (o:=.cells #[.slice A1_0 l1_0.length c1_0,.slice A1_1 l1_1.length c1_1] 26 (0,0)) (by exact BK465.out)) : gb465 ≠ gb474)); have n11_:=Aside0.mk ((by rw [hg]; exact Nat.ne_of_gt (blk_lt (g:=gb465) (o:=.cells #[.slice A1_0 l1_0.length c1_0,.slice A1_1 l1_1.length c1_1] 26 (0,0)) (by exact BK465.out)) : gb474 ≠ gb465)); clear HO470; clear HO473; clear BK464; clear BK465; clear HB; have HO470:=n0_; have HO473:=n1_; have BK464:=n2_; have BK465:=n3_; have HB:=n4_; have BK474:=n5_; have GW474:=n6_; have GE474:=n7_; have NB464_474:=n8_; have NB474_464:=n9_; have NB465_474:=n10_; have NB474_465:=n11_; clear n0_ n1_ n2_ n3_ n4_ n5_ n6_ n7_ n8_ n9_ n10_ n11_; clear hb hbox hg; obtain ⟨Ao48,co48,eo48⟩:=Kd.R_slice HO470.out; subst eo48; have hnb49:=NB474_464.out; have hnc49:=NB464_474.out; have hnb50:=NB474_465.out; have hnc50:=NB465_474.out; have hcz51_0 : w47.cell? ⟨gb474,0,none⟩ = some (.slice none 0 0):=(blk_cell BK474.out 0).trans rfl; have hcz51_1 : w47.cell? ⟨gb474,1,none⟩ = some (.slice none 0 0):=(blk_cell BK474.out 1).trans rfl; have hfz51_0:=blk_frozen BK474.out 0; have hfz51_1:=blk_frozen BK474.out 1; obtain ⟨Ao52,co52,eo52⟩:=Kd.R_slice HO473.out; subst eo52; have hcz53_0 : w47.cell? ⟨gb465,0,none⟩ = some (.slice A1_0 l1_0.length c1_0):=(blk_cell BK465.out 0).trans rfl; have hcz53_1 : w47.cell? ⟨gb465,1,none⟩ = some (.slice A1_1 l1_1.length c1_1):=(blk_cell BK465.out 1).trans rfl; have hfz53_0:=blk_frozen BK465.out 0; have hfz53_1:=blk_frozen BK465.out 1)|((with_reducible refine gate_callee (f:=49) rfl ?_); refine goesL_ (some 30) rfl rfl Tryz.func49 (by kernel_rfl) rfl #[.slice Ao48 t468.length co48,.slice A1_0 l1_0.length c1_0] rfl (by (try simp only [List.map_toArray,List.map_cons,List.map_nil]); (rfl)) ?_; (with_reducible refine (spec_l1Same.calls k2 _ _ t468 _ _ l1_0 false _ ?side1 ?side2 ?side3 ?side4 A20.out).mono ?_); (case side1 => refine (Kd.R_reads' (e:=3) (base:=w.heap.size) (ok:=fun k_ => some k_ ≠ (.slice Ao52 t471.length co52 : Value).ownBlock) (n:=t468.length) (c:=co48) ?_).2.2; exact (by exact (Kd.R_mono (Kd.R_far (p:=⟨gb474,1,none⟩) (Kd.R_far (p:=⟨gb474,0,none⟩) (Kd.R_types HO470.out BK474.out (by decide)) (fun _ hk => hk.2) (.slice Ao48 t468.length co48)) (fun _ hk => hk.2) (.slice Ao52 t471.length co52)) (fun _ h_ => h_.1)))); (case side2 => exact (Kd.R_reads' HO470.out).2.1); (case side3 => exact Kd.C_below HR1_0.out (by repeat (with_reducible first|exact HB.out|refine below_set ?_ GE474.out))); (case side4 => exact HC1_0.out); rintro e w' ⟨rfl,⟨nd,rfl⟩⟩; refine ⟨_,rfl,?_⟩))
        go_roundg k2
        case measure => have:=HJ2.out; have:=HK2.out; omega
        case rel => exact ⟨(wrap64 (x6_2 + 1)),(by (rfl)),H',⟨by have:=HJ2.out; have:=HK2.out; omega⟩,⟨by (with_reducible repeat (refine blk_drewN ?_ _)); refine blk_far ?_ NB464_474.out _; refine blk_far ?_ NB464_474.out _; exact BK464.out⟩,⟨by (with_reducible repeat (refine blk_drewN ?_ _)); refine blk_far ?_ NB465_474.out _; refine blk_far ?_ NB465_474.out _; exact BK465.out⟩,⟨by repeat (with_reducible first|exact HB.out|apply pw_below_drewN|refine below_set ?_ GE474.out)⟩⟩
      ·rw [if_neg c18] at H
       have c18b0 : decide (x6_2 < (l0_0.length : Int)) = false:=decide_eq_false c18
       clear c18
       simp only [Option.some.injEq,Prod.mk.injEq] at H
       obtain ⟨rfl,rfl⟩:=H
       have hnb54:=NB464_465.out
       have hnc54:=NB465_464.out
       have hcz55_0 : wr.cell? ⟨gb464,0,none⟩ = some (.slice A0_0 l0_0.length c0_0):=(blk_cell BK464.out 0).trans rfl
       have hcz55_1 : wr.cell? ⟨gb464,1,none⟩ = some (.slice A0_1 l0_1.length c0_1):=(blk_cell BK464.out 1).trans rfl
       have hfz55_0:=blk_frozen BK464.out 0
       have hfz55_1:=blk_frozen BK464.out 1
       go_wp2
       go_ret2
       exact ⟨by (rfl),by repeat (((with_reducible (exact HB.out))))⟩

end Go.Proofs.YtfindomajbjacaaGreatDoor.X
