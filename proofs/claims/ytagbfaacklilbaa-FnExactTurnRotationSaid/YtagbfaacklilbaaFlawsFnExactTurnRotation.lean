-- Written by a program of ours (wip/bin/xprint.py, over the kit's print.py) out of the translation. Not trusted: Lean checks it.
import Derived.Test.YtagbfaacklilbaaX0
import Derived.Test.YtagbfaacklilbaaFbHelpR
import Derived.Test.YtagbfaacklilbaaFimplTurnRotation
import Derived.Test.YtagbfaacklilbaaFspecTurnRotation
namespace Go.Proofs.Ytagbfaacklilbaa.X
open Go.RowKit Go.Proofs.YtagbfaacklilbaaW.PrintWords Go.Proofs.YtagbfaacklilbaaW.PrintLast Go.Proofs.YtagbfaacklilbaaW.PrintMore
attribute [local go_sem] max2_int min2_int max_two min_two max_three min_three max_four min_four   -- for this text's walks alone
set_option linter.unusedVariables false
set_option linter.unusedSimpArgs false

/-! ### laws_FnExactTurnRotation: function 9 -/
mutual
def lw.j0 : Nat → Int → Bool → Bool → Bool → List Int → List Int → List Int → List Int → List Int → List Int → List Int → List Int → Option (Bool)
 | 0, _, _, _, _, _, _, _, _, _, _, _, _ => none
 | k + 1, x1, x7, x10, x44, x459000, x459001, x474000, x474001, x481000, x481001, x489000, x489001 => if x44 = true then (some false) else ((laws_toRotation.f k x459000 x459001).bind fun bt490 => ((laws_eqRotation.f k x481000 x481001 bt490.1 bt490.2).bind fun t496 => (if t496 = true then ((laws_markRotation.f k x481000 x481001 1).bind fun bt497 => (if bt497.1 < 0 then (lw.j1 k x1 x7 true x459000 x459001 x474000 x474001 x489000 x489001) else ((laws_eqRotation.f k x489000 x489001 x474000 x474001).bind fun t500 => (if t500 = true then (lw.j1 k x1 x7 (x10 != x7) x459000 x459001 x474000 x474001 x489000 x489001) else (lw.j1 k x1 x7 true x459000 x459001 x474000 x474001 x489000 x489001))))) else (some false))))
def lw.j1 : Nat → Int → Bool → Bool → List Int → List Int → List Int → List Int → List Int → List Int → Option (Bool)
 | 0, _, _, _, _, _, _, _, _, _ => none
 | k + 1, x1, x7, x65, x459000, x459001, x474000, x474001, x489000, x489001 => if x65 = true then (some false) else ((laws_markRotation.f k x489000 x489001 1).bind fun bt501 => ((laws_heldRotation.f k bt501.2.1 bt501.2.2 1).bind fun t504 => (if t504 < 0 then (some false) else (if t504 = bt501.1 then ((laws_toRotation.f k x459000 x459001).bind fun bt505 => ((impl_TurnRotation.f k bt505.1 bt505.2 x1).bind fun bt511 => ((laws_eqRotation.f k bt511.1 bt511.2.1 x474000 x474001).bind fun t519 => (if t519 = true then (lw.j2 k bt501.1 (bt511.2.2 != x7) bt501.2.1 bt501.2.2) else (lw.j2 k bt501.1 true bt501.2.1 bt501.2.2))))) else (some false)))))
def lw.j2 : Nat → Int → Bool → List Int → List Int → Option (Bool)
 | 0, _, _, _, _ => none
 | k + 1, x12, x92, x489000, x489001 => if x92 = true then (some false) else ((laws_heldRotation.f k x489000 x489001 1).bind fun t520 => (if t520 < 0 then (some false) else (if t520 = x12 then (some true) else (some false))))
end
def lw.f (k : Nat) (l0_0 : List Int) (l0_1 : List Int) (a1 : Int) : Option (Bool) := (laws_szRotation.f l0_0 l0_1 1048576).bind fun t459 => (if t459 < 0 then (some true) else ((laws_toRotation.f k l0_0 l0_1).bind fun bt460 => ((spec_TurnRotation.f k bt460.1 bt460.2 a1).bind fun bt466 => ((laws_toRotation.f k l0_0 l0_1).bind fun bt474 => ((impl_TurnRotation.f k bt474.1 bt474.2 a1).bind fun bt481 => ((laws_eqRotation.f k bt481.1 bt481.2.1 bt466.1 bt466.2.1).bind fun t489 => (if t489 = true then (lw.j0 k a1 bt466.2.2 bt481.2.2 (bt481.2.2 != bt466.2.2) l0_0 l0_1 bt466.1 bt466.2.1 bt474.1 bt474.2 bt481.1 bt481.2.1) else (lw.j0 k a1 bt466.2.2 bt481.2.2 true l0_0 l0_1 bt466.1 bt466.2.1 bt474.1 bt474.2 bt481.1 bt481.2.1))))))))
theorem lw.mono_l : ∀ k, (∀ y0 y1 y2 y3 y4 y5 y6 y7 y8 y9 y10 y11, LeO (lw.j0 k y0 y1 y2 y3 y4 y5 y6 y7 y8 y9 y10 y11) (lw.j0 (k + 1) y0 y1 y2 y3 y4 y5 y6 y7 y8 y9 y10 y11)) ∧ (∀ y0 y1 y2 y3 y4 y5 y6 y7 y8, LeO (lw.j1 k y0 y1 y2 y3 y4 y5 y6 y7 y8) (lw.j1 (k + 1) y0 y1 y2 y3 y4 y5 y6 y7 y8)) ∧ (∀ y0 y1 y2 y3, LeO (lw.j2 k y0 y1 y2 y3) (lw.j2 (k + 1) y0 y1 y2 y3))
 | 0 => ⟨fun _ _ _ _ _ _ _ _ _ _ _ _ r h => by simp [lw.j0] at h, fun _ _ _ _ _ _ _ _ _ r h => by simp [lw.j1] at h, fun _ _ _ _ r h => by simp [lw.j2] at h⟩
 | k + 1 => by
  obtain ⟨ih0, ih1, ih2⟩ := lw.mono_l k
  refine ⟨?_, ?_, ?_⟩
  ·intro y0 y1 y2 y3 y4 y5 y6 y7 y8 y9 y10 y11
   unfold lw.j0
   repeat' first
   | (with_reducible exact ih0 _ _ _ _ _ _ _ _ _ _ _ _)
   | (with_reducible exact ih1 _ _ _ _ _ _ _ _ _)
   | (with_reducible exact ih2 _ _ _ _)
   | (with_reducible exact impl_TurnRotation.mono _ _ _ _)
   | (with_reducible exact laws_eqRotation.mono _ _ _ _ _)
   | (with_reducible exact laws_heldRotation.mono _ _ _ _)
   | (with_reducible exact laws_markRotation.mono _ _ _ _)
   | (with_reducible exact laws_toRotation.mono _ _ _)
   | (with_reducible exact spec_TurnRotation.mono _ _ _ _)
   | (with_reducible exact LeO.refl _)
   | (with_reducible exact LeO.none _)
   | (with_reducible refine LeO.ite ?_ ?_)
   | (with_reducible refine LeO.bind ?_ (fun _ => ?_))
   | exact ih0 _ _ _ _ _ _ _ _ _ _ _ _
   | exact ih1 _ _ _ _ _ _ _ _ _
   | exact ih2 _ _ _ _
   | exact impl_TurnRotation.mono _ _ _ _
   | exact laws_eqRotation.mono _ _ _ _ _
   | exact laws_heldRotation.mono _ _ _ _
   | exact laws_markRotation.mono _ _ _ _
   | exact laws_toRotation.mono _ _ _
   | exact spec_TurnRotation.mono _ _ _ _
   | exact LeO.none _
   | refine LeO.ite ?_ ?_
   | refine LeO.bind ?_ (fun _ => ?_)
  ·intro y0 y1 y2 y3 y4 y5 y6 y7 y8
   unfold lw.j1
   repeat' first
   | (with_reducible exact ih0 _ _ _ _ _ _ _ _ _ _ _ _)
   | (with_reducible exact ih1 _ _ _ _ _ _ _ _ _)
   | (with_reducible exact ih2 _ _ _ _)
   | (with_reducible exact impl_TurnRotation.mono _ _ _ _)
   | (with_reducible exact laws_eqRotation.mono _ _ _ _ _)
   | (with_reducible exact laws_heldRotation.mono _ _ _ _)
   | (with_reducible exact laws_markRotation.mono _ _ _ _)
   | (with_reducible exact laws_toRotation.mono _ _ _)
   | (with_reducible exact spec_TurnRotation.mono _ _ _ _)
   | (with_reducible exact LeO.refl _)
   | (with_reducible exact LeO.none _)
   | (with_reducible refine LeO.ite ?_ ?_)
   | (with_reducible refine LeO.bind ?_ (fun _ => ?_))
   | exact ih0 _ _ _ _ _ _ _ _ _ _ _ _
   | exact ih1 _ _ _ _ _ _ _ _ _
   | exact ih2 _ _ _ _
   | exact impl_TurnRotation.mono _ _ _ _
   | exact laws_eqRotation.mono _ _ _ _ _
   | exact laws_heldRotation.mono _ _ _ _
   | exact laws_markRotation.mono _ _ _ _
   | exact laws_toRotation.mono _ _ _
   | exact spec_TurnRotation.mono _ _ _ _
   | exact LeO.none _
   | refine LeO.ite ?_ ?_
   | refine LeO.bind ?_ (fun _ => ?_)
  ·intro y0 y1 y2 y3
   unfold lw.j2
   repeat' first
   | (with_reducible exact ih0 _ _ _ _ _ _ _ _ _ _ _ _)
   | (with_reducible exact ih1 _ _ _ _ _ _ _ _ _)
   | (with_reducible exact ih2 _ _ _ _)
   | (with_reducible exact impl_TurnRotation.mono _ _ _ _)
   | (with_reducible exact laws_eqRotation.mono _ _ _ _ _)
   | (with_reducible exact laws_heldRotation.mono _ _ _ _)
   | (with_reducible exact laws_markRotation.mono _ _ _ _)
   | (with_reducible exact laws_toRotation.mono _ _ _)
   | (with_reducible exact spec_TurnRotation.mono _ _ _ _)
   | (with_reducible exact LeO.refl _)
   | (with_reducible exact LeO.none _)
   | (with_reducible refine LeO.ite ?_ ?_)
   | (with_reducible refine LeO.bind ?_ (fun _ => ?_))
   | exact ih0 _ _ _ _ _ _ _ _ _ _ _ _
   | exact ih1 _ _ _ _ _ _ _ _ _
   | exact ih2 _ _ _ _
   | exact impl_TurnRotation.mono _ _ _ _
   | exact laws_eqRotation.mono _ _ _ _ _
   | exact laws_heldRotation.mono _ _ _ _
   | exact laws_markRotation.mono _ _ _ _
   | exact laws_toRotation.mono _ _ _
   | exact spec_TurnRotation.mono _ _ _ _
   | exact LeO.none _
   | refine LeO.ite ?_ ?_
   | refine LeO.bind ?_ (fun _ => ?_)
theorem lw.mono : ∀ a0 a1 a2 k, LeO (lw.f k a0 a1 a2) (lw.f (k + 1) a0 a1 a2) := by
 intro a0 a1 a2 k
 obtain ⟨ih0, ih1, ih2⟩ := lw.mono_l k
 unfold lw.f
 repeat' first
   | (with_reducible exact ih0 _ _ _ _ _ _ _ _ _ _ _ _)
   | (with_reducible exact ih1 _ _ _ _ _ _ _ _ _)
   | (with_reducible exact ih2 _ _ _ _)
   | (with_reducible exact impl_TurnRotation.mono _ _ _ _)
   | (with_reducible exact laws_eqRotation.mono _ _ _ _ _)
   | (with_reducible exact laws_heldRotation.mono _ _ _ _)
   | (with_reducible exact laws_markRotation.mono _ _ _ _)
   | (with_reducible exact laws_toRotation.mono _ _ _)
   | (with_reducible exact spec_TurnRotation.mono _ _ _ _)
   | (with_reducible exact LeO.refl _)
   | (with_reducible exact LeO.none _)
   | (with_reducible refine LeO.ite ?_ ?_)
   | (with_reducible refine LeO.bind ?_ (fun _ => ?_))
   | exact ih0 _ _ _ _ _ _ _ _ _ _ _ _
   | exact ih1 _ _ _ _ _ _ _ _ _
   | exact ih2 _ _ _ _
   | exact impl_TurnRotation.mono _ _ _ _
   | exact laws_eqRotation.mono _ _ _ _ _
   | exact laws_heldRotation.mono _ _ _ _
   | exact laws_markRotation.mono _ _ _ _
   | exact laws_toRotation.mono _ _ _
   | exact spec_TurnRotation.mono _ _ _ _
   | exact LeO.none _
   | refine LeO.ite ?_ ?_
   | refine LeO.bind ?_ (fun _ => ?_)
set_option maxHeartbeats 8000000 in
set_option maxRecDepth 100000 in
theorem lw.calls (k : Nat) (A0_0 : Option Addr) (c0_0 : Nat) (l0_0 : List Int) (A0_1 : Option Addr) (c0_1 : Nat) (l0_1 : List Int) (a1 : Int) (r : Bool) (w : World) (hr0_0 : Kd.C (Kd.int .i64) w A0_0 l0_0.length l0_0) (hc0_0 : l0_0.length ≤ c0_0) (hr0_1 : Kd.C (Kd.int .i64) w A0_1 l0_1.length l0_1) (hc0_1 : l0_1.length ≤ c0_1) (h : lw.f k l0_0 l0_1 a1 = some r) :
  Calls Try.prog 9 #[.agg #[.slice A0_0 l0_0.length c0_0, .slice A0_1 l0_1.length c0_1], .int .i64 a1] w fun e w' => e = .returned (.bool r) ∧ Below w.heap.size w w' := by
 have hu24 := Try.underlying24
 have hu27 := Try.underlying27
 have HR0_0 := Aside0.mk hr0_0
 have HC0_0 := Aside0.mk hc0_0
 clear hr0_0 hc0_0
 have HR0_1 := Aside0.mk hr0_1
 have HC0_1 := Aside0.mk hc0_1
 clear hr0_1 hc0_1
 have HB := Aside0.mk (Below.refl w.heap.size w)
 have H : ((laws_szRotation.f l0_0 l0_1 1048576).bind fun t459 => (if t459 < 0 then (some true) else ((laws_toRotation.f k l0_0 l0_1).bind fun bt460 => ((spec_TurnRotation.f k bt460.1 bt460.2 a1).bind fun bt466 => ((laws_toRotation.f k l0_0 l0_1).bind fun bt474 => ((impl_TurnRotation.f k bt474.1 bt474.2 a1).bind fun bt481 => ((laws_eqRotation.f k bt481.1 bt481.2.1 bt466.1 bt466.2.1).bind fun t489 => (if t489 = true then (lw.j0 k a1 bt466.2.2 bt481.2.2 (bt481.2.2 != bt466.2.2) l0_0 l0_1 bt466.1 bt466.2.1 bt474.1 bt474.2 bt481.1 bt481.2.1) else (lw.j0 k a1 bt466.2.2 bt481.2.2 true l0_0 l0_1 bt466.1 bt466.2.1 bt474.1 bt474.2 bt481.1 bt481.2.1))))))))) = some r := h
 clear h
 replace H := Option.bind_eq_some_iff.mp H
 obtain ⟨t459, A30, H⟩ := H
 replace H : (if t459 < 0 then (some true) else ((laws_toRotation.f k l0_0 l0_1).bind fun bt460 => ((spec_TurnRotation.f k bt460.1 bt460.2 a1).bind fun bt466 => ((laws_toRotation.f k l0_0 l0_1).bind fun bt474 => ((impl_TurnRotation.f k bt474.1 bt474.2 a1).bind fun bt481 => ((laws_eqRotation.f k bt481.1 bt481.2.1 bt466.1 bt466.2.1).bind fun t489 => (if t489 = true then (lw.j0 k a1 bt466.2.2 bt481.2.2 (bt481.2.2 != bt466.2.2) l0_0 l0_1 bt466.1 bt466.2.1 bt474.1 bt474.2 bt481.1 bt481.2.1) else (lw.j0 k a1 bt466.2.2 bt481.2.2 true l0_0 l0_1 bt466.1 bt466.2.1 bt474.1 bt474.2 bt481.1 bt481.2.1)))))))) = some r := H
 have A3 := Aside0.mk A30
 clear A30
 by_cases c4 : t459 < 0
 ·rw [if_pos c4] at H
  have c4b0 : decide (t459 < 0) = true := decide_eq_true c4
  clear c4
  obtain rfl := Option.some.inj H
  go_enter Try.func9, Try.ntmps9
  go_wp2_with (first | ((with_reducible refine gate_dst (N := 2) rfl ?_); refine box_event ?hg (N := 2) ?hd (cs := #[.slice A0_0 l0_0.length c0_0, .slice A0_1 l0_1.length c0_1]) (t := 24) ?hr ?_; (case hd => rfl); (case hg => rfl); (case hr => first | (go_simp; done) | (go_simp; rfl)); intro gb458 hg w5 hbox hb; have n0_ := Aside0.mk (below_step (by repeat (first | (with_reducible first | exact HB.out | apply below_alloc | apply pw_below_drewN | apply below_drew1) | exact HB.out)) hb); have n1_ := Aside0.mk (hbox); have n2_ := Aside0.mk ((by rw [hg]; exact (below_size (by repeat (first | (with_reducible first | exact HB.out | apply below_alloc | apply pw_below_drewN | apply below_drew1) | exact HB.out))) : w.heap.size ≤ gb458)); have n3_ := Aside0.mk ((by rw [hg]; exact (below_size (by repeat (first | (with_reducible first | exact HB.out | apply below_alloc | apply pw_below_drewN | apply below_drew1) | exact HB.out))) : w.heap.size ≤ gb458)); clear HB; have HB := n0_; have BK458 := n1_; have GW458 := n2_; have GE458 := n3_; clear n0_ n1_ n2_ n3_; clear hb hbox hg; have hcz6_0 : w5.cell? ⟨gb458, 0, none⟩ = some (.slice A0_0 l0_0.length c0_0) := (blk_cell BK458.out 0).trans rfl; have hcz6_1 : w5.cell? ⟨gb458, 1, none⟩ = some (.slice A0_1 l0_1.length c0_1) := (blk_cell BK458.out 1).trans rfl; have hfz6_0 := blk_frozen BK458.out 0; have hfz6_1 := blk_frozen BK458.out 1) | ((with_reducible refine gate_callee (f := 14) rfl ?_); refine goesL_ (some 18) rfl rfl Try.func14 (by kernel_rfl) rfl #[.agg #[.slice A0_0 l0_0.length c0_0, .slice A0_1 l0_1.length c0_1], .int .i64 1048576] rfl (by (try simp only [List.map_toArray, List.map_cons, List.map_nil]); first | done | rfl | (simp only [List.length_drop, List.length_take]; rfl)) ?_; (with_reducible refine (laws_szRotation.calls _ _ l0_0 _ _ l0_1 1048576 t459 _ ?side1 ?side2 ?side3 ?side4 A3.out).mono ?_); (case side1 => repeat (first | exact (Kd.C_below HR0_0.out HB.out) | (with_reducible refine Kd.C_alloc ?_ _) | (with_reducible refine Kd.C_drewN ?_ _) | (with_reducible refine Kd.C_drew ?_))); (case side2 => exact HC0_0.out); (case side3 => repeat (first | exact (Kd.C_below HR0_1.out HB.out) | (with_reducible refine Kd.C_alloc ?_ _) | (with_reducible refine Kd.C_drewN ?_ _) | (with_reducible refine Kd.C_drew ?_))); (case side4 => exact HC0_1.out); rintro e w7 ⟨rfl, hb⟩; refine ⟨_, rfl, ?_⟩; have n0_ := Aside0.mk (blk_below (g := gb458) (o := .cells #[.slice A0_0 l0_0.length c0_0, .slice A0_1 l0_1.length c0_1] 24 (0, 0)) (by (with_reducible repeat (first | refine blk_drewN ?_ _ | refine blk_drew ?_ | refine blk_alloc ?_ _)); exact BK458.out) hb); have n1_ := Aside0.mk (below_step (by repeat (first | (with_reducible first | exact HB.out | apply below_alloc | apply pw_below_drewN | apply below_drew1 | refine below_set ?_ GE458.out) | exact HB.out)) hb); clear BK458; clear HB; have BK458 := n0_; have HB := n1_; clear n0_ n1_; (try clear hb); (try clear hb2); (try clear hk); (try clear hi)))
  go_ret
  exact ⟨by first | rfl | (simp [errW_none, errW_some] <;> rfl) | (simp [*, errW_none, errW_some] <;> rfl), by repeat (first | (with_reducible first | exact HB.out | apply below_alloc | apply pw_below_drewN | apply below_drew1 | refine below_set ?_ GE458.out) | exact HB.out)⟩
 ·rw [if_neg c4] at H
  have c4b0 : decide (t459 < 0) = false := decide_eq_false c4
  clear c4
  replace H := Option.bind_eq_some_iff.mp H
  obtain ⟨⟨t460, t463⟩, A80, H⟩ := H
  replace H : ((spec_TurnRotation.f k t460 t463 a1).bind fun bt466 => ((laws_toRotation.f k l0_0 l0_1).bind fun bt474 => ((impl_TurnRotation.f k bt474.1 bt474.2 a1).bind fun bt481 => ((laws_eqRotation.f k bt481.1 bt481.2.1 bt466.1 bt466.2.1).bind fun t489 => (if t489 = true then (lw.j0 k a1 bt466.2.2 bt481.2.2 (bt481.2.2 != bt466.2.2) l0_0 l0_1 bt466.1 bt466.2.1 bt474.1 bt474.2 bt481.1 bt481.2.1) else (lw.j0 k a1 bt466.2.2 bt481.2.2 true l0_0 l0_1 bt466.1 bt466.2.1 bt474.1 bt474.2 bt481.1 bt481.2.1)))))) = some r := H
  have A8 := Aside0.mk A80
  clear A80
  replace H := Option.bind_eq_some_iff.mp H
  obtain ⟨⟨t466, t469, t472⟩, A90, H⟩ := H
  replace H : ((laws_toRotation.f k l0_0 l0_1).bind fun bt474 => ((impl_TurnRotation.f k bt474.1 bt474.2 a1).bind fun bt481 => ((laws_eqRotation.f k bt481.1 bt481.2.1 t466 t469).bind fun t489 => (if t489 = true then (lw.j0 k a1 t472 bt481.2.2 (bt481.2.2 != t472) l0_0 l0_1 t466 t469 bt474.1 bt474.2 bt481.1 bt481.2.1) else (lw.j0 k a1 t472 bt481.2.2 true l0_0 l0_1 t466 t469 bt474.1 bt474.2 bt481.1 bt481.2.1))))) = some r := H
  have A9 := Aside0.mk A90
  clear A90
  replace H := Option.bind_eq_some_iff.mp H
  obtain ⟨⟨t474, t477⟩, A100, H⟩ := H
  replace H : ((impl_TurnRotation.f k t474 t477 a1).bind fun bt481 => ((laws_eqRotation.f k bt481.1 bt481.2.1 t466 t469).bind fun t489 => (if t489 = true then (lw.j0 k a1 t472 bt481.2.2 (bt481.2.2 != t472) l0_0 l0_1 t466 t469 t474 t477 bt481.1 bt481.2.1) else (lw.j0 k a1 t472 bt481.2.2 true l0_0 l0_1 t466 t469 t474 t477 bt481.1 bt481.2.1)))) = some r := H
  have A10 := Aside0.mk A100
  clear A100
  replace H := Option.bind_eq_some_iff.mp H
  obtain ⟨⟨t481, t484, t487⟩, A110, H⟩ := H
  replace H : ((laws_eqRotation.f k t481 t484 t466 t469).bind fun t489 => (if t489 = true then (lw.j0 k a1 t472 t487 (t487 != t472) l0_0 l0_1 t466 t469 t474 t477 t481 t484) else (lw.j0 k a1 t472 t487 true l0_0 l0_1 t466 t469 t474 t477 t481 t484))) = some r := H
  have A11 := Aside0.mk A110
  clear A110
  have HC12 := Aside0.mk H
  clear H
  go_enter Try.func9, Try.ntmps9
  go_upto_region 8 with (first | ((with_reducible refine gate_dst (N := 2) rfl ?_); refine box_event ?hg (N := 2) ?hd (cs := #[.slice A0_0 l0_0.length c0_0, .slice A0_1 l0_1.length c0_1]) (t := 24) ?hr ?_; (case hd => rfl); (case hg => rfl); (case hr => first | (go_simp; done) | (go_simp; rfl)); intro gb458 hg w13 hbox hb; have n0_ := Aside0.mk (below_step (by repeat (first | (with_reducible first | exact HB.out | apply below_alloc | apply pw_below_drewN | apply below_drew1) | exact HB.out)) hb); have n1_ := Aside0.mk (hbox); have n2_ := Aside0.mk ((by rw [hg]; exact (below_size (by repeat (first | (with_reducible first | exact HB.out | apply below_alloc | apply pw_below_drewN | apply below_drew1) | exact HB.out))) : w.heap.size ≤ gb458)); have n3_ := Aside0.mk ((by rw [hg]; exact (below_size (by repeat (first | (with_reducible first | exact HB.out | apply below_alloc | apply pw_below_drewN | apply below_drew1) | exact HB.out))) : w.heap.size ≤ gb458)); clear HB; have HB := n0_; have BK458 := n1_; have GW458 := n2_; have GE458 := n3_; clear n0_ n1_ n2_ n3_; clear hb hbox hg; have hcz14_0 : w13.cell? ⟨gb458, 0, none⟩ = some (.slice A0_0 l0_0.length c0_0) := (blk_cell BK458.out 0).trans rfl; have hcz14_1 : w13.cell? ⟨gb458, 1, none⟩ = some (.slice A0_1 l0_1.length c0_1) := (blk_cell BK458.out 1).trans rfl; have hfz14_0 := blk_frozen BK458.out 0; have hfz14_1 := blk_frozen BK458.out 1) | ((with_reducible refine gate_callee (f := 14) rfl ?_); refine goesL_ (some 18) rfl rfl Try.func14 (by kernel_rfl) rfl #[.agg #[.slice A0_0 l0_0.length c0_0, .slice A0_1 l0_1.length c0_1], .int .i64 1048576] rfl (by (try simp only [List.map_toArray, List.map_cons, List.map_nil]); first | done | rfl | (simp only [List.length_drop, List.length_take]; rfl)) ?_; (with_reducible refine (laws_szRotation.calls _ _ l0_0 _ _ l0_1 1048576 t459 _ ?side1 ?side2 ?side3 ?side4 A3.out).mono ?_); (case side1 => repeat (first | exact (Kd.C_below HR0_0.out HB.out) | (with_reducible refine Kd.C_alloc ?_ _) | (with_reducible refine Kd.C_drewN ?_ _) | (with_reducible refine Kd.C_drew ?_))); (case side2 => exact HC0_0.out); (case side3 => repeat (first | exact (Kd.C_below HR0_1.out HB.out) | (with_reducible refine Kd.C_alloc ?_ _) | (with_reducible refine Kd.C_drewN ?_ _) | (with_reducible refine Kd.C_drew ?_))); (case side4 => exact HC0_1.out); rintro e w15 ⟨rfl, hb⟩; refine ⟨_, rfl, ?_⟩; have n0_ := Aside0.mk (blk_below (g := gb458) (o := .cells #[.slice A0_0 l0_0.length c0_0, .slice A0_1 l0_1.length c0_1] 24 (0, 0)) (by (with_reducible repeat (first | refine blk_drewN ?_ _ | refine blk_drew ?_ | refine blk_alloc ?_ _)); exact BK458.out) hb); have n1_ := Aside0.mk (below_step (by repeat (first | (with_reducible first | exact HB.out | apply below_alloc | apply pw_below_drewN | apply below_drew1 | refine below_set ?_ GE458.out) | exact HB.out)) hb); clear BK458; clear HB; have BK458 := n0_; have HB := n1_; clear n0_ n1_; (try clear hb); (try clear hb2); (try clear hk); (try clear hi); have hcz16_0 : w15.cell? ⟨gb458, 0, none⟩ = some (.slice A0_0 l0_0.length c0_0) := (blk_cell BK458.out 0).trans rfl; have hcz16_1 : w15.cell? ⟨gb458, 1, none⟩ = some (.slice A0_1 l0_1.length c0_1) := (blk_cell BK458.out 1).trans rfl; have hfz16_0 := blk_frozen BK458.out 0; have hfz16_1 := blk_frozen BK458.out 1) | ((with_reducible refine gate_callee (f := 16) rfl ?_); refine goesL_ (some 23) rfl rfl Try.func16 (by kernel_rfl) rfl #[.agg #[.slice A0_0 l0_0.length c0_0, .slice A0_1 l0_1.length c0_1]] rfl (by (try simp only [List.map_toArray, List.map_cons, List.map_nil]); first | done | rfl | (simp only [List.length_drop, List.length_take]; rfl)) ?_; (with_reducible refine (laws_toRotation.calls k _ _ l0_0 _ _ l0_1 t460 t463 _ ?side1 ?side2 ?side3 ?side4 A8.out).mono ?_); (case side1 => repeat (first | exact (Kd.C_below HR0_0.out HB.out) | (with_reducible refine Kd.C_alloc ?_ _) | (with_reducible refine Kd.C_drewN ?_ _) | (with_reducible refine Kd.C_drew ?_))); (case side2 => exact HC0_0.out); (case side3 => repeat (first | exact (Kd.C_below HR0_1.out HB.out) | (with_reducible refine Kd.C_alloc ?_ _) | (with_reducible refine Kd.C_drewN ?_ _) | (with_reducible refine Kd.C_drew ?_))); (case side4 => exact HC0_1.out); rintro e w17 ⟨v461, v464, rfl, ho0, ho1, hb⟩; refine ⟨_, rfl, ?_⟩; have n0_ := Aside0.mk (Kd.R_lower ho0 (below_size (by repeat (first | (with_reducible first | exact HB.out | apply below_alloc | apply pw_below_drewN | apply below_drew1 | refine below_set ?_ GE458.out) | exact HB.out)))); have n1_ := Aside0.mk (Kd.R_lower ho1 (below_size (by repeat (first | (with_reducible first | exact HB.out | apply below_alloc | apply pw_below_drewN | apply below_drew1 | refine below_set ?_ GE458.out) | exact HB.out)))); have n2_ := Aside0.mk (blk_below (g := gb458) (o := .cells #[.slice A0_0 l0_0.length c0_0, .slice A0_1 l0_1.length c0_1] 24 (0, 0)) (by (with_reducible repeat (first | refine blk_drewN ?_ _ | refine blk_drew ?_ | refine blk_alloc ?_ _)); exact BK458.out) hb); have n3_ := Aside0.mk (below_step (by repeat (first | (with_reducible first | exact HB.out | apply below_alloc | apply pw_below_drewN | apply below_drew1 | refine below_set ?_ GE458.out) | exact HB.out)) hb); clear BK458; clear HB; have HO462 := n0_; have HO465 := n1_; have BK458 := n2_; have HB := n3_; clear n0_ n1_ n2_ n3_; (try clear hb); (try clear hb2); (try clear hk); (try clear hi); (try clear ho0); (try clear ho1); obtain ⟨Ao18, co18, eo18⟩ := Kd.R_slice HO462.out; subst eo18; obtain ⟨Ao19, co19, eo19⟩ := Kd.R_slice HO465.out; subst eo19) | ((with_reducible refine gate_callee (f := 29) rfl ?_); refine goesL_ (some 25) rfl rfl Try.func29 (by kernel_rfl) rfl #[.agg #[.slice Ao18 t460.length co18, .slice Ao19 t463.length co19], .int .i64 a1] rfl (by (try simp only [List.map_toArray, List.map_cons, List.map_nil]); first | done | rfl | (simp only [List.length_drop, List.length_take]; rfl)) ?_; (with_reducible refine (spec_TurnRotation.calls k _ _ t460 _ _ t463 a1 t466 t469 t472 _ ?side1 ?side2 ?side3 ?side4 A9.out).mono ?_); (case side1 => repeat (first | exact (Kd.R_reads' HO462.out).2.2 | (with_reducible refine Kd.C_alloc ?_ _) | (with_reducible refine Kd.C_drewN ?_ _) | (with_reducible refine Kd.C_drew ?_))); (case side2 => exact (Kd.R_reads' HO462.out).2.1); (case side3 => repeat (first | exact (Kd.R_reads' HO465.out).2.2 | (with_reducible refine Kd.C_alloc ?_ _) | (with_reducible refine Kd.C_drewN ?_ _) | (with_reducible refine Kd.C_drew ?_))); (case side4 => exact (Kd.R_reads' HO465.out).2.1); rintro e w20 ⟨v467, v470, rfl, ho0, ho1, hb⟩; refine ⟨_, rfl, ?_⟩; have n0_ := Aside0.mk (Kd.R_mono (Kd.R_told (Kd.R_told (Kd.R_old (by (with_reducible repeat (first | apply Kd.R_alloc | apply Kd.R_drewN | apply Kd.R_drew)); exact HO462.out) hb) (Kd.R_base ho0)) (Kd.R_base ho1)) (fun _ h_ => h_.1)); have n1_ := Aside0.mk (Kd.R_mono (Kd.R_told (Kd.R_told (Kd.R_old (by (with_reducible repeat (first | apply Kd.R_alloc | apply Kd.R_drewN | apply Kd.R_drew)); exact HO465.out) hb) (Kd.R_base ho0)) (Kd.R_base ho1)) (fun _ h_ => h_.1)); have n2_ := Aside0.mk (Kd.R_lower (Kd.R_new' (Kd.R_new' ho0 (Kd.R_lt (by (with_reducible repeat (first | apply Kd.R_alloc | apply Kd.R_drewN | apply Kd.R_drew)); exact HO462.out))) (Kd.R_lt (by (with_reducible repeat (first | apply Kd.R_alloc | apply Kd.R_drewN | apply Kd.R_drew)); exact HO465.out))) (below_size (by repeat (first | (with_reducible first | exact HB.out | apply below_alloc | apply pw_below_drewN | apply below_drew1 | refine below_set ?_ GE458.out) | exact HB.out)))); have n3_ := Aside0.mk (Kd.R_lower (Kd.R_new' (Kd.R_new' ho1 (Kd.R_lt (by (with_reducible repeat (first | apply Kd.R_alloc | apply Kd.R_drewN | apply Kd.R_drew)); exact HO462.out))) (Kd.R_lt (by (with_reducible repeat (first | apply Kd.R_alloc | apply Kd.R_drewN | apply Kd.R_drew)); exact HO465.out))) (below_size (by repeat (first | (with_reducible first | exact HB.out | apply below_alloc | apply pw_below_drewN | apply below_drew1 | refine below_set ?_ GE458.out) | exact HB.out)))); have n4_ := Aside0.mk (blk_below (g := gb458) (o := .cells #[.slice A0_0 l0_0.length c0_0, .slice A0_1 l0_1.length c0_1] 24 (0, 0)) (by (with_reducible repeat (first | refine blk_drewN ?_ _ | refine blk_drew ?_ | refine blk_alloc ?_ _)); exact BK458.out) hb); have n5_ := Aside0.mk (below_step (by repeat (first | (with_reducible first | exact HB.out | apply below_alloc | apply pw_below_drewN | apply below_drew1 | refine below_set ?_ GE458.out) | exact HB.out)) hb); clear HO462; clear HO465; clear BK458; clear HB; have HO462 := n0_; have HO465 := n1_; have HO468 := n2_; have HO471 := n3_; have BK458 := n4_; have HB := n5_; clear n0_ n1_ n2_ n3_ n4_ n5_; (try clear hb); (try clear hb2); (try clear hk); (try clear hi); (try clear ho0); (try clear ho1)) | ((with_reducible refine gate_dst (N := 6) rfl ?_); refine box_event ?hg (N := 6) ?hd (cs := #[.slice none 0 0, .slice none 0 0]) (t := 27) ?hr ?_; (case hd => rfl); (case hg => rfl); (case hr => first | (go_simp; done) | (go_simp; rfl)); intro gb473 hg w21 hbox hb; have n0_ := Aside0.mk (Kd.R_below (by (with_reducible repeat (first | apply Kd.R_alloc | apply Kd.R_drewN | apply Kd.R_drew)); exact HO462.out) hb); have n1_ := Aside0.mk (Kd.R_below (by (with_reducible repeat (first | apply Kd.R_alloc | apply Kd.R_drewN | apply Kd.R_drew)); exact HO465.out) hb); have n2_ := Aside0.mk (Kd.R_below (by (with_reducible repeat (first | apply Kd.R_alloc | apply Kd.R_drewN | apply Kd.R_drew)); exact HO468.out) hb); have n3_ := Aside0.mk (Kd.R_below (by (with_reducible repeat (first | apply Kd.R_alloc | apply Kd.R_drewN | apply Kd.R_drew)); exact HO471.out) hb); have n4_ := Aside0.mk (blk_below (g := gb458) (o := .cells #[.slice A0_0 l0_0.length c0_0, .slice A0_1 l0_1.length c0_1] 24 (0, 0)) (by (with_reducible repeat (first | refine blk_drewN ?_ _ | refine blk_drew ?_ | refine blk_alloc ?_ _)); exact BK458.out) hb); have n5_ := Aside0.mk (below_step (by repeat (first | (with_reducible first | exact HB.out | apply below_alloc | apply pw_below_drewN | apply below_drew1 | refine below_set ?_ GE458.out) | exact HB.out)) hb); have n6_ := Aside0.mk (hbox); have n7_ := Aside0.mk ((by rw [hg]; exact (below_size (by repeat (first | (with_reducible first | exact HB.out | apply below_alloc | apply pw_below_drewN | apply below_drew1 | refine below_set ?_ GE458.out) | exact HB.out))) : w.heap.size ≤ gb473)); have n8_ := Aside0.mk ((by rw [hg]; exact (below_size (by repeat (first | (with_reducible first | exact HB.out | apply below_alloc | apply pw_below_drewN | apply below_drew1 | refine below_set ?_ GE458.out) | exact HB.out))) : w.heap.size ≤ gb473)); have n9_ := Aside0.mk ((by rw [hg]; exact Nat.ne_of_lt (blk_lt (g := gb458) (o := .cells #[.slice A0_0 l0_0.length c0_0, .slice A0_1 l0_1.length c0_1] 24 (0, 0)) (by (with_reducible repeat (first | refine blk_drewN ?_ _ | refine blk_drew ?_ | refine blk_alloc ?_ _)); exact BK458.out)) : gb458 ≠ gb473)); have n10_ := Aside0.mk ((by rw [hg]; exact Nat.ne_of_gt (blk_lt (g := gb458) (o := .cells #[.slice A0_0 l0_0.length c0_0, .slice A0_1 l0_1.length c0_1] 24 (0, 0)) (by (with_reducible repeat (first | refine blk_drewN ?_ _ | refine blk_drew ?_ | refine blk_alloc ?_ _)); exact BK458.out)) : gb473 ≠ gb458)); clear HO462; clear HO465; clear HO468; clear HO471; clear BK458; clear HB; have HO462 := n0_; have HO465 := n1_; have HO468 := n2_; have HO471 := n3_; have BK458 := n4_; have HB := n5_; have BK473 := n6_; have GW473 := n7_; have GE473 := n8_; have NB458_473 := n9_; have NB473_458 := n10_; clear n0_ n1_ n2_ n3_ n4_ n5_ n6_ n7_ n8_ n9_ n10_; clear hb hbox hg; obtain ⟨Ao22, co22, eo22⟩ := Kd.R_slice HO468.out; subst eo22; have hnb23 := NB473_458.out; have hnc23 := NB458_473.out; have hcz24_0 : w21.cell? ⟨gb473, 0, none⟩ = some (.slice none 0 0) := (blk_cell BK473.out 0).trans rfl; have hcz24_1 : w21.cell? ⟨gb473, 1, none⟩ = some (.slice none 0 0) := (blk_cell BK473.out 1).trans rfl; have hfz24_0 := blk_frozen BK473.out 0; have hfz24_1 := blk_frozen BK473.out 1; obtain ⟨Ao25, co25, eo25⟩ := Kd.R_slice HO471.out; subst eo25; have hcz26_0 : w21.cell? ⟨gb458, 0, none⟩ = some (.slice A0_0 l0_0.length c0_0) := (blk_cell BK458.out 0).trans rfl; have hcz26_1 : w21.cell? ⟨gb458, 1, none⟩ = some (.slice A0_1 l0_1.length c0_1) := (blk_cell BK458.out 1).trans rfl; have hfz26_0 := blk_frozen BK458.out 0; have hfz26_1 := blk_frozen BK458.out 1) | ((with_reducible refine gate_callee (f := 16) rfl ?_); refine goesL_ (some 29) rfl rfl Try.func16 (by kernel_rfl) rfl #[.agg #[.slice A0_0 l0_0.length c0_0, .slice A0_1 l0_1.length c0_1]] rfl (by (try simp only [List.map_toArray, List.map_cons, List.map_nil]); first | done | rfl | (simp only [List.length_drop, List.length_take]; rfl)) ?_; (with_reducible refine (laws_toRotation.calls k _ _ l0_0 _ _ l0_1 t474 t477 _ ?side1 ?side2 ?side3 ?side4 A10.out).mono ?_); (case side1 => exact Kd.C_below HR0_0.out (by repeat (first | (with_reducible first | exact HB.out | apply below_alloc | apply pw_below_drewN | apply below_drew1 | refine below_set ?_ GE458.out | refine below_set ?_ GE473.out) | exact HB.out))); (case side2 => exact HC0_0.out); (case side3 => exact Kd.C_below HR0_1.out (by repeat (first | (with_reducible first | exact HB.out | apply below_alloc | apply pw_below_drewN | apply below_drew1 | refine below_set ?_ GE458.out | refine below_set ?_ GE473.out) | exact HB.out))); (case side4 => exact HC0_1.out); rintro e w27 ⟨v475, v478, rfl, ho0, ho1, hb⟩; refine ⟨_, rfl, ?_⟩; have n0_ := Aside0.mk (Kd.R_mono (Kd.R_told (Kd.R_told (Kd.R_old (by (with_reducible repeat (first | apply Kd.R_alloc | apply Kd.R_drewN | apply Kd.R_drew)); exact (Kd.R_mono (Kd.R_far (p := ⟨gb473, 1, none⟩) (Kd.R_far (p := ⟨gb473, 0, none⟩) (Kd.R_types HO462.out BK473.out (by decide)) (fun _ hk => hk.2) (.slice Ao22 t466.length co22)) (fun _ hk => hk.2) (.slice Ao25 t469.length co25)) (fun _ h_ => h_.1))) hb) (Kd.R_base ho0)) (Kd.R_base ho1)) (fun _ h_ => h_.1)); have n1_ := Aside0.mk (Kd.R_mono (Kd.R_told (Kd.R_told (Kd.R_old (by (with_reducible repeat (first | apply Kd.R_alloc | apply Kd.R_drewN | apply Kd.R_drew)); exact (Kd.R_mono (Kd.R_far (p := ⟨gb473, 1, none⟩) (Kd.R_far (p := ⟨gb473, 0, none⟩) (Kd.R_types HO465.out BK473.out (by decide)) (fun _ hk => hk.2) (.slice Ao22 t466.length co22)) (fun _ hk => hk.2) (.slice Ao25 t469.length co25)) (fun _ h_ => h_.1))) hb) (Kd.R_base ho0)) (Kd.R_base ho1)) (fun _ h_ => h_.1)); have n2_ := Aside0.mk (Kd.R_mono (Kd.R_told (Kd.R_told (Kd.R_old (by (with_reducible repeat (first | apply Kd.R_alloc | apply Kd.R_drewN | apply Kd.R_drew)); exact (Kd.R_mono (Kd.R_far (p := ⟨gb473, 1, none⟩) (Kd.R_far (p := ⟨gb473, 0, none⟩) (Kd.R_types HO468.out BK473.out (by decide)) (fun _ hk => hk.2) (.slice Ao22 t466.length co22)) (fun _ hk => hk.2) (.slice Ao25 t469.length co25)) (fun _ h_ => h_.1))) hb) (Kd.R_base ho0)) (Kd.R_base ho1)) (fun _ h_ => h_.1)); have n3_ := Aside0.mk (Kd.R_mono (Kd.R_told (Kd.R_told (Kd.R_old (by (with_reducible repeat (first | apply Kd.R_alloc | apply Kd.R_drewN | apply Kd.R_drew)); exact (Kd.R_mono (Kd.R_far (p := ⟨gb473, 1, none⟩) (Kd.R_far (p := ⟨gb473, 0, none⟩) (Kd.R_types HO471.out BK473.out (by decide)) (fun _ hk => hk.2) (.slice Ao22 t466.length co22)) (fun _ hk => hk.2) (.slice Ao25 t469.length co25)) (fun _ h_ => h_.1))) hb) (Kd.R_base ho0)) (Kd.R_base ho1)) (fun _ h_ => h_.1)); have n4_ := Aside0.mk (Kd.R_lower (Kd.R_new' (Kd.R_new' (Kd.R_new' (Kd.R_new' ho0 (Kd.R_lt (by (with_reducible repeat (first | apply Kd.R_alloc | apply Kd.R_drewN | apply Kd.R_drew)); exact (Kd.R_mono (Kd.R_far (p := ⟨gb473, 1, none⟩) (Kd.R_far (p := ⟨gb473, 0, none⟩) (Kd.R_types HO462.out BK473.out (by decide)) (fun _ hk => hk.2) (.slice Ao22 t466.length co22)) (fun _ hk => hk.2) (.slice Ao25 t469.length co25)) (fun _ h_ => h_.1))))) (Kd.R_lt (by (with_reducible repeat (first | apply Kd.R_alloc | apply Kd.R_drewN | apply Kd.R_drew)); exact (Kd.R_mono (Kd.R_far (p := ⟨gb473, 1, none⟩) (Kd.R_far (p := ⟨gb473, 0, none⟩) (Kd.R_types HO465.out BK473.out (by decide)) (fun _ hk => hk.2) (.slice Ao22 t466.length co22)) (fun _ hk => hk.2) (.slice Ao25 t469.length co25)) (fun _ h_ => h_.1))))) (Kd.R_lt (by (with_reducible repeat (first | apply Kd.R_alloc | apply Kd.R_drewN | apply Kd.R_drew)); exact (Kd.R_mono (Kd.R_far (p := ⟨gb473, 1, none⟩) (Kd.R_far (p := ⟨gb473, 0, none⟩) (Kd.R_types HO468.out BK473.out (by decide)) (fun _ hk => hk.2) (.slice Ao22 t466.length co22)) (fun _ hk => hk.2) (.slice Ao25 t469.length co25)) (fun _ h_ => h_.1))))) (Kd.R_lt (by (with_reducible repeat (first | apply Kd.R_alloc | apply Kd.R_drewN | apply Kd.R_drew)); exact (Kd.R_mono (Kd.R_far (p := ⟨gb473, 1, none⟩) (Kd.R_far (p := ⟨gb473, 0, none⟩) (Kd.R_types HO471.out BK473.out (by decide)) (fun _ hk => hk.2) (.slice Ao22 t466.length co22)) (fun _ hk => hk.2) (.slice Ao25 t469.length co25)) (fun _ h_ => h_.1))))) (below_size (by repeat (first | (with_reducible first | exact HB.out | apply below_alloc | apply pw_below_drewN | apply below_drew1 | refine below_set ?_ GE458.out | refine below_set ?_ GE473.out) | exact HB.out)))); have n5_ := Aside0.mk (Kd.R_lower (Kd.R_new' (Kd.R_new' (Kd.R_new' (Kd.R_new' ho1 (Kd.R_lt (by (with_reducible repeat (first | apply Kd.R_alloc | apply Kd.R_drewN | apply Kd.R_drew)); exact (Kd.R_mono (Kd.R_far (p := ⟨gb473, 1, none⟩) (Kd.R_far (p := ⟨gb473, 0, none⟩) (Kd.R_types HO462.out BK473.out (by decide)) (fun _ hk => hk.2) (.slice Ao22 t466.length co22)) (fun _ hk => hk.2) (.slice Ao25 t469.length co25)) (fun _ h_ => h_.1))))) (Kd.R_lt (by (with_reducible repeat (first | apply Kd.R_alloc | apply Kd.R_drewN | apply Kd.R_drew)); exact (Kd.R_mono (Kd.R_far (p := ⟨gb473, 1, none⟩) (Kd.R_far (p := ⟨gb473, 0, none⟩) (Kd.R_types HO465.out BK473.out (by decide)) (fun _ hk => hk.2) (.slice Ao22 t466.length co22)) (fun _ hk => hk.2) (.slice Ao25 t469.length co25)) (fun _ h_ => h_.1))))) (Kd.R_lt (by (with_reducible repeat (first | apply Kd.R_alloc | apply Kd.R_drewN | apply Kd.R_drew)); exact (Kd.R_mono (Kd.R_far (p := ⟨gb473, 1, none⟩) (Kd.R_far (p := ⟨gb473, 0, none⟩) (Kd.R_types HO468.out BK473.out (by decide)) (fun _ hk => hk.2) (.slice Ao22 t466.length co22)) (fun _ hk => hk.2) (.slice Ao25 t469.length co25)) (fun _ h_ => h_.1))))) (Kd.R_lt (by (with_reducible repeat (first | apply Kd.R_alloc | apply Kd.R_drewN | apply Kd.R_drew)); exact (Kd.R_mono (Kd.R_far (p := ⟨gb473, 1, none⟩) (Kd.R_far (p := ⟨gb473, 0, none⟩) (Kd.R_types HO471.out BK473.out (by decide)) (fun _ hk => hk.2) (.slice Ao22 t466.length co22)) (fun _ hk => hk.2) (.slice Ao25 t469.length co25)) (fun _ h_ => h_.1))))) (below_size (by repeat (first | (with_reducible first | exact HB.out | apply below_alloc | apply pw_below_drewN | apply below_drew1 | refine below_set ?_ GE458.out | refine below_set ?_ GE473.out) | exact HB.out)))); have n6_ := Aside0.mk (blk_below (g := gb458) (o := .cells #[.slice A0_0 l0_0.length c0_0, .slice A0_1 l0_1.length c0_1] 24 (0, 0)) (by (with_reducible repeat (first | refine blk_drewN ?_ _ | refine blk_drew ?_ | refine blk_alloc ?_ _)); refine blk_far ?_ NB458_473.out _; (with_reducible repeat (first | refine blk_drewN ?_ _ | refine blk_drew ?_ | refine blk_alloc ?_ _)); refine blk_far ?_ NB458_473.out _; (with_reducible repeat (first | refine blk_drewN ?_ _ | refine blk_drew ?_ | refine blk_alloc ?_ _)); exact BK458.out) hb); have n7_ := Aside0.mk (blk_below (g := gb473) (o := .cells #[.slice Ao22 t466.length co22, .slice Ao25 t469.length co25] 27 (0, 0)) (by (with_reducible repeat (first | refine blk_drewN ?_ _ | refine blk_drew ?_ | refine blk_alloc ?_ _)); refine blk_put (cs := #[.slice Ao22 t466.length co22, .slice none 0 0]) ?_ 1 _ rfl; (with_reducible repeat (first | refine blk_drewN ?_ _ | refine blk_drew ?_ | refine blk_alloc ?_ _)); refine blk_put (cs := #[.slice none 0 0, .slice none 0 0]) ?_ 0 _ rfl; (with_reducible repeat (first | refine blk_drewN ?_ _ | refine blk_drew ?_ | refine blk_alloc ?_ _)); exact BK473.out) hb); have n8_ := Aside0.mk (below_step (by repeat (first | (with_reducible first | exact HB.out | apply below_alloc | apply pw_below_drewN | apply below_drew1 | refine below_set ?_ GE458.out | refine below_set ?_ GE473.out) | exact HB.out)) hb); clear HO462; clear HO465; clear HO468; clear HO471; clear BK458; clear BK473; clear HB; have HO462 := n0_; have HO465 := n1_; have HO468 := n2_; have HO471 := n3_; have HO476 := n4_; have HO479 := n5_; have BK458 := n6_; have BK473 := n7_; have HB := n8_; clear n0_ n1_ n2_ n3_ n4_ n5_ n6_ n7_ n8_; (try clear hb); (try clear hb2); (try clear hk); (try clear hi); (try clear ho0); (try clear ho1)) | ((with_reducible refine gate_dst (N := 8) rfl ?_); refine box_event ?hg (N := 8) ?hd (cs := #[.slice none 0 0, .slice none 0 0]) (t := 27) ?hr ?_; (case hd => rfl); (case hg => rfl); (case hr => first | (go_simp; done) | (go_simp; rfl)); intro gb480 hg w28 hbox hb; have n0_ := Aside0.mk (Kd.R_below (by (with_reducible repeat (first | apply Kd.R_alloc | apply Kd.R_drewN | apply Kd.R_drew)); exact HO462.out) hb); have n1_ := Aside0.mk (Kd.R_below (by (with_reducible repeat (first | apply Kd.R_alloc | apply Kd.R_drewN | apply Kd.R_drew)); exact HO465.out) hb); have n2_ := Aside0.mk (Kd.R_below (by (with_reducible repeat (first | apply Kd.R_alloc | apply Kd.R_drewN | apply Kd.R_drew)); exact HO468.out) hb); have n3_ := Aside0.mk (Kd.R_below (by (with_reducible repeat (first | apply Kd.R_alloc | apply Kd.R_drewN | apply Kd.R_drew)); exact HO471.out) hb); have n4_ := Aside0.mk (Kd.R_below (by (with_reducible repeat (first | apply Kd.R_alloc | apply Kd.R_drewN | apply Kd.R_drew)); exact HO476.out) hb); have n5_ := Aside0.mk (Kd.R_below (by (with_reducible repeat (first | apply Kd.R_alloc | apply Kd.R_drewN | apply Kd.R_drew)); exact HO479.out) hb); have n6_ := Aside0.mk (blk_below (g := gb458) (o := .cells #[.slice A0_0 l0_0.length c0_0, .slice A0_1 l0_1.length c0_1] 24 (0, 0)) (by (with_reducible repeat (first | refine blk_drewN ?_ _ | refine blk_drew ?_ | refine blk_alloc ?_ _)); exact BK458.out) hb); have n7_ := Aside0.mk (blk_below (g := gb473) (o := .cells #[.slice Ao22 t466.length co22, .slice Ao25 t469.length co25] 27 (0, 0)) (by (with_reducible repeat (first | refine blk_drewN ?_ _ | refine blk_drew ?_ | refine blk_alloc ?_ _)); exact BK473.out) hb); have n8_ := Aside0.mk (below_step (by repeat (first | (with_reducible first | exact HB.out | apply below_alloc | apply pw_below_drewN | apply below_drew1 | refine below_set ?_ GE458.out | refine below_set ?_ GE473.out) | exact HB.out)) hb); have n9_ := Aside0.mk (hbox); have n10_ := Aside0.mk ((by rw [hg]; exact (below_size (by repeat (first | (with_reducible first | exact HB.out | apply below_alloc | apply pw_below_drewN | apply below_drew1 | refine below_set ?_ GE458.out | refine below_set ?_ GE473.out) | exact HB.out))) : w.heap.size ≤ gb480)); have n11_ := Aside0.mk ((by rw [hg]; exact (below_size (by repeat (first | (with_reducible first | exact HB.out | apply below_alloc | apply pw_below_drewN | apply below_drew1 | refine below_set ?_ GE458.out | refine below_set ?_ GE473.out) | exact HB.out))) : w.heap.size ≤ gb480)); have n12_ := Aside0.mk ((by rw [hg]; exact Nat.ne_of_lt (blk_lt (g := gb458) (o := .cells #[.slice A0_0 l0_0.length c0_0, .slice A0_1 l0_1.length c0_1] 24 (0, 0)) (by (with_reducible repeat (first | refine blk_drewN ?_ _ | refine blk_drew ?_ | refine blk_alloc ?_ _)); exact BK458.out)) : gb458 ≠ gb480)); have n13_ := Aside0.mk ((by rw [hg]; exact Nat.ne_of_gt (blk_lt (g := gb458) (o := .cells #[.slice A0_0 l0_0.length c0_0, .slice A0_1 l0_1.length c0_1] 24 (0, 0)) (by (with_reducible repeat (first | refine blk_drewN ?_ _ | refine blk_drew ?_ | refine blk_alloc ?_ _)); exact BK458.out)) : gb480 ≠ gb458)); have n14_ := Aside0.mk ((by rw [hg]; exact Nat.ne_of_lt (blk_lt (g := gb473) (o := .cells #[.slice Ao22 t466.length co22, .slice Ao25 t469.length co25] 27 (0, 0)) (by (with_reducible repeat (first | refine blk_drewN ?_ _ | refine blk_drew ?_ | refine blk_alloc ?_ _)); exact BK473.out)) : gb473 ≠ gb480)); have n15_ := Aside0.mk ((by rw [hg]; exact Nat.ne_of_gt (blk_lt (g := gb473) (o := .cells #[.slice Ao22 t466.length co22, .slice Ao25 t469.length co25] 27 (0, 0)) (by (with_reducible repeat (first | refine blk_drewN ?_ _ | refine blk_drew ?_ | refine blk_alloc ?_ _)); exact BK473.out)) : gb480 ≠ gb473)); clear HO462; clear HO465; clear HO468; clear HO471; clear HO476; clear HO479; clear BK458; clear BK473; clear HB; have HO462 := n0_; have HO465 := n1_; have HO468 := n2_; have HO471 := n3_; have HO476 := n4_; have HO479 := n5_; have BK458 := n6_; have BK473 := n7_; have HB := n8_; have BK480 := n9_; have GW480 := n10_; have GE480 := n11_; have NB458_480 := n12_; have NB480_458 := n13_; have NB473_480 := n14_; have NB480_473 := n15_; clear n0_ n1_ n2_ n3_ n4_ n5_ n6_ n7_ n8_ n9_ n10_ n11_ n12_ n13_ n14_ n15_; clear hb hbox hg; obtain ⟨Ao29, co29, eo29⟩ := Kd.R_slice HO476.out; subst eo29; have hnb30 := NB480_458.out; have hnc30 := NB458_480.out; have hnb31 := NB480_473.out; have hnc31 := NB473_480.out; have hcz32_0 : w28.cell? ⟨gb480, 0, none⟩ = some (.slice none 0 0) := (blk_cell BK480.out 0).trans rfl; have hcz32_1 : w28.cell? ⟨gb480, 1, none⟩ = some (.slice none 0 0) := (blk_cell BK480.out 1).trans rfl; have hfz32_0 := blk_frozen BK480.out 0; have hfz32_1 := blk_frozen BK480.out 1; obtain ⟨Ao33, co33, eo33⟩ := Kd.R_slice HO479.out; subst eo33) | ((with_reducible refine gate_callee (f := 30) rfl ?_); refine goesL_ (some 33) rfl rfl Try.func30 (by kernel_rfl) rfl #[.agg #[.slice Ao29 t474.length co29, .slice Ao33 t477.length co33], .int .i64 a1] rfl (by (try simp only [List.map_toArray, List.map_cons, List.map_nil]); first | done | rfl | (simp only [List.length_drop, List.length_take]; rfl)) ?_; (with_reducible refine (impl_TurnRotation.calls k _ _ t474 _ _ t477 a1 t481 t484 t487 _ ?side1 ?side2 ?side3 ?side4 A11.out).mono ?_); (case side1 => refine (Kd.R_reads' (e := 3) (base := w.heap.size) (ok := fun k_ => ((((some k_ ≠ (.slice Ao33 t477.length co33 : Value).ownBlock ∧ some k_ ≠ (.slice Ao18 t460.length co18 : Value).ownBlock) ∧ some k_ ≠ (.slice Ao19 t463.length co19 : Value).ownBlock) ∧ some k_ ≠ (.slice Ao22 t466.length co22 : Value).ownBlock) ∧ some k_ ≠ (.slice Ao25 t469.length co25 : Value).ownBlock)) (n := t474.length) (c := co29) ?_).2.2; exact (by (with_reducible repeat (first | apply Kd.R_alloc | apply Kd.R_drewN | apply Kd.R_drew)); exact (Kd.R_mono (Kd.R_far (p := ⟨gb480, 1, none⟩) (Kd.R_far (p := ⟨gb480, 0, none⟩) (Kd.R_types HO476.out BK480.out (by decide)) (fun _ hk => hk.2) (.slice Ao29 t474.length co29)) (fun _ hk => hk.2) (.slice Ao33 t477.length co33)) (fun _ h_ => h_.1)))); (case side2 => exact (Kd.R_reads' HO476.out).2.1); (case side3 => refine (Kd.R_reads' (e := 3) (base := w.heap.size) (ok := fun k_ => ((((some k_ ≠ (.slice Ao29 t474.length co29 : Value).ownBlock ∧ some k_ ≠ (.slice Ao18 t460.length co18 : Value).ownBlock) ∧ some k_ ≠ (.slice Ao19 t463.length co19 : Value).ownBlock) ∧ some k_ ≠ (.slice Ao22 t466.length co22 : Value).ownBlock) ∧ some k_ ≠ (.slice Ao25 t469.length co25 : Value).ownBlock)) (n := t477.length) (c := co33) ?_).2.2; exact (by (with_reducible repeat (first | apply Kd.R_alloc | apply Kd.R_drewN | apply Kd.R_drew)); exact (Kd.R_mono (Kd.R_far (p := ⟨gb480, 1, none⟩) (Kd.R_far (p := ⟨gb480, 0, none⟩) (Kd.R_types HO479.out BK480.out (by decide)) (fun _ hk => hk.2) (.slice Ao29 t474.length co29)) (fun _ hk => hk.2) (.slice Ao33 t477.length co33)) (fun _ h_ => h_.1)))); (case side4 => exact (Kd.R_reads' HO479.out).2.1); rintro e w34 ⟨v482, v485, rfl, ho0, ho1, hb⟩; refine ⟨_, rfl, ?_⟩; have n0_ := Aside0.mk (Kd.R_mono (Kd.R_told (Kd.R_told (Kd.R_old (by (with_reducible repeat (first | apply Kd.R_alloc | apply Kd.R_drewN | apply Kd.R_drew)); exact (Kd.R_mono (Kd.R_far (p := ⟨gb480, 1, none⟩) (Kd.R_far (p := ⟨gb480, 0, none⟩) (Kd.R_types HO462.out BK480.out (by decide)) (fun _ hk => hk.2) (.slice Ao29 t474.length co29)) (fun _ hk => hk.2) (.slice Ao33 t477.length co33)) (fun _ h_ => h_.1))) hb) (Kd.R_base ho0)) (Kd.R_base ho1)) (fun _ h_ => h_.1)); have n1_ := Aside0.mk (Kd.R_mono (Kd.R_told (Kd.R_told (Kd.R_old (by (with_reducible repeat (first | apply Kd.R_alloc | apply Kd.R_drewN | apply Kd.R_drew)); exact (Kd.R_mono (Kd.R_far (p := ⟨gb480, 1, none⟩) (Kd.R_far (p := ⟨gb480, 0, none⟩) (Kd.R_types HO465.out BK480.out (by decide)) (fun _ hk => hk.2) (.slice Ao29 t474.length co29)) (fun _ hk => hk.2) (.slice Ao33 t477.length co33)) (fun _ h_ => h_.1))) hb) (Kd.R_base ho0)) (Kd.R_base ho1)) (fun _ h_ => h_.1)); have n2_ := Aside0.mk (Kd.R_mono (Kd.R_told (Kd.R_told (Kd.R_old (by (with_reducible repeat (first | apply Kd.R_alloc | apply Kd.R_drewN | apply Kd.R_drew)); exact (Kd.R_mono (Kd.R_far (p := ⟨gb480, 1, none⟩) (Kd.R_far (p := ⟨gb480, 0, none⟩) (Kd.R_types HO468.out BK480.out (by decide)) (fun _ hk => hk.2) (.slice Ao29 t474.length co29)) (fun _ hk => hk.2) (.slice Ao33 t477.length co33)) (fun _ h_ => h_.1))) hb) (Kd.R_base ho0)) (Kd.R_base ho1)) (fun _ h_ => h_.1)); have n3_ := Aside0.mk (Kd.R_mono (Kd.R_told (Kd.R_told (Kd.R_old (by (with_reducible repeat (first | apply Kd.R_alloc | apply Kd.R_drewN | apply Kd.R_drew)); exact (Kd.R_mono (Kd.R_far (p := ⟨gb480, 1, none⟩) (Kd.R_far (p := ⟨gb480, 0, none⟩) (Kd.R_types HO471.out BK480.out (by decide)) (fun _ hk => hk.2) (.slice Ao29 t474.length co29)) (fun _ hk => hk.2) (.slice Ao33 t477.length co33)) (fun _ h_ => h_.1))) hb) (Kd.R_base ho0)) (Kd.R_base ho1)) (fun _ h_ => h_.1)); have n4_ := Aside0.mk (Kd.R_mono (Kd.R_told (Kd.R_told (Kd.R_old (by (with_reducible repeat (first | apply Kd.R_alloc | apply Kd.R_drewN | apply Kd.R_drew)); exact (Kd.R_mono (Kd.R_far (p := ⟨gb480, 1, none⟩) (Kd.R_far (p := ⟨gb480, 0, none⟩) (Kd.R_types HO476.out BK480.out (by decide)) (fun _ hk => hk.2) (.slice Ao29 t474.length co29)) (fun _ hk => hk.2) (.slice Ao33 t477.length co33)) (fun _ h_ => h_.1))) hb) (Kd.R_base ho0)) (Kd.R_base ho1)) (fun _ h_ => h_.1)); have n5_ := Aside0.mk (Kd.R_mono (Kd.R_told (Kd.R_told (Kd.R_old (by (with_reducible repeat (first | apply Kd.R_alloc | apply Kd.R_drewN | apply Kd.R_drew)); exact (Kd.R_mono (Kd.R_far (p := ⟨gb480, 1, none⟩) (Kd.R_far (p := ⟨gb480, 0, none⟩) (Kd.R_types HO479.out BK480.out (by decide)) (fun _ hk => hk.2) (.slice Ao29 t474.length co29)) (fun _ hk => hk.2) (.slice Ao33 t477.length co33)) (fun _ h_ => h_.1))) hb) (Kd.R_base ho0)) (Kd.R_base ho1)) (fun _ h_ => h_.1)); have n6_ := Aside0.mk (Kd.R_lower (Kd.R_new' (Kd.R_new' (Kd.R_new' (Kd.R_new' (Kd.R_new' (Kd.R_new' ho0 (Kd.R_lt (by (with_reducible repeat (first | apply Kd.R_alloc | apply Kd.R_drewN | apply Kd.R_drew)); exact (Kd.R_mono (Kd.R_far (p := ⟨gb480, 1, none⟩) (Kd.R_far (p := ⟨gb480, 0, none⟩) (Kd.R_types HO462.out BK480.out (by decide)) (fun _ hk => hk.2) (.slice Ao29 t474.length co29)) (fun _ hk => hk.2) (.slice Ao33 t477.length co33)) (fun _ h_ => h_.1))))) (Kd.R_lt (by (with_reducible repeat (first | apply Kd.R_alloc | apply Kd.R_drewN | apply Kd.R_drew)); exact (Kd.R_mono (Kd.R_far (p := ⟨gb480, 1, none⟩) (Kd.R_far (p := ⟨gb480, 0, none⟩) (Kd.R_types HO465.out BK480.out (by decide)) (fun _ hk => hk.2) (.slice Ao29 t474.length co29)) (fun _ hk => hk.2) (.slice Ao33 t477.length co33)) (fun _ h_ => h_.1))))) (Kd.R_lt (by (with_reducible repeat (first | apply Kd.R_alloc | apply Kd.R_drewN | apply Kd.R_drew)); exact (Kd.R_mono (Kd.R_far (p := ⟨gb480, 1, none⟩) (Kd.R_far (p := ⟨gb480, 0, none⟩) (Kd.R_types HO468.out BK480.out (by decide)) (fun _ hk => hk.2) (.slice Ao29 t474.length co29)) (fun _ hk => hk.2) (.slice Ao33 t477.length co33)) (fun _ h_ => h_.1))))) (Kd.R_lt (by (with_reducible repeat (first | apply Kd.R_alloc | apply Kd.R_drewN | apply Kd.R_drew)); exact (Kd.R_mono (Kd.R_far (p := ⟨gb480, 1, none⟩) (Kd.R_far (p := ⟨gb480, 0, none⟩) (Kd.R_types HO471.out BK480.out (by decide)) (fun _ hk => hk.2) (.slice Ao29 t474.length co29)) (fun _ hk => hk.2) (.slice Ao33 t477.length co33)) (fun _ h_ => h_.1))))) (Kd.R_lt (by (with_reducible repeat (first | apply Kd.R_alloc | apply Kd.R_drewN | apply Kd.R_drew)); exact (Kd.R_mono (Kd.R_far (p := ⟨gb480, 1, none⟩) (Kd.R_far (p := ⟨gb480, 0, none⟩) (Kd.R_types HO476.out BK480.out (by decide)) (fun _ hk => hk.2) (.slice Ao29 t474.length co29)) (fun _ hk => hk.2) (.slice Ao33 t477.length co33)) (fun _ h_ => h_.1))))) (Kd.R_lt (by (with_reducible repeat (first | apply Kd.R_alloc | apply Kd.R_drewN | apply Kd.R_drew)); exact (Kd.R_mono (Kd.R_far (p := ⟨gb480, 1, none⟩) (Kd.R_far (p := ⟨gb480, 0, none⟩) (Kd.R_types HO479.out BK480.out (by decide)) (fun _ hk => hk.2) (.slice Ao29 t474.length co29)) (fun _ hk => hk.2) (.slice Ao33 t477.length co33)) (fun _ h_ => h_.1))))) (below_size (by repeat (first | (with_reducible first | exact HB.out | apply below_alloc | apply pw_below_drewN | apply below_drew1 | refine below_set ?_ GE458.out | refine below_set ?_ GE473.out | refine below_set ?_ GE480.out) | exact HB.out)))); have n7_ := Aside0.mk (Kd.R_lower (Kd.R_new' (Kd.R_new' (Kd.R_new' (Kd.R_new' (Kd.R_new' (Kd.R_new' ho1 (Kd.R_lt (by (with_reducible repeat (first | apply Kd.R_alloc | apply Kd.R_drewN | apply Kd.R_drew)); exact (Kd.R_mono (Kd.R_far (p := ⟨gb480, 1, none⟩) (Kd.R_far (p := ⟨gb480, 0, none⟩) (Kd.R_types HO462.out BK480.out (by decide)) (fun _ hk => hk.2) (.slice Ao29 t474.length co29)) (fun _ hk => hk.2) (.slice Ao33 t477.length co33)) (fun _ h_ => h_.1))))) (Kd.R_lt (by (with_reducible repeat (first | apply Kd.R_alloc | apply Kd.R_drewN | apply Kd.R_drew)); exact (Kd.R_mono (Kd.R_far (p := ⟨gb480, 1, none⟩) (Kd.R_far (p := ⟨gb480, 0, none⟩) (Kd.R_types HO465.out BK480.out (by decide)) (fun _ hk => hk.2) (.slice Ao29 t474.length co29)) (fun _ hk => hk.2) (.slice Ao33 t477.length co33)) (fun _ h_ => h_.1))))) (Kd.R_lt (by (with_reducible repeat (first | apply Kd.R_alloc | apply Kd.R_drewN | apply Kd.R_drew)); exact (Kd.R_mono (Kd.R_far (p := ⟨gb480, 1, none⟩) (Kd.R_far (p := ⟨gb480, 0, none⟩) (Kd.R_types HO468.out BK480.out (by decide)) (fun _ hk => hk.2) (.slice Ao29 t474.length co29)) (fun _ hk => hk.2) (.slice Ao33 t477.length co33)) (fun _ h_ => h_.1))))) (Kd.R_lt (by (with_reducible repeat (first | apply Kd.R_alloc | apply Kd.R_drewN | apply Kd.R_drew)); exact (Kd.R_mono (Kd.R_far (p := ⟨gb480, 1, none⟩) (Kd.R_far (p := ⟨gb480, 0, none⟩) (Kd.R_types HO471.out BK480.out (by decide)) (fun _ hk => hk.2) (.slice Ao29 t474.length co29)) (fun _ hk => hk.2) (.slice Ao33 t477.length co33)) (fun _ h_ => h_.1))))) (Kd.R_lt (by (with_reducible repeat (first | apply Kd.R_alloc | apply Kd.R_drewN | apply Kd.R_drew)); exact (Kd.R_mono (Kd.R_far (p := ⟨gb480, 1, none⟩) (Kd.R_far (p := ⟨gb480, 0, none⟩) (Kd.R_types HO476.out BK480.out (by decide)) (fun _ hk => hk.2) (.slice Ao29 t474.length co29)) (fun _ hk => hk.2) (.slice Ao33 t477.length co33)) (fun _ h_ => h_.1))))) (Kd.R_lt (by (with_reducible repeat (first | apply Kd.R_alloc | apply Kd.R_drewN | apply Kd.R_drew)); exact (Kd.R_mono (Kd.R_far (p := ⟨gb480, 1, none⟩) (Kd.R_far (p := ⟨gb480, 0, none⟩) (Kd.R_types HO479.out BK480.out (by decide)) (fun _ hk => hk.2) (.slice Ao29 t474.length co29)) (fun _ hk => hk.2) (.slice Ao33 t477.length co33)) (fun _ h_ => h_.1))))) (below_size (by repeat (first | (with_reducible first | exact HB.out | apply below_alloc | apply pw_below_drewN | apply below_drew1 | refine below_set ?_ GE458.out | refine below_set ?_ GE473.out | refine below_set ?_ GE480.out) | exact HB.out)))); have n8_ := Aside0.mk (blk_below (g := gb458) (o := .cells #[.slice A0_0 l0_0.length c0_0, .slice A0_1 l0_1.length c0_1] 24 (0, 0)) (by (with_reducible repeat (first | refine blk_drewN ?_ _ | refine blk_drew ?_ | refine blk_alloc ?_ _)); refine blk_far ?_ NB458_480.out _; (with_reducible repeat (first | refine blk_drewN ?_ _ | refine blk_drew ?_ | refine blk_alloc ?_ _)); refine blk_far ?_ NB458_480.out _; (with_reducible repeat (first | refine blk_drewN ?_ _ | refine blk_drew ?_ | refine blk_alloc ?_ _)); exact BK458.out) hb); have n9_ := Aside0.mk (blk_below (g := gb473) (o := .cells #[.slice Ao22 t466.length co22, .slice Ao25 t469.length co25] 27 (0, 0)) (by (with_reducible repeat (first | refine blk_drewN ?_ _ | refine blk_drew ?_ | refine blk_alloc ?_ _)); refine blk_far ?_ NB473_480.out _; (with_reducible repeat (first | refine blk_drewN ?_ _ | refine blk_drew ?_ | refine blk_alloc ?_ _)); refine blk_far ?_ NB473_480.out _; (with_reducible repeat (first | refine blk_drewN ?_ _ | refine blk_drew ?_ | refine blk_alloc ?_ _)); exact BK473.out) hb); have n10_ := Aside0.mk (blk_below (g := gb480) (o := .cells #[.slice Ao29 t474.length co29, .slice Ao33 t477.length co33] 27 (0, 0)) (by (with_reducible repeat (first | refine blk_drewN ?_ _ | refine blk_drew ?_ | refine blk_alloc ?_ _)); refine blk_put (cs := #[.slice Ao29 t474.length co29, .slice none 0 0]) ?_ 1 _ rfl; (with_reducible repeat (first | refine blk_drewN ?_ _ | refine blk_drew ?_ | refine blk_alloc ?_ _)); refine blk_put (cs := #[.slice none 0 0, .slice none 0 0]) ?_ 0 _ rfl; (with_reducible repeat (first | refine blk_drewN ?_ _ | refine blk_drew ?_ | refine blk_alloc ?_ _)); exact BK480.out) hb); have n11_ := Aside0.mk (below_step (by repeat (first | (with_reducible first | exact HB.out | apply below_alloc | apply pw_below_drewN | apply below_drew1 | refine below_set ?_ GE458.out | refine below_set ?_ GE473.out | refine below_set ?_ GE480.out) | exact HB.out)) hb); clear HO462; clear HO465; clear HO468; clear HO471; clear HO476; clear HO479; clear BK458; clear BK473; clear BK480; clear HB; have HO462 := n0_; have HO465 := n1_; have HO468 := n2_; have HO471 := n3_; have HO476 := n4_; have HO479 := n5_; have HO483 := n6_; have HO486 := n7_; have BK458 := n8_; have BK473 := n9_; have BK480 := n10_; have HB := n11_; clear n0_ n1_ n2_ n3_ n4_ n5_ n6_ n7_ n8_ n9_ n10_ n11_; (try clear hb); (try clear hb2); (try clear hk); (try clear hi); (try clear ho0); (try clear ho1)) | ((with_reducible refine gate_dst (N := 9) rfl ?_); refine box_event ?hg (N := 9) ?hd (cs := #[.slice none 0 0, .slice none 0 0]) (t := 27) ?hr ?_; (case hd => rfl); (case hg => rfl); (case hr => first | (go_simp; done) | (go_simp; rfl)); intro gb488 hg w35 hbox hb; have n0_ := Aside0.mk (Kd.R_below (by (with_reducible repeat (first | apply Kd.R_alloc | apply Kd.R_drewN | apply Kd.R_drew)); exact HO462.out) hb); have n1_ := Aside0.mk (Kd.R_below (by (with_reducible repeat (first | apply Kd.R_alloc | apply Kd.R_drewN | apply Kd.R_drew)); exact HO465.out) hb); have n2_ := Aside0.mk (Kd.R_below (by (with_reducible repeat (first | apply Kd.R_alloc | apply Kd.R_drewN | apply Kd.R_drew)); exact HO468.out) hb); have n3_ := Aside0.mk (Kd.R_below (by (with_reducible repeat (first | apply Kd.R_alloc | apply Kd.R_drewN | apply Kd.R_drew)); exact HO471.out) hb); have n4_ := Aside0.mk (Kd.R_below (by (with_reducible repeat (first | apply Kd.R_alloc | apply Kd.R_drewN | apply Kd.R_drew)); exact HO476.out) hb); have n5_ := Aside0.mk (Kd.R_below (by (with_reducible repeat (first | apply Kd.R_alloc | apply Kd.R_drewN | apply Kd.R_drew)); exact HO479.out) hb); have n6_ := Aside0.mk (Kd.R_below (by (with_reducible repeat (first | apply Kd.R_alloc | apply Kd.R_drewN | apply Kd.R_drew)); exact HO483.out) hb); have n7_ := Aside0.mk (Kd.R_below (by (with_reducible repeat (first | apply Kd.R_alloc | apply Kd.R_drewN | apply Kd.R_drew)); exact HO486.out) hb); have n8_ := Aside0.mk (blk_below (g := gb458) (o := .cells #[.slice A0_0 l0_0.length c0_0, .slice A0_1 l0_1.length c0_1] 24 (0, 0)) (by (with_reducible repeat (first | refine blk_drewN ?_ _ | refine blk_drew ?_ | refine blk_alloc ?_ _)); exact BK458.out) hb); have n9_ := Aside0.mk (blk_below (g := gb473) (o := .cells #[.slice Ao22 t466.length co22, .slice Ao25 t469.length co25] 27 (0, 0)) (by (with_reducible repeat (first | refine blk_drewN ?_ _ | refine blk_drew ?_ | refine blk_alloc ?_ _)); exact BK473.out) hb); have n10_ := Aside0.mk (blk_below (g := gb480) (o := .cells #[.slice Ao29 t474.length co29, .slice Ao33 t477.length co33] 27 (0, 0)) (by (with_reducible repeat (first | refine blk_drewN ?_ _ | refine blk_drew ?_ | refine blk_alloc ?_ _)); exact BK480.out) hb); have n11_ := Aside0.mk (below_step (by repeat (first | (with_reducible first | exact HB.out | apply below_alloc | apply pw_below_drewN | apply below_drew1 | refine below_set ?_ GE458.out | refine below_set ?_ GE473.out | refine below_set ?_ GE480.out) | exact HB.out)) hb); have n12_ := Aside0.mk (hbox); have n13_ := Aside0.mk ((by rw [hg]; exact (below_size (by repeat (first | (with_reducible first | exact HB.out | apply below_alloc | apply pw_below_drewN | apply below_drew1 | refine below_set ?_ GE458.out | refine below_set ?_ GE473.out | refine below_set ?_ GE480.out) | exact HB.out))) : w.heap.size ≤ gb488)); have n14_ := Aside0.mk ((by rw [hg]; exact (below_size (by repeat (first | (with_reducible first | exact HB.out | apply below_alloc | apply pw_below_drewN | apply below_drew1 | refine below_set ?_ GE458.out | refine below_set ?_ GE473.out | refine below_set ?_ GE480.out) | exact HB.out))) : w.heap.size ≤ gb488)); have n15_ := Aside0.mk ((by rw [hg]; exact Nat.ne_of_lt (blk_lt (g := gb458) (o := .cells #[.slice A0_0 l0_0.length c0_0, .slice A0_1 l0_1.length c0_1] 24 (0, 0)) (by (with_reducible repeat (first | refine blk_drewN ?_ _ | refine blk_drew ?_ | refine blk_alloc ?_ _)); exact BK458.out)) : gb458 ≠ gb488)); have n16_ := Aside0.mk ((by rw [hg]; exact Nat.ne_of_gt (blk_lt (g := gb458) (o := .cells #[.slice A0_0 l0_0.length c0_0, .slice A0_1 l0_1.length c0_1] 24 (0, 0)) (by (with_reducible repeat (first | refine blk_drewN ?_ _ | refine blk_drew ?_ | refine blk_alloc ?_ _)); exact BK458.out)) : gb488 ≠ gb458)); have n17_ := Aside0.mk ((by rw [hg]; exact Nat.ne_of_lt (blk_lt (g := gb473) (o := .cells #[.slice Ao22 t466.length co22, .slice Ao25 t469.length co25] 27 (0, 0)) (by (with_reducible repeat (first | refine blk_drewN ?_ _ | refine blk_drew ?_ | refine blk_alloc ?_ _)); exact BK473.out)) : gb473 ≠ gb488)); have n18_ := Aside0.mk ((by rw [hg]; exact Nat.ne_of_gt (blk_lt (g := gb473) (o := .cells #[.slice Ao22 t466.length co22, .slice Ao25 t469.length co25] 27 (0, 0)) (by (with_reducible repeat (first | refine blk_drewN ?_ _ | refine blk_drew ?_ | refine blk_alloc ?_ _)); exact BK473.out)) : gb488 ≠ gb473)); have n19_ := Aside0.mk ((by rw [hg]; exact Nat.ne_of_lt (blk_lt (g := gb480) (o := .cells #[.slice Ao29 t474.length co29, .slice Ao33 t477.length co33] 27 (0, 0)) (by (with_reducible repeat (first | refine blk_drewN ?_ _ | refine blk_drew ?_ | refine blk_alloc ?_ _)); exact BK480.out)) : gb480 ≠ gb488)); have n20_ := Aside0.mk ((by rw [hg]; exact Nat.ne_of_gt (blk_lt (g := gb480) (o := .cells #[.slice Ao29 t474.length co29, .slice Ao33 t477.length co33] 27 (0, 0)) (by (with_reducible repeat (first | refine blk_drewN ?_ _ | refine blk_drew ?_ | refine blk_alloc ?_ _)); exact BK480.out)) : gb488 ≠ gb480)); clear HO462; clear HO465; clear HO468; clear HO471; clear HO476; clear HO479; clear HO483; clear HO486; clear BK458; clear BK473; clear BK480; clear HB; have HO462 := n0_; have HO465 := n1_; have HO468 := n2_; have HO471 := n3_; have HO476 := n4_; have HO479 := n5_; have HO483 := n6_; have HO486 := n7_; have BK458 := n8_; have BK473 := n9_; have BK480 := n10_; have HB := n11_; have BK488 := n12_; have GW488 := n13_; have GE488 := n14_; have NB458_488 := n15_; have NB488_458 := n16_; have NB473_488 := n17_; have NB488_473 := n18_; have NB480_488 := n19_; have NB488_480 := n20_; clear n0_ n1_ n2_ n3_ n4_ n5_ n6_ n7_ n8_ n9_ n10_ n11_ n12_ n13_ n14_ n15_ n16_ n17_ n18_ n19_ n20_; clear hb hbox hg; obtain ⟨Ao36, co36, eo36⟩ := Kd.R_slice HO483.out; subst eo36; have hnb37 := NB488_458.out; have hnc37 := NB458_488.out; have hnb38 := NB488_473.out; have hnc38 := NB473_488.out; have hnb39 := NB488_480.out; have hnc39 := NB480_488.out; have hcz40_0 : w35.cell? ⟨gb488, 0, none⟩ = some (.slice none 0 0) := (blk_cell BK488.out 0).trans rfl; have hcz40_1 : w35.cell? ⟨gb488, 1, none⟩ = some (.slice none 0 0) := (blk_cell BK488.out 1).trans rfl; have hfz40_0 := blk_frozen BK488.out 0; have hfz40_1 := blk_frozen BK488.out 1; obtain ⟨Ao41, co41, eo41⟩ := Kd.R_slice HO486.out; subst eo41))
  (try simp only [Act.put, List.setIfInBounds_toArray, List.set_cons_zero, List.set_cons_succ])
  go_cut [44] (fun v44 wc => ∃ (kq : Nat) (x44_11 : Bool), v44 = .bool x44_11 ∧ Aside0 (lw.j0 kq a1 t472 t487 x44_11 l0_0 l0_1 t466 t469 t474 t477 t481 t484 = some r) ∧ Aside0 (kq ≤ k) ∧ Aside0 (Kd.R (Kd.int .i64) 3 wc w.heap.size (fun k_ => some k_ ≠ ((.slice Ao25 t469.length co25) : Value).ownBlock ∧ some k_ ≠ ((.slice Ao29 t474.length co29) : Value).ownBlock ∧ some k_ ≠ ((.slice Ao33 t477.length co33) : Value).ownBlock ∧ some k_ ≠ ((.slice Ao36 t481.length co36) : Value).ownBlock ∧ some k_ ≠ ((.slice Ao41 t484.length co41) : Value).ownBlock) (.slice Ao22 t466.length co22) t466) ∧ Aside0 (Kd.R (Kd.int .i64) 3 wc w.heap.size (fun k_ => some k_ ≠ ((.slice Ao22 t466.length co22) : Value).ownBlock ∧ some k_ ≠ ((.slice Ao29 t474.length co29) : Value).ownBlock ∧ some k_ ≠ ((.slice Ao33 t477.length co33) : Value).ownBlock ∧ some k_ ≠ ((.slice Ao36 t481.length co36) : Value).ownBlock ∧ some k_ ≠ ((.slice Ao41 t484.length co41) : Value).ownBlock) (.slice Ao25 t469.length co25) t469) ∧ Aside0 (Kd.R (Kd.int .i64) 3 wc w.heap.size (fun k_ => some k_ ≠ ((.slice Ao22 t466.length co22) : Value).ownBlock ∧ some k_ ≠ ((.slice Ao25 t469.length co25) : Value).ownBlock ∧ some k_ ≠ ((.slice Ao33 t477.length co33) : Value).ownBlock ∧ some k_ ≠ ((.slice Ao36 t481.length co36) : Value).ownBlock ∧ some k_ ≠ ((.slice Ao41 t484.length co41) : Value).ownBlock) (.slice Ao29 t474.length co29) t474) ∧ Aside0 (Kd.R (Kd.int .i64) 3 wc w.heap.size (fun k_ => some k_ ≠ ((.slice Ao22 t466.length co22) : Value).ownBlock ∧ some k_ ≠ ((.slice Ao25 t469.length co25) : Value).ownBlock ∧ some k_ ≠ ((.slice Ao29 t474.length co29) : Value).ownBlock ∧ some k_ ≠ ((.slice Ao36 t481.length co36) : Value).ownBlock ∧ some k_ ≠ ((.slice Ao41 t484.length co41) : Value).ownBlock) (.slice Ao33 t477.length co33) t477) ∧ Aside0 (Kd.R (Kd.int .i64) 3 wc w.heap.size (fun k_ => some k_ ≠ ((.slice Ao22 t466.length co22) : Value).ownBlock ∧ some k_ ≠ ((.slice Ao25 t469.length co25) : Value).ownBlock ∧ some k_ ≠ ((.slice Ao29 t474.length co29) : Value).ownBlock ∧ some k_ ≠ ((.slice Ao33 t477.length co33) : Value).ownBlock ∧ some k_ ≠ ((.slice Ao41 t484.length co41) : Value).ownBlock) (.slice Ao36 t481.length co36) t481) ∧ Aside0 (Kd.R (Kd.int .i64) 3 wc w.heap.size (fun k_ => some k_ ≠ ((.slice Ao22 t466.length co22) : Value).ownBlock ∧ some k_ ≠ ((.slice Ao25 t469.length co25) : Value).ownBlock ∧ some k_ ≠ ((.slice Ao29 t474.length co29) : Value).ownBlock ∧ some k_ ≠ ((.slice Ao33 t477.length co33) : Value).ownBlock ∧ some k_ ≠ ((.slice Ao36 t481.length co36) : Value).ownBlock) (.slice Ao41 t484.length co41) t484) ∧ Aside0 (wc.heap[gb458]? = some (.cells #[(.slice A0_0 l0_0.length c0_0), (.slice A0_1 l0_1.length c0_1)] 24 (0, 0))) ∧ Aside0 (wc.heap[gb473]? = some (.cells #[(.slice Ao22 t466.length co22), (.slice Ao25 t469.length co25)] 27 (0, 0))) ∧ Aside0 (wc.heap[gb480]? = some (.cells #[(.slice Ao29 t474.length co29), (.slice Ao33 t477.length co33)] 27 (0, 0))) ∧ Aside0 (wc.heap[gb488]? = some (.cells #[(.slice Ao36 t481.length co36), (.slice Ao41 t484.length co41)] 27 (0, 0))) ∧ Aside0 (Below w.heap.size w wc))
  case first =>
   have H := HC12.out
   clear HC12
   replace H := Option.bind_eq_some_iff.mp H
   obtain ⟨t489, A420, H⟩ := H
   replace H : (if t489 = true then (lw.j0 k a1 t472 t487 (t487 != t472) l0_0 l0_1 t466 t469 t474 t477 t481 t484) else (lw.j0 k a1 t472 t487 true l0_0 l0_1 t466 t469 t474 t477 t481 t484)) = some r := H
   have A42 := Aside0.mk A420
   clear A420
   by_cases c43 : t489 = true
   ·subst c43
    have H1 : (lw.j0 k a1 t472 t487 (t487 != t472) l0_0 l0_1 t466 t469 t474 t477 t481 t484) = some r := by rw [if_pos rfl] at H; exact H
    clear H
    have H := H1
    clear H1
    have H' := Aside0.mk H
    clear H
    have hnb44 := NB488_458.out
    have hnc44 := NB458_488.out
    have hnb45 := NB488_473.out
    have hnc45 := NB473_488.out
    have hnb46 := NB488_480.out
    have hnc46 := NB480_488.out
    have hcz47_0 : w35.cell? ⟨gb488, 0, none⟩ = some (.slice none 0 0) := (blk_cell BK488.out 0).trans rfl
    have hcz47_1 : w35.cell? ⟨gb488, 1, none⟩ = some (.slice none 0 0) := (blk_cell BK488.out 1).trans rfl
    have hfz47_0 := blk_frozen BK488.out 0
    have hfz47_1 := blk_frozen BK488.out 1
    have hnb48 := NB473_458.out
    have hnc48 := NB458_473.out
    have hnb49 := NB473_480.out
    have hnc49 := NB480_473.out
    have hcz50_0 : w35.cell? ⟨gb473, 0, none⟩ = some (.slice Ao22 t466.length co22) := (blk_cell BK473.out 0).trans rfl
    have hcz50_1 : w35.cell? ⟨gb473, 1, none⟩ = some (.slice Ao25 t469.length co25) := (blk_cell BK473.out 1).trans rfl
    have hfz50_0 := blk_frozen BK473.out 0
    have hfz50_1 := blk_frozen BK473.out 1
    go_wp2_with (first | ((with_reducible refine gate_callee (f := 18) rfl ?_); refine goesL_ (some 38) rfl rfl Try.func18 (by kernel_rfl) rfl #[.agg #[.slice Ao36 t481.length co36, .slice Ao41 t484.length co41], .agg #[.slice Ao22 t466.length co22, .slice Ao25 t469.length co25]] rfl (by (try simp only [List.map_toArray, List.map_cons, List.map_nil]); first | done | rfl | (simp only [List.length_drop, List.length_take]; rfl)) ?_; (with_reducible refine (laws_eqRotation.calls k _ _ t481 _ _ t484 _ _ t466 _ _ t469 true _ ?side1 ?side2 ?side3 ?side4 ?side5 ?side6 ?side7 ?side8 A42.out).mono ?_); (case side1 => refine (Kd.R_reads' (e := 3) (base := w.heap.size) (ok := fun k_ => ((((((some k_ ≠ (.slice Ao41 t484.length co41 : Value).ownBlock ∧ some k_ ≠ (.slice Ao18 t460.length co18 : Value).ownBlock) ∧ some k_ ≠ (.slice Ao19 t463.length co19 : Value).ownBlock) ∧ some k_ ≠ (.slice Ao22 t466.length co22 : Value).ownBlock) ∧ some k_ ≠ (.slice Ao25 t469.length co25 : Value).ownBlock) ∧ some k_ ≠ (.slice Ao29 t474.length co29 : Value).ownBlock) ∧ some k_ ≠ (.slice Ao33 t477.length co33 : Value).ownBlock)) (n := t481.length) (c := co36) ?_).2.2; exact (by (with_reducible repeat (first | apply Kd.R_alloc | apply Kd.R_drewN | apply Kd.R_drew)); exact (Kd.R_mono (Kd.R_far (p := ⟨gb488, 1, none⟩) (Kd.R_far (p := ⟨gb488, 0, none⟩) (Kd.R_types HO483.out BK488.out (by decide)) (fun _ hk => hk.2) (.slice Ao36 t481.length co36)) (fun _ hk => hk.2) (.slice Ao41 t484.length co41)) (fun _ h_ => h_.1)))); (case side2 => exact (Kd.R_reads' HO483.out).2.1); (case side3 => refine (Kd.R_reads' (e := 3) (base := w.heap.size) (ok := fun k_ => ((((((some k_ ≠ (.slice Ao36 t481.length co36 : Value).ownBlock ∧ some k_ ≠ (.slice Ao18 t460.length co18 : Value).ownBlock) ∧ some k_ ≠ (.slice Ao19 t463.length co19 : Value).ownBlock) ∧ some k_ ≠ (.slice Ao22 t466.length co22 : Value).ownBlock) ∧ some k_ ≠ (.slice Ao25 t469.length co25 : Value).ownBlock) ∧ some k_ ≠ (.slice Ao29 t474.length co29 : Value).ownBlock) ∧ some k_ ≠ (.slice Ao33 t477.length co33 : Value).ownBlock)) (n := t484.length) (c := co41) ?_).2.2; exact (by (with_reducible repeat (first | apply Kd.R_alloc | apply Kd.R_drewN | apply Kd.R_drew)); exact (Kd.R_mono (Kd.R_far (p := ⟨gb488, 1, none⟩) (Kd.R_far (p := ⟨gb488, 0, none⟩) (Kd.R_types HO486.out BK488.out (by decide)) (fun _ hk => hk.2) (.slice Ao36 t481.length co36)) (fun _ hk => hk.2) (.slice Ao41 t484.length co41)) (fun _ h_ => h_.1)))); (case side4 => exact (Kd.R_reads' HO486.out).2.1); (case side5 => refine (Kd.R_reads' (e := 3) (base := w.heap.size) (ok := fun k_ => ((((((some k_ ≠ (.slice Ao25 t469.length co25 : Value).ownBlock ∧ some k_ ≠ (.slice Ao18 t460.length co18 : Value).ownBlock) ∧ some k_ ≠ (.slice Ao19 t463.length co19 : Value).ownBlock) ∧ some k_ ≠ (.slice Ao29 t474.length co29 : Value).ownBlock) ∧ some k_ ≠ (.slice Ao33 t477.length co33 : Value).ownBlock) ∧ some k_ ≠ (.slice Ao36 t481.length co36 : Value).ownBlock) ∧ some k_ ≠ (.slice Ao41 t484.length co41 : Value).ownBlock)) (n := t466.length) (c := co22) ?_).2.2; exact (by (with_reducible repeat (first | apply Kd.R_alloc | apply Kd.R_drewN | apply Kd.R_drew)); exact (Kd.R_mono (Kd.R_far (p := ⟨gb488, 1, none⟩) (Kd.R_far (p := ⟨gb488, 0, none⟩) (Kd.R_types HO468.out BK488.out (by decide)) (fun _ hk => hk.2) (.slice Ao36 t481.length co36)) (fun _ hk => hk.2) (.slice Ao41 t484.length co41)) (fun _ h_ => h_.1)))); (case side6 => exact (Kd.R_reads' HO468.out).2.1); (case side7 => refine (Kd.R_reads' (e := 3) (base := w.heap.size) (ok := fun k_ => ((((((some k_ ≠ (.slice Ao22 t466.length co22 : Value).ownBlock ∧ some k_ ≠ (.slice Ao18 t460.length co18 : Value).ownBlock) ∧ some k_ ≠ (.slice Ao19 t463.length co19 : Value).ownBlock) ∧ some k_ ≠ (.slice Ao29 t474.length co29 : Value).ownBlock) ∧ some k_ ≠ (.slice Ao33 t477.length co33 : Value).ownBlock) ∧ some k_ ≠ (.slice Ao36 t481.length co36 : Value).ownBlock) ∧ some k_ ≠ (.slice Ao41 t484.length co41 : Value).ownBlock)) (n := t469.length) (c := co25) ?_).2.2; exact (by (with_reducible repeat (first | apply Kd.R_alloc | apply Kd.R_drewN | apply Kd.R_drew)); exact (Kd.R_mono (Kd.R_far (p := ⟨gb488, 1, none⟩) (Kd.R_far (p := ⟨gb488, 0, none⟩) (Kd.R_types HO471.out BK488.out (by decide)) (fun _ hk => hk.2) (.slice Ao36 t481.length co36)) (fun _ hk => hk.2) (.slice Ao41 t484.length co41)) (fun _ h_ => h_.1)))); (case side8 => exact (Kd.R_reads' HO471.out).2.1); rintro e w51 ⟨rfl, hb⟩; refine ⟨_, rfl, ?_⟩; have n0_ := Aside0.mk (Kd.R_below (by (with_reducible repeat (first | apply Kd.R_alloc | apply Kd.R_drewN | apply Kd.R_drew)); exact (Kd.R_mono (Kd.R_far (p := ⟨gb488, 1, none⟩) (Kd.R_far (p := ⟨gb488, 0, none⟩) (Kd.R_types HO462.out BK488.out (by decide)) (fun _ hk => hk.2) (.slice Ao36 t481.length co36)) (fun _ hk => hk.2) (.slice Ao41 t484.length co41)) (fun _ h_ => h_.1))) hb); have n1_ := Aside0.mk (Kd.R_below (by (with_reducible repeat (first | apply Kd.R_alloc | apply Kd.R_drewN | apply Kd.R_drew)); exact (Kd.R_mono (Kd.R_far (p := ⟨gb488, 1, none⟩) (Kd.R_far (p := ⟨gb488, 0, none⟩) (Kd.R_types HO465.out BK488.out (by decide)) (fun _ hk => hk.2) (.slice Ao36 t481.length co36)) (fun _ hk => hk.2) (.slice Ao41 t484.length co41)) (fun _ h_ => h_.1))) hb); have n2_ := Aside0.mk (Kd.R_below (by (with_reducible repeat (first | apply Kd.R_alloc | apply Kd.R_drewN | apply Kd.R_drew)); exact (Kd.R_mono (Kd.R_far (p := ⟨gb488, 1, none⟩) (Kd.R_far (p := ⟨gb488, 0, none⟩) (Kd.R_types HO468.out BK488.out (by decide)) (fun _ hk => hk.2) (.slice Ao36 t481.length co36)) (fun _ hk => hk.2) (.slice Ao41 t484.length co41)) (fun _ h_ => h_.1))) hb); have n3_ := Aside0.mk (Kd.R_below (by (with_reducible repeat (first | apply Kd.R_alloc | apply Kd.R_drewN | apply Kd.R_drew)); exact (Kd.R_mono (Kd.R_far (p := ⟨gb488, 1, none⟩) (Kd.R_far (p := ⟨gb488, 0, none⟩) (Kd.R_types HO471.out BK488.out (by decide)) (fun _ hk => hk.2) (.slice Ao36 t481.length co36)) (fun _ hk => hk.2) (.slice Ao41 t484.length co41)) (fun _ h_ => h_.1))) hb); have n4_ := Aside0.mk (Kd.R_below (by (with_reducible repeat (first | apply Kd.R_alloc | apply Kd.R_drewN | apply Kd.R_drew)); exact (Kd.R_mono (Kd.R_far (p := ⟨gb488, 1, none⟩) (Kd.R_far (p := ⟨gb488, 0, none⟩) (Kd.R_types HO476.out BK488.out (by decide)) (fun _ hk => hk.2) (.slice Ao36 t481.length co36)) (fun _ hk => hk.2) (.slice Ao41 t484.length co41)) (fun _ h_ => h_.1))) hb); have n5_ := Aside0.mk (Kd.R_below (by (with_reducible repeat (first | apply Kd.R_alloc | apply Kd.R_drewN | apply Kd.R_drew)); exact (Kd.R_mono (Kd.R_far (p := ⟨gb488, 1, none⟩) (Kd.R_far (p := ⟨gb488, 0, none⟩) (Kd.R_types HO479.out BK488.out (by decide)) (fun _ hk => hk.2) (.slice Ao36 t481.length co36)) (fun _ hk => hk.2) (.slice Ao41 t484.length co41)) (fun _ h_ => h_.1))) hb); have n6_ := Aside0.mk (Kd.R_below (by (with_reducible repeat (first | apply Kd.R_alloc | apply Kd.R_drewN | apply Kd.R_drew)); exact (Kd.R_mono (Kd.R_far (p := ⟨gb488, 1, none⟩) (Kd.R_far (p := ⟨gb488, 0, none⟩) (Kd.R_types HO483.out BK488.out (by decide)) (fun _ hk => hk.2) (.slice Ao36 t481.length co36)) (fun _ hk => hk.2) (.slice Ao41 t484.length co41)) (fun _ h_ => h_.1))) hb); have n7_ := Aside0.mk (Kd.R_below (by (with_reducible repeat (first | apply Kd.R_alloc | apply Kd.R_drewN | apply Kd.R_drew)); exact (Kd.R_mono (Kd.R_far (p := ⟨gb488, 1, none⟩) (Kd.R_far (p := ⟨gb488, 0, none⟩) (Kd.R_types HO486.out BK488.out (by decide)) (fun _ hk => hk.2) (.slice Ao36 t481.length co36)) (fun _ hk => hk.2) (.slice Ao41 t484.length co41)) (fun _ h_ => h_.1))) hb); have n8_ := Aside0.mk (blk_below (g := gb458) (o := .cells #[.slice A0_0 l0_0.length c0_0, .slice A0_1 l0_1.length c0_1] 24 (0, 0)) (by (with_reducible repeat (first | refine blk_drewN ?_ _ | refine blk_drew ?_ | refine blk_alloc ?_ _)); refine blk_far ?_ NB458_488.out _; (with_reducible repeat (first | refine blk_drewN ?_ _ | refine blk_drew ?_ | refine blk_alloc ?_ _)); refine blk_far ?_ NB458_488.out _; (with_reducible repeat (first | refine blk_drewN ?_ _ | refine blk_drew ?_ | refine blk_alloc ?_ _)); exact BK458.out) hb); have n9_ := Aside0.mk (blk_below (g := gb473) (o := .cells #[.slice Ao22 t466.length co22, .slice Ao25 t469.length co25] 27 (0, 0)) (by (with_reducible repeat (first | refine blk_drewN ?_ _ | refine blk_drew ?_ | refine blk_alloc ?_ _)); refine blk_far ?_ NB473_488.out _; (with_reducible repeat (first | refine blk_drewN ?_ _ | refine blk_drew ?_ | refine blk_alloc ?_ _)); refine blk_far ?_ NB473_488.out _; (with_reducible repeat (first | refine blk_drewN ?_ _ | refine blk_drew ?_ | refine blk_alloc ?_ _)); exact BK473.out) hb); have n10_ := Aside0.mk (blk_below (g := gb480) (o := .cells #[.slice Ao29 t474.length co29, .slice Ao33 t477.length co33] 27 (0, 0)) (by (with_reducible repeat (first | refine blk_drewN ?_ _ | refine blk_drew ?_ | refine blk_alloc ?_ _)); refine blk_far ?_ NB480_488.out _; (with_reducible repeat (first | refine blk_drewN ?_ _ | refine blk_drew ?_ | refine blk_alloc ?_ _)); refine blk_far ?_ NB480_488.out _; (with_reducible repeat (first | refine blk_drewN ?_ _ | refine blk_drew ?_ | refine blk_alloc ?_ _)); exact BK480.out) hb); have n11_ := Aside0.mk (blk_below (g := gb488) (o := .cells #[.slice Ao36 t481.length co36, .slice Ao41 t484.length co41] 27 (0, 0)) (by (with_reducible repeat (first | refine blk_drewN ?_ _ | refine blk_drew ?_ | refine blk_alloc ?_ _)); refine blk_put (cs := #[.slice Ao36 t481.length co36, .slice none 0 0]) ?_ 1 _ rfl; (with_reducible repeat (first | refine blk_drewN ?_ _ | refine blk_drew ?_ | refine blk_alloc ?_ _)); refine blk_put (cs := #[.slice none 0 0, .slice none 0 0]) ?_ 0 _ rfl; (with_reducible repeat (first | refine blk_drewN ?_ _ | refine blk_drew ?_ | refine blk_alloc ?_ _)); exact BK488.out) hb); have n12_ := Aside0.mk (below_step (by repeat (first | (with_reducible first | exact HB.out | apply below_alloc | apply pw_below_drewN | apply below_drew1 | refine below_set ?_ GE458.out | refine below_set ?_ GE473.out | refine below_set ?_ GE480.out | refine below_set ?_ GE488.out) | exact HB.out)) hb); clear HO462; clear HO465; clear HO468; clear HO471; clear HO476; clear HO479; clear HO483; clear HO486; clear BK458; clear BK473; clear BK480; clear BK488; clear HB; have HO462 := n0_; have HO465 := n1_; have HO468 := n2_; have HO471 := n3_; have HO476 := n4_; have HO479 := n5_; have HO483 := n6_; have HO486 := n7_; have BK458 := n8_; have BK473 := n9_; have BK480 := n10_; have BK488 := n11_; have HB := n12_; clear n0_ n1_ n2_ n3_ n4_ n5_ n6_ n7_ n8_ n9_ n10_ n11_ n12_; (try clear hb); (try clear hb2); (try clear hk); (try clear hi)))
    go_meet
    case rel => exact ⟨_, ((t487 != t472)), (by first | rfl | (simp; done) | (simp [*]; done)), H', ⟨by first | omega | exact Nat.le_refl _⟩, ⟨by (with_reducible repeat (first | apply Kd.R_alloc | apply Kd.R_drewN | apply Kd.R_drew)); exact Kd.R_mono HO468.out (fun _ hk => ⟨hk.1.1.1.1.1.1, ⟨hk.1.1.1.2, ⟨hk.1.1.2, ⟨hk.1.2, hk.2⟩⟩⟩⟩)⟩, ⟨by (with_reducible repeat (first | apply Kd.R_alloc | apply Kd.R_drewN | apply Kd.R_drew)); exact Kd.R_mono HO471.out (fun _ hk => ⟨hk.1.1.1.1.1.1, ⟨hk.1.1.1.2, ⟨hk.1.1.2, ⟨hk.1.2, hk.2⟩⟩⟩⟩)⟩, ⟨by (with_reducible repeat (first | apply Kd.R_alloc | apply Kd.R_drewN | apply Kd.R_drew)); exact Kd.R_mono HO476.out (fun _ hk => ⟨hk.1.1.1.2, ⟨hk.1.1.2, ⟨hk.1.1.1.1.1.1, ⟨hk.1.2, hk.2⟩⟩⟩⟩)⟩, ⟨by (with_reducible repeat (first | apply Kd.R_alloc | apply Kd.R_drewN | apply Kd.R_drew)); exact Kd.R_mono HO479.out (fun _ hk => ⟨hk.1.1.1.2, ⟨hk.1.1.2, ⟨hk.1.1.1.1.1.1, ⟨hk.1.2, hk.2⟩⟩⟩⟩)⟩, ⟨by (with_reducible repeat (first | apply Kd.R_alloc | apply Kd.R_drewN | apply Kd.R_drew)); exact Kd.R_mono HO483.out (fun _ hk => ⟨hk.1.1.1.2, ⟨hk.1.1.2, ⟨hk.1.2, ⟨hk.2, hk.1.1.1.1.1.1⟩⟩⟩⟩)⟩, ⟨by (with_reducible repeat (first | apply Kd.R_alloc | apply Kd.R_drewN | apply Kd.R_drew)); exact Kd.R_mono HO486.out (fun _ hk => ⟨hk.1.1.1.2, ⟨hk.1.1.2, ⟨hk.1.2, ⟨hk.2, hk.1.1.1.1.1.1⟩⟩⟩⟩)⟩, ⟨by (with_reducible repeat (first | refine blk_drewN ?_ _ | refine blk_drew ?_ | refine blk_alloc ?_ _)); exact BK458.out⟩, ⟨by (with_reducible repeat (first | refine blk_drewN ?_ _ | refine blk_drew ?_ | refine blk_alloc ?_ _)); exact BK473.out⟩, ⟨by (with_reducible repeat (first | refine blk_drewN ?_ _ | refine blk_drew ?_ | refine blk_alloc ?_ _)); exact BK480.out⟩, ⟨by (with_reducible repeat (first | refine blk_drewN ?_ _ | refine blk_drew ?_ | refine blk_alloc ?_ _)); exact BK488.out⟩, ⟨by repeat (first | (with_reducible first | exact HB.out | apply below_alloc | apply pw_below_drewN | apply below_drew1 | refine below_set ?_ GE458.out | refine below_set ?_ GE473.out | refine below_set ?_ GE480.out | refine below_set ?_ GE488.out) | exact HB.out)⟩⟩
   ·replace c43 := Bool.eq_false_iff.mpr c43
    subst c43
    have H1 : (lw.j0 k a1 t472 t487 true l0_0 l0_1 t466 t469 t474 t477 t481 t484) = some r := by rw [if_neg (show ¬ (false = true) by decide)] at H; exact H
    clear H
    have H := H1
    clear H1
    have H' := Aside0.mk H
    clear H
    have hnb52 := NB488_458.out
    have hnc52 := NB458_488.out
    have hnb53 := NB488_473.out
    have hnc53 := NB473_488.out
    have hnb54 := NB488_480.out
    have hnc54 := NB480_488.out
    have hcz55_0 : w35.cell? ⟨gb488, 0, none⟩ = some (.slice none 0 0) := (blk_cell BK488.out 0).trans rfl
    have hcz55_1 : w35.cell? ⟨gb488, 1, none⟩ = some (.slice none 0 0) := (blk_cell BK488.out 1).trans rfl
    have hfz55_0 := blk_frozen BK488.out 0
    have hfz55_1 := blk_frozen BK488.out 1
    have hnb56 := NB473_458.out
    have hnc56 := NB458_473.out
    have hnb57 := NB473_480.out
    have hnc57 := NB480_473.out
    have hcz58_0 : w35.cell? ⟨gb473, 0, none⟩ = some (.slice Ao22 t466.length co22) := (blk_cell BK473.out 0).trans rfl
    have hcz58_1 : w35.cell? ⟨gb473, 1, none⟩ = some (.slice Ao25 t469.length co25) := (blk_cell BK473.out 1).trans rfl
    have hfz58_0 := blk_frozen BK473.out 0
    have hfz58_1 := blk_frozen BK473.out 1
    go_wp2_with (first | ((with_reducible refine gate_callee (f := 18) rfl ?_); refine goesL_ (some 38) rfl rfl Try.func18 (by kernel_rfl) rfl #[.agg #[.slice Ao36 t481.length co36, .slice Ao41 t484.length co41], .agg #[.slice Ao22 t466.length co22, .slice Ao25 t469.length co25]] rfl (by (try simp only [List.map_toArray, List.map_cons, List.map_nil]); first | done | rfl | (simp only [List.length_drop, List.length_take]; rfl)) ?_; (with_reducible refine (laws_eqRotation.calls k _ _ t481 _ _ t484 _ _ t466 _ _ t469 false _ ?side1 ?side2 ?side3 ?side4 ?side5 ?side6 ?side7 ?side8 A42.out).mono ?_); (case side1 => refine (Kd.R_reads' (e := 3) (base := w.heap.size) (ok := fun k_ => ((((((some k_ ≠ (.slice Ao41 t484.length co41 : Value).ownBlock ∧ some k_ ≠ (.slice Ao18 t460.length co18 : Value).ownBlock) ∧ some k_ ≠ (.slice Ao19 t463.length co19 : Value).ownBlock) ∧ some k_ ≠ (.slice Ao22 t466.length co22 : Value).ownBlock) ∧ some k_ ≠ (.slice Ao25 t469.length co25 : Value).ownBlock) ∧ some k_ ≠ (.slice Ao29 t474.length co29 : Value).ownBlock) ∧ some k_ ≠ (.slice Ao33 t477.length co33 : Value).ownBlock)) (n := t481.length) (c := co36) ?_).2.2; exact (by (with_reducible repeat (first | apply Kd.R_alloc | apply Kd.R_drewN | apply Kd.R_drew)); exact (Kd.R_mono (Kd.R_far (p := ⟨gb488, 1, none⟩) (Kd.R_far (p := ⟨gb488, 0, none⟩) (Kd.R_types HO483.out BK488.out (by decide)) (fun _ hk => hk.2) (.slice Ao36 t481.length co36)) (fun _ hk => hk.2) (.slice Ao41 t484.length co41)) (fun _ h_ => h_.1)))); (case side2 => exact (Kd.R_reads' HO483.out).2.1); (case side3 => refine (Kd.R_reads' (e := 3) (base := w.heap.size) (ok := fun k_ => ((((((some k_ ≠ (.slice Ao36 t481.length co36 : Value).ownBlock ∧ some k_ ≠ (.slice Ao18 t460.length co18 : Value).ownBlock) ∧ some k_ ≠ (.slice Ao19 t463.length co19 : Value).ownBlock) ∧ some k_ ≠ (.slice Ao22 t466.length co22 : Value).ownBlock) ∧ some k_ ≠ (.slice Ao25 t469.length co25 : Value).ownBlock) ∧ some k_ ≠ (.slice Ao29 t474.length co29 : Value).ownBlock) ∧ some k_ ≠ (.slice Ao33 t477.length co33 : Value).ownBlock)) (n := t484.length) (c := co41) ?_).2.2; exact (by (with_reducible repeat (first | apply Kd.R_alloc | apply Kd.R_drewN | apply Kd.R_drew)); exact (Kd.R_mono (Kd.R_far (p := ⟨gb488, 1, none⟩) (Kd.R_far (p := ⟨gb488, 0, none⟩) (Kd.R_types HO486.out BK488.out (by decide)) (fun _ hk => hk.2) (.slice Ao36 t481.length co36)) (fun _ hk => hk.2) (.slice Ao41 t484.length co41)) (fun _ h_ => h_.1)))); (case side4 => exact (Kd.R_reads' HO486.out).2.1); (case side5 => refine (Kd.R_reads' (e := 3) (base := w.heap.size) (ok := fun k_ => ((((((some k_ ≠ (.slice Ao25 t469.length co25 : Value).ownBlock ∧ some k_ ≠ (.slice Ao18 t460.length co18 : Value).ownBlock) ∧ some k_ ≠ (.slice Ao19 t463.length co19 : Value).ownBlock) ∧ some k_ ≠ (.slice Ao29 t474.length co29 : Value).ownBlock) ∧ some k_ ≠ (.slice Ao33 t477.length co33 : Value).ownBlock) ∧ some k_ ≠ (.slice Ao36 t481.length co36 : Value).ownBlock) ∧ some k_ ≠ (.slice Ao41 t484.length co41 : Value).ownBlock)) (n := t466.length) (c := co22) ?_).2.2; exact (by (with_reducible repeat (first | apply Kd.R_alloc | apply Kd.R_drewN | apply Kd.R_drew)); exact (Kd.R_mono (Kd.R_far (p := ⟨gb488, 1, none⟩) (Kd.R_far (p := ⟨gb488, 0, none⟩) (Kd.R_types HO468.out BK488.out (by decide)) (fun _ hk => hk.2) (.slice Ao36 t481.length co36)) (fun _ hk => hk.2) (.slice Ao41 t484.length co41)) (fun _ h_ => h_.1)))); (case side6 => exact (Kd.R_reads' HO468.out).2.1); (case side7 => refine (Kd.R_reads' (e := 3) (base := w.heap.size) (ok := fun k_ => ((((((some k_ ≠ (.slice Ao22 t466.length co22 : Value).ownBlock ∧ some k_ ≠ (.slice Ao18 t460.length co18 : Value).ownBlock) ∧ some k_ ≠ (.slice Ao19 t463.length co19 : Value).ownBlock) ∧ some k_ ≠ (.slice Ao29 t474.length co29 : Value).ownBlock) ∧ some k_ ≠ (.slice Ao33 t477.length co33 : Value).ownBlock) ∧ some k_ ≠ (.slice Ao36 t481.length co36 : Value).ownBlock) ∧ some k_ ≠ (.slice Ao41 t484.length co41 : Value).ownBlock)) (n := t469.length) (c := co25) ?_).2.2; exact (by (with_reducible repeat (first | apply Kd.R_alloc | apply Kd.R_drewN | apply Kd.R_drew)); exact (Kd.R_mono (Kd.R_far (p := ⟨gb488, 1, none⟩) (Kd.R_far (p := ⟨gb488, 0, none⟩) (Kd.R_types HO471.out BK488.out (by decide)) (fun _ hk => hk.2) (.slice Ao36 t481.length co36)) (fun _ hk => hk.2) (.slice Ao41 t484.length co41)) (fun _ h_ => h_.1)))); (case side8 => exact (Kd.R_reads' HO471.out).2.1); rintro e w59 ⟨rfl, hb⟩; refine ⟨_, rfl, ?_⟩; have n0_ := Aside0.mk (Kd.R_below (by (with_reducible repeat (first | apply Kd.R_alloc | apply Kd.R_drewN | apply Kd.R_drew)); exact (Kd.R_mono (Kd.R_far (p := ⟨gb488, 1, none⟩) (Kd.R_far (p := ⟨gb488, 0, none⟩) (Kd.R_types HO462.out BK488.out (by decide)) (fun _ hk => hk.2) (.slice Ao36 t481.length co36)) (fun _ hk => hk.2) (.slice Ao41 t484.length co41)) (fun _ h_ => h_.1))) hb); have n1_ := Aside0.mk (Kd.R_below (by (with_reducible repeat (first | apply Kd.R_alloc | apply Kd.R_drewN | apply Kd.R_drew)); exact (Kd.R_mono (Kd.R_far (p := ⟨gb488, 1, none⟩) (Kd.R_far (p := ⟨gb488, 0, none⟩) (Kd.R_types HO465.out BK488.out (by decide)) (fun _ hk => hk.2) (.slice Ao36 t481.length co36)) (fun _ hk => hk.2) (.slice Ao41 t484.length co41)) (fun _ h_ => h_.1))) hb); have n2_ := Aside0.mk (Kd.R_below (by (with_reducible repeat (first | apply Kd.R_alloc | apply Kd.R_drewN | apply Kd.R_drew)); exact (Kd.R_mono (Kd.R_far (p := ⟨gb488, 1, none⟩) (Kd.R_far (p := ⟨gb488, 0, none⟩) (Kd.R_types HO468.out BK488.out (by decide)) (fun _ hk => hk.2) (.slice Ao36 t481.length co36)) (fun _ hk => hk.2) (.slice Ao41 t484.length co41)) (fun _ h_ => h_.1))) hb); have n3_ := Aside0.mk (Kd.R_below (by (with_reducible repeat (first | apply Kd.R_alloc | apply Kd.R_drewN | apply Kd.R_drew)); exact (Kd.R_mono (Kd.R_far (p := ⟨gb488, 1, none⟩) (Kd.R_far (p := ⟨gb488, 0, none⟩) (Kd.R_types HO471.out BK488.out (by decide)) (fun _ hk => hk.2) (.slice Ao36 t481.length co36)) (fun _ hk => hk.2) (.slice Ao41 t484.length co41)) (fun _ h_ => h_.1))) hb); have n4_ := Aside0.mk (Kd.R_below (by (with_reducible repeat (first | apply Kd.R_alloc | apply Kd.R_drewN | apply Kd.R_drew)); exact (Kd.R_mono (Kd.R_far (p := ⟨gb488, 1, none⟩) (Kd.R_far (p := ⟨gb488, 0, none⟩) (Kd.R_types HO476.out BK488.out (by decide)) (fun _ hk => hk.2) (.slice Ao36 t481.length co36)) (fun _ hk => hk.2) (.slice Ao41 t484.length co41)) (fun _ h_ => h_.1))) hb); have n5_ := Aside0.mk (Kd.R_below (by (with_reducible repeat (first | apply Kd.R_alloc | apply Kd.R_drewN | apply Kd.R_drew)); exact (Kd.R_mono (Kd.R_far (p := ⟨gb488, 1, none⟩) (Kd.R_far (p := ⟨gb488, 0, none⟩) (Kd.R_types HO479.out BK488.out (by decide)) (fun _ hk => hk.2) (.slice Ao36 t481.length co36)) (fun _ hk => hk.2) (.slice Ao41 t484.length co41)) (fun _ h_ => h_.1))) hb); have n6_ := Aside0.mk (Kd.R_below (by (with_reducible repeat (first | apply Kd.R_alloc | apply Kd.R_drewN | apply Kd.R_drew)); exact (Kd.R_mono (Kd.R_far (p := ⟨gb488, 1, none⟩) (Kd.R_far (p := ⟨gb488, 0, none⟩) (Kd.R_types HO483.out BK488.out (by decide)) (fun _ hk => hk.2) (.slice Ao36 t481.length co36)) (fun _ hk => hk.2) (.slice Ao41 t484.length co41)) (fun _ h_ => h_.1))) hb); have n7_ := Aside0.mk (Kd.R_below (by (with_reducible repeat (first | apply Kd.R_alloc | apply Kd.R_drewN | apply Kd.R_drew)); exact (Kd.R_mono (Kd.R_far (p := ⟨gb488, 1, none⟩) (Kd.R_far (p := ⟨gb488, 0, none⟩) (Kd.R_types HO486.out BK488.out (by decide)) (fun _ hk => hk.2) (.slice Ao36 t481.length co36)) (fun _ hk => hk.2) (.slice Ao41 t484.length co41)) (fun _ h_ => h_.1))) hb); have n8_ := Aside0.mk (blk_below (g := gb458) (o := .cells #[.slice A0_0 l0_0.length c0_0, .slice A0_1 l0_1.length c0_1] 24 (0, 0)) (by (with_reducible repeat (first | refine blk_drewN ?_ _ | refine blk_drew ?_ | refine blk_alloc ?_ _)); refine blk_far ?_ NB458_488.out _; (with_reducible repeat (first | refine blk_drewN ?_ _ | refine blk_drew ?_ | refine blk_alloc ?_ _)); refine blk_far ?_ NB458_488.out _; (with_reducible repeat (first | refine blk_drewN ?_ _ | refine blk_drew ?_ | refine blk_alloc ?_ _)); exact BK458.out) hb); have n9_ := Aside0.mk (blk_below (g := gb473) (o := .cells #[.slice Ao22 t466.length co22, .slice Ao25 t469.length co25] 27 (0, 0)) (by (with_reducible repeat (first | refine blk_drewN ?_ _ | refine blk_drew ?_ | refine blk_alloc ?_ _)); refine blk_far ?_ NB473_488.out _; (with_reducible repeat (first | refine blk_drewN ?_ _ | refine blk_drew ?_ | refine blk_alloc ?_ _)); refine blk_far ?_ NB473_488.out _; (with_reducible repeat (first | refine blk_drewN ?_ _ | refine blk_drew ?_ | refine blk_alloc ?_ _)); exact BK473.out) hb); have n10_ := Aside0.mk (blk_below (g := gb480) (o := .cells #[.slice Ao29 t474.length co29, .slice Ao33 t477.length co33] 27 (0, 0)) (by (with_reducible repeat (first | refine blk_drewN ?_ _ | refine blk_drew ?_ | refine blk_alloc ?_ _)); refine blk_far ?_ NB480_488.out _; (with_reducible repeat (first | refine blk_drewN ?_ _ | refine blk_drew ?_ | refine blk_alloc ?_ _)); refine blk_far ?_ NB480_488.out _; (with_reducible repeat (first | refine blk_drewN ?_ _ | refine blk_drew ?_ | refine blk_alloc ?_ _)); exact BK480.out) hb); have n11_ := Aside0.mk (blk_below (g := gb488) (o := .cells #[.slice Ao36 t481.length co36, .slice Ao41 t484.length co41] 27 (0, 0)) (by (with_reducible repeat (first | refine blk_drewN ?_ _ | refine blk_drew ?_ | refine blk_alloc ?_ _)); refine blk_put (cs := #[.slice Ao36 t481.length co36, .slice none 0 0]) ?_ 1 _ rfl; (with_reducible repeat (first | refine blk_drewN ?_ _ | refine blk_drew ?_ | refine blk_alloc ?_ _)); refine blk_put (cs := #[.slice none 0 0, .slice none 0 0]) ?_ 0 _ rfl; (with_reducible repeat (first | refine blk_drewN ?_ _ | refine blk_drew ?_ | refine blk_alloc ?_ _)); exact BK488.out) hb); have n12_ := Aside0.mk (below_step (by repeat (first | (with_reducible first | exact HB.out | apply below_alloc | apply pw_below_drewN | apply below_drew1 | refine below_set ?_ GE458.out | refine below_set ?_ GE473.out | refine below_set ?_ GE480.out | refine below_set ?_ GE488.out) | exact HB.out)) hb); clear HO462; clear HO465; clear HO468; clear HO471; clear HO476; clear HO479; clear HO483; clear HO486; clear BK458; clear BK473; clear BK480; clear BK488; clear HB; have HO462 := n0_; have HO465 := n1_; have HO468 := n2_; have HO471 := n3_; have HO476 := n4_; have HO479 := n5_; have HO483 := n6_; have HO486 := n7_; have BK458 := n8_; have BK473 := n9_; have BK480 := n10_; have BK488 := n11_; have HB := n12_; clear n0_ n1_ n2_ n3_ n4_ n5_ n6_ n7_ n8_ n9_ n10_ n11_ n12_; (try clear hb); (try clear hb2); (try clear hk); (try clear hi)))
    go_meet
    case rel => exact ⟨_, (true), (by first | rfl | (simp; done) | (simp [*]; done)), H', ⟨by first | omega | exact Nat.le_refl _⟩, ⟨by (with_reducible repeat (first | apply Kd.R_alloc | apply Kd.R_drewN | apply Kd.R_drew)); exact Kd.R_mono HO468.out (fun _ hk => ⟨hk.1.1.1.1.1.1, ⟨hk.1.1.1.2, ⟨hk.1.1.2, ⟨hk.1.2, hk.2⟩⟩⟩⟩)⟩, ⟨by (with_reducible repeat (first | apply Kd.R_alloc | apply Kd.R_drewN | apply Kd.R_drew)); exact Kd.R_mono HO471.out (fun _ hk => ⟨hk.1.1.1.1.1.1, ⟨hk.1.1.1.2, ⟨hk.1.1.2, ⟨hk.1.2, hk.2⟩⟩⟩⟩)⟩, ⟨by (with_reducible repeat (first | apply Kd.R_alloc | apply Kd.R_drewN | apply Kd.R_drew)); exact Kd.R_mono HO476.out (fun _ hk => ⟨hk.1.1.1.2, ⟨hk.1.1.2, ⟨hk.1.1.1.1.1.1, ⟨hk.1.2, hk.2⟩⟩⟩⟩)⟩, ⟨by (with_reducible repeat (first | apply Kd.R_alloc | apply Kd.R_drewN | apply Kd.R_drew)); exact Kd.R_mono HO479.out (fun _ hk => ⟨hk.1.1.1.2, ⟨hk.1.1.2, ⟨hk.1.1.1.1.1.1, ⟨hk.1.2, hk.2⟩⟩⟩⟩)⟩, ⟨by (with_reducible repeat (first | apply Kd.R_alloc | apply Kd.R_drewN | apply Kd.R_drew)); exact Kd.R_mono HO483.out (fun _ hk => ⟨hk.1.1.1.2, ⟨hk.1.1.2, ⟨hk.1.2, ⟨hk.2, hk.1.1.1.1.1.1⟩⟩⟩⟩)⟩, ⟨by (with_reducible repeat (first | apply Kd.R_alloc | apply Kd.R_drewN | apply Kd.R_drew)); exact Kd.R_mono HO486.out (fun _ hk => ⟨hk.1.1.1.2, ⟨hk.1.1.2, ⟨hk.1.2, ⟨hk.2, hk.1.1.1.1.1.1⟩⟩⟩⟩)⟩, ⟨by (with_reducible repeat (first | refine blk_drewN ?_ _ | refine blk_drew ?_ | refine blk_alloc ?_ _)); exact BK458.out⟩, ⟨by (with_reducible repeat (first | refine blk_drewN ?_ _ | refine blk_drew ?_ | refine blk_alloc ?_ _)); exact BK473.out⟩, ⟨by (with_reducible repeat (first | refine blk_drewN ?_ _ | refine blk_drew ?_ | refine blk_alloc ?_ _)); exact BK480.out⟩, ⟨by (with_reducible repeat (first | refine blk_drewN ?_ _ | refine blk_drew ?_ | refine blk_alloc ?_ _)); exact BK488.out⟩, ⟨by repeat (first | (with_reducible first | exact HB.out | apply below_alloc | apply pw_below_drewN | apply below_drew1 | refine below_set ?_ GE458.out | refine below_set ?_ GE473.out | refine below_set ?_ GE480.out | refine below_set ?_ GE488.out) | exact HB.out)⟩⟩
  case rest =>
   clear HC12
   try clear c1
   try clear c2
   try clear p2
   try clear c3
   try clear c4
   try clear c4b0
   try clear c5
   try clear c9
   try clear c14
   try clear c16
   try clear c18
   try clear c23
   try clear c29
   try clear c30
   try clear c31
   try clear c37
   try clear c38
   try clear c39
   try clear c43
   try clear c44
   try clear c45
   try clear c46
   try clear c48
   try clear c49
   try clear c52
   try clear c53
   try clear c54
   try clear c56
   try clear c57
   try clear hcz14_0
   try clear hcz14_1
   try clear hcz16_0
   try clear hcz16_1
   try clear hcz24_0
   try clear hcz24_1
   try clear hcz26_0
   try clear hcz26_1
   try clear hcz32_0
   try clear hcz32_1
   try clear hcz40_0
   try clear hcz40_1
   try clear hcz47_0
   try clear hcz47_1
   try clear hcz50_0
   try clear hcz50_1
   try clear hcz55_0
   try clear hcz55_1
   try clear hcz58_0
   try clear hcz58_1
   try clear hcz6_0
   try clear hcz6_1
   try clear hfz14_0
   try clear hfz14_1
   try clear hfz16_0
   try clear hfz16_1
   try clear hfz24_0
   try clear hfz24_1
   try clear hfz26_0
   try clear hfz26_1
   try clear hfz32_0
   try clear hfz32_1
   try clear hfz40_0
   try clear hfz40_1
   try clear hfz47_0
   try clear hfz47_1
   try clear hfz50_0
   try clear hfz50_1
   try clear hfz55_0
   try clear hfz55_1
   try clear hfz58_0
   try clear hfz58_1
   try clear hfz6_0
   try clear hfz6_1
   obtain ⟨kq, x44_11, rfl, HA, HJ11, HO_474000, HO_474001, HO_481000, HO_481001, HO_489000, HO_489001, BK458, BK473, BK480, BK488, HB⟩ := hcut
   cases kq with
   | zero => exact absurd HA.out (by simp [lw.j0])
   | succ kj11 =>
    have H := HA.out
    clear HA
    simp only [lw.j0] at H
    by_cases c60 : x44_11 = true
    ·subst c60
     have H1 : (some false) = some r := by rw [if_pos rfl] at H; exact H
     clear H
     have H := H1
     clear H1
     obtain rfl := Option.some.inj H
     go_wp2
     go_ret
     exact ⟨by first | rfl | (simp [errW_none, errW_some] <;> rfl) | (simp [*, errW_none, errW_some] <;> rfl), by repeat (first | (with_reducible first | exact HB.out | apply below_alloc | apply pw_below_drewN | apply below_drew1 | refine below_set ?_ GE458.out | refine below_set ?_ GE473.out | refine below_set ?_ GE480.out | refine below_set ?_ GE488.out) | exact HB.out)⟩
    ·replace c60 := Bool.eq_false_iff.mpr c60
     subst c60
     have H1 : ((laws_toRotation.f kj11 l0_0 l0_1).bind fun bt490 => ((laws_eqRotation.f kj11 t474 t477 bt490.1 bt490.2).bind fun t496 => (if t496 = true then ((laws_markRotation.f kj11 t474 t477 1).bind fun bt497 => (if bt497.1 < 0 then (lw.j1 kj11 a1 t472 true l0_0 l0_1 t466 t469 t481 t484) else ((laws_eqRotation.f kj11 t481 t484 t466 t469).bind fun t500 => (if t500 = true then (lw.j1 kj11 a1 t472 (t487 != t472) l0_0 l0_1 t466 t469 t481 t484) else (lw.j1 kj11 a1 t472 true l0_0 l0_1 t466 t469 t481 t484))))) else (some false)))) = some r := by rw [if_neg (show ¬ (false = true) by decide)] at H; exact H
     clear H
     have H := H1
     clear H1
     replace H := Option.bind_eq_some_iff.mp H
     obtain ⟨⟨t490, t493⟩, A610, H⟩ := H
     replace H : ((laws_eqRotation.f kj11 t474 t477 t490 t493).bind fun t496 => (if t496 = true then ((laws_markRotation.f kj11 t474 t477 1).bind fun bt497 => (if bt497.1 < 0 then (lw.j1 kj11 a1 t472 true l0_0 l0_1 t466 t469 t481 t484) else ((laws_eqRotation.f kj11 t481 t484 t466 t469).bind fun t500 => (if t500 = true then (lw.j1 kj11 a1 t472 (t487 != t472) l0_0 l0_1 t466 t469 t481 t484) else (lw.j1 kj11 a1 t472 true l0_0 l0_1 t466 t469 t481 t484))))) else (some false))) = some r := H
     have A61 := Aside0.mk A610
     clear A610
     replace H := Option.bind_eq_some_iff.mp H
     obtain ⟨t496, A620, H⟩ := H
     replace H : (if t496 = true then ((laws_markRotation.f kj11 t474 t477 1).bind fun bt497 => (if bt497.1 < 0 then (lw.j1 kj11 a1 t472 true l0_0 l0_1 t466 t469 t481 t484) else ((laws_eqRotation.f kj11 t481 t484 t466 t469).bind fun t500 => (if t500 = true then (lw.j1 kj11 a1 t472 (t487 != t472) l0_0 l0_1 t466 t469 t481 t484) else (lw.j1 kj11 a1 t472 true l0_0 l0_1 t466 t469 t481 t484))))) else (some false)) = some r := H
     have A62 := Aside0.mk A620
     clear A620
     by_cases c63 : t496 = true
     ·subst c63
      have H1 : ((laws_markRotation.f kj11 t474 t477 1).bind fun bt497 => (if bt497.1 < 0 then (lw.j1 kj11 a1 t472 true l0_0 l0_1 t466 t469 t481 t484) else ((laws_eqRotation.f kj11 t481 t484 t466 t469).bind fun t500 => (if t500 = true then (lw.j1 kj11 a1 t472 (t487 != t472) l0_0 l0_1 t466 t469 t481 t484) else (lw.j1 kj11 a1 t472 true l0_0 l0_1 t466 t469 t481 t484))))) = some r := by rw [if_pos rfl] at H; exact H
      clear H
      have H := H1
      clear H1
      replace H := Option.bind_eq_some_iff.mp H
      obtain ⟨⟨t497, t498, t499⟩, A640, H⟩ := H
      replace H : (if t497 < 0 then (lw.j1 kj11 a1 t472 true l0_0 l0_1 t466 t469 t481 t484) else ((laws_eqRotation.f kj11 t481 t484 t466 t469).bind fun t500 => (if t500 = true then (lw.j1 kj11 a1 t472 (t487 != t472) l0_0 l0_1 t466 t469 t481 t484) else (lw.j1 kj11 a1 t472 true l0_0 l0_1 t466 t469 t481 t484)))) = some r := H
      have A64 := Aside0.mk A640
      clear A640
      have HC65 := Aside0.mk H
      clear H
      try go_wp2
      have n0_ := Aside0.mk (Kd.R_drew HO_474000.out)
      have n1_ := Aside0.mk (Kd.R_drew HO_474001.out)
      have n2_ := Aside0.mk (Kd.R_drew HO_481000.out)
      have n3_ := Aside0.mk (Kd.R_drew HO_481001.out)
      have n4_ := Aside0.mk (Kd.R_drew HO_489000.out)
      have n5_ := Aside0.mk (Kd.R_drew HO_489001.out)
      have n6_ := Aside0.mk (blk_drew BK458.out)
      have n7_ := Aside0.mk (blk_drew BK473.out)
      have n8_ := Aside0.mk (blk_drew BK480.out)
      have n9_ := Aside0.mk (blk_drew BK488.out)
      have n10_ := Aside0.mk (below_drew1 HB.out)
      clear HO_474000
      clear HO_474001
      clear HO_481000
      clear HO_481001
      clear HO_489000
      clear HO_489001
      clear BK458
      clear BK473
      clear BK480
      clear BK488
      clear HB
      have HO_474000 := n0_
      have HO_474001 := n1_
      have HO_481000 := n2_
      have HO_481001 := n3_
      have HO_489000 := n4_
      have HO_489001 := n5_
      have BK458 := n6_
      have BK473 := n7_
      have BK480 := n8_
      have BK488 := n9_
      have HB := n10_
      clear n0_ n1_ n2_ n3_ n4_ n5_ n6_ n7_ n8_ n9_ n10_
      refine start_ (n := 5) (S := fun w' => w'.cell? ⟨gb480, 0, none⟩ = some (.slice Ao29 t474.length co29) ∧ w'.cell? ⟨gb480, 1, none⟩ = some (.slice Ao33 t477.length co33) ∧ w'.cell? ⟨gb458, 0, none⟩ = some (.slice A0_0 l0_0.length c0_0) ∧ w'.cell? ⟨gb458, 1, none⟩ = some (.slice A0_1 l0_1.length c0_1)) (ds := []) #[false, false, false, false, false] (by kernel_rfl) rfl rfl ⟨(blk_cell BK480.out 0).trans rfl, (blk_cell BK480.out 1).trans rfl, (blk_cell BK458.out 0).trans rfl, (blk_cell BK458.out 1).trans rfl⟩ (fun hHeld => ?_)
      generalize wc.drew = w66 at HO_474000 HO_474001 HO_481000 HO_481001 HO_489000 HO_489001 BK458 BK473 BK480 BK488 HB hHeld ⊢
      refine take_ (i := 0) (N := some 45) (v := ?_) (a' := ?_) #[true, false, false, false, false] rfl rfl (by kernel_rfl) (fun _ _ _ h => h) (Or.inl ⟨by rfl, ?_⟩) hHeld ?_ ?_
      rotate_left
      ·rintro w' ⟨s0, s1, s2, s3⟩
       go_simp
       with_reducible rfl
      rotate_left
      ·simp only [Act.put, List.setIfInBounds_toArray, List.set_cons_zero, List.set_cons_succ, i64_w, i32_w]
       rfl
      refine take_ (i := 1) (N := some 46) (v := ?_) (a' := ?_) #[true, true, false, false, false] rfl rfl (by kernel_rfl) (fun _ _ _ h => h) (Or.inl ⟨by rfl, ?_⟩) hHeld ?_ ?_
      rotate_left
      ·rintro w' ⟨s0, s1, s2, s3⟩
       go_simp
       with_reducible rfl
      rotate_left
      ·simp only [Act.put, List.setIfInBounds_toArray, List.set_cons_zero, List.set_cons_succ, i64_w, i32_w]
       rfl
      refine one_ (i := 2) (N := some 47) #[true, true, true, false, false] rfl rfl (by kernel_rfl) (by decide) (fun K hK => ?_)
      refine goes_ Try.func16 (by kernel_rfl) rfl #[.agg #[.slice A0_0 l0_0.length c0_0, .slice A0_1 l0_1.length c0_1]] (by rfl) rfl rfl (by (try simp only [List.map_toArray, List.map_cons, List.map_nil]); first | done | rfl | (simp only [List.length_drop, List.length_take]; rfl)) ?_
      with_reducible refine (laws_toRotation.calls kj11 _ _ l0_0 _ _ l0_1 t490 t493 _ ?side1 ?side2 ?side3 ?side4 A61.out).mono ?_
      (case side1 => repeat (first | exact (Kd.C_below HR0_0.out HB.out) | (with_reducible refine Kd.C_alloc ?_ _) | (with_reducible refine Kd.C_drewN ?_ _) | (with_reducible refine Kd.C_drew ?_)))
      (case side2 => exact HC0_0.out)
      (case side3 => repeat (first | exact (Kd.C_below HR0_1.out HB.out) | (with_reducible refine Kd.C_alloc ?_ _) | (with_reducible refine Kd.C_drewN ?_ _) | (with_reducible refine Kd.C_drew ?_)))
      (case side4 => exact HC0_1.out)
      rintro e w67 ⟨v491, v494, rfl, ho0, ho1, hb⟩
      refine ⟨_, rfl, ?_⟩
      have n0_ := Aside0.mk (Kd.R_mono (Kd.R_told (Kd.R_told (Kd.R_old (by (with_reducible repeat (first | apply Kd.R_alloc | apply Kd.R_drewN | apply Kd.R_drew)); exact HO_474000.out) hb) (Kd.R_base ho0)) (Kd.R_base ho1)) (fun _ h_ => h_.1))
      have n1_ := Aside0.mk (Kd.R_mono (Kd.R_told (Kd.R_told (Kd.R_old (by (with_reducible repeat (first | apply Kd.R_alloc | apply Kd.R_drewN | apply Kd.R_drew)); exact HO_474001.out) hb) (Kd.R_base ho0)) (Kd.R_base ho1)) (fun _ h_ => h_.1))
      have n2_ := Aside0.mk (Kd.R_mono (Kd.R_told (Kd.R_told (Kd.R_old (by (with_reducible repeat (first | apply Kd.R_alloc | apply Kd.R_drewN | apply Kd.R_drew)); exact HO_481000.out) hb) (Kd.R_base ho0)) (Kd.R_base ho1)) (fun _ h_ => h_.1))
      have n3_ := Aside0.mk (Kd.R_mono (Kd.R_told (Kd.R_told (Kd.R_old (by (with_reducible repeat (first | apply Kd.R_alloc | apply Kd.R_drewN | apply Kd.R_drew)); exact HO_481001.out) hb) (Kd.R_base ho0)) (Kd.R_base ho1)) (fun _ h_ => h_.1))
      have n4_ := Aside0.mk (Kd.R_mono (Kd.R_told (Kd.R_told (Kd.R_old (by (with_reducible repeat (first | apply Kd.R_alloc | apply Kd.R_drewN | apply Kd.R_drew)); exact HO_489000.out) hb) (Kd.R_base ho0)) (Kd.R_base ho1)) (fun _ h_ => h_.1))
      have n5_ := Aside0.mk (Kd.R_mono (Kd.R_told (Kd.R_told (Kd.R_old (by (with_reducible repeat (first | apply Kd.R_alloc | apply Kd.R_drewN | apply Kd.R_drew)); exact HO_489001.out) hb) (Kd.R_base ho0)) (Kd.R_base ho1)) (fun _ h_ => h_.1))
      have n6_ := Aside0.mk (Kd.R_lower (Kd.R_new' (Kd.R_new' (Kd.R_new' (Kd.R_new' (Kd.R_new' (Kd.R_new' ho0 (Kd.R_lt (by (with_reducible repeat (first | apply Kd.R_alloc | apply Kd.R_drewN | apply Kd.R_drew)); exact HO_474000.out))) (Kd.R_lt (by (with_reducible repeat (first | apply Kd.R_alloc | apply Kd.R_drewN | apply Kd.R_drew)); exact HO_474001.out))) (Kd.R_lt (by (with_reducible repeat (first | apply Kd.R_alloc | apply Kd.R_drewN | apply Kd.R_drew)); exact HO_481000.out))) (Kd.R_lt (by (with_reducible repeat (first | apply Kd.R_alloc | apply Kd.R_drewN | apply Kd.R_drew)); exact HO_481001.out))) (Kd.R_lt (by (with_reducible repeat (first | apply Kd.R_alloc | apply Kd.R_drewN | apply Kd.R_drew)); exact HO_489000.out))) (Kd.R_lt (by (with_reducible repeat (first | apply Kd.R_alloc | apply Kd.R_drewN | apply Kd.R_drew)); exact HO_489001.out))) (below_size (by repeat (first | (with_reducible first | exact HB.out | apply below_alloc | apply pw_below_drewN | apply below_drew1 | refine below_set ?_ GE458.out | refine below_set ?_ GE473.out | refine below_set ?_ GE480.out | refine below_set ?_ GE488.out) | exact HB.out))))
      have n7_ := Aside0.mk (Kd.R_lower (Kd.R_new' (Kd.R_new' (Kd.R_new' (Kd.R_new' (Kd.R_new' (Kd.R_new' ho1 (Kd.R_lt (by (with_reducible repeat (first | apply Kd.R_alloc | apply Kd.R_drewN | apply Kd.R_drew)); exact HO_474000.out))) (Kd.R_lt (by (with_reducible repeat (first | apply Kd.R_alloc | apply Kd.R_drewN | apply Kd.R_drew)); exact HO_474001.out))) (Kd.R_lt (by (with_reducible repeat (first | apply Kd.R_alloc | apply Kd.R_drewN | apply Kd.R_drew)); exact HO_481000.out))) (Kd.R_lt (by (with_reducible repeat (first | apply Kd.R_alloc | apply Kd.R_drewN | apply Kd.R_drew)); exact HO_481001.out))) (Kd.R_lt (by (with_reducible repeat (first | apply Kd.R_alloc | apply Kd.R_drewN | apply Kd.R_drew)); exact HO_489000.out))) (Kd.R_lt (by (with_reducible repeat (first | apply Kd.R_alloc | apply Kd.R_drewN | apply Kd.R_drew)); exact HO_489001.out))) (below_size (by repeat (first | (with_reducible first | exact HB.out | apply below_alloc | apply pw_below_drewN | apply below_drew1 | refine below_set ?_ GE458.out | refine below_set ?_ GE473.out | refine below_set ?_ GE480.out | refine below_set ?_ GE488.out) | exact HB.out))))
      have n8_ := Aside0.mk (blk_below (g := gb458) (o := .cells #[.slice A0_0 l0_0.length c0_0, .slice A0_1 l0_1.length c0_1] 24 (0, 0)) (by (with_reducible repeat (first | refine blk_drewN ?_ _ | refine blk_drew ?_ | refine blk_alloc ?_ _)); exact BK458.out) hb)
      have n9_ := Aside0.mk (blk_below (g := gb473) (o := .cells #[.slice Ao22 t466.length co22, .slice Ao25 t469.length co25] 27 (0, 0)) (by (with_reducible repeat (first | refine blk_drewN ?_ _ | refine blk_drew ?_ | refine blk_alloc ?_ _)); exact BK473.out) hb)
      have n10_ := Aside0.mk (blk_below (g := gb480) (o := .cells #[.slice Ao29 t474.length co29, .slice Ao33 t477.length co33] 27 (0, 0)) (by (with_reducible repeat (first | refine blk_drewN ?_ _ | refine blk_drew ?_ | refine blk_alloc ?_ _)); exact BK480.out) hb)
      have n11_ := Aside0.mk (blk_below (g := gb488) (o := .cells #[.slice Ao36 t481.length co36, .slice Ao41 t484.length co41] 27 (0, 0)) (by (with_reducible repeat (first | refine blk_drewN ?_ _ | refine blk_drew ?_ | refine blk_alloc ?_ _)); exact BK488.out) hb)
      have n12_ := Aside0.mk (below_step (by repeat (first | (with_reducible first | exact HB.out | apply below_alloc | apply pw_below_drewN | apply below_drew1 | refine below_set ?_ GE458.out | refine below_set ?_ GE473.out | refine below_set ?_ GE480.out | refine below_set ?_ GE488.out) | exact HB.out)) hb)
      clear HO_474000
      clear HO_474001
      clear HO_481000
      clear HO_481001
      clear HO_489000
      clear HO_489001
      clear BK458
      clear BK473
      clear BK480
      clear BK488
      clear HB
      have HO_474000 := n0_
      have HO_474001 := n1_
      have HO_481000 := n2_
      have HO_481001 := n3_
      have HO_489000 := n4_
      have HO_489001 := n5_
      have HO492 := n6_
      have HO495 := n7_
      have BK458 := n8_
      have BK473 := n9_
      have BK480 := n10_
      have BK488 := n11_
      have HB := n12_
      clear n0_ n1_ n2_ n3_ n4_ n5_ n6_ n7_ n8_ n9_ n10_ n11_ n12_
      (try clear hb)
      (try clear hb2)
      (try clear hk)
      (try clear hi)
      (try clear ho0)
      (try clear ho1)
      obtain ⟨Ao68, co68, eo68⟩ := Kd.R_slice HO492.out
      (first | subst eo68 | (injection eo68 with f1_ f2_ f3_; have f4_ := f1_.symm; have f5_ := f3_.symm; clear f1_ f2_ f3_; subst f4_; subst f5_))
      obtain ⟨Ao69, co69, eo69⟩ := Kd.R_slice HO495.out
      (first | subst eo69 | (injection eo69 with f1_ f2_ f3_; have f4_ := f1_.symm; have f5_ := f3_.symm; clear f1_ f2_ f3_; subst f4_; subst f5_))
      refine hK.out _ _ ⟨(blk_cell BK480.out 0).trans rfl, (blk_cell BK480.out 1).trans rfl, (blk_cell BK458.out 0).trans rfl, (blk_cell BK458.out 1).trans rfl⟩ (fun hHeld => ?_)
      clear hK K
      refine norm_ (a' := ?_) ?_ ?_
      rotate_left
      ·show Act.put _ (some 47) _ = _
       simp only [Act.put, List.setIfInBounds_toArray, List.set_cons_zero, List.set_cons_succ, i64_w, i32_w]
       rfl
      refine one_ (i := 3) (N := some 48) #[true, true, true, true, false] rfl rfl (by kernel_rfl) (by decide) (fun K hK => ?_)
      refine goes_ Try.func18 (by kernel_rfl) rfl #[.agg #[.slice Ao29 t474.length co29, .slice Ao33 t477.length co33], .agg #[.slice Ao68 t490.length co68, .slice Ao69 t493.length co69]] (by rfl) rfl rfl (by (try simp only [List.map_toArray, List.map_cons, List.map_nil]); first | done | rfl | (simp only [List.length_drop, List.length_take]; rfl)) ?_
      with_reducible refine (laws_eqRotation.calls kj11 _ _ t474 _ _ t477 _ _ t490 _ _ t493 true _ ?side1 ?side2 ?side3 ?side4 ?side5 ?side6 ?side7 ?side8 A62.out).mono ?_
      (case side1 => repeat (first | exact (Kd.R_reads' HO_481000.out).2.2 | (with_reducible refine Kd.C_alloc ?_ _) | (with_reducible refine Kd.C_drewN ?_ _) | (with_reducible refine Kd.C_drew ?_)))
      (case side2 => exact (Kd.R_reads' HO_481000.out).2.1)
      (case side3 => repeat (first | exact (Kd.R_reads' HO_481001.out).2.2 | (with_reducible refine Kd.C_alloc ?_ _) | (with_reducible refine Kd.C_drewN ?_ _) | (with_reducible refine Kd.C_drew ?_)))
      (case side4 => exact (Kd.R_reads' HO_481001.out).2.1)
      (case side5 => repeat (first | exact (Kd.R_reads' HO492.out).2.2 | (with_reducible refine Kd.C_alloc ?_ _) | (with_reducible refine Kd.C_drewN ?_ _) | (with_reducible refine Kd.C_drew ?_)))
      (case side6 => exact (Kd.R_reads' HO492.out).2.1)
      (case side7 => repeat (first | exact (Kd.R_reads' HO495.out).2.2 | (with_reducible refine Kd.C_alloc ?_ _) | (with_reducible refine Kd.C_drewN ?_ _) | (with_reducible refine Kd.C_drew ?_)))
      (case side8 => exact (Kd.R_reads' HO495.out).2.1)
      rintro e w70 ⟨rfl, hb⟩
      refine ⟨_, rfl, ?_⟩
      have n0_ := Aside0.mk (Kd.R_below (by (with_reducible repeat (first | apply Kd.R_alloc | apply Kd.R_drewN | apply Kd.R_drew)); exact HO_474000.out) hb)
      have n1_ := Aside0.mk (Kd.R_below (by (with_reducible repeat (first | apply Kd.R_alloc | apply Kd.R_drewN | apply Kd.R_drew)); exact HO_474001.out) hb)
      have n2_ := Aside0.mk (Kd.R_below (by (with_reducible repeat (first | apply Kd.R_alloc | apply Kd.R_drewN | apply Kd.R_drew)); exact HO_481000.out) hb)
      have n3_ := Aside0.mk (Kd.R_below (by (with_reducible repeat (first | apply Kd.R_alloc | apply Kd.R_drewN | apply Kd.R_drew)); exact HO_481001.out) hb)
      have n4_ := Aside0.mk (Kd.R_below (by (with_reducible repeat (first | apply Kd.R_alloc | apply Kd.R_drewN | apply Kd.R_drew)); exact HO_489000.out) hb)
      have n5_ := Aside0.mk (Kd.R_below (by (with_reducible repeat (first | apply Kd.R_alloc | apply Kd.R_drewN | apply Kd.R_drew)); exact HO_489001.out) hb)
      have n6_ := Aside0.mk (Kd.R_below (by (with_reducible repeat (first | apply Kd.R_alloc | apply Kd.R_drewN | apply Kd.R_drew)); exact HO492.out) hb)
      have n7_ := Aside0.mk (Kd.R_below (by (with_reducible repeat (first | apply Kd.R_alloc | apply Kd.R_drewN | apply Kd.R_drew)); exact HO495.out) hb)
      have n8_ := Aside0.mk (blk_below (g := gb458) (o := .cells #[.slice A0_0 l0_0.length c0_0, .slice A0_1 l0_1.length c0_1] 24 (0, 0)) (by (with_reducible repeat (first | refine blk_drewN ?_ _ | refine blk_drew ?_ | refine blk_alloc ?_ _)); exact BK458.out) hb)
      have n9_ := Aside0.mk (blk_below (g := gb473) (o := .cells #[.slice Ao22 t466.length co22, .slice Ao25 t469.length co25] 27 (0, 0)) (by (with_reducible repeat (first | refine blk_drewN ?_ _ | refine blk_drew ?_ | refine blk_alloc ?_ _)); exact BK473.out) hb)
      have n10_ := Aside0.mk (blk_below (g := gb480) (o := .cells #[.slice Ao29 t474.length co29, .slice Ao33 t477.length co33] 27 (0, 0)) (by (with_reducible repeat (first | refine blk_drewN ?_ _ | refine blk_drew ?_ | refine blk_alloc ?_ _)); exact BK480.out) hb)
      have n11_ := Aside0.mk (blk_below (g := gb488) (o := .cells #[.slice Ao36 t481.length co36, .slice Ao41 t484.length co41] 27 (0, 0)) (by (with_reducible repeat (first | refine blk_drewN ?_ _ | refine blk_drew ?_ | refine blk_alloc ?_ _)); exact BK488.out) hb)
      have n12_ := Aside0.mk (below_step (by repeat (first | (with_reducible first | exact HB.out | apply below_alloc | apply pw_below_drewN | apply below_drew1 | refine below_set ?_ GE458.out | refine below_set ?_ GE473.out | refine below_set ?_ GE480.out | refine below_set ?_ GE488.out) | exact HB.out)) hb)
      clear HO_474000
      clear HO_474001
      clear HO_481000
      clear HO_481001
      clear HO_489000
      clear HO_489001
      clear HO492
      clear HO495
      clear BK458
      clear BK473
      clear BK480
      clear BK488
      clear HB
      have HO_474000 := n0_
      have HO_474001 := n1_
      have HO_481000 := n2_
      have HO_481001 := n3_
      have HO_489000 := n4_
      have HO_489001 := n5_
      have HO492 := n6_
      have HO495 := n7_
      have BK458 := n8_
      have BK473 := n9_
      have BK480 := n10_
      have BK488 := n11_
      have HB := n12_
      clear n0_ n1_ n2_ n3_ n4_ n5_ n6_ n7_ n8_ n9_ n10_ n11_ n12_
      (try clear hb)
      (try clear hb2)
      (try clear hk)
      (try clear hi)
      refine hK.out _ _ ⟨(blk_cell BK480.out 0).trans rfl, (blk_cell BK480.out 1).trans rfl, (blk_cell BK458.out 0).trans rfl, (blk_cell BK458.out 1).trans rfl⟩ (fun hHeld => ?_)
      clear hK K
      refine norm_ (a' := ?_) ?_ ?_
      rotate_left
      ·show Act.put _ (some 48) _ = _
       simp only [Act.put, List.setIfInBounds_toArray, List.set_cons_zero, List.set_cons_succ, i64_w, i32_w]
       rfl
      refine pure_ (i := 4) (N := some 49) (v := ?_) (a' := ?_) #[true, true, true, true, true] rfl rfl (by kernel_rfl) (fun _ _ _ h => h) (Or.inl ⟨by rfl, ?_⟩) ?_ ?_
      rotate_left
      ·intro w'
       go_simp
       with_reducible rfl
      rotate_left
      ·simp only [Act.put, List.setIfInBounds_toArray, List.set_cons_zero, List.set_cons_succ, i64_w, i32_w]
       rfl
      refine done_ (by kernel_rfl) ?_
      have hnb71 := NB480_458.out
      have hnc71 := NB458_480.out
      have hnb72 := NB480_473.out
      have hnc72 := NB473_480.out
      have hnb73 := NB480_488.out
      have hnc73 := NB488_480.out
      have hcz74_0 : w70.cell? ⟨gb480, 0, none⟩ = some (.slice Ao29 t474.length co29) := (blk_cell BK480.out 0).trans rfl
      have hcz74_1 : w70.cell? ⟨gb480, 1, none⟩ = some (.slice Ao33 t477.length co33) := (blk_cell BK480.out 1).trans rfl
      have hfz74_0 := blk_frozen BK480.out 0
      have hfz74_1 := blk_frozen BK480.out 1
      go_upto_region 14 with (first | ((with_reducible refine gate_callee (f := 31) rfl ?_); refine goesL_ (some 52) rfl rfl Try.func31 (by kernel_rfl) rfl #[.agg #[.slice Ao29 t474.length co29, .slice Ao33 t477.length co33], .int .i64 1] rfl (by (try simp only [List.map_toArray, List.map_cons, List.map_nil]); first | done | rfl | (simp only [List.length_drop, List.length_take]; rfl)) ?_; (with_reducible refine (laws_markRotation.calls kj11 (fun k_ => some k_ = (.slice Ao29 t474.length co29 : Value).ownBlock) (.slice Ao29 t474.length co29) t474 (fun k_ => some k_ = (.slice Ao33 t477.length co33 : Value).ownBlock) (.slice Ao33 t477.length co33) t477 1 t497 t498 t499 w _ ?side1 ?side2 ?side3 ?side4 ?side5 A64.out).mono ?_); (case side1 => repeat (first | (with_reducible first | exact HB.out | apply below_alloc | apply pw_below_drewN | apply below_drew1 | refine below_set ?_ GE458.out | refine below_set ?_ GE473.out | refine below_set ?_ GE480.out | refine below_set ?_ GE488.out) | exact HB.out)); (case side2 => exact Kd.R_tight rfl HO_481000.out); (case side3 => exact fun k_ e_ => (HO_481000.out.1 k_ e_.symm).1.1.2.2.1); (case side4 => exact Kd.R_tight rfl HO_481001.out); (case side5 => exact fun k_ e_ => (HO_481001.out.1 k_ e_.symm).1.1.2.2.1); rintro e w75 ⟨rfl, hy0, hy1, hb, hkp⟩; refine ⟨_, rfl, ?_⟩; have n0_ := Aside0.mk (Kd.R_mono (ok' := fun k_ => some k_ ≠ (.slice Ao25 t469.length co25 : Value).ownBlock ∧ some k_ ≠ (.slice Ao29 t474.length co29 : Value).ownBlock ∧ some k_ ≠ (.slice Ao33 t477.length co33 : Value).ownBlock ∧ some k_ ≠ (.slice Ao36 t481.length co36 : Value).ownBlock ∧ some k_ ≠ (.slice Ao41 t484.length co41 : Value).ownBlock ∧ some k_ ≠ (.slice Ao68 t490.length co68 : Value).ownBlock ∧ some k_ ≠ (.slice Ao69 t493.length co69 : Value).ownBlock) (Kd.R_keptB (HO_474000.out) hkp (fun k_ hk_ hs_ => Or.elim hs_ (fun e_ => (hk_.1.1.2.1) e_) (fun e_ => (hk_.1.1.2.2.1) e_))) (fun k_ hk_ => ⟨hk_.1.1.1.1, hk_.1.1.1.2.1, hk_.1.1.1.2.2.1, hk_.1.1.1.2.2.2.1, hk_.1.1.1.2.2.2.2, hk_.1.1.2, hk_.1.2⟩)); have n1_ := Aside0.mk (Kd.R_mono (ok' := fun k_ => some k_ ≠ (.slice Ao22 t466.length co22 : Value).ownBlock ∧ some k_ ≠ (.slice Ao29 t474.length co29 : Value).ownBlock ∧ some k_ ≠ (.slice Ao33 t477.length co33 : Value).ownBlock ∧ some k_ ≠ (.slice Ao36 t481.length co36 : Value).ownBlock ∧ some k_ ≠ (.slice Ao41 t484.length co41 : Value).ownBlock ∧ some k_ ≠ (.slice Ao68 t490.length co68 : Value).ownBlock ∧ some k_ ≠ (.slice Ao69 t493.length co69 : Value).ownBlock) (Kd.R_keptB (HO_474001.out) hkp (fun k_ hk_ hs_ => Or.elim hs_ (fun e_ => (hk_.1.1.2.1) e_) (fun e_ => (hk_.1.1.2.2.1) e_))) (fun k_ hk_ => ⟨hk_.1.1.1.1, hk_.1.1.1.2.1, hk_.1.1.1.2.2.1, hk_.1.1.1.2.2.2.1, hk_.1.1.1.2.2.2.2, hk_.1.1.2, hk_.1.2⟩)); have n2_ := Aside0.mk (Kd.R_reok rfl hy0 (fun k_ e_ => HO_481000.out.1 k_ e_)); have n3_ := Aside0.mk (Kd.R_reok rfl hy1 (fun k_ e_ => HO_481001.out.1 k_ e_)); have n4_ := Aside0.mk (Kd.R_mono (ok' := fun k_ => some k_ ≠ (.slice Ao22 t466.length co22 : Value).ownBlock ∧ some k_ ≠ (.slice Ao25 t469.length co25 : Value).ownBlock ∧ some k_ ≠ (.slice Ao29 t474.length co29 : Value).ownBlock ∧ some k_ ≠ (.slice Ao33 t477.length co33 : Value).ownBlock ∧ some k_ ≠ (.slice Ao41 t484.length co41 : Value).ownBlock ∧ some k_ ≠ (.slice Ao68 t490.length co68 : Value).ownBlock ∧ some k_ ≠ (.slice Ao69 t493.length co69 : Value).ownBlock) (Kd.R_keptB (HO_489000.out) hkp (fun k_ hk_ hs_ => Or.elim hs_ (fun e_ => (hk_.1.1.2.2.1) e_) (fun e_ => (hk_.1.1.2.2.2.1) e_))) (fun k_ hk_ => ⟨hk_.1.1.1.1, hk_.1.1.1.2.1, hk_.1.1.1.2.2.1, hk_.1.1.1.2.2.2.1, hk_.1.1.1.2.2.2.2, hk_.1.1.2, hk_.1.2⟩)); have n5_ := Aside0.mk (Kd.R_mono (ok' := fun k_ => some k_ ≠ (.slice Ao22 t466.length co22 : Value).ownBlock ∧ some k_ ≠ (.slice Ao25 t469.length co25 : Value).ownBlock ∧ some k_ ≠ (.slice Ao29 t474.length co29 : Value).ownBlock ∧ some k_ ≠ (.slice Ao33 t477.length co33 : Value).ownBlock ∧ some k_ ≠ (.slice Ao36 t481.length co36 : Value).ownBlock ∧ some k_ ≠ (.slice Ao68 t490.length co68 : Value).ownBlock ∧ some k_ ≠ (.slice Ao69 t493.length co69 : Value).ownBlock) (Kd.R_keptB (HO_489001.out) hkp (fun k_ hk_ hs_ => Or.elim hs_ (fun e_ => (hk_.1.1.2.2.1) e_) (fun e_ => (hk_.1.1.2.2.2.1) e_))) (fun k_ hk_ => ⟨hk_.1.1.1.1, hk_.1.1.1.2.1, hk_.1.1.1.2.2.1, hk_.1.1.1.2.2.2.1, hk_.1.1.1.2.2.2.2, hk_.1.1.2, hk_.1.2⟩)); have n6_ := Aside0.mk (blk_kept (by (with_reducible repeat (first | refine blk_drewN ?_ _ | refine blk_drew ?_ | refine blk_alloc ?_ _)); exact BK458.out) hkp (fun hs_ => Or.elim hs_ (fun e_ => (fun e_ => (Kd.R_ne HO_481000.out BK458.out (by decide)) e_) e_) (fun e_ => (fun e_ => (Kd.R_ne HO_481001.out BK458.out (by decide)) e_) e_))); have n7_ := Aside0.mk (blk_kept (by (with_reducible repeat (first | refine blk_drewN ?_ _ | refine blk_drew ?_ | refine blk_alloc ?_ _)); exact BK473.out) hkp (fun hs_ => Or.elim hs_ (fun e_ => (fun e_ => (Kd.R_ne HO_481000.out BK473.out (by decide)) e_) e_) (fun e_ => (fun e_ => (Kd.R_ne HO_481001.out BK473.out (by decide)) e_) e_))); have n8_ := Aside0.mk (blk_kept (by (with_reducible repeat (first | refine blk_drewN ?_ _ | refine blk_drew ?_ | refine blk_alloc ?_ _)); exact BK480.out) hkp (fun hs_ => Or.elim hs_ (fun e_ => (fun e_ => (Kd.R_ne HO_481000.out BK480.out (by decide)) e_) e_) (fun e_ => (fun e_ => (Kd.R_ne HO_481001.out BK480.out (by decide)) e_) e_))); have n9_ := Aside0.mk (blk_kept (by (with_reducible repeat (first | refine blk_drewN ?_ _ | refine blk_drew ?_ | refine blk_alloc ?_ _)); exact BK488.out) hkp (fun hs_ => Or.elim hs_ (fun e_ => (fun e_ => (Kd.R_ne HO_481000.out BK488.out (by decide)) e_) e_) (fun e_ => (fun e_ => (Kd.R_ne HO_481001.out BK488.out (by decide)) e_) e_))); have n10_ := Aside0.mk (Kd.R_mono (ok' := fun k_ => some k_ ≠ (.slice Ao22 t466.length co22 : Value).ownBlock ∧ some k_ ≠ (.slice Ao25 t469.length co25 : Value).ownBlock ∧ some k_ ≠ (.slice Ao29 t474.length co29 : Value).ownBlock ∧ some k_ ≠ (.slice Ao33 t477.length co33 : Value).ownBlock ∧ some k_ ≠ (.slice Ao36 t481.length co36 : Value).ownBlock ∧ some k_ ≠ (.slice Ao41 t484.length co41 : Value).ownBlock ∧ some k_ ≠ (.slice Ao69 t493.length co69 : Value).ownBlock) (Kd.R_keptB (HO492.out) hkp (fun k_ hk_ hs_ => Or.elim hs_ (fun e_ => (hk_.1.1.1.2) e_) (fun e_ => (hk_.1.1.2) e_))) (fun k_ hk_ => ⟨hk_.1.1.1.1.1.1.2, hk_.1.1.1.1.1.2, hk_.1.1.1.1.2, hk_.1.1.1.2, hk_.1.1.2, hk_.1.2, hk_.1.1.1.1.1.1.1⟩)); have n11_ := Aside0.mk (Kd.R_mono (ok' := fun k_ => some k_ ≠ (.slice Ao22 t466.length co22 : Value).ownBlock ∧ some k_ ≠ (.slice Ao25 t469.length co25 : Value).ownBlock ∧ some k_ ≠ (.slice Ao29 t474.length co29 : Value).ownBlock ∧ some k_ ≠ (.slice Ao33 t477.length co33 : Value).ownBlock ∧ some k_ ≠ (.slice Ao36 t481.length co36 : Value).ownBlock ∧ some k_ ≠ (.slice Ao41 t484.length co41 : Value).ownBlock ∧ some k_ ≠ (.slice Ao68 t490.length co68 : Value).ownBlock) (Kd.R_keptB (HO495.out) hkp (fun k_ hk_ hs_ => Or.elim hs_ (fun e_ => (hk_.1.1.1.2) e_) (fun e_ => (hk_.1.1.2) e_))) (fun k_ hk_ => ⟨hk_.1.1.1.1.1.1.2, hk_.1.1.1.1.1.2, hk_.1.1.1.1.2, hk_.1.1.1.2, hk_.1.1.2, hk_.1.2, hk_.1.1.1.1.1.1.1⟩)); have n12_ := Aside0.mk (hb); clear HO_474000; clear HO_474001; clear HO_481000; clear HO_481001; clear HO_489000; clear HO_489001; clear BK458; clear BK473; clear BK480; clear BK488; clear HO492; clear HO495; clear HB; have HO_474000 := n0_; have HO_474001 := n1_; have HO_481000 := n2_; have HO_481001 := n3_; have HO_489000 := n4_; have HO_489001 := n5_; have BK458 := n6_; have BK473 := n7_; have BK480 := n8_; have BK488 := n9_; have HO492 := n10_; have HO495 := n11_; have HB := n12_; clear n0_ n1_ n2_ n3_ n4_ n5_ n6_ n7_ n8_ n9_ n10_ n11_ n12_; (try clear hb); (try clear hkp); (try clear hy0); (try clear hy1)))
      (try simp only [Act.put, List.setIfInBounds_toArray, List.set_cons_zero, List.set_cons_succ])
      go_cut [65] (fun v65 wc => ∃ (kq : Nat) (x65_64 : Bool), v65 = .bool x65_64 ∧ Aside0 (lw.j1 kq a1 t472 x65_64 l0_0 l0_1 t466 t469 t481 t484 = some r) ∧ Aside0 (kq ≤ kj11) ∧ Aside0 (Kd.R (Kd.int .i64) 3 wc w.heap.size (fun k_ => some k_ ≠ ((.slice Ao25 t469.length co25) : Value).ownBlock ∧ some k_ ≠ ((.slice Ao29 t474.length co29) : Value).ownBlock ∧ some k_ ≠ ((.slice Ao33 t477.length co33) : Value).ownBlock ∧ some k_ ≠ ((.slice Ao36 t481.length co36) : Value).ownBlock ∧ some k_ ≠ ((.slice Ao41 t484.length co41) : Value).ownBlock) (.slice Ao22 t466.length co22) t466) ∧ Aside0 (Kd.R (Kd.int .i64) 3 wc w.heap.size (fun k_ => some k_ ≠ ((.slice Ao22 t466.length co22) : Value).ownBlock ∧ some k_ ≠ ((.slice Ao29 t474.length co29) : Value).ownBlock ∧ some k_ ≠ ((.slice Ao33 t477.length co33) : Value).ownBlock ∧ some k_ ≠ ((.slice Ao36 t481.length co36) : Value).ownBlock ∧ some k_ ≠ ((.slice Ao41 t484.length co41) : Value).ownBlock) (.slice Ao25 t469.length co25) t469) ∧ Aside0 (Kd.R (Kd.int .i64) 3 wc w.heap.size (fun k_ => some k_ ≠ ((.slice Ao22 t466.length co22) : Value).ownBlock ∧ some k_ ≠ ((.slice Ao25 t469.length co25) : Value).ownBlock ∧ some k_ ≠ ((.slice Ao33 t477.length co33) : Value).ownBlock ∧ some k_ ≠ ((.slice Ao36 t481.length co36) : Value).ownBlock ∧ some k_ ≠ ((.slice Ao41 t484.length co41) : Value).ownBlock) (.slice Ao29 t474.length co29) t498) ∧ Aside0 (Kd.R (Kd.int .i64) 3 wc w.heap.size (fun k_ => some k_ ≠ ((.slice Ao22 t466.length co22) : Value).ownBlock ∧ some k_ ≠ ((.slice Ao25 t469.length co25) : Value).ownBlock ∧ some k_ ≠ ((.slice Ao29 t474.length co29) : Value).ownBlock ∧ some k_ ≠ ((.slice Ao36 t481.length co36) : Value).ownBlock ∧ some k_ ≠ ((.slice Ao41 t484.length co41) : Value).ownBlock) (.slice Ao33 t477.length co33) t499) ∧ Aside0 (Kd.R (Kd.int .i64) 3 wc w.heap.size (fun k_ => some k_ ≠ ((.slice Ao22 t466.length co22) : Value).ownBlock ∧ some k_ ≠ ((.slice Ao25 t469.length co25) : Value).ownBlock ∧ some k_ ≠ ((.slice Ao29 t474.length co29) : Value).ownBlock ∧ some k_ ≠ ((.slice Ao33 t477.length co33) : Value).ownBlock ∧ some k_ ≠ ((.slice Ao41 t484.length co41) : Value).ownBlock) (.slice Ao36 t481.length co36) t481) ∧ Aside0 (Kd.R (Kd.int .i64) 3 wc w.heap.size (fun k_ => some k_ ≠ ((.slice Ao22 t466.length co22) : Value).ownBlock ∧ some k_ ≠ ((.slice Ao25 t469.length co25) : Value).ownBlock ∧ some k_ ≠ ((.slice Ao29 t474.length co29) : Value).ownBlock ∧ some k_ ≠ ((.slice Ao33 t477.length co33) : Value).ownBlock ∧ some k_ ≠ ((.slice Ao36 t481.length co36) : Value).ownBlock) (.slice Ao41 t484.length co41) t484) ∧ Aside0 (wc.heap[gb458]? = some (.cells #[(.slice A0_0 l0_0.length c0_0), (.slice A0_1 l0_1.length c0_1)] 24 (0, 0))) ∧ Aside0 (wc.heap[gb473]? = some (.cells #[(.slice Ao22 t466.length co22), (.slice Ao25 t469.length co25)] 27 (0, 0))) ∧ Aside0 (wc.heap[gb480]? = some (.cells #[(.slice Ao29 t474.length co29), (.slice Ao33 t477.length co33)] 27 (0, 0))) ∧ Aside0 (wc.heap[gb488]? = some (.cells #[(.slice Ao36 t481.length co36), (.slice Ao41 t484.length co41)] 27 (0, 0))) ∧ Aside0 (Below w.heap.size w wc))
      case first =>
       have H := HC65.out
       clear HC65
       by_cases c76 : t497 < 0
       ·rw [if_pos c76] at H
        have c76b0 : decide (t497 < 0) = true := decide_eq_true c76
        clear c76
        (first | rw [c76b0] | (simp only [i64_w, i32_w]; rw [c76b0]) | skip)
        have H' := Aside0.mk H
        clear H
        go_wp2
        go_meet
        case rel => exact ⟨_, (true), (by first | rfl | (simp; done) | (simp [*]; done)), H', ⟨by have := HJ11.out; first | omega | exact Nat.le_refl _⟩, ⟨by (with_reducible repeat (first | apply Kd.R_alloc | apply Kd.R_drewN | apply Kd.R_drew)); exact Kd.R_mono HO_474000.out (fun _ hk => ⟨hk.1, ⟨hk.2.1, ⟨hk.2.2.1, ⟨hk.2.2.2.1, hk.2.2.2.2.1⟩⟩⟩⟩)⟩, ⟨by (with_reducible repeat (first | apply Kd.R_alloc | apply Kd.R_drewN | apply Kd.R_drew)); exact Kd.R_mono HO_474001.out (fun _ hk => ⟨hk.1, ⟨hk.2.1, ⟨hk.2.2.1, ⟨hk.2.2.2.1, hk.2.2.2.2.1⟩⟩⟩⟩)⟩, ⟨by (with_reducible repeat (first | apply Kd.R_alloc | apply Kd.R_drewN | apply Kd.R_drew)); exact Kd.R_mono HO_481000.out (fun _ hk => ⟨hk.1.1.1, ⟨hk.1.1.2.1, ⟨hk.1.1.2.2.1, ⟨hk.1.1.2.2.2.1, hk.1.1.2.2.2.2⟩⟩⟩⟩)⟩, ⟨by (with_reducible repeat (first | apply Kd.R_alloc | apply Kd.R_drewN | apply Kd.R_drew)); exact Kd.R_mono HO_481001.out (fun _ hk => ⟨hk.1.1.1, ⟨hk.1.1.2.1, ⟨hk.1.1.2.2.1, ⟨hk.1.1.2.2.2.1, hk.1.1.2.2.2.2⟩⟩⟩⟩)⟩, ⟨by (with_reducible repeat (first | apply Kd.R_alloc | apply Kd.R_drewN | apply Kd.R_drew)); exact Kd.R_mono HO_489000.out (fun _ hk => ⟨hk.1, ⟨hk.2.1, ⟨hk.2.2.1, ⟨hk.2.2.2.1, hk.2.2.2.2.1⟩⟩⟩⟩)⟩, ⟨by (with_reducible repeat (first | apply Kd.R_alloc | apply Kd.R_drewN | apply Kd.R_drew)); exact Kd.R_mono HO_489001.out (fun _ hk => ⟨hk.1, ⟨hk.2.1, ⟨hk.2.2.1, ⟨hk.2.2.2.1, hk.2.2.2.2.1⟩⟩⟩⟩)⟩, ⟨by (with_reducible repeat (first | refine blk_drewN ?_ _ | refine blk_drew ?_ | refine blk_alloc ?_ _)); exact BK458.out⟩, ⟨by (with_reducible repeat (first | refine blk_drewN ?_ _ | refine blk_drew ?_ | refine blk_alloc ?_ _)); exact BK473.out⟩, ⟨by (with_reducible repeat (first | refine blk_drewN ?_ _ | refine blk_drew ?_ | refine blk_alloc ?_ _)); exact BK480.out⟩, ⟨by (with_reducible repeat (first | refine blk_drewN ?_ _ | refine blk_drew ?_ | refine blk_alloc ?_ _)); exact BK488.out⟩, ⟨by repeat (first | (with_reducible first | exact HB.out | apply below_alloc | apply pw_below_drewN | apply below_drew1 | refine below_set ?_ GE458.out | refine below_set ?_ GE473.out | refine below_set ?_ GE480.out | refine below_set ?_ GE488.out) | exact HB.out)⟩⟩
       ·rw [if_neg c76] at H
        have c76b0 : decide (t497 < 0) = false := decide_eq_false c76
        clear c76
        (first | rw [c76b0] | (simp only [i64_w, i32_w]; rw [c76b0]) | skip)
        replace H := Option.bind_eq_some_iff.mp H
        obtain ⟨t500, A770, H⟩ := H
        replace H : (if t500 = true then (lw.j1 kj11 a1 t472 (t487 != t472) l0_0 l0_1 t466 t469 t481 t484) else (lw.j1 kj11 a1 t472 true l0_0 l0_1 t466 t469 t481 t484)) = some r := H
        have A77 := Aside0.mk A770
        clear A770
        by_cases c78 : t500 = true
        ·subst c78
         have H1 : (lw.j1 kj11 a1 t472 (t487 != t472) l0_0 l0_1 t466 t469 t481 t484) = some r := by rw [if_pos rfl] at H; exact H
         clear H
         have H := H1
         clear H1
         have H' := Aside0.mk H
         clear H
         have hnb79 := NB488_458.out
         have hnc79 := NB458_488.out
         have hnb80 := NB488_473.out
         have hnc80 := NB473_488.out
         have hnb81 := NB488_480.out
         have hnc81 := NB480_488.out
         have hcz82_0 : w75.cell? ⟨gb488, 0, none⟩ = some (.slice Ao36 t481.length co36) := (blk_cell BK488.out 0).trans rfl
         have hcz82_1 : w75.cell? ⟨gb488, 1, none⟩ = some (.slice Ao41 t484.length co41) := (blk_cell BK488.out 1).trans rfl
         have hfz82_0 := blk_frozen BK488.out 0
         have hfz82_1 := blk_frozen BK488.out 1
         have hnb83 := NB473_458.out
         have hnc83 := NB458_473.out
         have hnb84 := NB473_480.out
         have hnc84 := NB480_473.out
         have hcz85_0 : w75.cell? ⟨gb473, 0, none⟩ = some (.slice Ao22 t466.length co22) := (blk_cell BK473.out 0).trans rfl
         have hcz85_1 : w75.cell? ⟨gb473, 1, none⟩ = some (.slice Ao25 t469.length co25) := (blk_cell BK473.out 1).trans rfl
         have hfz85_0 := blk_frozen BK473.out 0
         have hfz85_1 := blk_frozen BK473.out 1
         go_wp2_with (first | (go_at_call 18; (with_reducible refine (laws_eqRotation.calls kj11 _ _ t481 _ _ t484 _ _ t466 _ _ t469 true _ ?side1 ?side2 ?side3 ?side4 ?side5 ?side6 ?side7 ?side8 A77.out).mono ?_); (case side1 => repeat (first | exact (Kd.R_reads' HO_489000.out).2.2 | (with_reducible refine Kd.C_alloc ?_ _) | (with_reducible refine Kd.C_drewN ?_ _) | (with_reducible refine Kd.C_drew ?_))); (case side2 => exact (Kd.R_reads' HO_489000.out).2.1); (case side3 => repeat (first | exact (Kd.R_reads' HO_489001.out).2.2 | (with_reducible refine Kd.C_alloc ?_ _) | (with_reducible refine Kd.C_drewN ?_ _) | (with_reducible refine Kd.C_drew ?_))); (case side4 => exact (Kd.R_reads' HO_489001.out).2.1); (case side5 => repeat (first | exact (Kd.R_reads' HO_474000.out).2.2 | (with_reducible refine Kd.C_alloc ?_ _) | (with_reducible refine Kd.C_drewN ?_ _) | (with_reducible refine Kd.C_drew ?_))); (case side6 => exact (Kd.R_reads' HO_474000.out).2.1); (case side7 => repeat (first | exact (Kd.R_reads' HO_474001.out).2.2 | (with_reducible refine Kd.C_alloc ?_ _) | (with_reducible refine Kd.C_drewN ?_ _) | (with_reducible refine Kd.C_drew ?_))); (case side8 => exact (Kd.R_reads' HO_474001.out).2.1); rintro e w86 ⟨rfl, hb⟩; have n0_ := Aside0.mk (Kd.R_below (by (with_reducible repeat (first | apply Kd.R_alloc | apply Kd.R_drewN | apply Kd.R_drew)); exact HO_474000.out) hb); have n1_ := Aside0.mk (Kd.R_below (by (with_reducible repeat (first | apply Kd.R_alloc | apply Kd.R_drewN | apply Kd.R_drew)); exact HO_474001.out) hb); have n2_ := Aside0.mk (Kd.R_below (by (with_reducible repeat (first | apply Kd.R_alloc | apply Kd.R_drewN | apply Kd.R_drew)); exact HO_481000.out) hb); have n3_ := Aside0.mk (Kd.R_below (by (with_reducible repeat (first | apply Kd.R_alloc | apply Kd.R_drewN | apply Kd.R_drew)); exact HO_481001.out) hb); have n4_ := Aside0.mk (Kd.R_below (by (with_reducible repeat (first | apply Kd.R_alloc | apply Kd.R_drewN | apply Kd.R_drew)); exact HO_489000.out) hb); have n5_ := Aside0.mk (Kd.R_below (by (with_reducible repeat (first | apply Kd.R_alloc | apply Kd.R_drewN | apply Kd.R_drew)); exact HO_489001.out) hb); have n6_ := Aside0.mk (Kd.R_below (by (with_reducible repeat (first | apply Kd.R_alloc | apply Kd.R_drewN | apply Kd.R_drew)); exact HO492.out) hb); have n7_ := Aside0.mk (Kd.R_below (by (with_reducible repeat (first | apply Kd.R_alloc | apply Kd.R_drewN | apply Kd.R_drew)); exact HO495.out) hb); have n8_ := Aside0.mk (blk_below (g := gb458) (o := .cells #[.slice A0_0 l0_0.length c0_0, .slice A0_1 l0_1.length c0_1] 24 (0, 0)) (by (with_reducible repeat (first | refine blk_drewN ?_ _ | refine blk_drew ?_ | refine blk_alloc ?_ _)); exact BK458.out) hb); have n9_ := Aside0.mk (blk_below (g := gb473) (o := .cells #[.slice Ao22 t466.length co22, .slice Ao25 t469.length co25] 27 (0, 0)) (by (with_reducible repeat (first | refine blk_drewN ?_ _ | refine blk_drew ?_ | refine blk_alloc ?_ _)); exact BK473.out) hb); have n10_ := Aside0.mk (blk_below (g := gb480) (o := .cells #[.slice Ao29 t474.length co29, .slice Ao33 t477.length co33] 27 (0, 0)) (by (with_reducible repeat (first | refine blk_drewN ?_ _ | refine blk_drew ?_ | refine blk_alloc ?_ _)); exact BK480.out) hb); have n11_ := Aside0.mk (blk_below (g := gb488) (o := .cells #[.slice Ao36 t481.length co36, .slice Ao41 t484.length co41] 27 (0, 0)) (by (with_reducible repeat (first | refine blk_drewN ?_ _ | refine blk_drew ?_ | refine blk_alloc ?_ _)); exact BK488.out) hb); have n12_ := Aside0.mk (below_step (by repeat (first | (with_reducible first | exact HB.out | apply below_alloc | apply pw_below_drewN | apply below_drew1 | refine below_set ?_ GE458.out | refine below_set ?_ GE473.out | refine below_set ?_ GE480.out | refine below_set ?_ GE488.out) | exact HB.out)) hb); clear HO_474000; clear HO_474001; clear HO_481000; clear HO_481001; clear HO_489000; clear HO_489001; clear HO492; clear HO495; clear BK458; clear BK473; clear BK480; clear BK488; clear HB; have HO_474000 := n0_; have HO_474001 := n1_; have HO_481000 := n2_; have HO_481001 := n3_; have HO_489000 := n4_; have HO_489001 := n5_; have HO492 := n6_; have HO495 := n7_; have BK458 := n8_; have BK473 := n9_; have BK480 := n10_; have BK488 := n11_; have HB := n12_; clear n0_ n1_ n2_ n3_ n4_ n5_ n6_ n7_ n8_ n9_ n10_ n11_ n12_; (try clear hb); (try clear hb2); (try clear hk); (try clear hi)))
         go_meet
         case rel => exact ⟨_, ((t487 != t472)), (by first | rfl | (simp; done) | (simp [*]; done)), H', ⟨by have := HJ11.out; first | omega | exact Nat.le_refl _⟩, ⟨by (with_reducible repeat (first | apply Kd.R_alloc | apply Kd.R_drewN | apply Kd.R_drew)); exact Kd.R_mono HO_474000.out (fun _ hk => ⟨hk.1, ⟨hk.2.1, ⟨hk.2.2.1, ⟨hk.2.2.2.1, hk.2.2.2.2.1⟩⟩⟩⟩)⟩, ⟨by (with_reducible repeat (first | apply Kd.R_alloc | apply Kd.R_drewN | apply Kd.R_drew)); exact Kd.R_mono HO_474001.out (fun _ hk => ⟨hk.1, ⟨hk.2.1, ⟨hk.2.2.1, ⟨hk.2.2.2.1, hk.2.2.2.2.1⟩⟩⟩⟩)⟩, ⟨by (with_reducible repeat (first | apply Kd.R_alloc | apply Kd.R_drewN | apply Kd.R_drew)); exact Kd.R_mono HO_481000.out (fun _ hk => ⟨hk.1.1.1, ⟨hk.1.1.2.1, ⟨hk.1.1.2.2.1, ⟨hk.1.1.2.2.2.1, hk.1.1.2.2.2.2⟩⟩⟩⟩)⟩, ⟨by (with_reducible repeat (first | apply Kd.R_alloc | apply Kd.R_drewN | apply Kd.R_drew)); exact Kd.R_mono HO_481001.out (fun _ hk => ⟨hk.1.1.1, ⟨hk.1.1.2.1, ⟨hk.1.1.2.2.1, ⟨hk.1.1.2.2.2.1, hk.1.1.2.2.2.2⟩⟩⟩⟩)⟩, ⟨by (with_reducible repeat (first | apply Kd.R_alloc | apply Kd.R_drewN | apply Kd.R_drew)); exact Kd.R_mono HO_489000.out (fun _ hk => ⟨hk.1, ⟨hk.2.1, ⟨hk.2.2.1, ⟨hk.2.2.2.1, hk.2.2.2.2.1⟩⟩⟩⟩)⟩, ⟨by (with_reducible repeat (first | apply Kd.R_alloc | apply Kd.R_drewN | apply Kd.R_drew)); exact Kd.R_mono HO_489001.out (fun _ hk => ⟨hk.1, ⟨hk.2.1, ⟨hk.2.2.1, ⟨hk.2.2.2.1, hk.2.2.2.2.1⟩⟩⟩⟩)⟩, ⟨by (with_reducible repeat (first | refine blk_drewN ?_ _ | refine blk_drew ?_ | refine blk_alloc ?_ _)); exact BK458.out⟩, ⟨by (with_reducible repeat (first | refine blk_drewN ?_ _ | refine blk_drew ?_ | refine blk_alloc ?_ _)); exact BK473.out⟩, ⟨by (with_reducible repeat (first | refine blk_drewN ?_ _ | refine blk_drew ?_ | refine blk_alloc ?_ _)); exact BK480.out⟩, ⟨by (with_reducible repeat (first | refine blk_drewN ?_ _ | refine blk_drew ?_ | refine blk_alloc ?_ _)); exact BK488.out⟩, ⟨by repeat (first | (with_reducible first | exact HB.out | apply below_alloc | apply pw_below_drewN | apply below_drew1 | refine below_set ?_ GE458.out | refine below_set ?_ GE473.out | refine below_set ?_ GE480.out | refine below_set ?_ GE488.out) | exact HB.out)⟩⟩
        ·replace c78 := Bool.eq_false_iff.mpr c78
         subst c78
         have H1 : (lw.j1 kj11 a1 t472 true l0_0 l0_1 t466 t469 t481 t484) = some r := by rw [if_neg (show ¬ (false = true) by decide)] at H; exact H
         clear H
         have H := H1
         clear H1
         have H' := Aside0.mk H
         clear H
         have hnb87 := NB488_458.out
         have hnc87 := NB458_488.out
         have hnb88 := NB488_473.out
         have hnc88 := NB473_488.out
         have hnb89 := NB488_480.out
         have hnc89 := NB480_488.out
         have hcz90_0 : w75.cell? ⟨gb488, 0, none⟩ = some (.slice Ao36 t481.length co36) := (blk_cell BK488.out 0).trans rfl
         have hcz90_1 : w75.cell? ⟨gb488, 1, none⟩ = some (.slice Ao41 t484.length co41) := (blk_cell BK488.out 1).trans rfl
         have hfz90_0 := blk_frozen BK488.out 0
         have hfz90_1 := blk_frozen BK488.out 1
         have hnb91 := NB473_458.out
         have hnc91 := NB458_473.out
         have hnb92 := NB473_480.out
         have hnc92 := NB480_473.out
         have hcz93_0 : w75.cell? ⟨gb473, 0, none⟩ = some (.slice Ao22 t466.length co22) := (blk_cell BK473.out 0).trans rfl
         have hcz93_1 : w75.cell? ⟨gb473, 1, none⟩ = some (.slice Ao25 t469.length co25) := (blk_cell BK473.out 1).trans rfl
         have hfz93_0 := blk_frozen BK473.out 0
         have hfz93_1 := blk_frozen BK473.out 1
         go_wp2_with (first | (go_at_call 18; (with_reducible refine (laws_eqRotation.calls kj11 _ _ t481 _ _ t484 _ _ t466 _ _ t469 false _ ?side1 ?side2 ?side3 ?side4 ?side5 ?side6 ?side7 ?side8 A77.out).mono ?_); (case side1 => repeat (first | exact (Kd.R_reads' HO_489000.out).2.2 | (with_reducible refine Kd.C_alloc ?_ _) | (with_reducible refine Kd.C_drewN ?_ _) | (with_reducible refine Kd.C_drew ?_))); (case side2 => exact (Kd.R_reads' HO_489000.out).2.1); (case side3 => repeat (first | exact (Kd.R_reads' HO_489001.out).2.2 | (with_reducible refine Kd.C_alloc ?_ _) | (with_reducible refine Kd.C_drewN ?_ _) | (with_reducible refine Kd.C_drew ?_))); (case side4 => exact (Kd.R_reads' HO_489001.out).2.1); (case side5 => repeat (first | exact (Kd.R_reads' HO_474000.out).2.2 | (with_reducible refine Kd.C_alloc ?_ _) | (with_reducible refine Kd.C_drewN ?_ _) | (with_reducible refine Kd.C_drew ?_))); (case side6 => exact (Kd.R_reads' HO_474000.out).2.1); (case side7 => repeat (first | exact (Kd.R_reads' HO_474001.out).2.2 | (with_reducible refine Kd.C_alloc ?_ _) | (with_reducible refine Kd.C_drewN ?_ _) | (with_reducible refine Kd.C_drew ?_))); (case side8 => exact (Kd.R_reads' HO_474001.out).2.1); rintro e w94 ⟨rfl, hb⟩; have n0_ := Aside0.mk (Kd.R_below (by (with_reducible repeat (first | apply Kd.R_alloc | apply Kd.R_drewN | apply Kd.R_drew)); exact HO_474000.out) hb); have n1_ := Aside0.mk (Kd.R_below (by (with_reducible repeat (first | apply Kd.R_alloc | apply Kd.R_drewN | apply Kd.R_drew)); exact HO_474001.out) hb); have n2_ := Aside0.mk (Kd.R_below (by (with_reducible repeat (first | apply Kd.R_alloc | apply Kd.R_drewN | apply Kd.R_drew)); exact HO_481000.out) hb); have n3_ := Aside0.mk (Kd.R_below (by (with_reducible repeat (first | apply Kd.R_alloc | apply Kd.R_drewN | apply Kd.R_drew)); exact HO_481001.out) hb); have n4_ := Aside0.mk (Kd.R_below (by (with_reducible repeat (first | apply Kd.R_alloc | apply Kd.R_drewN | apply Kd.R_drew)); exact HO_489000.out) hb); have n5_ := Aside0.mk (Kd.R_below (by (with_reducible repeat (first | apply Kd.R_alloc | apply Kd.R_drewN | apply Kd.R_drew)); exact HO_489001.out) hb); have n6_ := Aside0.mk (Kd.R_below (by (with_reducible repeat (first | apply Kd.R_alloc | apply Kd.R_drewN | apply Kd.R_drew)); exact HO492.out) hb); have n7_ := Aside0.mk (Kd.R_below (by (with_reducible repeat (first | apply Kd.R_alloc | apply Kd.R_drewN | apply Kd.R_drew)); exact HO495.out) hb); have n8_ := Aside0.mk (blk_below (g := gb458) (o := .cells #[.slice A0_0 l0_0.length c0_0, .slice A0_1 l0_1.length c0_1] 24 (0, 0)) (by (with_reducible repeat (first | refine blk_drewN ?_ _ | refine blk_drew ?_ | refine blk_alloc ?_ _)); exact BK458.out) hb); have n9_ := Aside0.mk (blk_below (g := gb473) (o := .cells #[.slice Ao22 t466.length co22, .slice Ao25 t469.length co25] 27 (0, 0)) (by (with_reducible repeat (first | refine blk_drewN ?_ _ | refine blk_drew ?_ | refine blk_alloc ?_ _)); exact BK473.out) hb); have n10_ := Aside0.mk (blk_below (g := gb480) (o := .cells #[.slice Ao29 t474.length co29, .slice Ao33 t477.length co33] 27 (0, 0)) (by (with_reducible repeat (first | refine blk_drewN ?_ _ | refine blk_drew ?_ | refine blk_alloc ?_ _)); exact BK480.out) hb); have n11_ := Aside0.mk (blk_below (g := gb488) (o := .cells #[.slice Ao36 t481.length co36, .slice Ao41 t484.length co41] 27 (0, 0)) (by (with_reducible repeat (first | refine blk_drewN ?_ _ | refine blk_drew ?_ | refine blk_alloc ?_ _)); exact BK488.out) hb); have n12_ := Aside0.mk (below_step (by repeat (first | (with_reducible first | exact HB.out | apply below_alloc | apply pw_below_drewN | apply below_drew1 | refine below_set ?_ GE458.out | refine below_set ?_ GE473.out | refine below_set ?_ GE480.out | refine below_set ?_ GE488.out) | exact HB.out)) hb); clear HO_474000; clear HO_474001; clear HO_481000; clear HO_481001; clear HO_489000; clear HO_489001; clear HO492; clear HO495; clear BK458; clear BK473; clear BK480; clear BK488; clear HB; have HO_474000 := n0_; have HO_474001 := n1_; have HO_481000 := n2_; have HO_481001 := n3_; have HO_489000 := n4_; have HO_489001 := n5_; have HO492 := n6_; have HO495 := n7_; have BK458 := n8_; have BK473 := n9_; have BK480 := n10_; have BK488 := n11_; have HB := n12_; clear n0_ n1_ n2_ n3_ n4_ n5_ n6_ n7_ n8_ n9_ n10_ n11_ n12_; (try clear hb); (try clear hb2); (try clear hk); (try clear hi)))
         go_meet
         case rel => exact ⟨_, (true), (by first | rfl | (simp; done) | (simp [*]; done)), H', ⟨by have := HJ11.out; first | omega | exact Nat.le_refl _⟩, ⟨by (with_reducible repeat (first | apply Kd.R_alloc | apply Kd.R_drewN | apply Kd.R_drew)); exact Kd.R_mono HO_474000.out (fun _ hk => ⟨hk.1, ⟨hk.2.1, ⟨hk.2.2.1, ⟨hk.2.2.2.1, hk.2.2.2.2.1⟩⟩⟩⟩)⟩, ⟨by (with_reducible repeat (first | apply Kd.R_alloc | apply Kd.R_drewN | apply Kd.R_drew)); exact Kd.R_mono HO_474001.out (fun _ hk => ⟨hk.1, ⟨hk.2.1, ⟨hk.2.2.1, ⟨hk.2.2.2.1, hk.2.2.2.2.1⟩⟩⟩⟩)⟩, ⟨by (with_reducible repeat (first | apply Kd.R_alloc | apply Kd.R_drewN | apply Kd.R_drew)); exact Kd.R_mono HO_481000.out (fun _ hk => ⟨hk.1.1.1, ⟨hk.1.1.2.1, ⟨hk.1.1.2.2.1, ⟨hk.1.1.2.2.2.1, hk.1.1.2.2.2.2⟩⟩⟩⟩)⟩, ⟨by (with_reducible repeat (first | apply Kd.R_alloc | apply Kd.R_drewN | apply Kd.R_drew)); exact Kd.R_mono HO_481001.out (fun _ hk => ⟨hk.1.1.1, ⟨hk.1.1.2.1, ⟨hk.1.1.2.2.1, ⟨hk.1.1.2.2.2.1, hk.1.1.2.2.2.2⟩⟩⟩⟩)⟩, ⟨by (with_reducible repeat (first | apply Kd.R_alloc | apply Kd.R_drewN | apply Kd.R_drew)); exact Kd.R_mono HO_489000.out (fun _ hk => ⟨hk.1, ⟨hk.2.1, ⟨hk.2.2.1, ⟨hk.2.2.2.1, hk.2.2.2.2.1⟩⟩⟩⟩)⟩, ⟨by (with_reducible repeat (first | apply Kd.R_alloc | apply Kd.R_drewN | apply Kd.R_drew)); exact Kd.R_mono HO_489001.out (fun _ hk => ⟨hk.1, ⟨hk.2.1, ⟨hk.2.2.1, ⟨hk.2.2.2.1, hk.2.2.2.2.1⟩⟩⟩⟩)⟩, ⟨by (with_reducible repeat (first | refine blk_drewN ?_ _ | refine blk_drew ?_ | refine blk_alloc ?_ _)); exact BK458.out⟩, ⟨by (with_reducible repeat (first | refine blk_drewN ?_ _ | refine blk_drew ?_ | refine blk_alloc ?_ _)); exact BK473.out⟩, ⟨by (with_reducible repeat (first | refine blk_drewN ?_ _ | refine blk_drew ?_ | refine blk_alloc ?_ _)); exact BK480.out⟩, ⟨by (with_reducible repeat (first | refine blk_drewN ?_ _ | refine blk_drew ?_ | refine blk_alloc ?_ _)); exact BK488.out⟩, ⟨by repeat (first | (with_reducible first | exact HB.out | apply below_alloc | apply pw_below_drewN | apply below_drew1 | refine below_set ?_ GE458.out | refine below_set ?_ GE473.out | refine below_set ?_ GE480.out | refine below_set ?_ GE488.out) | exact HB.out)⟩⟩
      case rest =>
       clear HC65
       try clear c1
       try clear c2
       try clear p2
       try clear c3
       try clear c4
       try clear c4b0
       try clear c5
       try clear c6
       try clear c7
       try clear c8
       try clear c9
       try clear c14
       try clear c16
       try clear c18
       try clear c23
       try clear c29
       try clear c30
       try clear c31
       try clear c37
       try clear c38
       try clear c39
       try clear c43
       try clear c44
       try clear c45
       try clear c46
       try clear c48
       try clear c49
       try clear c52
       try clear c53
       try clear c54
       try clear c56
       try clear c57
       try clear c60
       try clear c63
       try clear c71
       try clear c72
       try clear c73
       try clear c76
       try clear c76b0
       try clear c78
       try clear c79
       try clear c80
       try clear c81
       try clear c83
       try clear c84
       try clear c87
       try clear c88
       try clear c89
       try clear c91
       try clear c92
       try clear hcz14_0
       try clear hcz14_1
       try clear hcz16_0
       try clear hcz16_1
       try clear hcz24_0
       try clear hcz24_1
       try clear hcz26_0
       try clear hcz26_1
       try clear hcz32_0
       try clear hcz32_1
       try clear hcz40_0
       try clear hcz40_1
       try clear hcz47_0
       try clear hcz47_1
       try clear hcz50_0
       try clear hcz50_1
       try clear hcz55_0
       try clear hcz55_1
       try clear hcz58_0
       try clear hcz58_1
       try clear hcz6_0
       try clear hcz6_1
       try clear hcz74_0
       try clear hcz74_1
       try clear hcz82_0
       try clear hcz82_1
       try clear hcz85_0
       try clear hcz85_1
       try clear hcz90_0
       try clear hcz90_1
       try clear hcz93_0
       try clear hcz93_1
       try clear hfz14_0
       try clear hfz14_1
       try clear hfz16_0
       try clear hfz16_1
       try clear hfz24_0
       try clear hfz24_1
       try clear hfz26_0
       try clear hfz26_1
       try clear hfz32_0
       try clear hfz32_1
       try clear hfz40_0
       try clear hfz40_1
       try clear hfz47_0
       try clear hfz47_1
       try clear hfz50_0
       try clear hfz50_1
       try clear hfz55_0
       try clear hfz55_1
       try clear hfz58_0
       try clear hfz58_1
       try clear hfz6_0
       try clear hfz6_1
       try clear hfz74_0
       try clear hfz74_1
       try clear hfz82_0
       try clear hfz82_1
       try clear hfz85_0
       try clear hfz85_1
       try clear hfz90_0
       try clear hfz90_1
       try clear hfz93_0
       try clear hfz93_1
       try clear p2
       obtain ⟨kq, x65_64, rfl, HA, HJ64, HO_474000, HO_474001, HO_481000, HO_481001, HO_489000, HO_489001, BK458, BK473, BK480, BK488, HB⟩ := hcut
       have hl481000_64 := (Kd.R_reads' HO_481000.out).1
       rw [hl481000_64] at HO_481000
       (try simp only [hl481000_64])
       (try simp only [hl481000_64] at BK458)
       (try simp only [hl481000_64] at BK473)
       (try simp only [hl481000_64] at BK480)
       (try simp only [hl481000_64] at BK488)
       (try simp only [hl481000_64] at HO_474000)
       (try simp only [hl481000_64] at HO_474001)
       (try simp only [hl481000_64] at HO_481001)
       (try simp only [hl481000_64] at HO_489000)
       (try simp only [hl481000_64] at HO_489001)
       have hl481001_64 := (Kd.R_reads' HO_481001.out).1
       rw [hl481001_64] at HO_481001
       (try simp only [hl481001_64])
       (try simp only [hl481001_64] at BK458)
       (try simp only [hl481001_64] at BK473)
       (try simp only [hl481001_64] at BK480)
       (try simp only [hl481001_64] at BK488)
       (try simp only [hl481001_64] at HO_474000)
       (try simp only [hl481001_64] at HO_474001)
       (try simp only [hl481001_64] at HO_481000)
       (try simp only [hl481001_64] at HO_489000)
       (try simp only [hl481001_64] at HO_489001)
       cases kq with
       | zero => exact absurd HA.out (by simp [lw.j1])
       | succ kj64 =>
        have H := HA.out
        clear HA
        simp only [lw.j1] at H
        by_cases c95 : x65_64 = true
        ·subst c95
         have H1 : (some false) = some r := by rw [if_pos rfl] at H; exact H
         clear H
         have H := H1
         clear H1
         obtain rfl := Option.some.inj H
         go_wp2
         go_ret
         exact ⟨by first | rfl | (simp [errW_none, errW_some] <;> rfl) | (simp [*, errW_none, errW_some] <;> rfl), by repeat (first | (with_reducible first | exact HB.out | apply below_alloc | apply pw_below_drewN | apply below_drew1 | refine below_set ?_ GE458.out | refine below_set ?_ GE473.out | refine below_set ?_ GE480.out | refine below_set ?_ GE488.out) | exact HB.out)⟩
        ·replace c95 := Bool.eq_false_iff.mpr c95
         subst c95
         have H1 : ((laws_markRotation.f kj64 t481 t484 1).bind fun bt501 => ((laws_heldRotation.f kj64 bt501.2.1 bt501.2.2 1).bind fun t504 => (if t504 < 0 then (some false) else (if t504 = bt501.1 then ((laws_toRotation.f kj64 l0_0 l0_1).bind fun bt505 => ((impl_TurnRotation.f kj64 bt505.1 bt505.2 a1).bind fun bt511 => ((laws_eqRotation.f kj64 bt511.1 bt511.2.1 t466 t469).bind fun t519 => (if t519 = true then (lw.j2 kj64 bt501.1 (bt511.2.2 != t472) bt501.2.1 bt501.2.2) else (lw.j2 kj64 bt501.1 true bt501.2.1 bt501.2.2))))) else (some false))))) = some r := by rw [if_neg (show ¬ (false = true) by decide)] at H; exact H
         clear H
         have H := H1
         clear H1
         replace H := Option.bind_eq_some_iff.mp H
         obtain ⟨⟨t501, t502, t503⟩, A960, H⟩ := H
         replace H : ((laws_heldRotation.f kj64 t502 t503 1).bind fun t504 => (if t504 < 0 then (some false) else (if t504 = t501 then ((laws_toRotation.f kj64 l0_0 l0_1).bind fun bt505 => ((impl_TurnRotation.f kj64 bt505.1 bt505.2 a1).bind fun bt511 => ((laws_eqRotation.f kj64 bt511.1 bt511.2.1 t466 t469).bind fun t519 => (if t519 = true then (lw.j2 kj64 t501 (bt511.2.2 != t472) t502 t503) else (lw.j2 kj64 t501 true t502 t503))))) else (some false)))) = some r := H
         have A96 := Aside0.mk A960
         clear A960
         replace H := Option.bind_eq_some_iff.mp H
         obtain ⟨t504, A970, H⟩ := H
         replace H : (if t504 < 0 then (some false) else (if t504 = t501 then ((laws_toRotation.f kj64 l0_0 l0_1).bind fun bt505 => ((impl_TurnRotation.f kj64 bt505.1 bt505.2 a1).bind fun bt511 => ((laws_eqRotation.f kj64 bt511.1 bt511.2.1 t466 t469).bind fun t519 => (if t519 = true then (lw.j2 kj64 t501 (bt511.2.2 != t472) t502 t503) else (lw.j2 kj64 t501 true t502 t503))))) else (some false))) = some r := H
         have A97 := Aside0.mk A970
         clear A970
         by_cases c98 : t504 < 0
         ·rw [if_pos c98] at H
          have c98b0 : decide (t504 < 0) = true := decide_eq_true c98
          clear c98
          obtain rfl := Option.some.inj H
          have hnb99 := NB488_458.out
          have hnc99 := NB458_488.out
          have hnb100 := NB488_473.out
          have hnc100 := NB473_488.out
          have hnb101 := NB488_480.out
          have hnc101 := NB480_488.out
          have hcz102_0 : wc.cell? ⟨gb488, 0, none⟩ = some (.slice Ao36 t481.length co36) := (blk_cell BK488.out 0).trans rfl
          have hcz102_1 : wc.cell? ⟨gb488, 1, none⟩ = some (.slice Ao41 t484.length co41) := (blk_cell BK488.out 1).trans rfl
          have hfz102_0 := blk_frozen BK488.out 0
          have hfz102_1 := blk_frozen BK488.out 1
          go_wp2_with (first | ((with_reducible refine gate_callee (f := 31) rfl ?_); refine goesL_ (some 68) rfl rfl Try.func31 (by kernel_rfl) rfl #[.agg #[.slice Ao36 t481.length co36, .slice Ao41 t484.length co41], .int .i64 1] rfl (by (try simp only [List.map_toArray, List.map_cons, List.map_nil]); first | done | rfl | (simp only [List.length_drop, List.length_take]; rfl)) ?_; (with_reducible refine (laws_markRotation.calls kj64 (fun k_ => some k_ = (.slice Ao36 t481.length co36 : Value).ownBlock) (.slice Ao36 t481.length co36) t481 (fun k_ => some k_ = (.slice Ao41 t484.length co41 : Value).ownBlock) (.slice Ao41 t484.length co41) t484 1 t501 t502 t503 w _ ?side1 ?side2 ?side3 ?side4 ?side5 A96.out).mono ?_); (case side1 => repeat (first | (with_reducible first | exact HB.out | apply below_alloc | apply pw_below_drewN | apply below_drew1 | refine below_set ?_ GE458.out | refine below_set ?_ GE473.out | refine below_set ?_ GE480.out | refine below_set ?_ GE488.out) | exact HB.out)); (case side2 => exact Kd.R_tight rfl HO_489000.out); (case side3 => exact fun k_ e_ => (HO_489000.out.1 k_ e_.symm).2.2.2.2); (case side4 => exact Kd.R_tight rfl HO_489001.out); (case side5 => exact fun k_ e_ => (HO_489001.out.1 k_ e_.symm).2.2.2.2); rintro e w103 ⟨rfl, hy0, hy1, hb, hkp⟩; refine ⟨_, rfl, ?_⟩; have n0_ := Aside0.mk (Kd.R_mono (ok' := fun k_ => some k_ ≠ (.slice Ao25 t469.length co25 : Value).ownBlock ∧ some k_ ≠ (.slice Ao29 t498.length co29 : Value).ownBlock ∧ some k_ ≠ (.slice Ao33 t499.length co33 : Value).ownBlock ∧ some k_ ≠ (.slice Ao36 t481.length co36 : Value).ownBlock ∧ some k_ ≠ (.slice Ao41 t484.length co41 : Value).ownBlock) (Kd.R_keptB (HO_474000.out) hkp (fun k_ hk_ hs_ => Or.elim hs_ (fun e_ => (hk_.2.2.2.1) e_) (fun e_ => (hk_.2.2.2.2) e_))) (fun k_ hk_ => ⟨hk_.1.1, hk_.1.2.1, hk_.1.2.2.1, hk_.1.2.2.2.1, hk_.1.2.2.2.2⟩)); have n1_ := Aside0.mk (Kd.R_mono (ok' := fun k_ => some k_ ≠ (.slice Ao22 t466.length co22 : Value).ownBlock ∧ some k_ ≠ (.slice Ao29 t498.length co29 : Value).ownBlock ∧ some k_ ≠ (.slice Ao33 t499.length co33 : Value).ownBlock ∧ some k_ ≠ (.slice Ao36 t481.length co36 : Value).ownBlock ∧ some k_ ≠ (.slice Ao41 t484.length co41 : Value).ownBlock) (Kd.R_keptB (HO_474001.out) hkp (fun k_ hk_ hs_ => Or.elim hs_ (fun e_ => (hk_.2.2.2.1) e_) (fun e_ => (hk_.2.2.2.2) e_))) (fun k_ hk_ => ⟨hk_.1.1, hk_.1.2.1, hk_.1.2.2.1, hk_.1.2.2.2.1, hk_.1.2.2.2.2⟩)); have n2_ := Aside0.mk (Kd.R_mono (ok' := fun k_ => some k_ ≠ (.slice Ao22 t466.length co22 : Value).ownBlock ∧ some k_ ≠ (.slice Ao25 t469.length co25 : Value).ownBlock ∧ some k_ ≠ (.slice Ao33 t499.length co33 : Value).ownBlock ∧ some k_ ≠ (.slice Ao36 t481.length co36 : Value).ownBlock ∧ some k_ ≠ (.slice Ao41 t484.length co41 : Value).ownBlock) (Kd.R_keptB (HO_481000.out) hkp (fun k_ hk_ hs_ => Or.elim hs_ (fun e_ => (hk_.2.2.2.1) e_) (fun e_ => (hk_.2.2.2.2) e_))) (fun k_ hk_ => ⟨hk_.1.1, hk_.1.2.1, hk_.1.2.2.1, hk_.1.2.2.2.1, hk_.1.2.2.2.2⟩)); have n3_ := Aside0.mk (Kd.R_mono (ok' := fun k_ => some k_ ≠ (.slice Ao22 t466.length co22 : Value).ownBlock ∧ some k_ ≠ (.slice Ao25 t469.length co25 : Value).ownBlock ∧ some k_ ≠ (.slice Ao29 t498.length co29 : Value).ownBlock ∧ some k_ ≠ (.slice Ao36 t481.length co36 : Value).ownBlock ∧ some k_ ≠ (.slice Ao41 t484.length co41 : Value).ownBlock) (Kd.R_keptB (HO_481001.out) hkp (fun k_ hk_ hs_ => Or.elim hs_ (fun e_ => (hk_.2.2.2.1) e_) (fun e_ => (hk_.2.2.2.2) e_))) (fun k_ hk_ => ⟨hk_.1.1, hk_.1.2.1, hk_.1.2.2.1, hk_.1.2.2.2.1, hk_.1.2.2.2.2⟩)); have n4_ := Aside0.mk (Kd.R_reok rfl hy0 (fun k_ e_ => HO_489000.out.1 k_ e_)); have n5_ := Aside0.mk (Kd.R_reok rfl hy1 (fun k_ e_ => HO_489001.out.1 k_ e_)); have n6_ := Aside0.mk (blk_kept (by (with_reducible repeat (first | refine blk_drewN ?_ _ | refine blk_drew ?_ | refine blk_alloc ?_ _)); exact BK458.out) hkp (fun hs_ => Or.elim hs_ (fun e_ => (fun e_ => (Kd.R_ne HO_489000.out BK458.out (by decide)) e_) e_) (fun e_ => (fun e_ => (Kd.R_ne HO_489001.out BK458.out (by decide)) e_) e_))); have n7_ := Aside0.mk (blk_kept (by (with_reducible repeat (first | refine blk_drewN ?_ _ | refine blk_drew ?_ | refine blk_alloc ?_ _)); exact BK473.out) hkp (fun hs_ => Or.elim hs_ (fun e_ => (fun e_ => (Kd.R_ne HO_489000.out BK473.out (by decide)) e_) e_) (fun e_ => (fun e_ => (Kd.R_ne HO_489001.out BK473.out (by decide)) e_) e_))); have n8_ := Aside0.mk (blk_kept (by (with_reducible repeat (first | refine blk_drewN ?_ _ | refine blk_drew ?_ | refine blk_alloc ?_ _)); exact BK480.out) hkp (fun hs_ => Or.elim hs_ (fun e_ => (fun e_ => (Kd.R_ne HO_489000.out BK480.out (by decide)) e_) e_) (fun e_ => (fun e_ => (Kd.R_ne HO_489001.out BK480.out (by decide)) e_) e_))); have n9_ := Aside0.mk (blk_kept (by (with_reducible repeat (first | refine blk_drewN ?_ _ | refine blk_drew ?_ | refine blk_alloc ?_ _)); exact BK488.out) hkp (fun hs_ => Or.elim hs_ (fun e_ => (fun e_ => (Kd.R_ne HO_489000.out BK488.out (by decide)) e_) e_) (fun e_ => (fun e_ => (Kd.R_ne HO_489001.out BK488.out (by decide)) e_) e_))); have n10_ := Aside0.mk (hb); clear HO_474000; clear HO_474001; clear HO_481000; clear HO_481001; clear HO_489000; clear HO_489001; clear BK458; clear BK473; clear BK480; clear BK488; clear HB; have HO_474000 := n0_; have HO_474001 := n1_; have HO_481000 := n2_; have HO_481001 := n3_; have HO_489000 := n4_; have HO_489001 := n5_; have BK458 := n6_; have BK473 := n7_; have BK480 := n8_; have BK488 := n9_; have HB := n10_; clear n0_ n1_ n2_ n3_ n4_ n5_ n6_ n7_ n8_ n9_ n10_; (try clear hb); (try clear hkp); (try clear hy0); (try clear hy1); have hcz104_0 : w103.cell? ⟨gb488, 0, none⟩ = some (.slice Ao36 t481.length co36) := (blk_cell BK488.out 0).trans rfl; have hcz104_1 : w103.cell? ⟨gb488, 1, none⟩ = some (.slice Ao41 t484.length co41) := (blk_cell BK488.out 1).trans rfl; have hfz104_0 := blk_frozen BK488.out 0; have hfz104_1 := blk_frozen BK488.out 1) | ((with_reducible refine gate_callee (f := 32) rfl ?_); refine goesL_ (some 71) rfl rfl Try.func32 (by kernel_rfl) rfl #[.agg #[.slice Ao36 t502.length co36, .slice Ao41 t503.length co41], .int .i64 1] rfl (by (try simp only [List.map_toArray, List.map_cons, List.map_nil]); first | done | (rw [show t502.length = t481.length from (Kd.R_reads' HO_489000.out).1.symm, show t503.length = t484.length from (Kd.R_reads' HO_489001.out).1.symm] <;> rfl) | rfl | (simp only [List.length_drop, List.length_take]; rfl)) ?_; (with_reducible refine (laws_heldRotation.calls kj64 _ _ t502 _ _ t503 1 t504 _ ?side1 ?side2 ?side3 ?side4 A97.out).mono ?_); (case side1 => repeat (first | exact (Kd.R_reads' HO_489000.out).2.2 | (with_reducible refine Kd.C_alloc ?_ _) | (with_reducible refine Kd.C_drewN ?_ _) | (with_reducible refine Kd.C_drew ?_))); (case side2 => rw [show t502.length = t481.length from (Kd.R_reads' HO_489000.out).1.symm]; exact (Kd.R_reads' HO_489000.out).2.1); (case side3 => repeat (first | exact (Kd.R_reads' HO_489001.out).2.2 | (with_reducible refine Kd.C_alloc ?_ _) | (with_reducible refine Kd.C_drewN ?_ _) | (with_reducible refine Kd.C_drew ?_))); (case side4 => rw [show t503.length = t484.length from (Kd.R_reads' HO_489001.out).1.symm]; exact (Kd.R_reads' HO_489001.out).2.1); rintro e w105 ⟨rfl, hb⟩; refine ⟨_, rfl, ?_⟩; have n0_ := Aside0.mk (Kd.R_below (by (with_reducible repeat (first | apply Kd.R_alloc | apply Kd.R_drewN | apply Kd.R_drew)); exact HO_474000.out) hb); have n1_ := Aside0.mk (Kd.R_below (by (with_reducible repeat (first | apply Kd.R_alloc | apply Kd.R_drewN | apply Kd.R_drew)); exact HO_474001.out) hb); have n2_ := Aside0.mk (Kd.R_below (by (with_reducible repeat (first | apply Kd.R_alloc | apply Kd.R_drewN | apply Kd.R_drew)); exact HO_481000.out) hb); have n3_ := Aside0.mk (Kd.R_below (by (with_reducible repeat (first | apply Kd.R_alloc | apply Kd.R_drewN | apply Kd.R_drew)); exact HO_481001.out) hb); have n4_ := Aside0.mk (Kd.R_below (by (with_reducible repeat (first | apply Kd.R_alloc | apply Kd.R_drewN | apply Kd.R_drew)); exact HO_489000.out) hb); have n5_ := Aside0.mk (Kd.R_below (by (with_reducible repeat (first | apply Kd.R_alloc | apply Kd.R_drewN | apply Kd.R_drew)); exact HO_489001.out) hb); have n6_ := Aside0.mk (blk_below (g := gb458) (o := .cells #[.slice A0_0 l0_0.length c0_0, .slice A0_1 l0_1.length c0_1] 24 (0, 0)) (by (with_reducible repeat (first | refine blk_drewN ?_ _ | refine blk_drew ?_ | refine blk_alloc ?_ _)); exact BK458.out) hb); have n7_ := Aside0.mk (blk_below (g := gb473) (o := .cells #[.slice Ao22 t466.length co22, .slice Ao25 t469.length co25] 27 (0, 0)) (by (with_reducible repeat (first | refine blk_drewN ?_ _ | refine blk_drew ?_ | refine blk_alloc ?_ _)); exact BK473.out) hb); have n8_ := Aside0.mk (blk_below (g := gb480) (o := .cells #[.slice Ao29 t498.length co29, .slice Ao33 t499.length co33] 27 (0, 0)) (by (with_reducible repeat (first | refine blk_drewN ?_ _ | refine blk_drew ?_ | refine blk_alloc ?_ _)); exact BK480.out) hb); have n9_ := Aside0.mk (blk_below (g := gb488) (o := .cells #[.slice Ao36 t481.length co36, .slice Ao41 t484.length co41] 27 (0, 0)) (by (with_reducible repeat (first | refine blk_drewN ?_ _ | refine blk_drew ?_ | refine blk_alloc ?_ _)); exact BK488.out) hb); have n10_ := Aside0.mk (below_step (by repeat (first | (with_reducible first | exact HB.out | apply below_alloc | apply pw_below_drewN | apply below_drew1 | refine below_set ?_ GE458.out | refine below_set ?_ GE473.out | refine below_set ?_ GE480.out | refine below_set ?_ GE488.out) | exact HB.out)) hb); clear HO_474000; clear HO_474001; clear HO_481000; clear HO_481001; clear HO_489000; clear HO_489001; clear BK458; clear BK473; clear BK480; clear BK488; clear HB; have HO_474000 := n0_; have HO_474001 := n1_; have HO_481000 := n2_; have HO_481001 := n3_; have HO_489000 := n4_; have HO_489001 := n5_; have BK458 := n6_; have BK473 := n7_; have BK480 := n8_; have BK488 := n9_; have HB := n10_; clear n0_ n1_ n2_ n3_ n4_ n5_ n6_ n7_ n8_ n9_ n10_; (try clear hb); (try clear hb2); (try clear hk); (try clear hi)))
          go_ret
          exact ⟨by first | rfl | (simp [errW_none, errW_some] <;> rfl) | (simp [*, errW_none, errW_some] <;> rfl), by repeat (first | (with_reducible first | exact HB.out | apply below_alloc | apply pw_below_drewN | apply below_drew1 | refine below_set ?_ GE458.out | refine below_set ?_ GE473.out | refine below_set ?_ GE480.out | refine below_set ?_ GE488.out) | exact HB.out)⟩
         ·rw [if_neg c98] at H
          have c98b0 : decide (t504 < 0) = false := decide_eq_false c98
          clear c98
          by_cases c106 : t504 = t501
          ·rw [if_pos c106] at H
           have c106b0 : (t504 == t501) = true := beq_iff_eq.mpr c106
           have c106b1 : (t504 != t501) = false := bne_eq_false_iff_eq.mpr c106
           clear c106
           replace H := Option.bind_eq_some_iff.mp H
           obtain ⟨⟨t505, t508⟩, A1070, H⟩ := H
           replace H : ((impl_TurnRotation.f kj64 t505 t508 a1).bind fun bt511 => ((laws_eqRotation.f kj64 bt511.1 bt511.2.1 t466 t469).bind fun t519 => (if t519 = true then (lw.j2 kj64 t501 (bt511.2.2 != t472) t502 t503) else (lw.j2 kj64 t501 true t502 t503)))) = some r := H
           have A107 := Aside0.mk A1070
           clear A1070
           replace H := Option.bind_eq_some_iff.mp H
           obtain ⟨⟨t511, t514, t517⟩, A1080, H⟩ := H
           replace H : ((laws_eqRotation.f kj64 t511 t514 t466 t469).bind fun t519 => (if t519 = true then (lw.j2 kj64 t501 (t517 != t472) t502 t503) else (lw.j2 kj64 t501 true t502 t503))) = some r := H
           have A108 := Aside0.mk A1080
           clear A1080
           have HC109 := Aside0.mk H
           clear H
           have hnb110 := NB488_458.out
           have hnc110 := NB458_488.out
           have hnb111 := NB488_473.out
           have hnc111 := NB473_488.out
           have hnb112 := NB488_480.out
           have hnc112 := NB480_488.out
           have hcz113_0 : wc.cell? ⟨gb488, 0, none⟩ = some (.slice Ao36 t481.length co36) := (blk_cell BK488.out 0).trans rfl
           have hcz113_1 : wc.cell? ⟨gb488, 1, none⟩ = some (.slice Ao41 t484.length co41) := (blk_cell BK488.out 1).trans rfl
           have hfz113_0 := blk_frozen BK488.out 0
           have hfz113_1 := blk_frozen BK488.out 1
           go_upto_region 25 with (first | ((with_reducible refine gate_callee (f := 31) rfl ?_); refine goesL_ (some 68) rfl rfl Try.func31 (by kernel_rfl) rfl #[.agg #[.slice Ao36 t481.length co36, .slice Ao41 t484.length co41], .int .i64 1] rfl (by (try simp only [List.map_toArray, List.map_cons, List.map_nil]); first | done | rfl | (simp only [List.length_drop, List.length_take]; rfl)) ?_; (with_reducible refine (laws_markRotation.calls kj64 (fun k_ => some k_ = (.slice Ao36 t481.length co36 : Value).ownBlock) (.slice Ao36 t481.length co36) t481 (fun k_ => some k_ = (.slice Ao41 t484.length co41 : Value).ownBlock) (.slice Ao41 t484.length co41) t484 1 t501 t502 t503 w _ ?side1 ?side2 ?side3 ?side4 ?side5 A96.out).mono ?_); (case side1 => repeat (first | (with_reducible first | exact HB.out | apply below_alloc | apply pw_below_drewN | apply below_drew1 | refine below_set ?_ GE458.out | refine below_set ?_ GE473.out | refine below_set ?_ GE480.out | refine below_set ?_ GE488.out) | exact HB.out)); (case side2 => exact Kd.R_tight rfl HO_489000.out); (case side3 => exact fun k_ e_ => (HO_489000.out.1 k_ e_.symm).2.2.2.2); (case side4 => exact Kd.R_tight rfl HO_489001.out); (case side5 => exact fun k_ e_ => (HO_489001.out.1 k_ e_.symm).2.2.2.2); rintro e w114 ⟨rfl, hy0, hy1, hb, hkp⟩; refine ⟨_, rfl, ?_⟩; have n0_ := Aside0.mk (Kd.R_mono (ok' := fun k_ => some k_ ≠ (.slice Ao25 t469.length co25 : Value).ownBlock ∧ some k_ ≠ (.slice Ao29 t498.length co29 : Value).ownBlock ∧ some k_ ≠ (.slice Ao33 t499.length co33 : Value).ownBlock ∧ some k_ ≠ (.slice Ao36 t481.length co36 : Value).ownBlock ∧ some k_ ≠ (.slice Ao41 t484.length co41 : Value).ownBlock) (Kd.R_keptB (HO_474000.out) hkp (fun k_ hk_ hs_ => Or.elim hs_ (fun e_ => (hk_.2.2.2.1) e_) (fun e_ => (hk_.2.2.2.2) e_))) (fun k_ hk_ => ⟨hk_.1.1, hk_.1.2.1, hk_.1.2.2.1, hk_.1.2.2.2.1, hk_.1.2.2.2.2⟩)); have n1_ := Aside0.mk (Kd.R_mono (ok' := fun k_ => some k_ ≠ (.slice Ao22 t466.length co22 : Value).ownBlock ∧ some k_ ≠ (.slice Ao29 t498.length co29 : Value).ownBlock ∧ some k_ ≠ (.slice Ao33 t499.length co33 : Value).ownBlock ∧ some k_ ≠ (.slice Ao36 t481.length co36 : Value).ownBlock ∧ some k_ ≠ (.slice Ao41 t484.length co41 : Value).ownBlock) (Kd.R_keptB (HO_474001.out) hkp (fun k_ hk_ hs_ => Or.elim hs_ (fun e_ => (hk_.2.2.2.1) e_) (fun e_ => (hk_.2.2.2.2) e_))) (fun k_ hk_ => ⟨hk_.1.1, hk_.1.2.1, hk_.1.2.2.1, hk_.1.2.2.2.1, hk_.1.2.2.2.2⟩)); have n2_ := Aside0.mk (Kd.R_mono (ok' := fun k_ => some k_ ≠ (.slice Ao22 t466.length co22 : Value).ownBlock ∧ some k_ ≠ (.slice Ao25 t469.length co25 : Value).ownBlock ∧ some k_ ≠ (.slice Ao33 t499.length co33 : Value).ownBlock ∧ some k_ ≠ (.slice Ao36 t481.length co36 : Value).ownBlock ∧ some k_ ≠ (.slice Ao41 t484.length co41 : Value).ownBlock) (Kd.R_keptB (HO_481000.out) hkp (fun k_ hk_ hs_ => Or.elim hs_ (fun e_ => (hk_.2.2.2.1) e_) (fun e_ => (hk_.2.2.2.2) e_))) (fun k_ hk_ => ⟨hk_.1.1, hk_.1.2.1, hk_.1.2.2.1, hk_.1.2.2.2.1, hk_.1.2.2.2.2⟩)); have n3_ := Aside0.mk (Kd.R_mono (ok' := fun k_ => some k_ ≠ (.slice Ao22 t466.length co22 : Value).ownBlock ∧ some k_ ≠ (.slice Ao25 t469.length co25 : Value).ownBlock ∧ some k_ ≠ (.slice Ao29 t498.length co29 : Value).ownBlock ∧ some k_ ≠ (.slice Ao36 t481.length co36 : Value).ownBlock ∧ some k_ ≠ (.slice Ao41 t484.length co41 : Value).ownBlock) (Kd.R_keptB (HO_481001.out) hkp (fun k_ hk_ hs_ => Or.elim hs_ (fun e_ => (hk_.2.2.2.1) e_) (fun e_ => (hk_.2.2.2.2) e_))) (fun k_ hk_ => ⟨hk_.1.1, hk_.1.2.1, hk_.1.2.2.1, hk_.1.2.2.2.1, hk_.1.2.2.2.2⟩)); have n4_ := Aside0.mk (Kd.R_reok rfl hy0 (fun k_ e_ => HO_489000.out.1 k_ e_)); have n5_ := Aside0.mk (Kd.R_reok rfl hy1 (fun k_ e_ => HO_489001.out.1 k_ e_)); have n6_ := Aside0.mk (blk_kept (by (with_reducible repeat (first | refine blk_drewN ?_ _ | refine blk_drew ?_ | refine blk_alloc ?_ _)); exact BK458.out) hkp (fun hs_ => Or.elim hs_ (fun e_ => (fun e_ => (Kd.R_ne HO_489000.out BK458.out (by decide)) e_) e_) (fun e_ => (fun e_ => (Kd.R_ne HO_489001.out BK458.out (by decide)) e_) e_))); have n7_ := Aside0.mk (blk_kept (by (with_reducible repeat (first | refine blk_drewN ?_ _ | refine blk_drew ?_ | refine blk_alloc ?_ _)); exact BK473.out) hkp (fun hs_ => Or.elim hs_ (fun e_ => (fun e_ => (Kd.R_ne HO_489000.out BK473.out (by decide)) e_) e_) (fun e_ => (fun e_ => (Kd.R_ne HO_489001.out BK473.out (by decide)) e_) e_))); have n8_ := Aside0.mk (blk_kept (by (with_reducible repeat (first | refine blk_drewN ?_ _ | refine blk_drew ?_ | refine blk_alloc ?_ _)); exact BK480.out) hkp (fun hs_ => Or.elim hs_ (fun e_ => (fun e_ => (Kd.R_ne HO_489000.out BK480.out (by decide)) e_) e_) (fun e_ => (fun e_ => (Kd.R_ne HO_489001.out BK480.out (by decide)) e_) e_))); have n9_ := Aside0.mk (blk_kept (by (with_reducible repeat (first | refine blk_drewN ?_ _ | refine blk_drew ?_ | refine blk_alloc ?_ _)); exact BK488.out) hkp (fun hs_ => Or.elim hs_ (fun e_ => (fun e_ => (Kd.R_ne HO_489000.out BK488.out (by decide)) e_) e_) (fun e_ => (fun e_ => (Kd.R_ne HO_489001.out BK488.out (by decide)) e_) e_))); have n10_ := Aside0.mk (hb); clear HO_474000; clear HO_474001; clear HO_481000; clear HO_481001; clear HO_489000; clear HO_489001; clear BK458; clear BK473; clear BK480; clear BK488; clear HB; have HO_474000 := n0_; have HO_474001 := n1_; have HO_481000 := n2_; have HO_481001 := n3_; have HO_489000 := n4_; have HO_489001 := n5_; have BK458 := n6_; have BK473 := n7_; have BK480 := n8_; have BK488 := n9_; have HB := n10_; clear n0_ n1_ n2_ n3_ n4_ n5_ n6_ n7_ n8_ n9_ n10_; (try clear hb); (try clear hkp); (try clear hy0); (try clear hy1); have hcz115_0 : w114.cell? ⟨gb488, 0, none⟩ = some (.slice Ao36 t481.length co36) := (blk_cell BK488.out 0).trans rfl; have hcz115_1 : w114.cell? ⟨gb488, 1, none⟩ = some (.slice Ao41 t484.length co41) := (blk_cell BK488.out 1).trans rfl; have hfz115_0 := blk_frozen BK488.out 0; have hfz115_1 := blk_frozen BK488.out 1) | ((with_reducible refine gate_callee (f := 32) rfl ?_); refine goesL_ (some 71) rfl rfl Try.func32 (by kernel_rfl) rfl #[.agg #[.slice Ao36 t502.length co36, .slice Ao41 t503.length co41], .int .i64 1] rfl (by (try simp only [List.map_toArray, List.map_cons, List.map_nil]); first | done | (rw [show t502.length = t481.length from (Kd.R_reads' HO_489000.out).1.symm, show t503.length = t484.length from (Kd.R_reads' HO_489001.out).1.symm] <;> rfl) | rfl | (simp only [List.length_drop, List.length_take]; rfl)) ?_; (with_reducible refine (laws_heldRotation.calls kj64 _ _ t502 _ _ t503 1 t504 _ ?side1 ?side2 ?side3 ?side4 A97.out).mono ?_); (case side1 => repeat (first | exact (Kd.R_reads' HO_489000.out).2.2 | (with_reducible refine Kd.C_alloc ?_ _) | (with_reducible refine Kd.C_drewN ?_ _) | (with_reducible refine Kd.C_drew ?_))); (case side2 => rw [show t502.length = t481.length from (Kd.R_reads' HO_489000.out).1.symm]; exact (Kd.R_reads' HO_489000.out).2.1); (case side3 => repeat (first | exact (Kd.R_reads' HO_489001.out).2.2 | (with_reducible refine Kd.C_alloc ?_ _) | (with_reducible refine Kd.C_drewN ?_ _) | (with_reducible refine Kd.C_drew ?_))); (case side4 => rw [show t503.length = t484.length from (Kd.R_reads' HO_489001.out).1.symm]; exact (Kd.R_reads' HO_489001.out).2.1); rintro e w116 ⟨rfl, hb⟩; refine ⟨_, rfl, ?_⟩; have n0_ := Aside0.mk (Kd.R_below (by (with_reducible repeat (first | apply Kd.R_alloc | apply Kd.R_drewN | apply Kd.R_drew)); exact HO_474000.out) hb); have n1_ := Aside0.mk (Kd.R_below (by (with_reducible repeat (first | apply Kd.R_alloc | apply Kd.R_drewN | apply Kd.R_drew)); exact HO_474001.out) hb); have n2_ := Aside0.mk (Kd.R_below (by (with_reducible repeat (first | apply Kd.R_alloc | apply Kd.R_drewN | apply Kd.R_drew)); exact HO_481000.out) hb); have n3_ := Aside0.mk (Kd.R_below (by (with_reducible repeat (first | apply Kd.R_alloc | apply Kd.R_drewN | apply Kd.R_drew)); exact HO_481001.out) hb); have n4_ := Aside0.mk (Kd.R_below (by (with_reducible repeat (first | apply Kd.R_alloc | apply Kd.R_drewN | apply Kd.R_drew)); exact HO_489000.out) hb); have n5_ := Aside0.mk (Kd.R_below (by (with_reducible repeat (first | apply Kd.R_alloc | apply Kd.R_drewN | apply Kd.R_drew)); exact HO_489001.out) hb); have n6_ := Aside0.mk (blk_below (g := gb458) (o := .cells #[.slice A0_0 l0_0.length c0_0, .slice A0_1 l0_1.length c0_1] 24 (0, 0)) (by (with_reducible repeat (first | refine blk_drewN ?_ _ | refine blk_drew ?_ | refine blk_alloc ?_ _)); exact BK458.out) hb); have n7_ := Aside0.mk (blk_below (g := gb473) (o := .cells #[.slice Ao22 t466.length co22, .slice Ao25 t469.length co25] 27 (0, 0)) (by (with_reducible repeat (first | refine blk_drewN ?_ _ | refine blk_drew ?_ | refine blk_alloc ?_ _)); exact BK473.out) hb); have n8_ := Aside0.mk (blk_below (g := gb480) (o := .cells #[.slice Ao29 t498.length co29, .slice Ao33 t499.length co33] 27 (0, 0)) (by (with_reducible repeat (first | refine blk_drewN ?_ _ | refine blk_drew ?_ | refine blk_alloc ?_ _)); exact BK480.out) hb); have n9_ := Aside0.mk (blk_below (g := gb488) (o := .cells #[.slice Ao36 t481.length co36, .slice Ao41 t484.length co41] 27 (0, 0)) (by (with_reducible repeat (first | refine blk_drewN ?_ _ | refine blk_drew ?_ | refine blk_alloc ?_ _)); exact BK488.out) hb); have n10_ := Aside0.mk (below_step (by repeat (first | (with_reducible first | exact HB.out | apply below_alloc | apply pw_below_drewN | apply below_drew1 | refine below_set ?_ GE458.out | refine below_set ?_ GE473.out | refine below_set ?_ GE480.out | refine below_set ?_ GE488.out) | exact HB.out)) hb); clear HO_474000; clear HO_474001; clear HO_481000; clear HO_481001; clear HO_489000; clear HO_489001; clear BK458; clear BK473; clear BK480; clear BK488; clear HB; have HO_474000 := n0_; have HO_474001 := n1_; have HO_481000 := n2_; have HO_481001 := n3_; have HO_489000 := n4_; have HO_489001 := n5_; have BK458 := n6_; have BK473 := n7_; have BK480 := n8_; have BK488 := n9_; have HB := n10_; clear n0_ n1_ n2_ n3_ n4_ n5_ n6_ n7_ n8_ n9_ n10_; (try clear hb); (try clear hb2); (try clear hk); (try clear hi); have hnb117 := NB458_473.out; have hnc117 := NB473_458.out; have hnb118 := NB458_480.out; have hnc118 := NB480_458.out; have hcz119_0 : w116.cell? ⟨gb458, 0, none⟩ = some (.slice A0_0 l0_0.length c0_0) := (blk_cell BK458.out 0).trans rfl; have hcz119_1 : w116.cell? ⟨gb458, 1, none⟩ = some (.slice A0_1 l0_1.length c0_1) := (blk_cell BK458.out 1).trans rfl; have hfz119_0 := blk_frozen BK458.out 0; have hfz119_1 := blk_frozen BK458.out 1) | ((with_reducible refine gate_callee (f := 16) rfl ?_); refine goesL_ (some 79) rfl rfl Try.func16 (by kernel_rfl) rfl #[.agg #[.slice A0_0 l0_0.length c0_0, .slice A0_1 l0_1.length c0_1]] rfl (by (try simp only [List.map_toArray, List.map_cons, List.map_nil]); first | done | rfl | (simp only [List.length_drop, List.length_take]; rfl)) ?_; (with_reducible refine (laws_toRotation.calls kj64 _ _ l0_0 _ _ l0_1 t505 t508 _ ?side1 ?side2 ?side3 ?side4 A107.out).mono ?_); (case side1 => repeat (first | exact (Kd.C_below HR0_0.out HB.out) | (with_reducible refine Kd.C_alloc ?_ _) | (with_reducible refine Kd.C_drewN ?_ _) | (with_reducible refine Kd.C_drew ?_))); (case side2 => exact HC0_0.out); (case side3 => repeat (first | exact (Kd.C_below HR0_1.out HB.out) | (with_reducible refine Kd.C_alloc ?_ _) | (with_reducible refine Kd.C_drewN ?_ _) | (with_reducible refine Kd.C_drew ?_))); (case side4 => exact HC0_1.out); rintro e w120 ⟨v506, v509, rfl, ho0, ho1, hb⟩; refine ⟨_, rfl, ?_⟩; have n0_ := Aside0.mk (Kd.R_mono (Kd.R_told (Kd.R_told (Kd.R_old (by (with_reducible repeat (first | apply Kd.R_alloc | apply Kd.R_drewN | apply Kd.R_drew)); exact HO_474000.out) hb) (Kd.R_base ho0)) (Kd.R_base ho1)) (fun _ h_ => h_.1)); have n1_ := Aside0.mk (Kd.R_mono (Kd.R_told (Kd.R_told (Kd.R_old (by (with_reducible repeat (first | apply Kd.R_alloc | apply Kd.R_drewN | apply Kd.R_drew)); exact HO_474001.out) hb) (Kd.R_base ho0)) (Kd.R_base ho1)) (fun _ h_ => h_.1)); have n2_ := Aside0.mk (Kd.R_mono (Kd.R_told (Kd.R_told (Kd.R_old (by (with_reducible repeat (first | apply Kd.R_alloc | apply Kd.R_drewN | apply Kd.R_drew)); exact HO_481000.out) hb) (Kd.R_base ho0)) (Kd.R_base ho1)) (fun _ h_ => h_.1)); have n3_ := Aside0.mk (Kd.R_mono (Kd.R_told (Kd.R_told (Kd.R_old (by (with_reducible repeat (first | apply Kd.R_alloc | apply Kd.R_drewN | apply Kd.R_drew)); exact HO_481001.out) hb) (Kd.R_base ho0)) (Kd.R_base ho1)) (fun _ h_ => h_.1)); have n4_ := Aside0.mk (Kd.R_mono (Kd.R_told (Kd.R_told (Kd.R_old (by (with_reducible repeat (first | apply Kd.R_alloc | apply Kd.R_drewN | apply Kd.R_drew)); exact HO_489000.out) hb) (Kd.R_base ho0)) (Kd.R_base ho1)) (fun _ h_ => h_.1)); have n5_ := Aside0.mk (Kd.R_mono (Kd.R_told (Kd.R_told (Kd.R_old (by (with_reducible repeat (first | apply Kd.R_alloc | apply Kd.R_drewN | apply Kd.R_drew)); exact HO_489001.out) hb) (Kd.R_base ho0)) (Kd.R_base ho1)) (fun _ h_ => h_.1)); have n6_ := Aside0.mk (Kd.R_lower (Kd.R_new' (Kd.R_new' (Kd.R_new' (Kd.R_new' (Kd.R_new' (Kd.R_new' ho0 (Kd.R_lt (by (with_reducible repeat (first | apply Kd.R_alloc | apply Kd.R_drewN | apply Kd.R_drew)); exact HO_474000.out))) (Kd.R_lt (by (with_reducible repeat (first | apply Kd.R_alloc | apply Kd.R_drewN | apply Kd.R_drew)); exact HO_474001.out))) (Kd.R_lt (by (with_reducible repeat (first | apply Kd.R_alloc | apply Kd.R_drewN | apply Kd.R_drew)); exact HO_481000.out))) (Kd.R_lt (by (with_reducible repeat (first | apply Kd.R_alloc | apply Kd.R_drewN | apply Kd.R_drew)); exact HO_481001.out))) (Kd.R_lt (by (with_reducible repeat (first | apply Kd.R_alloc | apply Kd.R_drewN | apply Kd.R_drew)); exact HO_489000.out))) (Kd.R_lt (by (with_reducible repeat (first | apply Kd.R_alloc | apply Kd.R_drewN | apply Kd.R_drew)); exact HO_489001.out))) (below_size (by repeat (first | (with_reducible first | exact HB.out | apply below_alloc | apply pw_below_drewN | apply below_drew1 | refine below_set ?_ GE458.out | refine below_set ?_ GE473.out | refine below_set ?_ GE480.out | refine below_set ?_ GE488.out) | exact HB.out)))); have n7_ := Aside0.mk (Kd.R_lower (Kd.R_new' (Kd.R_new' (Kd.R_new' (Kd.R_new' (Kd.R_new' (Kd.R_new' ho1 (Kd.R_lt (by (with_reducible repeat (first | apply Kd.R_alloc | apply Kd.R_drewN | apply Kd.R_drew)); exact HO_474000.out))) (Kd.R_lt (by (with_reducible repeat (first | apply Kd.R_alloc | apply Kd.R_drewN | apply Kd.R_drew)); exact HO_474001.out))) (Kd.R_lt (by (with_reducible repeat (first | apply Kd.R_alloc | apply Kd.R_drewN | apply Kd.R_drew)); exact HO_481000.out))) (Kd.R_lt (by (with_reducible repeat (first | apply Kd.R_alloc | apply Kd.R_drewN | apply Kd.R_drew)); exact HO_481001.out))) (Kd.R_lt (by (with_reducible repeat (first | apply Kd.R_alloc | apply Kd.R_drewN | apply Kd.R_drew)); exact HO_489000.out))) (Kd.R_lt (by (with_reducible repeat (first | apply Kd.R_alloc | apply Kd.R_drewN | apply Kd.R_drew)); exact HO_489001.out))) (below_size (by repeat (first | (with_reducible first | exact HB.out | apply below_alloc | apply pw_below_drewN | apply below_drew1 | refine below_set ?_ GE458.out | refine below_set ?_ GE473.out | refine below_set ?_ GE480.out | refine below_set ?_ GE488.out) | exact HB.out)))); have n8_ := Aside0.mk (blk_below (g := gb458) (o := .cells #[.slice A0_0 l0_0.length c0_0, .slice A0_1 l0_1.length c0_1] 24 (0, 0)) (by (with_reducible repeat (first | refine blk_drewN ?_ _ | refine blk_drew ?_ | refine blk_alloc ?_ _)); exact BK458.out) hb); have n9_ := Aside0.mk (blk_below (g := gb473) (o := .cells #[.slice Ao22 t466.length co22, .slice Ao25 t469.length co25] 27 (0, 0)) (by (with_reducible repeat (first | refine blk_drewN ?_ _ | refine blk_drew ?_ | refine blk_alloc ?_ _)); exact BK473.out) hb); have n10_ := Aside0.mk (blk_below (g := gb480) (o := .cells #[.slice Ao29 t498.length co29, .slice Ao33 t499.length co33] 27 (0, 0)) (by (with_reducible repeat (first | refine blk_drewN ?_ _ | refine blk_drew ?_ | refine blk_alloc ?_ _)); exact BK480.out) hb); have n11_ := Aside0.mk (blk_below (g := gb488) (o := .cells #[.slice Ao36 t481.length co36, .slice Ao41 t484.length co41] 27 (0, 0)) (by (with_reducible repeat (first | refine blk_drewN ?_ _ | refine blk_drew ?_ | refine blk_alloc ?_ _)); exact BK488.out) hb); have n12_ := Aside0.mk (below_step (by repeat (first | (with_reducible first | exact HB.out | apply below_alloc | apply pw_below_drewN | apply below_drew1 | refine below_set ?_ GE458.out | refine below_set ?_ GE473.out | refine below_set ?_ GE480.out | refine below_set ?_ GE488.out) | exact HB.out)) hb); clear HO_474000; clear HO_474001; clear HO_481000; clear HO_481001; clear HO_489000; clear HO_489001; clear BK458; clear BK473; clear BK480; clear BK488; clear HB; have HO_474000 := n0_; have HO_474001 := n1_; have HO_481000 := n2_; have HO_481001 := n3_; have HO_489000 := n4_; have HO_489001 := n5_; have HO507 := n6_; have HO510 := n7_; have BK458 := n8_; have BK473 := n9_; have BK480 := n10_; have BK488 := n11_; have HB := n12_; clear n0_ n1_ n2_ n3_ n4_ n5_ n6_ n7_ n8_ n9_ n10_ n11_ n12_; (try clear hb); (try clear hb2); (try clear hk); (try clear hi); (try clear ho0); (try clear ho1); obtain ⟨Ao121, co121, eo121⟩ := Kd.R_slice HO507.out; subst eo121; obtain ⟨Ao122, co122, eo122⟩ := Kd.R_slice HO510.out; subst eo122) | ((with_reducible refine gate_callee (f := 30) rfl ?_); refine goesL_ (some 81) rfl rfl Try.func30 (by kernel_rfl) rfl #[.agg #[.slice Ao121 t505.length co121, .slice Ao122 t508.length co122], .int .i64 a1] rfl (by (try simp only [List.map_toArray, List.map_cons, List.map_nil]); first | done | rfl | (simp only [List.length_drop, List.length_take]; rfl)) ?_; (with_reducible refine (impl_TurnRotation.calls kj64 _ _ t505 _ _ t508 a1 t511 t514 t517 _ ?side1 ?side2 ?side3 ?side4 A108.out).mono ?_); (case side1 => repeat (first | exact (Kd.R_reads' HO507.out).2.2 | (with_reducible refine Kd.C_alloc ?_ _) | (with_reducible refine Kd.C_drewN ?_ _) | (with_reducible refine Kd.C_drew ?_))); (case side2 => exact (Kd.R_reads' HO507.out).2.1); (case side3 => repeat (first | exact (Kd.R_reads' HO510.out).2.2 | (with_reducible refine Kd.C_alloc ?_ _) | (with_reducible refine Kd.C_drewN ?_ _) | (with_reducible refine Kd.C_drew ?_))); (case side4 => exact (Kd.R_reads' HO510.out).2.1); rintro e w123 ⟨v512, v515, rfl, ho0, ho1, hb⟩; refine ⟨_, rfl, ?_⟩; have n0_ := Aside0.mk (Kd.R_mono (Kd.R_told (Kd.R_told (Kd.R_old (by (with_reducible repeat (first | apply Kd.R_alloc | apply Kd.R_drewN | apply Kd.R_drew)); exact HO_474000.out) hb) (Kd.R_base ho0)) (Kd.R_base ho1)) (fun _ h_ => h_.1)); have n1_ := Aside0.mk (Kd.R_mono (Kd.R_told (Kd.R_told (Kd.R_old (by (with_reducible repeat (first | apply Kd.R_alloc | apply Kd.R_drewN | apply Kd.R_drew)); exact HO_474001.out) hb) (Kd.R_base ho0)) (Kd.R_base ho1)) (fun _ h_ => h_.1)); have n2_ := Aside0.mk (Kd.R_mono (Kd.R_told (Kd.R_told (Kd.R_old (by (with_reducible repeat (first | apply Kd.R_alloc | apply Kd.R_drewN | apply Kd.R_drew)); exact HO_481000.out) hb) (Kd.R_base ho0)) (Kd.R_base ho1)) (fun _ h_ => h_.1)); have n3_ := Aside0.mk (Kd.R_mono (Kd.R_told (Kd.R_told (Kd.R_old (by (with_reducible repeat (first | apply Kd.R_alloc | apply Kd.R_drewN | apply Kd.R_drew)); exact HO_481001.out) hb) (Kd.R_base ho0)) (Kd.R_base ho1)) (fun _ h_ => h_.1)); have n4_ := Aside0.mk (Kd.R_mono (Kd.R_told (Kd.R_told (Kd.R_old (by (with_reducible repeat (first | apply Kd.R_alloc | apply Kd.R_drewN | apply Kd.R_drew)); exact HO_489000.out) hb) (Kd.R_base ho0)) (Kd.R_base ho1)) (fun _ h_ => h_.1)); have n5_ := Aside0.mk (Kd.R_mono (Kd.R_told (Kd.R_told (Kd.R_old (by (with_reducible repeat (first | apply Kd.R_alloc | apply Kd.R_drewN | apply Kd.R_drew)); exact HO_489001.out) hb) (Kd.R_base ho0)) (Kd.R_base ho1)) (fun _ h_ => h_.1)); have n6_ := Aside0.mk (Kd.R_mono (Kd.R_told (Kd.R_told (Kd.R_old (by (with_reducible repeat (first | apply Kd.R_alloc | apply Kd.R_drewN | apply Kd.R_drew)); exact HO507.out) hb) (Kd.R_base ho0)) (Kd.R_base ho1)) (fun _ h_ => h_.1)); have n7_ := Aside0.mk (Kd.R_mono (Kd.R_told (Kd.R_told (Kd.R_old (by (with_reducible repeat (first | apply Kd.R_alloc | apply Kd.R_drewN | apply Kd.R_drew)); exact HO510.out) hb) (Kd.R_base ho0)) (Kd.R_base ho1)) (fun _ h_ => h_.1)); have n8_ := Aside0.mk (Kd.R_lower (Kd.R_new' (Kd.R_new' (Kd.R_new' (Kd.R_new' (Kd.R_new' (Kd.R_new' (Kd.R_new' (Kd.R_new' ho0 (Kd.R_lt (by (with_reducible repeat (first | apply Kd.R_alloc | apply Kd.R_drewN | apply Kd.R_drew)); exact HO_474000.out))) (Kd.R_lt (by (with_reducible repeat (first | apply Kd.R_alloc | apply Kd.R_drewN | apply Kd.R_drew)); exact HO_474001.out))) (Kd.R_lt (by (with_reducible repeat (first | apply Kd.R_alloc | apply Kd.R_drewN | apply Kd.R_drew)); exact HO_481000.out))) (Kd.R_lt (by (with_reducible repeat (first | apply Kd.R_alloc | apply Kd.R_drewN | apply Kd.R_drew)); exact HO_481001.out))) (Kd.R_lt (by (with_reducible repeat (first | apply Kd.R_alloc | apply Kd.R_drewN | apply Kd.R_drew)); exact HO_489000.out))) (Kd.R_lt (by (with_reducible repeat (first | apply Kd.R_alloc | apply Kd.R_drewN | apply Kd.R_drew)); exact HO_489001.out))) (Kd.R_lt (by (with_reducible repeat (first | apply Kd.R_alloc | apply Kd.R_drewN | apply Kd.R_drew)); exact HO507.out))) (Kd.R_lt (by (with_reducible repeat (first | apply Kd.R_alloc | apply Kd.R_drewN | apply Kd.R_drew)); exact HO510.out))) (below_size (by repeat (first | (with_reducible first | exact HB.out | apply below_alloc | apply pw_below_drewN | apply below_drew1 | refine below_set ?_ GE458.out | refine below_set ?_ GE473.out | refine below_set ?_ GE480.out | refine below_set ?_ GE488.out) | exact HB.out)))); have n9_ := Aside0.mk (Kd.R_lower (Kd.R_new' (Kd.R_new' (Kd.R_new' (Kd.R_new' (Kd.R_new' (Kd.R_new' (Kd.R_new' (Kd.R_new' ho1 (Kd.R_lt (by (with_reducible repeat (first | apply Kd.R_alloc | apply Kd.R_drewN | apply Kd.R_drew)); exact HO_474000.out))) (Kd.R_lt (by (with_reducible repeat (first | apply Kd.R_alloc | apply Kd.R_drewN | apply Kd.R_drew)); exact HO_474001.out))) (Kd.R_lt (by (with_reducible repeat (first | apply Kd.R_alloc | apply Kd.R_drewN | apply Kd.R_drew)); exact HO_481000.out))) (Kd.R_lt (by (with_reducible repeat (first | apply Kd.R_alloc | apply Kd.R_drewN | apply Kd.R_drew)); exact HO_481001.out))) (Kd.R_lt (by (with_reducible repeat (first | apply Kd.R_alloc | apply Kd.R_drewN | apply Kd.R_drew)); exact HO_489000.out))) (Kd.R_lt (by (with_reducible repeat (first | apply Kd.R_alloc | apply Kd.R_drewN | apply Kd.R_drew)); exact HO_489001.out))) (Kd.R_lt (by (with_reducible repeat (first | apply Kd.R_alloc | apply Kd.R_drewN | apply Kd.R_drew)); exact HO507.out))) (Kd.R_lt (by (with_reducible repeat (first | apply Kd.R_alloc | apply Kd.R_drewN | apply Kd.R_drew)); exact HO510.out))) (below_size (by repeat (first | (with_reducible first | exact HB.out | apply below_alloc | apply pw_below_drewN | apply below_drew1 | refine below_set ?_ GE458.out | refine below_set ?_ GE473.out | refine below_set ?_ GE480.out | refine below_set ?_ GE488.out) | exact HB.out)))); have n10_ := Aside0.mk (blk_below (g := gb458) (o := .cells #[.slice A0_0 l0_0.length c0_0, .slice A0_1 l0_1.length c0_1] 24 (0, 0)) (by (with_reducible repeat (first | refine blk_drewN ?_ _ | refine blk_drew ?_ | refine blk_alloc ?_ _)); exact BK458.out) hb); have n11_ := Aside0.mk (blk_below (g := gb473) (o := .cells #[.slice Ao22 t466.length co22, .slice Ao25 t469.length co25] 27 (0, 0)) (by (with_reducible repeat (first | refine blk_drewN ?_ _ | refine blk_drew ?_ | refine blk_alloc ?_ _)); exact BK473.out) hb); have n12_ := Aside0.mk (blk_below (g := gb480) (o := .cells #[.slice Ao29 t498.length co29, .slice Ao33 t499.length co33] 27 (0, 0)) (by (with_reducible repeat (first | refine blk_drewN ?_ _ | refine blk_drew ?_ | refine blk_alloc ?_ _)); exact BK480.out) hb); have n13_ := Aside0.mk (blk_below (g := gb488) (o := .cells #[.slice Ao36 t481.length co36, .slice Ao41 t484.length co41] 27 (0, 0)) (by (with_reducible repeat (first | refine blk_drewN ?_ _ | refine blk_drew ?_ | refine blk_alloc ?_ _)); exact BK488.out) hb); have n14_ := Aside0.mk (below_step (by repeat (first | (with_reducible first | exact HB.out | apply below_alloc | apply pw_below_drewN | apply below_drew1 | refine below_set ?_ GE458.out | refine below_set ?_ GE473.out | refine below_set ?_ GE480.out | refine below_set ?_ GE488.out) | exact HB.out)) hb); clear HO_474000; clear HO_474001; clear HO_481000; clear HO_481001; clear HO_489000; clear HO_489001; clear HO507; clear HO510; clear BK458; clear BK473; clear BK480; clear BK488; clear HB; have HO_474000 := n0_; have HO_474001 := n1_; have HO_481000 := n2_; have HO_481001 := n3_; have HO_489000 := n4_; have HO_489001 := n5_; have HO507 := n6_; have HO510 := n7_; have HO513 := n8_; have HO516 := n9_; have BK458 := n10_; have BK473 := n11_; have BK480 := n12_; have BK488 := n13_; have HB := n14_; clear n0_ n1_ n2_ n3_ n4_ n5_ n6_ n7_ n8_ n9_ n10_ n11_ n12_ n13_ n14_; (try clear hb); (try clear hb2); (try clear hk); (try clear hi); (try clear ho0); (try clear ho1)) | ((with_reducible refine gate_dst (N := 14) rfl ?_); refine box_event ?hg (N := 14) ?hd (cs := #[.slice none 0 0, .slice none 0 0]) (t := 27) ?hr ?_; (case hd => rfl); (case hg => rfl); (case hr => first | (go_simp; done) | (go_simp; rfl)); intro gb518 hg w124 hbox hb; have n0_ := Aside0.mk (Kd.R_below (by (with_reducible repeat (first | apply Kd.R_alloc | apply Kd.R_drewN | apply Kd.R_drew)); exact HO_474000.out) hb); have n1_ := Aside0.mk (Kd.R_below (by (with_reducible repeat (first | apply Kd.R_alloc | apply Kd.R_drewN | apply Kd.R_drew)); exact HO_474001.out) hb); have n2_ := Aside0.mk (Kd.R_below (by (with_reducible repeat (first | apply Kd.R_alloc | apply Kd.R_drewN | apply Kd.R_drew)); exact HO_481000.out) hb); have n3_ := Aside0.mk (Kd.R_below (by (with_reducible repeat (first | apply Kd.R_alloc | apply Kd.R_drewN | apply Kd.R_drew)); exact HO_481001.out) hb); have n4_ := Aside0.mk (Kd.R_below (by (with_reducible repeat (first | apply Kd.R_alloc | apply Kd.R_drewN | apply Kd.R_drew)); exact HO_489000.out) hb); have n5_ := Aside0.mk (Kd.R_below (by (with_reducible repeat (first | apply Kd.R_alloc | apply Kd.R_drewN | apply Kd.R_drew)); exact HO_489001.out) hb); have n6_ := Aside0.mk (Kd.R_below (by (with_reducible repeat (first | apply Kd.R_alloc | apply Kd.R_drewN | apply Kd.R_drew)); exact HO507.out) hb); have n7_ := Aside0.mk (Kd.R_below (by (with_reducible repeat (first | apply Kd.R_alloc | apply Kd.R_drewN | apply Kd.R_drew)); exact HO510.out) hb); have n8_ := Aside0.mk (Kd.R_below (by (with_reducible repeat (first | apply Kd.R_alloc | apply Kd.R_drewN | apply Kd.R_drew)); exact HO513.out) hb); have n9_ := Aside0.mk (Kd.R_below (by (with_reducible repeat (first | apply Kd.R_alloc | apply Kd.R_drewN | apply Kd.R_drew)); exact HO516.out) hb); have n10_ := Aside0.mk (blk_below (g := gb458) (o := .cells #[.slice A0_0 l0_0.length c0_0, .slice A0_1 l0_1.length c0_1] 24 (0, 0)) (by (with_reducible repeat (first | refine blk_drewN ?_ _ | refine blk_drew ?_ | refine blk_alloc ?_ _)); exact BK458.out) hb); have n11_ := Aside0.mk (blk_below (g := gb473) (o := .cells #[.slice Ao22 t466.length co22, .slice Ao25 t469.length co25] 27 (0, 0)) (by (with_reducible repeat (first | refine blk_drewN ?_ _ | refine blk_drew ?_ | refine blk_alloc ?_ _)); exact BK473.out) hb); have n12_ := Aside0.mk (blk_below (g := gb480) (o := .cells #[.slice Ao29 t498.length co29, .slice Ao33 t499.length co33] 27 (0, 0)) (by (with_reducible repeat (first | refine blk_drewN ?_ _ | refine blk_drew ?_ | refine blk_alloc ?_ _)); exact BK480.out) hb); have n13_ := Aside0.mk (blk_below (g := gb488) (o := .cells #[.slice Ao36 t481.length co36, .slice Ao41 t484.length co41] 27 (0, 0)) (by (with_reducible repeat (first | refine blk_drewN ?_ _ | refine blk_drew ?_ | refine blk_alloc ?_ _)); exact BK488.out) hb); have n14_ := Aside0.mk (below_step (by repeat (first | (with_reducible first | exact HB.out | apply below_alloc | apply pw_below_drewN | apply below_drew1 | refine below_set ?_ GE458.out | refine below_set ?_ GE473.out | refine below_set ?_ GE480.out | refine below_set ?_ GE488.out) | exact HB.out)) hb); have n15_ := Aside0.mk (hbox); have n16_ := Aside0.mk ((by rw [hg]; exact (below_size (by repeat (first | (with_reducible first | exact HB.out | apply below_alloc | apply pw_below_drewN | apply below_drew1 | refine below_set ?_ GE458.out | refine below_set ?_ GE473.out | refine below_set ?_ GE480.out | refine below_set ?_ GE488.out) | exact HB.out))) : w.heap.size ≤ gb518)); have n17_ := Aside0.mk ((by rw [hg]; exact (below_size (by repeat (first | (with_reducible first | exact HB.out | apply below_alloc | apply pw_below_drewN | apply below_drew1 | refine below_set ?_ GE458.out | refine below_set ?_ GE473.out | refine below_set ?_ GE480.out | refine below_set ?_ GE488.out) | exact HB.out))) : w.heap.size ≤ gb518)); have n18_ := Aside0.mk ((by rw [hg]; exact Nat.ne_of_lt (blk_lt (g := gb458) (o := .cells #[.slice A0_0 l0_0.length c0_0, .slice A0_1 l0_1.length c0_1] 24 (0, 0)) (by (with_reducible repeat (first | refine blk_drewN ?_ _ | refine blk_drew ?_ | refine blk_alloc ?_ _)); exact BK458.out)) : gb458 ≠ gb518)); have n19_ := Aside0.mk ((by rw [hg]; exact Nat.ne_of_gt (blk_lt (g := gb458) (o := .cells #[.slice A0_0 l0_0.length c0_0, .slice A0_1 l0_1.length c0_1] 24 (0, 0)) (by (with_reducible repeat (first | refine blk_drewN ?_ _ | refine blk_drew ?_ | refine blk_alloc ?_ _)); exact BK458.out)) : gb518 ≠ gb458)); have n20_ := Aside0.mk ((by rw [hg]; exact Nat.ne_of_lt (blk_lt (g := gb473) (o := .cells #[.slice Ao22 t466.length co22, .slice Ao25 t469.length co25] 27 (0, 0)) (by (with_reducible repeat (first | refine blk_drewN ?_ _ | refine blk_drew ?_ | refine blk_alloc ?_ _)); exact BK473.out)) : gb473 ≠ gb518)); have n21_ := Aside0.mk ((by rw [hg]; exact Nat.ne_of_gt (blk_lt (g := gb473) (o := .cells #[.slice Ao22 t466.length co22, .slice Ao25 t469.length co25] 27 (0, 0)) (by (with_reducible repeat (first | refine blk_drewN ?_ _ | refine blk_drew ?_ | refine blk_alloc ?_ _)); exact BK473.out)) : gb518 ≠ gb473)); have n22_ := Aside0.mk ((by rw [hg]; exact Nat.ne_of_lt (blk_lt (g := gb480) (o := .cells #[.slice Ao29 t498.length co29, .slice Ao33 t499.length co33] 27 (0, 0)) (by (with_reducible repeat (first | refine blk_drewN ?_ _ | refine blk_drew ?_ | refine blk_alloc ?_ _)); exact BK480.out)) : gb480 ≠ gb518)); have n23_ := Aside0.mk ((by rw [hg]; exact Nat.ne_of_gt (blk_lt (g := gb480) (o := .cells #[.slice Ao29 t498.length co29, .slice Ao33 t499.length co33] 27 (0, 0)) (by (with_reducible repeat (first | refine blk_drewN ?_ _ | refine blk_drew ?_ | refine blk_alloc ?_ _)); exact BK480.out)) : gb518 ≠ gb480)); have n24_ := Aside0.mk ((by rw [hg]; exact Nat.ne_of_lt (blk_lt (g := gb488) (o := .cells #[.slice Ao36 t481.length co36, .slice Ao41 t484.length co41] 27 (0, 0)) (by (with_reducible repeat (first | refine blk_drewN ?_ _ | refine blk_drew ?_ | refine blk_alloc ?_ _)); exact BK488.out)) : gb488 ≠ gb518)); have n25_ := Aside0.mk ((by rw [hg]; exact Nat.ne_of_gt (blk_lt (g := gb488) (o := .cells #[.slice Ao36 t481.length co36, .slice Ao41 t484.length co41] 27 (0, 0)) (by (with_reducible repeat (first | refine blk_drewN ?_ _ | refine blk_drew ?_ | refine blk_alloc ?_ _)); exact BK488.out)) : gb518 ≠ gb488)); clear HO_474000; clear HO_474001; clear HO_481000; clear HO_481001; clear HO_489000; clear HO_489001; clear HO507; clear HO510; clear HO513; clear HO516; clear BK458; clear BK473; clear BK480; clear BK488; clear HB; have HO_474000 := n0_; have HO_474001 := n1_; have HO_481000 := n2_; have HO_481001 := n3_; have HO_489000 := n4_; have HO_489001 := n5_; have HO507 := n6_; have HO510 := n7_; have HO513 := n8_; have HO516 := n9_; have BK458 := n10_; have BK473 := n11_; have BK480 := n12_; have BK488 := n13_; have HB := n14_; have BK518 := n15_; have GW518 := n16_; have GE518 := n17_; have NB458_518 := n18_; have NB518_458 := n19_; have NB473_518 := n20_; have NB518_473 := n21_; have NB480_518 := n22_; have NB518_480 := n23_; have NB488_518 := n24_; have NB518_488 := n25_; clear n0_ n1_ n2_ n3_ n4_ n5_ n6_ n7_ n8_ n9_ n10_ n11_ n12_ n13_ n14_ n15_ n16_ n17_ n18_ n19_ n20_ n21_ n22_ n23_ n24_ n25_; clear hb hbox hg; obtain ⟨Ao125, co125, eo125⟩ := Kd.R_slice HO513.out; subst eo125; have hnb126 := NB518_458.out; have hnc126 := NB458_518.out; have hnb127 := NB518_473.out; have hnc127 := NB473_518.out; have hnb128 := NB518_480.out; have hnc128 := NB480_518.out; have hnb129 := NB518_488.out; have hnc129 := NB488_518.out; have hcz130_0 : w124.cell? ⟨gb518, 0, none⟩ = some (.slice none 0 0) := (blk_cell BK518.out 0).trans rfl; have hcz130_1 : w124.cell? ⟨gb518, 1, none⟩ = some (.slice none 0 0) := (blk_cell BK518.out 1).trans rfl; have hfz130_0 := blk_frozen BK518.out 0; have hfz130_1 := blk_frozen BK518.out 1; obtain ⟨Ao131, co131, eo131⟩ := Kd.R_slice HO516.out; subst eo131))
           (try simp only [Act.put, List.setIfInBounds_toArray, List.set_cons_zero, List.set_cons_succ])
           go_cut [92] (fun v92 wc => ∃ (kq : Nat) (x92_108 : Bool), v92 = .bool x92_108 ∧ Aside0 (lw.j2 kq t501 x92_108 t502 t503 = some r) ∧ Aside0 (kq ≤ kj64) ∧ Aside0 (Kd.R (Kd.int .i64) 3 wc w.heap.size (fun k_ => some k_ ≠ ((.slice Ao25 t469.length co25) : Value).ownBlock ∧ some k_ ≠ ((.slice Ao29 t498.length co29) : Value).ownBlock ∧ some k_ ≠ ((.slice Ao33 t499.length co33) : Value).ownBlock ∧ some k_ ≠ ((.slice Ao36 t481.length co36) : Value).ownBlock ∧ some k_ ≠ ((.slice Ao41 t484.length co41) : Value).ownBlock ∧ some k_ ≠ ((.slice Ao125 t511.length co125) : Value).ownBlock ∧ some k_ ≠ ((.slice Ao131 t514.length co131) : Value).ownBlock) (.slice Ao22 t466.length co22) t466) ∧ Aside0 (Kd.R (Kd.int .i64) 3 wc w.heap.size (fun k_ => some k_ ≠ ((.slice Ao22 t466.length co22) : Value).ownBlock ∧ some k_ ≠ ((.slice Ao29 t498.length co29) : Value).ownBlock ∧ some k_ ≠ ((.slice Ao33 t499.length co33) : Value).ownBlock ∧ some k_ ≠ ((.slice Ao36 t481.length co36) : Value).ownBlock ∧ some k_ ≠ ((.slice Ao41 t484.length co41) : Value).ownBlock ∧ some k_ ≠ ((.slice Ao125 t511.length co125) : Value).ownBlock ∧ some k_ ≠ ((.slice Ao131 t514.length co131) : Value).ownBlock) (.slice Ao25 t469.length co25) t469) ∧ Aside0 (Kd.R (Kd.int .i64) 3 wc w.heap.size (fun k_ => some k_ ≠ ((.slice Ao22 t466.length co22) : Value).ownBlock ∧ some k_ ≠ ((.slice Ao25 t469.length co25) : Value).ownBlock ∧ some k_ ≠ ((.slice Ao33 t499.length co33) : Value).ownBlock ∧ some k_ ≠ ((.slice Ao36 t481.length co36) : Value).ownBlock ∧ some k_ ≠ ((.slice Ao41 t484.length co41) : Value).ownBlock ∧ some k_ ≠ ((.slice Ao125 t511.length co125) : Value).ownBlock ∧ some k_ ≠ ((.slice Ao131 t514.length co131) : Value).ownBlock) (.slice Ao29 t498.length co29) t498) ∧ Aside0 (Kd.R (Kd.int .i64) 3 wc w.heap.size (fun k_ => some k_ ≠ ((.slice Ao22 t466.length co22) : Value).ownBlock ∧ some k_ ≠ ((.slice Ao25 t469.length co25) : Value).ownBlock ∧ some k_ ≠ ((.slice Ao29 t498.length co29) : Value).ownBlock ∧ some k_ ≠ ((.slice Ao36 t481.length co36) : Value).ownBlock ∧ some k_ ≠ ((.slice Ao41 t484.length co41) : Value).ownBlock ∧ some k_ ≠ ((.slice Ao125 t511.length co125) : Value).ownBlock ∧ some k_ ≠ ((.slice Ao131 t514.length co131) : Value).ownBlock) (.slice Ao33 t499.length co33) t499) ∧ Aside0 (Kd.R (Kd.int .i64) 3 wc w.heap.size (fun k_ => some k_ ≠ ((.slice Ao22 t466.length co22) : Value).ownBlock ∧ some k_ ≠ ((.slice Ao25 t469.length co25) : Value).ownBlock ∧ some k_ ≠ ((.slice Ao29 t498.length co29) : Value).ownBlock ∧ some k_ ≠ ((.slice Ao33 t499.length co33) : Value).ownBlock ∧ some k_ ≠ ((.slice Ao41 t484.length co41) : Value).ownBlock ∧ some k_ ≠ ((.slice Ao125 t511.length co125) : Value).ownBlock ∧ some k_ ≠ ((.slice Ao131 t514.length co131) : Value).ownBlock) (.slice Ao36 t481.length co36) t502) ∧ Aside0 (Kd.R (Kd.int .i64) 3 wc w.heap.size (fun k_ => some k_ ≠ ((.slice Ao22 t466.length co22) : Value).ownBlock ∧ some k_ ≠ ((.slice Ao25 t469.length co25) : Value).ownBlock ∧ some k_ ≠ ((.slice Ao29 t498.length co29) : Value).ownBlock ∧ some k_ ≠ ((.slice Ao33 t499.length co33) : Value).ownBlock ∧ some k_ ≠ ((.slice Ao36 t481.length co36) : Value).ownBlock ∧ some k_ ≠ ((.slice Ao125 t511.length co125) : Value).ownBlock ∧ some k_ ≠ ((.slice Ao131 t514.length co131) : Value).ownBlock) (.slice Ao41 t484.length co41) t503) ∧ Aside0 (Kd.R (Kd.int .i64) 3 wc w.heap.size (fun k_ => some k_ ≠ ((.slice Ao22 t466.length co22) : Value).ownBlock ∧ some k_ ≠ ((.slice Ao25 t469.length co25) : Value).ownBlock ∧ some k_ ≠ ((.slice Ao29 t498.length co29) : Value).ownBlock ∧ some k_ ≠ ((.slice Ao33 t499.length co33) : Value).ownBlock ∧ some k_ ≠ ((.slice Ao36 t481.length co36) : Value).ownBlock ∧ some k_ ≠ ((.slice Ao41 t484.length co41) : Value).ownBlock ∧ some k_ ≠ ((.slice Ao131 t514.length co131) : Value).ownBlock) (.slice Ao125 t511.length co125) t511) ∧ Aside0 (Kd.R (Kd.int .i64) 3 wc w.heap.size (fun k_ => some k_ ≠ ((.slice Ao22 t466.length co22) : Value).ownBlock ∧ some k_ ≠ ((.slice Ao25 t469.length co25) : Value).ownBlock ∧ some k_ ≠ ((.slice Ao29 t498.length co29) : Value).ownBlock ∧ some k_ ≠ ((.slice Ao33 t499.length co33) : Value).ownBlock ∧ some k_ ≠ ((.slice Ao36 t481.length co36) : Value).ownBlock ∧ some k_ ≠ ((.slice Ao41 t484.length co41) : Value).ownBlock ∧ some k_ ≠ ((.slice Ao125 t511.length co125) : Value).ownBlock) (.slice Ao131 t514.length co131) t514) ∧ Aside0 (wc.heap[gb458]? = some (.cells #[(.slice A0_0 l0_0.length c0_0), (.slice A0_1 l0_1.length c0_1)] 24 (0, 0))) ∧ Aside0 (wc.heap[gb473]? = some (.cells #[(.slice Ao22 t466.length co22), (.slice Ao25 t469.length co25)] 27 (0, 0))) ∧ Aside0 (wc.heap[gb480]? = some (.cells #[(.slice Ao29 t498.length co29), (.slice Ao33 t499.length co33)] 27 (0, 0))) ∧ Aside0 (wc.heap[gb488]? = some (.cells #[(.slice Ao36 t481.length co36), (.slice Ao41 t484.length co41)] 27 (0, 0))) ∧ Aside0 (wc.heap[gb518]? = some (.cells #[(.slice Ao125 t511.length co125), (.slice Ao131 t514.length co131)] 27 (0, 0))) ∧ Aside0 (Below w.heap.size w wc))
           case first =>
            have H := HC109.out
            clear HC109
            replace H := Option.bind_eq_some_iff.mp H
            obtain ⟨t519, A1320, H⟩ := H
            replace H : (if t519 = true then (lw.j2 kj64 t501 (t517 != t472) t502 t503) else (lw.j2 kj64 t501 true t502 t503)) = some r := H
            have A132 := Aside0.mk A1320
            clear A1320
            by_cases c133 : t519 = true
            ·subst c133
             have H1 : (lw.j2 kj64 t501 (t517 != t472) t502 t503) = some r := by rw [if_pos rfl] at H; exact H
             clear H
             have H := H1
             clear H1
             have H' := Aside0.mk H
             clear H
             have hnb134 := NB518_458.out
             have hnc134 := NB458_518.out
             have hnb135 := NB518_473.out
             have hnc135 := NB473_518.out
             have hnb136 := NB518_480.out
             have hnc136 := NB480_518.out
             have hnb137 := NB518_488.out
             have hnc137 := NB488_518.out
             have hcz138_0 : w124.cell? ⟨gb518, 0, none⟩ = some (.slice none 0 0) := (blk_cell BK518.out 0).trans rfl
             have hcz138_1 : w124.cell? ⟨gb518, 1, none⟩ = some (.slice none 0 0) := (blk_cell BK518.out 1).trans rfl
             have hfz138_0 := blk_frozen BK518.out 0
             have hfz138_1 := blk_frozen BK518.out 1
             have hnb139 := NB473_458.out
             have hnc139 := NB458_473.out
             have hnb140 := NB473_480.out
             have hnc140 := NB480_473.out
             have hnb141 := NB473_488.out
             have hnc141 := NB488_473.out
             have hcz142_0 : w124.cell? ⟨gb473, 0, none⟩ = some (.slice Ao22 t466.length co22) := (blk_cell BK473.out 0).trans rfl
             have hcz142_1 : w124.cell? ⟨gb473, 1, none⟩ = some (.slice Ao25 t469.length co25) := (blk_cell BK473.out 1).trans rfl
             have hfz142_0 := blk_frozen BK473.out 0
             have hfz142_1 := blk_frozen BK473.out 1
             go_wp2_with (first | ((with_reducible refine gate_callee (f := 18) rfl ?_); refine goesL_ (some 86) rfl rfl Try.func18 (by kernel_rfl) rfl #[.agg #[.slice Ao125 t511.length co125, .slice Ao131 t514.length co131], .agg #[.slice Ao22 t466.length co22, .slice Ao25 t469.length co25]] rfl (by (try simp only [List.map_toArray, List.map_cons, List.map_nil]); first | done | rfl | (simp only [List.length_drop, List.length_take]; rfl)) ?_; (with_reducible refine (laws_eqRotation.calls kj64 _ _ t511 _ _ t514 _ _ t466 _ _ t469 true _ ?side1 ?side2 ?side3 ?side4 ?side5 ?side6 ?side7 ?side8 A132.out).mono ?_); (case side1 => refine (Kd.R_reads' (e := 3) (base := w.heap.size) (ok := fun k_ => ((((((((some k_ ≠ (.slice Ao131 t514.length co131 : Value).ownBlock ∧ some k_ ≠ (.slice Ao22 t466.length co22 : Value).ownBlock) ∧ some k_ ≠ (.slice Ao25 t469.length co25 : Value).ownBlock) ∧ some k_ ≠ (.slice Ao29 t498.length co29 : Value).ownBlock) ∧ some k_ ≠ (.slice Ao33 t499.length co33 : Value).ownBlock) ∧ some k_ ≠ (.slice Ao36 t481.length co36 : Value).ownBlock) ∧ some k_ ≠ (.slice Ao41 t484.length co41 : Value).ownBlock) ∧ some k_ ≠ (.slice Ao121 t505.length co121 : Value).ownBlock) ∧ some k_ ≠ (.slice Ao122 t508.length co122 : Value).ownBlock)) (n := t511.length) (c := co125) ?_).2.2; exact (by (with_reducible repeat (first | apply Kd.R_alloc | apply Kd.R_drewN | apply Kd.R_drew)); exact (Kd.R_mono (Kd.R_far (p := ⟨gb518, 1, none⟩) (Kd.R_far (p := ⟨gb518, 0, none⟩) (Kd.R_types HO513.out BK518.out (by decide)) (fun _ hk => hk.2) (.slice Ao125 t511.length co125)) (fun _ hk => hk.2) (.slice Ao131 t514.length co131)) (fun _ h_ => h_.1)))); (case side2 => exact (Kd.R_reads' HO513.out).2.1); (case side3 => refine (Kd.R_reads' (e := 3) (base := w.heap.size) (ok := fun k_ => ((((((((some k_ ≠ (.slice Ao125 t511.length co125 : Value).ownBlock ∧ some k_ ≠ (.slice Ao22 t466.length co22 : Value).ownBlock) ∧ some k_ ≠ (.slice Ao25 t469.length co25 : Value).ownBlock) ∧ some k_ ≠ (.slice Ao29 t498.length co29 : Value).ownBlock) ∧ some k_ ≠ (.slice Ao33 t499.length co33 : Value).ownBlock) ∧ some k_ ≠ (.slice Ao36 t481.length co36 : Value).ownBlock) ∧ some k_ ≠ (.slice Ao41 t484.length co41 : Value).ownBlock) ∧ some k_ ≠ (.slice Ao121 t505.length co121 : Value).ownBlock) ∧ some k_ ≠ (.slice Ao122 t508.length co122 : Value).ownBlock)) (n := t514.length) (c := co131) ?_).2.2; exact (by (with_reducible repeat (first | apply Kd.R_alloc | apply Kd.R_drewN | apply Kd.R_drew)); exact (Kd.R_mono (Kd.R_far (p := ⟨gb518, 1, none⟩) (Kd.R_far (p := ⟨gb518, 0, none⟩) (Kd.R_types HO516.out BK518.out (by decide)) (fun _ hk => hk.2) (.slice Ao125 t511.length co125)) (fun _ hk => hk.2) (.slice Ao131 t514.length co131)) (fun _ h_ => h_.1)))); (case side4 => exact (Kd.R_reads' HO516.out).2.1); (case side5 => refine (Kd.R_reads' (e := 3) (base := w.heap.size) (ok := fun k_ => (((((some k_ ≠ (.slice Ao25 t469.length co25 : Value).ownBlock ∧ (some k_ ≠ (.slice Ao29 t498.length co29 : Value).ownBlock ∧ (some k_ ≠ (.slice Ao33 t499.length co33 : Value).ownBlock ∧ (some k_ ≠ (.slice Ao36 t481.length co36 : Value).ownBlock ∧ some k_ ≠ (.slice Ao41 t484.length co41 : Value).ownBlock)))) ∧ some k_ ≠ (.slice Ao121 t505.length co121 : Value).ownBlock) ∧ some k_ ≠ (.slice Ao122 t508.length co122 : Value).ownBlock) ∧ some k_ ≠ (.slice Ao125 t511.length co125 : Value).ownBlock) ∧ some k_ ≠ (.slice Ao131 t514.length co131 : Value).ownBlock)) (n := t466.length) (c := co22) ?_).2.2; exact (by (with_reducible repeat (first | apply Kd.R_alloc | apply Kd.R_drewN | apply Kd.R_drew)); exact (Kd.R_mono (Kd.R_far (p := ⟨gb518, 1, none⟩) (Kd.R_far (p := ⟨gb518, 0, none⟩) (Kd.R_types HO_474000.out BK518.out (by decide)) (fun _ hk => hk.2) (.slice Ao125 t511.length co125)) (fun _ hk => hk.2) (.slice Ao131 t514.length co131)) (fun _ h_ => h_.1)))); (case side6 => exact (Kd.R_reads' HO_474000.out).2.1); (case side7 => refine (Kd.R_reads' (e := 3) (base := w.heap.size) (ok := fun k_ => (((((some k_ ≠ (.slice Ao22 t466.length co22 : Value).ownBlock ∧ (some k_ ≠ (.slice Ao29 t498.length co29 : Value).ownBlock ∧ (some k_ ≠ (.slice Ao33 t499.length co33 : Value).ownBlock ∧ (some k_ ≠ (.slice Ao36 t481.length co36 : Value).ownBlock ∧ some k_ ≠ (.slice Ao41 t484.length co41 : Value).ownBlock)))) ∧ some k_ ≠ (.slice Ao121 t505.length co121 : Value).ownBlock) ∧ some k_ ≠ (.slice Ao122 t508.length co122 : Value).ownBlock) ∧ some k_ ≠ (.slice Ao125 t511.length co125 : Value).ownBlock) ∧ some k_ ≠ (.slice Ao131 t514.length co131 : Value).ownBlock)) (n := t469.length) (c := co25) ?_).2.2; exact (by (with_reducible repeat (first | apply Kd.R_alloc | apply Kd.R_drewN | apply Kd.R_drew)); exact (Kd.R_mono (Kd.R_far (p := ⟨gb518, 1, none⟩) (Kd.R_far (p := ⟨gb518, 0, none⟩) (Kd.R_types HO_474001.out BK518.out (by decide)) (fun _ hk => hk.2) (.slice Ao125 t511.length co125)) (fun _ hk => hk.2) (.slice Ao131 t514.length co131)) (fun _ h_ => h_.1)))); (case side8 => exact (Kd.R_reads' HO_474001.out).2.1); rintro e w143 ⟨rfl, hb⟩; refine ⟨_, rfl, ?_⟩; have n0_ := Aside0.mk (Kd.R_below (by (with_reducible repeat (first | apply Kd.R_alloc | apply Kd.R_drewN | apply Kd.R_drew)); exact (Kd.R_mono (Kd.R_far (p := ⟨gb518, 1, none⟩) (Kd.R_far (p := ⟨gb518, 0, none⟩) (Kd.R_types HO_474000.out BK518.out (by decide)) (fun _ hk => hk.2) (.slice Ao125 t511.length co125)) (fun _ hk => hk.2) (.slice Ao131 t514.length co131)) (fun _ h_ => h_.1))) hb); have n1_ := Aside0.mk (Kd.R_below (by (with_reducible repeat (first | apply Kd.R_alloc | apply Kd.R_drewN | apply Kd.R_drew)); exact (Kd.R_mono (Kd.R_far (p := ⟨gb518, 1, none⟩) (Kd.R_far (p := ⟨gb518, 0, none⟩) (Kd.R_types HO_474001.out BK518.out (by decide)) (fun _ hk => hk.2) (.slice Ao125 t511.length co125)) (fun _ hk => hk.2) (.slice Ao131 t514.length co131)) (fun _ h_ => h_.1))) hb); have n2_ := Aside0.mk (Kd.R_below (by (with_reducible repeat (first | apply Kd.R_alloc | apply Kd.R_drewN | apply Kd.R_drew)); exact (Kd.R_mono (Kd.R_far (p := ⟨gb518, 1, none⟩) (Kd.R_far (p := ⟨gb518, 0, none⟩) (Kd.R_types HO_481000.out BK518.out (by decide)) (fun _ hk => hk.2) (.slice Ao125 t511.length co125)) (fun _ hk => hk.2) (.slice Ao131 t514.length co131)) (fun _ h_ => h_.1))) hb); have n3_ := Aside0.mk (Kd.R_below (by (with_reducible repeat (first | apply Kd.R_alloc | apply Kd.R_drewN | apply Kd.R_drew)); exact (Kd.R_mono (Kd.R_far (p := ⟨gb518, 1, none⟩) (Kd.R_far (p := ⟨gb518, 0, none⟩) (Kd.R_types HO_481001.out BK518.out (by decide)) (fun _ hk => hk.2) (.slice Ao125 t511.length co125)) (fun _ hk => hk.2) (.slice Ao131 t514.length co131)) (fun _ h_ => h_.1))) hb); have n4_ := Aside0.mk (Kd.R_below (by (with_reducible repeat (first | apply Kd.R_alloc | apply Kd.R_drewN | apply Kd.R_drew)); exact (Kd.R_mono (Kd.R_far (p := ⟨gb518, 1, none⟩) (Kd.R_far (p := ⟨gb518, 0, none⟩) (Kd.R_types HO_489000.out BK518.out (by decide)) (fun _ hk => hk.2) (.slice Ao125 t511.length co125)) (fun _ hk => hk.2) (.slice Ao131 t514.length co131)) (fun _ h_ => h_.1))) hb); have n5_ := Aside0.mk (Kd.R_below (by (with_reducible repeat (first | apply Kd.R_alloc | apply Kd.R_drewN | apply Kd.R_drew)); exact (Kd.R_mono (Kd.R_far (p := ⟨gb518, 1, none⟩) (Kd.R_far (p := ⟨gb518, 0, none⟩) (Kd.R_types HO_489001.out BK518.out (by decide)) (fun _ hk => hk.2) (.slice Ao125 t511.length co125)) (fun _ hk => hk.2) (.slice Ao131 t514.length co131)) (fun _ h_ => h_.1))) hb); have n6_ := Aside0.mk (Kd.R_below (by (with_reducible repeat (first | apply Kd.R_alloc | apply Kd.R_drewN | apply Kd.R_drew)); exact (Kd.R_mono (Kd.R_far (p := ⟨gb518, 1, none⟩) (Kd.R_far (p := ⟨gb518, 0, none⟩) (Kd.R_types HO507.out BK518.out (by decide)) (fun _ hk => hk.2) (.slice Ao125 t511.length co125)) (fun _ hk => hk.2) (.slice Ao131 t514.length co131)) (fun _ h_ => h_.1))) hb); have n7_ := Aside0.mk (Kd.R_below (by (with_reducible repeat (first | apply Kd.R_alloc | apply Kd.R_drewN | apply Kd.R_drew)); exact (Kd.R_mono (Kd.R_far (p := ⟨gb518, 1, none⟩) (Kd.R_far (p := ⟨gb518, 0, none⟩) (Kd.R_types HO510.out BK518.out (by decide)) (fun _ hk => hk.2) (.slice Ao125 t511.length co125)) (fun _ hk => hk.2) (.slice Ao131 t514.length co131)) (fun _ h_ => h_.1))) hb); have n8_ := Aside0.mk (Kd.R_below (by (with_reducible repeat (first | apply Kd.R_alloc | apply Kd.R_drewN | apply Kd.R_drew)); exact (Kd.R_mono (Kd.R_far (p := ⟨gb518, 1, none⟩) (Kd.R_far (p := ⟨gb518, 0, none⟩) (Kd.R_types HO513.out BK518.out (by decide)) (fun _ hk => hk.2) (.slice Ao125 t511.length co125)) (fun _ hk => hk.2) (.slice Ao131 t514.length co131)) (fun _ h_ => h_.1))) hb); have n9_ := Aside0.mk (Kd.R_below (by (with_reducible repeat (first | apply Kd.R_alloc | apply Kd.R_drewN | apply Kd.R_drew)); exact (Kd.R_mono (Kd.R_far (p := ⟨gb518, 1, none⟩) (Kd.R_far (p := ⟨gb518, 0, none⟩) (Kd.R_types HO516.out BK518.out (by decide)) (fun _ hk => hk.2) (.slice Ao125 t511.length co125)) (fun _ hk => hk.2) (.slice Ao131 t514.length co131)) (fun _ h_ => h_.1))) hb); have n10_ := Aside0.mk (blk_below (g := gb458) (o := .cells #[.slice A0_0 l0_0.length c0_0, .slice A0_1 l0_1.length c0_1] 24 (0, 0)) (by (with_reducible repeat (first | refine blk_drewN ?_ _ | refine blk_drew ?_ | refine blk_alloc ?_ _)); refine blk_far ?_ NB458_518.out _; (with_reducible repeat (first | refine blk_drewN ?_ _ | refine blk_drew ?_ | refine blk_alloc ?_ _)); refine blk_far ?_ NB458_518.out _; (with_reducible repeat (first | refine blk_drewN ?_ _ | refine blk_drew ?_ | refine blk_alloc ?_ _)); exact BK458.out) hb); have n11_ := Aside0.mk (blk_below (g := gb473) (o := .cells #[.slice Ao22 t466.length co22, .slice Ao25 t469.length co25] 27 (0, 0)) (by (with_reducible repeat (first | refine blk_drewN ?_ _ | refine blk_drew ?_ | refine blk_alloc ?_ _)); refine blk_far ?_ NB473_518.out _; (with_reducible repeat (first | refine blk_drewN ?_ _ | refine blk_drew ?_ | refine blk_alloc ?_ _)); refine blk_far ?_ NB473_518.out _; (with_reducible repeat (first | refine blk_drewN ?_ _ | refine blk_drew ?_ | refine blk_alloc ?_ _)); exact BK473.out) hb); have n12_ := Aside0.mk (blk_below (g := gb480) (o := .cells #[.slice Ao29 t498.length co29, .slice Ao33 t499.length co33] 27 (0, 0)) (by (with_reducible repeat (first | refine blk_drewN ?_ _ | refine blk_drew ?_ | refine blk_alloc ?_ _)); refine blk_far ?_ NB480_518.out _; (with_reducible repeat (first | refine blk_drewN ?_ _ | refine blk_drew ?_ | refine blk_alloc ?_ _)); refine blk_far ?_ NB480_518.out _; (with_reducible repeat (first | refine blk_drewN ?_ _ | refine blk_drew ?_ | refine blk_alloc ?_ _)); exact BK480.out) hb); have n13_ := Aside0.mk (blk_below (g := gb488) (o := .cells #[.slice Ao36 t481.length co36, .slice Ao41 t484.length co41] 27 (0, 0)) (by (with_reducible repeat (first | refine blk_drewN ?_ _ | refine blk_drew ?_ | refine blk_alloc ?_ _)); refine blk_far ?_ NB488_518.out _; (with_reducible repeat (first | refine blk_drewN ?_ _ | refine blk_drew ?_ | refine blk_alloc ?_ _)); refine blk_far ?_ NB488_518.out _; (with_reducible repeat (first | refine blk_drewN ?_ _ | refine blk_drew ?_ | refine blk_alloc ?_ _)); exact BK488.out) hb); have n14_ := Aside0.mk (blk_below (g := gb518) (o := .cells #[.slice Ao125 t511.length co125, .slice Ao131 t514.length co131] 27 (0, 0)) (by (with_reducible repeat (first | refine blk_drewN ?_ _ | refine blk_drew ?_ | refine blk_alloc ?_ _)); refine blk_put (cs := #[.slice Ao125 t511.length co125, .slice none 0 0]) ?_ 1 _ rfl; (with_reducible repeat (first | refine blk_drewN ?_ _ | refine blk_drew ?_ | refine blk_alloc ?_ _)); refine blk_put (cs := #[.slice none 0 0, .slice none 0 0]) ?_ 0 _ rfl; (with_reducible repeat (first | refine blk_drewN ?_ _ | refine blk_drew ?_ | refine blk_alloc ?_ _)); exact BK518.out) hb); have n15_ := Aside0.mk (below_step (by repeat (first | (with_reducible first | exact HB.out | apply below_alloc | apply pw_below_drewN | apply below_drew1 | refine below_set ?_ GE458.out | refine below_set ?_ GE473.out | refine below_set ?_ GE480.out | refine below_set ?_ GE488.out | refine below_set ?_ GE518.out) | exact HB.out)) hb); clear HO_474000; clear HO_474001; clear HO_481000; clear HO_481001; clear HO_489000; clear HO_489001; clear HO507; clear HO510; clear HO513; clear HO516; clear BK458; clear BK473; clear BK480; clear BK488; clear BK518; clear HB; have HO_474000 := n0_; have HO_474001 := n1_; have HO_481000 := n2_; have HO_481001 := n3_; have HO_489000 := n4_; have HO_489001 := n5_; have HO507 := n6_; have HO510 := n7_; have HO513 := n8_; have HO516 := n9_; have BK458 := n10_; have BK473 := n11_; have BK480 := n12_; have BK488 := n13_; have BK518 := n14_; have HB := n15_; clear n0_ n1_ n2_ n3_ n4_ n5_ n6_ n7_ n8_ n9_ n10_ n11_ n12_ n13_ n14_ n15_; (try clear hb); (try clear hb2); (try clear hk); (try clear hi)))
             go_meet
             case rel => exact ⟨_, ((t517 != t472)), (by first | rfl | (simp; done) | (simp [*]; done)), H', ⟨by have := HJ11.out; have := HJ64.out; first | omega | exact Nat.le_refl _⟩, ⟨by (try simp only [hl481000_64]); (try simp only [hl481001_64]); (with_reducible repeat (first | apply Kd.R_alloc | apply Kd.R_drewN | apply Kd.R_drew)); exact Kd.R_mono HO_474000.out (fun _ hk => ⟨hk.1.1.1.1.1, ⟨hk.1.1.1.1.2.1, ⟨hk.1.1.1.1.2.2.1, ⟨hk.1.1.1.1.2.2.2.1, ⟨hk.1.1.1.1.2.2.2.2, ⟨hk.1.2, hk.2⟩⟩⟩⟩⟩⟩)⟩, ⟨by (try simp only [hl481000_64]); (try simp only [hl481001_64]); (with_reducible repeat (first | apply Kd.R_alloc | apply Kd.R_drewN | apply Kd.R_drew)); exact Kd.R_mono HO_474001.out (fun _ hk => ⟨hk.1.1.1.1.1, ⟨hk.1.1.1.1.2.1, ⟨hk.1.1.1.1.2.2.1, ⟨hk.1.1.1.1.2.2.2.1, ⟨hk.1.1.1.1.2.2.2.2, ⟨hk.1.2, hk.2⟩⟩⟩⟩⟩⟩)⟩, ⟨by (try simp only [hl481000_64]); (try simp only [hl481001_64]); (with_reducible repeat (first | apply Kd.R_alloc | apply Kd.R_drewN | apply Kd.R_drew)); exact Kd.R_mono HO_481000.out (fun _ hk => ⟨hk.1.1.1.1.1, ⟨hk.1.1.1.1.2.1, ⟨hk.1.1.1.1.2.2.1, ⟨hk.1.1.1.1.2.2.2.1, ⟨hk.1.1.1.1.2.2.2.2, ⟨hk.1.2, hk.2⟩⟩⟩⟩⟩⟩)⟩, ⟨by (try simp only [hl481000_64]); (try simp only [hl481001_64]); (with_reducible repeat (first | apply Kd.R_alloc | apply Kd.R_drewN | apply Kd.R_drew)); exact Kd.R_mono HO_481001.out (fun _ hk => ⟨hk.1.1.1.1.1, ⟨hk.1.1.1.1.2.1, ⟨hk.1.1.1.1.2.2.1, ⟨hk.1.1.1.1.2.2.2.1, ⟨hk.1.1.1.1.2.2.2.2, ⟨hk.1.2, hk.2⟩⟩⟩⟩⟩⟩)⟩, ⟨by (try simp only [hl481000_64]); (try simp only [hl481001_64]); (with_reducible repeat (first | apply Kd.R_alloc | apply Kd.R_drewN | apply Kd.R_drew)); exact Kd.R_mono HO_489000.out (fun _ hk => ⟨hk.1.1.1.1.1, ⟨hk.1.1.1.1.2.1, ⟨hk.1.1.1.1.2.2.1, ⟨hk.1.1.1.1.2.2.2.1, ⟨hk.1.1.1.1.2.2.2.2, ⟨hk.1.2, hk.2⟩⟩⟩⟩⟩⟩)⟩, ⟨by (try simp only [hl481000_64]); (try simp only [hl481001_64]); (with_reducible repeat (first | apply Kd.R_alloc | apply Kd.R_drewN | apply Kd.R_drew)); exact Kd.R_mono HO_489001.out (fun _ hk => ⟨hk.1.1.1.1.1, ⟨hk.1.1.1.1.2.1, ⟨hk.1.1.1.1.2.2.1, ⟨hk.1.1.1.1.2.2.2.1, ⟨hk.1.1.1.1.2.2.2.2, ⟨hk.1.2, hk.2⟩⟩⟩⟩⟩⟩)⟩, ⟨by (try simp only [hl481000_64]); (try simp only [hl481001_64]); (with_reducible repeat (first | apply Kd.R_alloc | apply Kd.R_drewN | apply Kd.R_drew)); exact Kd.R_mono HO513.out (fun _ hk => ⟨hk.1.1.1.1.1.1.1.2, ⟨hk.1.1.1.1.1.1.2, ⟨hk.1.1.1.1.1.2, ⟨hk.1.1.1.1.2, ⟨hk.1.1.1.2, ⟨hk.1.1.2, hk.1.1.1.1.1.1.1.1⟩⟩⟩⟩⟩⟩)⟩, ⟨by (try simp only [hl481000_64]); (try simp only [hl481001_64]); (with_reducible repeat (first | apply Kd.R_alloc | apply Kd.R_drewN | apply Kd.R_drew)); exact Kd.R_mono HO516.out (fun _ hk => ⟨hk.1.1.1.1.1.1.1.2, ⟨hk.1.1.1.1.1.1.2, ⟨hk.1.1.1.1.1.2, ⟨hk.1.1.1.1.2, ⟨hk.1.1.1.2, ⟨hk.1.1.2, hk.1.1.1.1.1.1.1.1⟩⟩⟩⟩⟩⟩)⟩, ⟨by (try simp only [hl481000_64]); (try simp only [hl481001_64]); (with_reducible repeat (first | refine blk_drewN ?_ _ | refine blk_drew ?_ | refine blk_alloc ?_ _)); exact BK458.out⟩, ⟨by (try simp only [hl481000_64]); (try simp only [hl481001_64]); (with_reducible repeat (first | refine blk_drewN ?_ _ | refine blk_drew ?_ | refine blk_alloc ?_ _)); exact BK473.out⟩, ⟨by (try simp only [hl481000_64]); (try simp only [hl481001_64]); (with_reducible repeat (first | refine blk_drewN ?_ _ | refine blk_drew ?_ | refine blk_alloc ?_ _)); exact BK480.out⟩, ⟨by (try simp only [hl481000_64]); (try simp only [hl481001_64]); (with_reducible repeat (first | refine blk_drewN ?_ _ | refine blk_drew ?_ | refine blk_alloc ?_ _)); exact BK488.out⟩, ⟨by (try simp only [hl481000_64]); (try simp only [hl481001_64]); (with_reducible repeat (first | refine blk_drewN ?_ _ | refine blk_drew ?_ | refine blk_alloc ?_ _)); exact BK518.out⟩, ⟨by repeat (first | (with_reducible first | exact HB.out | apply below_alloc | apply pw_below_drewN | apply below_drew1 | refine below_set ?_ GE458.out | refine below_set ?_ GE473.out | refine below_set ?_ GE480.out | refine below_set ?_ GE488.out | refine below_set ?_ GE518.out) | exact HB.out)⟩⟩
            ·replace c133 := Bool.eq_false_iff.mpr c133
             subst c133
             have H1 : (lw.j2 kj64 t501 true t502 t503) = some r := by rw [if_neg (show ¬ (false = true) by decide)] at H; exact H
             clear H
             have H := H1
             clear H1
             have H' := Aside0.mk H
             clear H
             have hnb144 := NB518_458.out
             have hnc144 := NB458_518.out
             have hnb145 := NB518_473.out
             have hnc145 := NB473_518.out
             have hnb146 := NB518_480.out
             have hnc146 := NB480_518.out
             have hnb147 := NB518_488.out
             have hnc147 := NB488_518.out
             have hcz148_0 : w124.cell? ⟨gb518, 0, none⟩ = some (.slice none 0 0) := (blk_cell BK518.out 0).trans rfl
             have hcz148_1 : w124.cell? ⟨gb518, 1, none⟩ = some (.slice none 0 0) := (blk_cell BK518.out 1).trans rfl
             have hfz148_0 := blk_frozen BK518.out 0
             have hfz148_1 := blk_frozen BK518.out 1
             have hnb149 := NB473_458.out
             have hnc149 := NB458_473.out
             have hnb150 := NB473_480.out
             have hnc150 := NB480_473.out
             have hnb151 := NB473_488.out
             have hnc151 := NB488_473.out
             have hcz152_0 : w124.cell? ⟨gb473, 0, none⟩ = some (.slice Ao22 t466.length co22) := (blk_cell BK473.out 0).trans rfl
             have hcz152_1 : w124.cell? ⟨gb473, 1, none⟩ = some (.slice Ao25 t469.length co25) := (blk_cell BK473.out 1).trans rfl
             have hfz152_0 := blk_frozen BK473.out 0
             have hfz152_1 := blk_frozen BK473.out 1
             go_wp2_with (first | ((with_reducible refine gate_callee (f := 18) rfl ?_); refine goesL_ (some 86) rfl rfl Try.func18 (by kernel_rfl) rfl #[.agg #[.slice Ao125 t511.length co125, .slice Ao131 t514.length co131], .agg #[.slice Ao22 t466.length co22, .slice Ao25 t469.length co25]] rfl (by (try simp only [List.map_toArray, List.map_cons, List.map_nil]); first | done | rfl | (simp only [List.length_drop, List.length_take]; rfl)) ?_; (with_reducible refine (laws_eqRotation.calls kj64 _ _ t511 _ _ t514 _ _ t466 _ _ t469 false _ ?side1 ?side2 ?side3 ?side4 ?side5 ?side6 ?side7 ?side8 A132.out).mono ?_); (case side1 => refine (Kd.R_reads' (e := 3) (base := w.heap.size) (ok := fun k_ => ((((((((some k_ ≠ (.slice Ao131 t514.length co131 : Value).ownBlock ∧ some k_ ≠ (.slice Ao22 t466.length co22 : Value).ownBlock) ∧ some k_ ≠ (.slice Ao25 t469.length co25 : Value).ownBlock) ∧ some k_ ≠ (.slice Ao29 t498.length co29 : Value).ownBlock) ∧ some k_ ≠ (.slice Ao33 t499.length co33 : Value).ownBlock) ∧ some k_ ≠ (.slice Ao36 t481.length co36 : Value).ownBlock) ∧ some k_ ≠ (.slice Ao41 t484.length co41 : Value).ownBlock) ∧ some k_ ≠ (.slice Ao121 t505.length co121 : Value).ownBlock) ∧ some k_ ≠ (.slice Ao122 t508.length co122 : Value).ownBlock)) (n := t511.length) (c := co125) ?_).2.2; exact (by (with_reducible repeat (first | apply Kd.R_alloc | apply Kd.R_drewN | apply Kd.R_drew)); exact (Kd.R_mono (Kd.R_far (p := ⟨gb518, 1, none⟩) (Kd.R_far (p := ⟨gb518, 0, none⟩) (Kd.R_types HO513.out BK518.out (by decide)) (fun _ hk => hk.2) (.slice Ao125 t511.length co125)) (fun _ hk => hk.2) (.slice Ao131 t514.length co131)) (fun _ h_ => h_.1)))); (case side2 => exact (Kd.R_reads' HO513.out).2.1); (case side3 => refine (Kd.R_reads' (e := 3) (base := w.heap.size) (ok := fun k_ => ((((((((some k_ ≠ (.slice Ao125 t511.length co125 : Value).ownBlock ∧ some k_ ≠ (.slice Ao22 t466.length co22 : Value).ownBlock) ∧ some k_ ≠ (.slice Ao25 t469.length co25 : Value).ownBlock) ∧ some k_ ≠ (.slice Ao29 t498.length co29 : Value).ownBlock) ∧ some k_ ≠ (.slice Ao33 t499.length co33 : Value).ownBlock) ∧ some k_ ≠ (.slice Ao36 t481.length co36 : Value).ownBlock) ∧ some k_ ≠ (.slice Ao41 t484.length co41 : Value).ownBlock) ∧ some k_ ≠ (.slice Ao121 t505.length co121 : Value).ownBlock) ∧ some k_ ≠ (.slice Ao122 t508.length co122 : Value).ownBlock)) (n := t514.length) (c := co131) ?_).2.2; exact (by (with_reducible repeat (first | apply Kd.R_alloc | apply Kd.R_drewN | apply Kd.R_drew)); exact (Kd.R_mono (Kd.R_far (p := ⟨gb518, 1, none⟩) (Kd.R_far (p := ⟨gb518, 0, none⟩) (Kd.R_types HO516.out BK518.out (by decide)) (fun _ hk => hk.2) (.slice Ao125 t511.length co125)) (fun _ hk => hk.2) (.slice Ao131 t514.length co131)) (fun _ h_ => h_.1)))); (case side4 => exact (Kd.R_reads' HO516.out).2.1); (case side5 => refine (Kd.R_reads' (e := 3) (base := w.heap.size) (ok := fun k_ => (((((some k_ ≠ (.slice Ao25 t469.length co25 : Value).ownBlock ∧ (some k_ ≠ (.slice Ao29 t498.length co29 : Value).ownBlock ∧ (some k_ ≠ (.slice Ao33 t499.length co33 : Value).ownBlock ∧ (some k_ ≠ (.slice Ao36 t481.length co36 : Value).ownBlock ∧ some k_ ≠ (.slice Ao41 t484.length co41 : Value).ownBlock)))) ∧ some k_ ≠ (.slice Ao121 t505.length co121 : Value).ownBlock) ∧ some k_ ≠ (.slice Ao122 t508.length co122 : Value).ownBlock) ∧ some k_ ≠ (.slice Ao125 t511.length co125 : Value).ownBlock) ∧ some k_ ≠ (.slice Ao131 t514.length co131 : Value).ownBlock)) (n := t466.length) (c := co22) ?_).2.2; exact (by (with_reducible repeat (first | apply Kd.R_alloc | apply Kd.R_drewN | apply Kd.R_drew)); exact (Kd.R_mono (Kd.R_far (p := ⟨gb518, 1, none⟩) (Kd.R_far (p := ⟨gb518, 0, none⟩) (Kd.R_types HO_474000.out BK518.out (by decide)) (fun _ hk => hk.2) (.slice Ao125 t511.length co125)) (fun _ hk => hk.2) (.slice Ao131 t514.length co131)) (fun _ h_ => h_.1)))); (case side6 => exact (Kd.R_reads' HO_474000.out).2.1); (case side7 => refine (Kd.R_reads' (e := 3) (base := w.heap.size) (ok := fun k_ => (((((some k_ ≠ (.slice Ao22 t466.length co22 : Value).ownBlock ∧ (some k_ ≠ (.slice Ao29 t498.length co29 : Value).ownBlock ∧ (some k_ ≠ (.slice Ao33 t499.length co33 : Value).ownBlock ∧ (some k_ ≠ (.slice Ao36 t481.length co36 : Value).ownBlock ∧ some k_ ≠ (.slice Ao41 t484.length co41 : Value).ownBlock)))) ∧ some k_ ≠ (.slice Ao121 t505.length co121 : Value).ownBlock) ∧ some k_ ≠ (.slice Ao122 t508.length co122 : Value).ownBlock) ∧ some k_ ≠ (.slice Ao125 t511.length co125 : Value).ownBlock) ∧ some k_ ≠ (.slice Ao131 t514.length co131 : Value).ownBlock)) (n := t469.length) (c := co25) ?_).2.2; exact (by (with_reducible repeat (first | apply Kd.R_alloc | apply Kd.R_drewN | apply Kd.R_drew)); exact (Kd.R_mono (Kd.R_far (p := ⟨gb518, 1, none⟩) (Kd.R_far (p := ⟨gb518, 0, none⟩) (Kd.R_types HO_474001.out BK518.out (by decide)) (fun _ hk => hk.2) (.slice Ao125 t511.length co125)) (fun _ hk => hk.2) (.slice Ao131 t514.length co131)) (fun _ h_ => h_.1)))); (case side8 => exact (Kd.R_reads' HO_474001.out).2.1); rintro e w153 ⟨rfl, hb⟩; refine ⟨_, rfl, ?_⟩; have n0_ := Aside0.mk (Kd.R_below (by (with_reducible repeat (first | apply Kd.R_alloc | apply Kd.R_drewN | apply Kd.R_drew)); exact (Kd.R_mono (Kd.R_far (p := ⟨gb518, 1, none⟩) (Kd.R_far (p := ⟨gb518, 0, none⟩) (Kd.R_types HO_474000.out BK518.out (by decide)) (fun _ hk => hk.2) (.slice Ao125 t511.length co125)) (fun _ hk => hk.2) (.slice Ao131 t514.length co131)) (fun _ h_ => h_.1))) hb); have n1_ := Aside0.mk (Kd.R_below (by (with_reducible repeat (first | apply Kd.R_alloc | apply Kd.R_drewN | apply Kd.R_drew)); exact (Kd.R_mono (Kd.R_far (p := ⟨gb518, 1, none⟩) (Kd.R_far (p := ⟨gb518, 0, none⟩) (Kd.R_types HO_474001.out BK518.out (by decide)) (fun _ hk => hk.2) (.slice Ao125 t511.length co125)) (fun _ hk => hk.2) (.slice Ao131 t514.length co131)) (fun _ h_ => h_.1))) hb); have n2_ := Aside0.mk (Kd.R_below (by (with_reducible repeat (first | apply Kd.R_alloc | apply Kd.R_drewN | apply Kd.R_drew)); exact (Kd.R_mono (Kd.R_far (p := ⟨gb518, 1, none⟩) (Kd.R_far (p := ⟨gb518, 0, none⟩) (Kd.R_types HO_481000.out BK518.out (by decide)) (fun _ hk => hk.2) (.slice Ao125 t511.length co125)) (fun _ hk => hk.2) (.slice Ao131 t514.length co131)) (fun _ h_ => h_.1))) hb); have n3_ := Aside0.mk (Kd.R_below (by (with_reducible repeat (first | apply Kd.R_alloc | apply Kd.R_drewN | apply Kd.R_drew)); exact (Kd.R_mono (Kd.R_far (p := ⟨gb518, 1, none⟩) (Kd.R_far (p := ⟨gb518, 0, none⟩) (Kd.R_types HO_481001.out BK518.out (by decide)) (fun _ hk => hk.2) (.slice Ao125 t511.length co125)) (fun _ hk => hk.2) (.slice Ao131 t514.length co131)) (fun _ h_ => h_.1))) hb); have n4_ := Aside0.mk (Kd.R_below (by (with_reducible repeat (first | apply Kd.R_alloc | apply Kd.R_drewN | apply Kd.R_drew)); exact (Kd.R_mono (Kd.R_far (p := ⟨gb518, 1, none⟩) (Kd.R_far (p := ⟨gb518, 0, none⟩) (Kd.R_types HO_489000.out BK518.out (by decide)) (fun _ hk => hk.2) (.slice Ao125 t511.length co125)) (fun _ hk => hk.2) (.slice Ao131 t514.length co131)) (fun _ h_ => h_.1))) hb); have n5_ := Aside0.mk (Kd.R_below (by (with_reducible repeat (first | apply Kd.R_alloc | apply Kd.R_drewN | apply Kd.R_drew)); exact (Kd.R_mono (Kd.R_far (p := ⟨gb518, 1, none⟩) (Kd.R_far (p := ⟨gb518, 0, none⟩) (Kd.R_types HO_489001.out BK518.out (by decide)) (fun _ hk => hk.2) (.slice Ao125 t511.length co125)) (fun _ hk => hk.2) (.slice Ao131 t514.length co131)) (fun _ h_ => h_.1))) hb); have n6_ := Aside0.mk (Kd.R_below (by (with_reducible repeat (first | apply Kd.R_alloc | apply Kd.R_drewN | apply Kd.R_drew)); exact (Kd.R_mono (Kd.R_far (p := ⟨gb518, 1, none⟩) (Kd.R_far (p := ⟨gb518, 0, none⟩) (Kd.R_types HO507.out BK518.out (by decide)) (fun _ hk => hk.2) (.slice Ao125 t511.length co125)) (fun _ hk => hk.2) (.slice Ao131 t514.length co131)) (fun _ h_ => h_.1))) hb); have n7_ := Aside0.mk (Kd.R_below (by (with_reducible repeat (first | apply Kd.R_alloc | apply Kd.R_drewN | apply Kd.R_drew)); exact (Kd.R_mono (Kd.R_far (p := ⟨gb518, 1, none⟩) (Kd.R_far (p := ⟨gb518, 0, none⟩) (Kd.R_types HO510.out BK518.out (by decide)) (fun _ hk => hk.2) (.slice Ao125 t511.length co125)) (fun _ hk => hk.2) (.slice Ao131 t514.length co131)) (fun _ h_ => h_.1))) hb); have n8_ := Aside0.mk (Kd.R_below (by (with_reducible repeat (first | apply Kd.R_alloc | apply Kd.R_drewN | apply Kd.R_drew)); exact (Kd.R_mono (Kd.R_far (p := ⟨gb518, 1, none⟩) (Kd.R_far (p := ⟨gb518, 0, none⟩) (Kd.R_types HO513.out BK518.out (by decide)) (fun _ hk => hk.2) (.slice Ao125 t511.length co125)) (fun _ hk => hk.2) (.slice Ao131 t514.length co131)) (fun _ h_ => h_.1))) hb); have n9_ := Aside0.mk (Kd.R_below (by (with_reducible repeat (first | apply Kd.R_alloc | apply Kd.R_drewN | apply Kd.R_drew)); exact (Kd.R_mono (Kd.R_far (p := ⟨gb518, 1, none⟩) (Kd.R_far (p := ⟨gb518, 0, none⟩) (Kd.R_types HO516.out BK518.out (by decide)) (fun _ hk => hk.2) (.slice Ao125 t511.length co125)) (fun _ hk => hk.2) (.slice Ao131 t514.length co131)) (fun _ h_ => h_.1))) hb); have n10_ := Aside0.mk (blk_below (g := gb458) (o := .cells #[.slice A0_0 l0_0.length c0_0, .slice A0_1 l0_1.length c0_1] 24 (0, 0)) (by (with_reducible repeat (first | refine blk_drewN ?_ _ | refine blk_drew ?_ | refine blk_alloc ?_ _)); refine blk_far ?_ NB458_518.out _; (with_reducible repeat (first | refine blk_drewN ?_ _ | refine blk_drew ?_ | refine blk_alloc ?_ _)); refine blk_far ?_ NB458_518.out _; (with_reducible repeat (first | refine blk_drewN ?_ _ | refine blk_drew ?_ | refine blk_alloc ?_ _)); exact BK458.out) hb); have n11_ := Aside0.mk (blk_below (g := gb473) (o := .cells #[.slice Ao22 t466.length co22, .slice Ao25 t469.length co25] 27 (0, 0)) (by (with_reducible repeat (first | refine blk_drewN ?_ _ | refine blk_drew ?_ | refine blk_alloc ?_ _)); refine blk_far ?_ NB473_518.out _; (with_reducible repeat (first | refine blk_drewN ?_ _ | refine blk_drew ?_ | refine blk_alloc ?_ _)); refine blk_far ?_ NB473_518.out _; (with_reducible repeat (first | refine blk_drewN ?_ _ | refine blk_drew ?_ | refine blk_alloc ?_ _)); exact BK473.out) hb); have n12_ := Aside0.mk (blk_below (g := gb480) (o := .cells #[.slice Ao29 t498.length co29, .slice Ao33 t499.length co33] 27 (0, 0)) (by (with_reducible repeat (first | refine blk_drewN ?_ _ | refine blk_drew ?_ | refine blk_alloc ?_ _)); refine blk_far ?_ NB480_518.out _; (with_reducible repeat (first | refine blk_drewN ?_ _ | refine blk_drew ?_ | refine blk_alloc ?_ _)); refine blk_far ?_ NB480_518.out _; (with_reducible repeat (first | refine blk_drewN ?_ _ | refine blk_drew ?_ | refine blk_alloc ?_ _)); exact BK480.out) hb); have n13_ := Aside0.mk (blk_below (g := gb488) (o := .cells #[.slice Ao36 t481.length co36, .slice Ao41 t484.length co41] 27 (0, 0)) (by (with_reducible repeat (first | refine blk_drewN ?_ _ | refine blk_drew ?_ | refine blk_alloc ?_ _)); refine blk_far ?_ NB488_518.out _; (with_reducible repeat (first | refine blk_drewN ?_ _ | refine blk_drew ?_ | refine blk_alloc ?_ _)); refine blk_far ?_ NB488_518.out _; (with_reducible repeat (first | refine blk_drewN ?_ _ | refine blk_drew ?_ | refine blk_alloc ?_ _)); exact BK488.out) hb); have n14_ := Aside0.mk (blk_below (g := gb518) (o := .cells #[.slice Ao125 t511.length co125, .slice Ao131 t514.length co131] 27 (0, 0)) (by (with_reducible repeat (first | refine blk_drewN ?_ _ | refine blk_drew ?_ | refine blk_alloc ?_ _)); refine blk_put (cs := #[.slice Ao125 t511.length co125, .slice none 0 0]) ?_ 1 _ rfl; (with_reducible repeat (first | refine blk_drewN ?_ _ | refine blk_drew ?_ | refine blk_alloc ?_ _)); refine blk_put (cs := #[.slice none 0 0, .slice none 0 0]) ?_ 0 _ rfl; (with_reducible repeat (first | refine blk_drewN ?_ _ | refine blk_drew ?_ | refine blk_alloc ?_ _)); exact BK518.out) hb); have n15_ := Aside0.mk (below_step (by repeat (first | (with_reducible first | exact HB.out | apply below_alloc | apply pw_below_drewN | apply below_drew1 | refine below_set ?_ GE458.out | refine below_set ?_ GE473.out | refine below_set ?_ GE480.out | refine below_set ?_ GE488.out | refine below_set ?_ GE518.out) | exact HB.out)) hb); clear HO_474000; clear HO_474001; clear HO_481000; clear HO_481001; clear HO_489000; clear HO_489001; clear HO507; clear HO510; clear HO513; clear HO516; clear BK458; clear BK473; clear BK480; clear BK488; clear BK518; clear HB; have HO_474000 := n0_; have HO_474001 := n1_; have HO_481000 := n2_; have HO_481001 := n3_; have HO_489000 := n4_; have HO_489001 := n5_; have HO507 := n6_; have HO510 := n7_; have HO513 := n8_; have HO516 := n9_; have BK458 := n10_; have BK473 := n11_; have BK480 := n12_; have BK488 := n13_; have BK518 := n14_; have HB := n15_; clear n0_ n1_ n2_ n3_ n4_ n5_ n6_ n7_ n8_ n9_ n10_ n11_ n12_ n13_ n14_ n15_; (try clear hb); (try clear hb2); (try clear hk); (try clear hi)))
             go_meet
             case rel => exact ⟨_, (true), (by first | rfl | (simp; done) | (simp [*]; done)), H', ⟨by have := HJ11.out; have := HJ64.out; first | omega | exact Nat.le_refl _⟩, ⟨by (try simp only [hl481000_64]); (try simp only [hl481001_64]); (with_reducible repeat (first | apply Kd.R_alloc | apply Kd.R_drewN | apply Kd.R_drew)); exact Kd.R_mono HO_474000.out (fun _ hk => ⟨hk.1.1.1.1.1, ⟨hk.1.1.1.1.2.1, ⟨hk.1.1.1.1.2.2.1, ⟨hk.1.1.1.1.2.2.2.1, ⟨hk.1.1.1.1.2.2.2.2, ⟨hk.1.2, hk.2⟩⟩⟩⟩⟩⟩)⟩, ⟨by (try simp only [hl481000_64]); (try simp only [hl481001_64]); (with_reducible repeat (first | apply Kd.R_alloc | apply Kd.R_drewN | apply Kd.R_drew)); exact Kd.R_mono HO_474001.out (fun _ hk => ⟨hk.1.1.1.1.1, ⟨hk.1.1.1.1.2.1, ⟨hk.1.1.1.1.2.2.1, ⟨hk.1.1.1.1.2.2.2.1, ⟨hk.1.1.1.1.2.2.2.2, ⟨hk.1.2, hk.2⟩⟩⟩⟩⟩⟩)⟩, ⟨by (try simp only [hl481000_64]); (try simp only [hl481001_64]); (with_reducible repeat (first | apply Kd.R_alloc | apply Kd.R_drewN | apply Kd.R_drew)); exact Kd.R_mono HO_481000.out (fun _ hk => ⟨hk.1.1.1.1.1, ⟨hk.1.1.1.1.2.1, ⟨hk.1.1.1.1.2.2.1, ⟨hk.1.1.1.1.2.2.2.1, ⟨hk.1.1.1.1.2.2.2.2, ⟨hk.1.2, hk.2⟩⟩⟩⟩⟩⟩)⟩, ⟨by (try simp only [hl481000_64]); (try simp only [hl481001_64]); (with_reducible repeat (first | apply Kd.R_alloc | apply Kd.R_drewN | apply Kd.R_drew)); exact Kd.R_mono HO_481001.out (fun _ hk => ⟨hk.1.1.1.1.1, ⟨hk.1.1.1.1.2.1, ⟨hk.1.1.1.1.2.2.1, ⟨hk.1.1.1.1.2.2.2.1, ⟨hk.1.1.1.1.2.2.2.2, ⟨hk.1.2, hk.2⟩⟩⟩⟩⟩⟩)⟩, ⟨by (try simp only [hl481000_64]); (try simp only [hl481001_64]); (with_reducible repeat (first | apply Kd.R_alloc | apply Kd.R_drewN | apply Kd.R_drew)); exact Kd.R_mono HO_489000.out (fun _ hk => ⟨hk.1.1.1.1.1, ⟨hk.1.1.1.1.2.1, ⟨hk.1.1.1.1.2.2.1, ⟨hk.1.1.1.1.2.2.2.1, ⟨hk.1.1.1.1.2.2.2.2, ⟨hk.1.2, hk.2⟩⟩⟩⟩⟩⟩)⟩, ⟨by (try simp only [hl481000_64]); (try simp only [hl481001_64]); (with_reducible repeat (first | apply Kd.R_alloc | apply Kd.R_drewN | apply Kd.R_drew)); exact Kd.R_mono HO_489001.out (fun _ hk => ⟨hk.1.1.1.1.1, ⟨hk.1.1.1.1.2.1, ⟨hk.1.1.1.1.2.2.1, ⟨hk.1.1.1.1.2.2.2.1, ⟨hk.1.1.1.1.2.2.2.2, ⟨hk.1.2, hk.2⟩⟩⟩⟩⟩⟩)⟩, ⟨by (try simp only [hl481000_64]); (try simp only [hl481001_64]); (with_reducible repeat (first | apply Kd.R_alloc | apply Kd.R_drewN | apply Kd.R_drew)); exact Kd.R_mono HO513.out (fun _ hk => ⟨hk.1.1.1.1.1.1.1.2, ⟨hk.1.1.1.1.1.1.2, ⟨hk.1.1.1.1.1.2, ⟨hk.1.1.1.1.2, ⟨hk.1.1.1.2, ⟨hk.1.1.2, hk.1.1.1.1.1.1.1.1⟩⟩⟩⟩⟩⟩)⟩, ⟨by (try simp only [hl481000_64]); (try simp only [hl481001_64]); (with_reducible repeat (first | apply Kd.R_alloc | apply Kd.R_drewN | apply Kd.R_drew)); exact Kd.R_mono HO516.out (fun _ hk => ⟨hk.1.1.1.1.1.1.1.2, ⟨hk.1.1.1.1.1.1.2, ⟨hk.1.1.1.1.1.2, ⟨hk.1.1.1.1.2, ⟨hk.1.1.1.2, ⟨hk.1.1.2, hk.1.1.1.1.1.1.1.1⟩⟩⟩⟩⟩⟩)⟩, ⟨by (try simp only [hl481000_64]); (try simp only [hl481001_64]); (with_reducible repeat (first | refine blk_drewN ?_ _ | refine blk_drew ?_ | refine blk_alloc ?_ _)); exact BK458.out⟩, ⟨by (try simp only [hl481000_64]); (try simp only [hl481001_64]); (with_reducible repeat (first | refine blk_drewN ?_ _ | refine blk_drew ?_ | refine blk_alloc ?_ _)); exact BK473.out⟩, ⟨by (try simp only [hl481000_64]); (try simp only [hl481001_64]); (with_reducible repeat (first | refine blk_drewN ?_ _ | refine blk_drew ?_ | refine blk_alloc ?_ _)); exact BK480.out⟩, ⟨by (try simp only [hl481000_64]); (try simp only [hl481001_64]); (with_reducible repeat (first | refine blk_drewN ?_ _ | refine blk_drew ?_ | refine blk_alloc ?_ _)); exact BK488.out⟩, ⟨by (try simp only [hl481000_64]); (try simp only [hl481001_64]); (with_reducible repeat (first | refine blk_drewN ?_ _ | refine blk_drew ?_ | refine blk_alloc ?_ _)); exact BK518.out⟩, ⟨by repeat (first | (with_reducible first | exact HB.out | apply below_alloc | apply pw_below_drewN | apply below_drew1 | refine below_set ?_ GE458.out | refine below_set ?_ GE473.out | refine below_set ?_ GE480.out | refine below_set ?_ GE488.out | refine below_set ?_ GE518.out) | exact HB.out)⟩⟩
           case rest =>
            clear HC109
            try clear c1
            try clear c2
            try clear p2
            try clear c3
            try clear c4
            try clear c4b0
            try clear c5
            try clear c6
            try clear c7
            try clear c8
            try clear c9
            try clear c10
            try clear c11
            try clear c12
            try clear c13
            try clear c14
            try clear c15
            try clear c16
            try clear c18
            try clear c23
            try clear c29
            try clear c30
            try clear c31
            try clear c32
            try clear c37
            try clear c38
            try clear c39
            try clear c43
            try clear c44
            try clear c45
            try clear c46
            try clear c48
            try clear c49
            try clear c52
            try clear c53
            try clear c54
            try clear c56
            try clear c57
            try clear c60
            try clear c63
            try clear c71
            try clear c72
            try clear c73
            try clear c76
            try clear c76b0
            try clear c78
            try clear c79
            try clear c80
            try clear c81
            try clear c83
            try clear c84
            try clear c87
            try clear c88
            try clear c89
            try clear c91
            try clear c92
            try clear c95
            try clear c98
            try clear c98b0
            try clear c99
            try clear c100
            try clear c101
            try clear c106
            try clear c106b0
            try clear c106b1
            try clear c110
            try clear c111
            try clear c112
            try clear c117
            try clear c118
            try clear c126
            try clear c127
            try clear c128
            try clear c129
            try clear c133
            try clear c134
            try clear c135
            try clear c136
            try clear c137
            try clear c139
            try clear c140
            try clear c141
            try clear c144
            try clear c145
            try clear c146
            try clear c147
            try clear c149
            try clear c150
            try clear c151
            try clear hcz102_0
            try clear hcz102_1
            try clear hcz104_0
            try clear hcz104_1
            try clear hcz113_0
            try clear hcz113_1
            try clear hcz115_0
            try clear hcz115_1
            try clear hcz119_0
            try clear hcz119_1
            try clear hcz130_0
            try clear hcz130_1
            try clear hcz138_0
            try clear hcz138_1
            try clear hcz142_0
            try clear hcz142_1
            try clear hcz148_0
            try clear hcz148_1
            try clear hcz14_0
            try clear hcz14_1
            try clear hcz152_0
            try clear hcz152_1
            try clear hcz16_0
            try clear hcz16_1
            try clear hcz24_0
            try clear hcz24_1
            try clear hcz26_0
            try clear hcz26_1
            try clear hcz32_0
            try clear hcz32_1
            try clear hcz40_0
            try clear hcz40_1
            try clear hcz47_0
            try clear hcz47_1
            try clear hcz50_0
            try clear hcz50_1
            try clear hcz55_0
            try clear hcz55_1
            try clear hcz58_0
            try clear hcz58_1
            try clear hcz6_0
            try clear hcz6_1
            try clear hcz74_0
            try clear hcz74_1
            try clear hcz82_0
            try clear hcz82_1
            try clear hcz85_0
            try clear hcz85_1
            try clear hcz90_0
            try clear hcz90_1
            try clear hcz93_0
            try clear hcz93_1
            try clear hfz102_0
            try clear hfz102_1
            try clear hfz104_0
            try clear hfz104_1
            try clear hfz113_0
            try clear hfz113_1
            try clear hfz115_0
            try clear hfz115_1
            try clear hfz119_0
            try clear hfz119_1
            try clear hfz130_0
            try clear hfz130_1
            try clear hfz138_0
            try clear hfz138_1
            try clear hfz142_0
            try clear hfz142_1
            try clear hfz148_0
            try clear hfz148_1
            try clear hfz14_0
            try clear hfz14_1
            try clear hfz152_0
            try clear hfz152_1
            try clear hfz16_0
            try clear hfz16_1
            try clear hfz24_0
            try clear hfz24_1
            try clear hfz26_0
            try clear hfz26_1
            try clear hfz32_0
            try clear hfz32_1
            try clear hfz40_0
            try clear hfz40_1
            try clear hfz47_0
            try clear hfz47_1
            try clear hfz50_0
            try clear hfz50_1
            try clear hfz55_0
            try clear hfz55_1
            try clear hfz58_0
            try clear hfz58_1
            try clear hfz6_0
            try clear hfz6_1
            try clear hfz74_0
            try clear hfz74_1
            try clear hfz82_0
            try clear hfz82_1
            try clear hfz85_0
            try clear hfz85_1
            try clear hfz90_0
            try clear hfz90_1
            try clear hfz93_0
            try clear hfz93_1
            try clear p2
            obtain ⟨kq, x92_108, rfl, HA, HJ108, HO_474000, HO_474001, HO_481000, HO_481001, HO_489000, HO_489001, HO_519000, HO_519001, BK458, BK473, BK480, BK488, BK518, HB⟩ := hcut
            have hl489000_108 := (Kd.R_reads' HO_489000.out).1
            rw [hl489000_108] at HO_489000
            (try simp only [hl489000_108])
            (try simp only [hl489000_108] at BK458)
            (try simp only [hl489000_108] at BK473)
            (try simp only [hl489000_108] at BK480)
            (try simp only [hl489000_108] at BK488)
            (try simp only [hl489000_108] at BK518)
            (try simp only [hl489000_108] at HO_474000)
            (try simp only [hl489000_108] at HO_474001)
            (try simp only [hl489000_108] at HO_481000)
            (try simp only [hl489000_108] at HO_481001)
            (try simp only [hl489000_108] at HO_489001)
            (try simp only [hl489000_108] at HO_519000)
            (try simp only [hl489000_108] at HO_519001)
            have hl489001_108 := (Kd.R_reads' HO_489001.out).1
            rw [hl489001_108] at HO_489001
            (try simp only [hl489001_108])
            (try simp only [hl489001_108] at BK458)
            (try simp only [hl489001_108] at BK473)
            (try simp only [hl489001_108] at BK480)
            (try simp only [hl489001_108] at BK488)
            (try simp only [hl489001_108] at BK518)
            (try simp only [hl489001_108] at HO_474000)
            (try simp only [hl489001_108] at HO_474001)
            (try simp only [hl489001_108] at HO_481000)
            (try simp only [hl489001_108] at HO_481001)
            (try simp only [hl489001_108] at HO_489000)
            (try simp only [hl489001_108] at HO_519000)
            (try simp only [hl489001_108] at HO_519001)
            cases kq with
            | zero => exact absurd HA.out (by simp [lw.j2])
            | succ kj108 =>
             have H := HA.out
             clear HA
             simp only [lw.j2] at H
             by_cases c154 : x92_108 = true
             ·subst c154
              have H1 : (some false) = some r := by rw [if_pos rfl] at H; exact H
              clear H
              have H := H1
              clear H1
              obtain rfl := Option.some.inj H
              go_wp2
              go_ret
              exact ⟨by first | rfl | (simp [errW_none, errW_some] <;> rfl) | (simp [*, errW_none, errW_some] <;> rfl), by repeat (first | (with_reducible first | exact HB.out | apply below_alloc | apply pw_below_drewN | apply below_drew1 | refine below_set ?_ GE458.out | refine below_set ?_ GE473.out | refine below_set ?_ GE480.out | refine below_set ?_ GE488.out | refine below_set ?_ GE518.out) | exact HB.out)⟩
             ·replace c154 := Bool.eq_false_iff.mpr c154
              subst c154
              have H1 : ((laws_heldRotation.f kj108 t502 t503 1).bind fun t520 => (if t520 < 0 then (some false) else (if t520 = t501 then (some true) else (some false)))) = some r := by rw [if_neg (show ¬ (false = true) by decide)] at H; exact H
              clear H
              have H := H1
              clear H1
              replace H := Option.bind_eq_some_iff.mp H
              obtain ⟨t520, A1550, H⟩ := H
              replace H : (if t520 < 0 then (some false) else (if t520 = t501 then (some true) else (some false))) = some r := H
              have A155 := Aside0.mk A1550
              clear A1550
              by_cases c156 : t520 < 0
              ·rw [if_pos c156] at H
               have c156b0 : decide (t520 < 0) = true := decide_eq_true c156
               clear c156
               obtain rfl := Option.some.inj H
               have hnb157 := NB488_458.out
               have hnc157 := NB458_488.out
               have hnb158 := NB488_473.out
               have hnc158 := NB473_488.out
               have hnb159 := NB488_480.out
               have hnc159 := NB480_488.out
               have hnb160 := NB488_518.out
               have hnc160 := NB518_488.out
               have hcz161_0 : wc.cell? ⟨gb488, 0, none⟩ = some (.slice Ao36 t502.length co36) := (blk_cell BK488.out 0).trans rfl
               have hcz161_1 : wc.cell? ⟨gb488, 1, none⟩ = some (.slice Ao41 t503.length co41) := (blk_cell BK488.out 1).trans rfl
               have hfz161_0 := blk_frozen BK488.out 0
               have hfz161_1 := blk_frozen BK488.out 1
               go_wp2_with (first | ((with_reducible refine gate_callee (f := 32) rfl ?_); refine goesL_ (some 95) rfl rfl Try.func32 (by kernel_rfl) rfl #[.agg #[.slice Ao36 t502.length co36, .slice Ao41 t503.length co41], .int .i64 1] rfl (by (try simp only [List.map_toArray, List.map_cons, List.map_nil]); first | done | rfl | (simp only [List.length_drop, List.length_take]; rfl)) ?_; (with_reducible refine (laws_heldRotation.calls kj108 _ _ t502 _ _ t503 1 t520 _ ?side1 ?side2 ?side3 ?side4 A155.out).mono ?_); (case side1 => repeat (first | exact (Kd.R_reads' HO_489000.out).2.2 | (with_reducible refine Kd.C_alloc ?_ _) | (with_reducible refine Kd.C_drewN ?_ _) | (with_reducible refine Kd.C_drew ?_))); (case side2 => exact (Kd.R_reads' HO_489000.out).2.1); (case side3 => repeat (first | exact (Kd.R_reads' HO_489001.out).2.2 | (with_reducible refine Kd.C_alloc ?_ _) | (with_reducible refine Kd.C_drewN ?_ _) | (with_reducible refine Kd.C_drew ?_))); (case side4 => exact (Kd.R_reads' HO_489001.out).2.1); rintro e w162 ⟨rfl, hb⟩; refine ⟨_, rfl, ?_⟩; have n0_ := Aside0.mk (Kd.R_below (by (with_reducible repeat (first | apply Kd.R_alloc | apply Kd.R_drewN | apply Kd.R_drew)); exact HO_474000.out) hb); have n1_ := Aside0.mk (Kd.R_below (by (with_reducible repeat (first | apply Kd.R_alloc | apply Kd.R_drewN | apply Kd.R_drew)); exact HO_474001.out) hb); have n2_ := Aside0.mk (Kd.R_below (by (with_reducible repeat (first | apply Kd.R_alloc | apply Kd.R_drewN | apply Kd.R_drew)); exact HO_481000.out) hb); have n3_ := Aside0.mk (Kd.R_below (by (with_reducible repeat (first | apply Kd.R_alloc | apply Kd.R_drewN | apply Kd.R_drew)); exact HO_481001.out) hb); have n4_ := Aside0.mk (Kd.R_below (by (with_reducible repeat (first | apply Kd.R_alloc | apply Kd.R_drewN | apply Kd.R_drew)); exact HO_489000.out) hb); have n5_ := Aside0.mk (Kd.R_below (by (with_reducible repeat (first | apply Kd.R_alloc | apply Kd.R_drewN | apply Kd.R_drew)); exact HO_489001.out) hb); have n6_ := Aside0.mk (Kd.R_below (by (with_reducible repeat (first | apply Kd.R_alloc | apply Kd.R_drewN | apply Kd.R_drew)); exact HO_519000.out) hb); have n7_ := Aside0.mk (Kd.R_below (by (with_reducible repeat (first | apply Kd.R_alloc | apply Kd.R_drewN | apply Kd.R_drew)); exact HO_519001.out) hb); have n8_ := Aside0.mk (blk_below (g := gb458) (o := .cells #[.slice A0_0 l0_0.length c0_0, .slice A0_1 l0_1.length c0_1] 24 (0, 0)) (by (with_reducible repeat (first | refine blk_drewN ?_ _ | refine blk_drew ?_ | refine blk_alloc ?_ _)); exact BK458.out) hb); have n9_ := Aside0.mk (blk_below (g := gb473) (o := .cells #[.slice Ao22 t466.length co22, .slice Ao25 t469.length co25] 27 (0, 0)) (by (with_reducible repeat (first | refine blk_drewN ?_ _ | refine blk_drew ?_ | refine blk_alloc ?_ _)); exact BK473.out) hb); have n10_ := Aside0.mk (blk_below (g := gb480) (o := .cells #[.slice Ao29 t498.length co29, .slice Ao33 t499.length co33] 27 (0, 0)) (by (with_reducible repeat (first | refine blk_drewN ?_ _ | refine blk_drew ?_ | refine blk_alloc ?_ _)); exact BK480.out) hb); have n11_ := Aside0.mk (blk_below (g := gb488) (o := .cells #[.slice Ao36 t502.length co36, .slice Ao41 t503.length co41] 27 (0, 0)) (by (with_reducible repeat (first | refine blk_drewN ?_ _ | refine blk_drew ?_ | refine blk_alloc ?_ _)); exact BK488.out) hb); have n12_ := Aside0.mk (blk_below (g := gb518) (o := .cells #[.slice Ao125 t511.length co125, .slice Ao131 t514.length co131] 27 (0, 0)) (by (with_reducible repeat (first | refine blk_drewN ?_ _ | refine blk_drew ?_ | refine blk_alloc ?_ _)); exact BK518.out) hb); have n13_ := Aside0.mk (below_step (by repeat (first | (with_reducible first | exact HB.out | apply below_alloc | apply pw_below_drewN | apply below_drew1 | refine below_set ?_ GE458.out | refine below_set ?_ GE473.out | refine below_set ?_ GE480.out | refine below_set ?_ GE488.out | refine below_set ?_ GE518.out) | exact HB.out)) hb); clear HO_474000; clear HO_474001; clear HO_481000; clear HO_481001; clear HO_489000; clear HO_489001; clear HO_519000; clear HO_519001; clear BK458; clear BK473; clear BK480; clear BK488; clear BK518; clear HB; have HO_474000 := n0_; have HO_474001 := n1_; have HO_481000 := n2_; have HO_481001 := n3_; have HO_489000 := n4_; have HO_489001 := n5_; have HO_519000 := n6_; have HO_519001 := n7_; have BK458 := n8_; have BK473 := n9_; have BK480 := n10_; have BK488 := n11_; have BK518 := n12_; have HB := n13_; clear n0_ n1_ n2_ n3_ n4_ n5_ n6_ n7_ n8_ n9_ n10_ n11_ n12_ n13_; (try clear hb); (try clear hb2); (try clear hk); (try clear hi)))
               go_ret
               exact ⟨by first | rfl | (simp [errW_none, errW_some] <;> rfl) | (simp [*, errW_none, errW_some] <;> rfl), by repeat (first | (with_reducible first | exact HB.out | apply below_alloc | apply pw_below_drewN | apply below_drew1 | refine below_set ?_ GE458.out | refine below_set ?_ GE473.out | refine below_set ?_ GE480.out | refine below_set ?_ GE488.out | refine below_set ?_ GE518.out) | exact HB.out)⟩
              ·rw [if_neg c156] at H
               have c156b0 : decide (t520 < 0) = false := decide_eq_false c156
               clear c156
               by_cases c163 : t520 = t501
               ·rw [if_pos c163] at H
                have c163b0 : (t520 == t501) = true := beq_iff_eq.mpr c163
                have c163b1 : (t520 != t501) = false := bne_eq_false_iff_eq.mpr c163
                clear c163
                obtain rfl := Option.some.inj H
                have hnb164 := NB488_458.out
                have hnc164 := NB458_488.out
                have hnb165 := NB488_473.out
                have hnc165 := NB473_488.out
                have hnb166 := NB488_480.out
                have hnc166 := NB480_488.out
                have hnb167 := NB488_518.out
                have hnc167 := NB518_488.out
                have hcz168_0 : wc.cell? ⟨gb488, 0, none⟩ = some (.slice Ao36 t502.length co36) := (blk_cell BK488.out 0).trans rfl
                have hcz168_1 : wc.cell? ⟨gb488, 1, none⟩ = some (.slice Ao41 t503.length co41) := (blk_cell BK488.out 1).trans rfl
                have hfz168_0 := blk_frozen BK488.out 0
                have hfz168_1 := blk_frozen BK488.out 1
                go_wp2_with (first | ((with_reducible refine gate_callee (f := 32) rfl ?_); refine goesL_ (some 95) rfl rfl Try.func32 (by kernel_rfl) rfl #[.agg #[.slice Ao36 t502.length co36, .slice Ao41 t503.length co41], .int .i64 1] rfl (by (try simp only [List.map_toArray, List.map_cons, List.map_nil]); first | done | rfl | (simp only [List.length_drop, List.length_take]; rfl)) ?_; (with_reducible refine (laws_heldRotation.calls kj108 _ _ t502 _ _ t503 1 t520 _ ?side1 ?side2 ?side3 ?side4 A155.out).mono ?_); (case side1 => repeat (first | exact (Kd.R_reads' HO_489000.out).2.2 | (with_reducible refine Kd.C_alloc ?_ _) | (with_reducible refine Kd.C_drewN ?_ _) | (with_reducible refine Kd.C_drew ?_))); (case side2 => exact (Kd.R_reads' HO_489000.out).2.1); (case side3 => repeat (first | exact (Kd.R_reads' HO_489001.out).2.2 | (with_reducible refine Kd.C_alloc ?_ _) | (with_reducible refine Kd.C_drewN ?_ _) | (with_reducible refine Kd.C_drew ?_))); (case side4 => exact (Kd.R_reads' HO_489001.out).2.1); rintro e w169 ⟨rfl, hb⟩; refine ⟨_, rfl, ?_⟩; have n0_ := Aside0.mk (Kd.R_below (by (with_reducible repeat (first | apply Kd.R_alloc | apply Kd.R_drewN | apply Kd.R_drew)); exact HO_474000.out) hb); have n1_ := Aside0.mk (Kd.R_below (by (with_reducible repeat (first | apply Kd.R_alloc | apply Kd.R_drewN | apply Kd.R_drew)); exact HO_474001.out) hb); have n2_ := Aside0.mk (Kd.R_below (by (with_reducible repeat (first | apply Kd.R_alloc | apply Kd.R_drewN | apply Kd.R_drew)); exact HO_481000.out) hb); have n3_ := Aside0.mk (Kd.R_below (by (with_reducible repeat (first | apply Kd.R_alloc | apply Kd.R_drewN | apply Kd.R_drew)); exact HO_481001.out) hb); have n4_ := Aside0.mk (Kd.R_below (by (with_reducible repeat (first | apply Kd.R_alloc | apply Kd.R_drewN | apply Kd.R_drew)); exact HO_489000.out) hb); have n5_ := Aside0.mk (Kd.R_below (by (with_reducible repeat (first | apply Kd.R_alloc | apply Kd.R_drewN | apply Kd.R_drew)); exact HO_489001.out) hb); have n6_ := Aside0.mk (Kd.R_below (by (with_reducible repeat (first | apply Kd.R_alloc | apply Kd.R_drewN | apply Kd.R_drew)); exact HO_519000.out) hb); have n7_ := Aside0.mk (Kd.R_below (by (with_reducible repeat (first | apply Kd.R_alloc | apply Kd.R_drewN | apply Kd.R_drew)); exact HO_519001.out) hb); have n8_ := Aside0.mk (blk_below (g := gb458) (o := .cells #[.slice A0_0 l0_0.length c0_0, .slice A0_1 l0_1.length c0_1] 24 (0, 0)) (by (with_reducible repeat (first | refine blk_drewN ?_ _ | refine blk_drew ?_ | refine blk_alloc ?_ _)); exact BK458.out) hb); have n9_ := Aside0.mk (blk_below (g := gb473) (o := .cells #[.slice Ao22 t466.length co22, .slice Ao25 t469.length co25] 27 (0, 0)) (by (with_reducible repeat (first | refine blk_drewN ?_ _ | refine blk_drew ?_ | refine blk_alloc ?_ _)); exact BK473.out) hb); have n10_ := Aside0.mk (blk_below (g := gb480) (o := .cells #[.slice Ao29 t498.length co29, .slice Ao33 t499.length co33] 27 (0, 0)) (by (with_reducible repeat (first | refine blk_drewN ?_ _ | refine blk_drew ?_ | refine blk_alloc ?_ _)); exact BK480.out) hb); have n11_ := Aside0.mk (blk_below (g := gb488) (o := .cells #[.slice Ao36 t502.length co36, .slice Ao41 t503.length co41] 27 (0, 0)) (by (with_reducible repeat (first | refine blk_drewN ?_ _ | refine blk_drew ?_ | refine blk_alloc ?_ _)); exact BK488.out) hb); have n12_ := Aside0.mk (blk_below (g := gb518) (o := .cells #[.slice Ao125 t511.length co125, .slice Ao131 t514.length co131] 27 (0, 0)) (by (with_reducible repeat (first | refine blk_drewN ?_ _ | refine blk_drew ?_ | refine blk_alloc ?_ _)); exact BK518.out) hb); have n13_ := Aside0.mk (below_step (by repeat (first | (with_reducible first | exact HB.out | apply below_alloc | apply pw_below_drewN | apply below_drew1 | refine below_set ?_ GE458.out | refine below_set ?_ GE473.out | refine below_set ?_ GE480.out | refine below_set ?_ GE488.out | refine below_set ?_ GE518.out) | exact HB.out)) hb); clear HO_474000; clear HO_474001; clear HO_481000; clear HO_481001; clear HO_489000; clear HO_489001; clear HO_519000; clear HO_519001; clear BK458; clear BK473; clear BK480; clear BK488; clear BK518; clear HB; have HO_474000 := n0_; have HO_474001 := n1_; have HO_481000 := n2_; have HO_481001 := n3_; have HO_489000 := n4_; have HO_489001 := n5_; have HO_519000 := n6_; have HO_519001 := n7_; have BK458 := n8_; have BK473 := n9_; have BK480 := n10_; have BK488 := n11_; have BK518 := n12_; have HB := n13_; clear n0_ n1_ n2_ n3_ n4_ n5_ n6_ n7_ n8_ n9_ n10_ n11_ n12_ n13_; (try clear hb); (try clear hb2); (try clear hk); (try clear hi)))
                go_ret
                exact ⟨by first | rfl | (simp [errW_none, errW_some] <;> rfl) | (simp [*, errW_none, errW_some] <;> rfl), by repeat (first | (with_reducible first | exact HB.out | apply below_alloc | apply pw_below_drewN | apply below_drew1 | refine below_set ?_ GE458.out | refine below_set ?_ GE473.out | refine below_set ?_ GE480.out | refine below_set ?_ GE488.out | refine below_set ?_ GE518.out) | exact HB.out)⟩
               ·rw [if_neg c163] at H
                have c163b0 : (t520 == t501) = false := beq_eq_false_iff_ne.mpr c163
                have c163b1 : (t520 != t501) = true := bne_iff_ne.mpr c163
                obtain rfl := Option.some.inj H
                have hnb170 := NB488_458.out
                have hnc170 := NB458_488.out
                have hnb171 := NB488_473.out
                have hnc171 := NB473_488.out
                have hnb172 := NB488_480.out
                have hnc172 := NB480_488.out
                have hnb173 := NB488_518.out
                have hnc173 := NB518_488.out
                have hcz174_0 : wc.cell? ⟨gb488, 0, none⟩ = some (.slice Ao36 t502.length co36) := (blk_cell BK488.out 0).trans rfl
                have hcz174_1 : wc.cell? ⟨gb488, 1, none⟩ = some (.slice Ao41 t503.length co41) := (blk_cell BK488.out 1).trans rfl
                have hfz174_0 := blk_frozen BK488.out 0
                have hfz174_1 := blk_frozen BK488.out 1
                go_wp2_with (first | ((with_reducible refine gate_callee (f := 32) rfl ?_); refine goesL_ (some 95) rfl rfl Try.func32 (by kernel_rfl) rfl #[.agg #[.slice Ao36 t502.length co36, .slice Ao41 t503.length co41], .int .i64 1] rfl (by (try simp only [List.map_toArray, List.map_cons, List.map_nil]); first | done | rfl | (simp only [List.length_drop, List.length_take]; rfl)) ?_; (with_reducible refine (laws_heldRotation.calls kj108 _ _ t502 _ _ t503 1 t520 _ ?side1 ?side2 ?side3 ?side4 A155.out).mono ?_); (case side1 => repeat (first | exact (Kd.R_reads' HO_489000.out).2.2 | (with_reducible refine Kd.C_alloc ?_ _) | (with_reducible refine Kd.C_drewN ?_ _) | (with_reducible refine Kd.C_drew ?_))); (case side2 => exact (Kd.R_reads' HO_489000.out).2.1); (case side3 => repeat (first | exact (Kd.R_reads' HO_489001.out).2.2 | (with_reducible refine Kd.C_alloc ?_ _) | (with_reducible refine Kd.C_drewN ?_ _) | (with_reducible refine Kd.C_drew ?_))); (case side4 => exact (Kd.R_reads' HO_489001.out).2.1); rintro e w175 ⟨rfl, hb⟩; refine ⟨_, rfl, ?_⟩; have n0_ := Aside0.mk (Kd.R_below (by (with_reducible repeat (first | apply Kd.R_alloc | apply Kd.R_drewN | apply Kd.R_drew)); exact HO_474000.out) hb); have n1_ := Aside0.mk (Kd.R_below (by (with_reducible repeat (first | apply Kd.R_alloc | apply Kd.R_drewN | apply Kd.R_drew)); exact HO_474001.out) hb); have n2_ := Aside0.mk (Kd.R_below (by (with_reducible repeat (first | apply Kd.R_alloc | apply Kd.R_drewN | apply Kd.R_drew)); exact HO_481000.out) hb); have n3_ := Aside0.mk (Kd.R_below (by (with_reducible repeat (first | apply Kd.R_alloc | apply Kd.R_drewN | apply Kd.R_drew)); exact HO_481001.out) hb); have n4_ := Aside0.mk (Kd.R_below (by (with_reducible repeat (first | apply Kd.R_alloc | apply Kd.R_drewN | apply Kd.R_drew)); exact HO_489000.out) hb); have n5_ := Aside0.mk (Kd.R_below (by (with_reducible repeat (first | apply Kd.R_alloc | apply Kd.R_drewN | apply Kd.R_drew)); exact HO_489001.out) hb); have n6_ := Aside0.mk (Kd.R_below (by (with_reducible repeat (first | apply Kd.R_alloc | apply Kd.R_drewN | apply Kd.R_drew)); exact HO_519000.out) hb); have n7_ := Aside0.mk (Kd.R_below (by (with_reducible repeat (first | apply Kd.R_alloc | apply Kd.R_drewN | apply Kd.R_drew)); exact HO_519001.out) hb); have n8_ := Aside0.mk (blk_below (g := gb458) (o := .cells #[.slice A0_0 l0_0.length c0_0, .slice A0_1 l0_1.length c0_1] 24 (0, 0)) (by (with_reducible repeat (first | refine blk_drewN ?_ _ | refine blk_drew ?_ | refine blk_alloc ?_ _)); exact BK458.out) hb); have n9_ := Aside0.mk (blk_below (g := gb473) (o := .cells #[.slice Ao22 t466.length co22, .slice Ao25 t469.length co25] 27 (0, 0)) (by (with_reducible repeat (first | refine blk_drewN ?_ _ | refine blk_drew ?_ | refine blk_alloc ?_ _)); exact BK473.out) hb); have n10_ := Aside0.mk (blk_below (g := gb480) (o := .cells #[.slice Ao29 t498.length co29, .slice Ao33 t499.length co33] 27 (0, 0)) (by (with_reducible repeat (first | refine blk_drewN ?_ _ | refine blk_drew ?_ | refine blk_alloc ?_ _)); exact BK480.out) hb); have n11_ := Aside0.mk (blk_below (g := gb488) (o := .cells #[.slice Ao36 t502.length co36, .slice Ao41 t503.length co41] 27 (0, 0)) (by (with_reducible repeat (first | refine blk_drewN ?_ _ | refine blk_drew ?_ | refine blk_alloc ?_ _)); exact BK488.out) hb); have n12_ := Aside0.mk (blk_below (g := gb518) (o := .cells #[.slice Ao125 t511.length co125, .slice Ao131 t514.length co131] 27 (0, 0)) (by (with_reducible repeat (first | refine blk_drewN ?_ _ | refine blk_drew ?_ | refine blk_alloc ?_ _)); exact BK518.out) hb); have n13_ := Aside0.mk (below_step (by repeat (first | (with_reducible first | exact HB.out | apply below_alloc | apply pw_below_drewN | apply below_drew1 | refine below_set ?_ GE458.out | refine below_set ?_ GE473.out | refine below_set ?_ GE480.out | refine below_set ?_ GE488.out | refine below_set ?_ GE518.out) | exact HB.out)) hb); clear HO_474000; clear HO_474001; clear HO_481000; clear HO_481001; clear HO_489000; clear HO_489001; clear HO_519000; clear HO_519001; clear BK458; clear BK473; clear BK480; clear BK488; clear BK518; clear HB; have HO_474000 := n0_; have HO_474001 := n1_; have HO_481000 := n2_; have HO_481001 := n3_; have HO_489000 := n4_; have HO_489001 := n5_; have HO_519000 := n6_; have HO_519001 := n7_; have BK458 := n8_; have BK473 := n9_; have BK480 := n10_; have BK488 := n11_; have BK518 := n12_; have HB := n13_; clear n0_ n1_ n2_ n3_ n4_ n5_ n6_ n7_ n8_ n9_ n10_ n11_ n12_ n13_; (try clear hb); (try clear hb2); (try clear hk); (try clear hi)))
                go_ret
                exact ⟨by first | rfl | (simp [errW_none, errW_some] <;> rfl) | (simp [*, errW_none, errW_some] <;> rfl), by repeat (first | (with_reducible first | exact HB.out | apply below_alloc | apply pw_below_drewN | apply below_drew1 | refine below_set ?_ GE458.out | refine below_set ?_ GE473.out | refine below_set ?_ GE480.out | refine below_set ?_ GE488.out | refine below_set ?_ GE518.out) | exact HB.out)⟩
          ·rw [if_neg c106] at H
           have c106b0 : (t504 == t501) = false := beq_eq_false_iff_ne.mpr c106
           have c106b1 : (t504 != t501) = true := bne_iff_ne.mpr c106
           obtain rfl := Option.some.inj H
           have hnb176 := NB488_458.out
           have hnc176 := NB458_488.out
           have hnb177 := NB488_473.out
           have hnc177 := NB473_488.out
           have hnb178 := NB488_480.out
           have hnc178 := NB480_488.out
           have hcz179_0 : wc.cell? ⟨gb488, 0, none⟩ = some (.slice Ao36 t481.length co36) := (blk_cell BK488.out 0).trans rfl
           have hcz179_1 : wc.cell? ⟨gb488, 1, none⟩ = some (.slice Ao41 t484.length co41) := (blk_cell BK488.out 1).trans rfl
           have hfz179_0 := blk_frozen BK488.out 0
           have hfz179_1 := blk_frozen BK488.out 1
           go_wp2_with (first | ((with_reducible refine gate_callee (f := 31) rfl ?_); refine goesL_ (some 68) rfl rfl Try.func31 (by kernel_rfl) rfl #[.agg #[.slice Ao36 t481.length co36, .slice Ao41 t484.length co41], .int .i64 1] rfl (by (try simp only [List.map_toArray, List.map_cons, List.map_nil]); first | done | rfl | (simp only [List.length_drop, List.length_take]; rfl)) ?_; (with_reducible refine (laws_markRotation.calls kj64 (fun k_ => some k_ = (.slice Ao36 t481.length co36 : Value).ownBlock) (.slice Ao36 t481.length co36) t481 (fun k_ => some k_ = (.slice Ao41 t484.length co41 : Value).ownBlock) (.slice Ao41 t484.length co41) t484 1 t501 t502 t503 w _ ?side1 ?side2 ?side3 ?side4 ?side5 A96.out).mono ?_); (case side1 => repeat (first | (with_reducible first | exact HB.out | apply below_alloc | apply pw_below_drewN | apply below_drew1 | refine below_set ?_ GE458.out | refine below_set ?_ GE473.out | refine below_set ?_ GE480.out | refine below_set ?_ GE488.out) | exact HB.out)); (case side2 => exact Kd.R_tight rfl HO_489000.out); (case side3 => exact fun k_ e_ => (HO_489000.out.1 k_ e_.symm).2.2.2.2); (case side4 => exact Kd.R_tight rfl HO_489001.out); (case side5 => exact fun k_ e_ => (HO_489001.out.1 k_ e_.symm).2.2.2.2); rintro e w180 ⟨rfl, hy0, hy1, hb, hkp⟩; refine ⟨_, rfl, ?_⟩; have n0_ := Aside0.mk (Kd.R_mono (ok' := fun k_ => some k_ ≠ (.slice Ao25 t469.length co25 : Value).ownBlock ∧ some k_ ≠ (.slice Ao29 t498.length co29 : Value).ownBlock ∧ some k_ ≠ (.slice Ao33 t499.length co33 : Value).ownBlock ∧ some k_ ≠ (.slice Ao36 t481.length co36 : Value).ownBlock ∧ some k_ ≠ (.slice Ao41 t484.length co41 : Value).ownBlock) (Kd.R_keptB (HO_474000.out) hkp (fun k_ hk_ hs_ => Or.elim hs_ (fun e_ => (hk_.2.2.2.1) e_) (fun e_ => (hk_.2.2.2.2) e_))) (fun k_ hk_ => ⟨hk_.1.1, hk_.1.2.1, hk_.1.2.2.1, hk_.1.2.2.2.1, hk_.1.2.2.2.2⟩)); have n1_ := Aside0.mk (Kd.R_mono (ok' := fun k_ => some k_ ≠ (.slice Ao22 t466.length co22 : Value).ownBlock ∧ some k_ ≠ (.slice Ao29 t498.length co29 : Value).ownBlock ∧ some k_ ≠ (.slice Ao33 t499.length co33 : Value).ownBlock ∧ some k_ ≠ (.slice Ao36 t481.length co36 : Value).ownBlock ∧ some k_ ≠ (.slice Ao41 t484.length co41 : Value).ownBlock) (Kd.R_keptB (HO_474001.out) hkp (fun k_ hk_ hs_ => Or.elim hs_ (fun e_ => (hk_.2.2.2.1) e_) (fun e_ => (hk_.2.2.2.2) e_))) (fun k_ hk_ => ⟨hk_.1.1, hk_.1.2.1, hk_.1.2.2.1, hk_.1.2.2.2.1, hk_.1.2.2.2.2⟩)); have n2_ := Aside0.mk (Kd.R_mono (ok' := fun k_ => some k_ ≠ (.slice Ao22 t466.length co22 : Value).ownBlock ∧ some k_ ≠ (.slice Ao25 t469.length co25 : Value).ownBlock ∧ some k_ ≠ (.slice Ao33 t499.length co33 : Value).ownBlock ∧ some k_ ≠ (.slice Ao36 t481.length co36 : Value).ownBlock ∧ some k_ ≠ (.slice Ao41 t484.length co41 : Value).ownBlock) (Kd.R_keptB (HO_481000.out) hkp (fun k_ hk_ hs_ => Or.elim hs_ (fun e_ => (hk_.2.2.2.1) e_) (fun e_ => (hk_.2.2.2.2) e_))) (fun k_ hk_ => ⟨hk_.1.1, hk_.1.2.1, hk_.1.2.2.1, hk_.1.2.2.2.1, hk_.1.2.2.2.2⟩)); have n3_ := Aside0.mk (Kd.R_mono (ok' := fun k_ => some k_ ≠ (.slice Ao22 t466.length co22 : Value).ownBlock ∧ some k_ ≠ (.slice Ao25 t469.length co25 : Value).ownBlock ∧ some k_ ≠ (.slice Ao29 t498.length co29 : Value).ownBlock ∧ some k_ ≠ (.slice Ao36 t481.length co36 : Value).ownBlock ∧ some k_ ≠ (.slice Ao41 t484.length co41 : Value).ownBlock) (Kd.R_keptB (HO_481001.out) hkp (fun k_ hk_ hs_ => Or.elim hs_ (fun e_ => (hk_.2.2.2.1) e_) (fun e_ => (hk_.2.2.2.2) e_))) (fun k_ hk_ => ⟨hk_.1.1, hk_.1.2.1, hk_.1.2.2.1, hk_.1.2.2.2.1, hk_.1.2.2.2.2⟩)); have n4_ := Aside0.mk (Kd.R_reok rfl hy0 (fun k_ e_ => HO_489000.out.1 k_ e_)); have n5_ := Aside0.mk (Kd.R_reok rfl hy1 (fun k_ e_ => HO_489001.out.1 k_ e_)); have n6_ := Aside0.mk (blk_kept (by (with_reducible repeat (first | refine blk_drewN ?_ _ | refine blk_drew ?_ | refine blk_alloc ?_ _)); exact BK458.out) hkp (fun hs_ => Or.elim hs_ (fun e_ => (fun e_ => (Kd.R_ne HO_489000.out BK458.out (by decide)) e_) e_) (fun e_ => (fun e_ => (Kd.R_ne HO_489001.out BK458.out (by decide)) e_) e_))); have n7_ := Aside0.mk (blk_kept (by (with_reducible repeat (first | refine blk_drewN ?_ _ | refine blk_drew ?_ | refine blk_alloc ?_ _)); exact BK473.out) hkp (fun hs_ => Or.elim hs_ (fun e_ => (fun e_ => (Kd.R_ne HO_489000.out BK473.out (by decide)) e_) e_) (fun e_ => (fun e_ => (Kd.R_ne HO_489001.out BK473.out (by decide)) e_) e_))); have n8_ := Aside0.mk (blk_kept (by (with_reducible repeat (first | refine blk_drewN ?_ _ | refine blk_drew ?_ | refine blk_alloc ?_ _)); exact BK480.out) hkp (fun hs_ => Or.elim hs_ (fun e_ => (fun e_ => (Kd.R_ne HO_489000.out BK480.out (by decide)) e_) e_) (fun e_ => (fun e_ => (Kd.R_ne HO_489001.out BK480.out (by decide)) e_) e_))); have n9_ := Aside0.mk (blk_kept (by (with_reducible repeat (first | refine blk_drewN ?_ _ | refine blk_drew ?_ | refine blk_alloc ?_ _)); exact BK488.out) hkp (fun hs_ => Or.elim hs_ (fun e_ => (fun e_ => (Kd.R_ne HO_489000.out BK488.out (by decide)) e_) e_) (fun e_ => (fun e_ => (Kd.R_ne HO_489001.out BK488.out (by decide)) e_) e_))); have n10_ := Aside0.mk (hb); clear HO_474000; clear HO_474001; clear HO_481000; clear HO_481001; clear HO_489000; clear HO_489001; clear BK458; clear BK473; clear BK480; clear BK488; clear HB; have HO_474000 := n0_; have HO_474001 := n1_; have HO_481000 := n2_; have HO_481001 := n3_; have HO_489000 := n4_; have HO_489001 := n5_; have BK458 := n6_; have BK473 := n7_; have BK480 := n8_; have BK488 := n9_; have HB := n10_; clear n0_ n1_ n2_ n3_ n4_ n5_ n6_ n7_ n8_ n9_ n10_; (try clear hb); (try clear hkp); (try clear hy0); (try clear hy1); have hcz181_0 : w180.cell? ⟨gb488, 0, none⟩ = some (.slice Ao36 t481.length co36) := (blk_cell BK488.out 0).trans rfl; have hcz181_1 : w180.cell? ⟨gb488, 1, none⟩ = some (.slice Ao41 t484.length co41) := (blk_cell BK488.out 1).trans rfl; have hfz181_0 := blk_frozen BK488.out 0; have hfz181_1 := blk_frozen BK488.out 1) | ((with_reducible refine gate_callee (f := 32) rfl ?_); refine goesL_ (some 71) rfl rfl Try.func32 (by kernel_rfl) rfl #[.agg #[.slice Ao36 t502.length co36, .slice Ao41 t503.length co41], .int .i64 1] rfl (by (try simp only [List.map_toArray, List.map_cons, List.map_nil]); first | done | (rw [show t502.length = t481.length from (Kd.R_reads' HO_489000.out).1.symm, show t503.length = t484.length from (Kd.R_reads' HO_489001.out).1.symm] <;> rfl) | rfl | (simp only [List.length_drop, List.length_take]; rfl)) ?_; (with_reducible refine (laws_heldRotation.calls kj64 _ _ t502 _ _ t503 1 t504 _ ?side1 ?side2 ?side3 ?side4 A97.out).mono ?_); (case side1 => repeat (first | exact (Kd.R_reads' HO_489000.out).2.2 | (with_reducible refine Kd.C_alloc ?_ _) | (with_reducible refine Kd.C_drewN ?_ _) | (with_reducible refine Kd.C_drew ?_))); (case side2 => rw [show t502.length = t481.length from (Kd.R_reads' HO_489000.out).1.symm]; exact (Kd.R_reads' HO_489000.out).2.1); (case side3 => repeat (first | exact (Kd.R_reads' HO_489001.out).2.2 | (with_reducible refine Kd.C_alloc ?_ _) | (with_reducible refine Kd.C_drewN ?_ _) | (with_reducible refine Kd.C_drew ?_))); (case side4 => rw [show t503.length = t484.length from (Kd.R_reads' HO_489001.out).1.symm]; exact (Kd.R_reads' HO_489001.out).2.1); rintro e w182 ⟨rfl, hb⟩; refine ⟨_, rfl, ?_⟩; have n0_ := Aside0.mk (Kd.R_below (by (with_reducible repeat (first | apply Kd.R_alloc | apply Kd.R_drewN | apply Kd.R_drew)); exact HO_474000.out) hb); have n1_ := Aside0.mk (Kd.R_below (by (with_reducible repeat (first | apply Kd.R_alloc | apply Kd.R_drewN | apply Kd.R_drew)); exact HO_474001.out) hb); have n2_ := Aside0.mk (Kd.R_below (by (with_reducible repeat (first | apply Kd.R_alloc | apply Kd.R_drewN | apply Kd.R_drew)); exact HO_481000.out) hb); have n3_ := Aside0.mk (Kd.R_below (by (with_reducible repeat (first | apply Kd.R_alloc | apply Kd.R_drewN | apply Kd.R_drew)); exact HO_481001.out) hb); have n4_ := Aside0.mk (Kd.R_below (by (with_reducible repeat (first | apply Kd.R_alloc | apply Kd.R_drewN | apply Kd.R_drew)); exact HO_489000.out) hb); have n5_ := Aside0.mk (Kd.R_below (by (with_reducible repeat (first | apply Kd.R_alloc | apply Kd.R_drewN | apply Kd.R_drew)); exact HO_489001.out) hb); have n6_ := Aside0.mk (blk_below (g := gb458) (o := .cells #[.slice A0_0 l0_0.length c0_0, .slice A0_1 l0_1.length c0_1] 24 (0, 0)) (by (with_reducible repeat (first | refine blk_drewN ?_ _ | refine blk_drew ?_ | refine blk_alloc ?_ _)); exact BK458.out) hb); have n7_ := Aside0.mk (blk_below (g := gb473) (o := .cells #[.slice Ao22 t466.length co22, .slice Ao25 t469.length co25] 27 (0, 0)) (by (with_reducible repeat (first | refine blk_drewN ?_ _ | refine blk_drew ?_ | refine blk_alloc ?_ _)); exact BK473.out) hb); have n8_ := Aside0.mk (blk_below (g := gb480) (o := .cells #[.slice Ao29 t498.length co29, .slice Ao33 t499.length co33] 27 (0, 0)) (by (with_reducible repeat (first | refine blk_drewN ?_ _ | refine blk_drew ?_ | refine blk_alloc ?_ _)); exact BK480.out) hb); have n9_ := Aside0.mk (blk_below (g := gb488) (o := .cells #[.slice Ao36 t481.length co36, .slice Ao41 t484.length co41] 27 (0, 0)) (by (with_reducible repeat (first | refine blk_drewN ?_ _ | refine blk_drew ?_ | refine blk_alloc ?_ _)); exact BK488.out) hb); have n10_ := Aside0.mk (below_step (by repeat (first | (with_reducible first | exact HB.out | apply below_alloc | apply pw_below_drewN | apply below_drew1 | refine below_set ?_ GE458.out | refine below_set ?_ GE473.out | refine below_set ?_ GE480.out | refine below_set ?_ GE488.out) | exact HB.out)) hb); clear HO_474000; clear HO_474001; clear HO_481000; clear HO_481001; clear HO_489000; clear HO_489001; clear BK458; clear BK473; clear BK480; clear BK488; clear HB; have HO_474000 := n0_; have HO_474001 := n1_; have HO_481000 := n2_; have HO_481001 := n3_; have HO_489000 := n4_; have HO_489001 := n5_; have BK458 := n6_; have BK473 := n7_; have BK480 := n8_; have BK488 := n9_; have HB := n10_; clear n0_ n1_ n2_ n3_ n4_ n5_ n6_ n7_ n8_ n9_ n10_; (try clear hb); (try clear hb2); (try clear hk); (try clear hi)))
           go_ret
           exact ⟨by first | rfl | (simp [errW_none, errW_some] <;> rfl) | (simp [*, errW_none, errW_some] <;> rfl), by repeat (first | (with_reducible first | exact HB.out | apply below_alloc | apply pw_below_drewN | apply below_drew1 | refine below_set ?_ GE458.out | refine below_set ?_ GE473.out | refine below_set ?_ GE480.out | refine below_set ?_ GE488.out) | exact HB.out)⟩
     ·replace c63 := Bool.eq_false_iff.mpr c63
      subst c63
      have H1 : (some false) = some r := by rw [if_neg (show ¬ (false = true) by decide)] at H; exact H
      clear H
      have H := H1
      clear H1
      obtain rfl := Option.some.inj H
      try go_wp2
      have n0_ := Aside0.mk (Kd.R_drew HO_474000.out)
      have n1_ := Aside0.mk (Kd.R_drew HO_474001.out)
      have n2_ := Aside0.mk (Kd.R_drew HO_481000.out)
      have n3_ := Aside0.mk (Kd.R_drew HO_481001.out)
      have n4_ := Aside0.mk (Kd.R_drew HO_489000.out)
      have n5_ := Aside0.mk (Kd.R_drew HO_489001.out)
      have n6_ := Aside0.mk (blk_drew BK458.out)
      have n7_ := Aside0.mk (blk_drew BK473.out)
      have n8_ := Aside0.mk (blk_drew BK480.out)
      have n9_ := Aside0.mk (blk_drew BK488.out)
      have n10_ := Aside0.mk (below_drew1 HB.out)
      clear HO_474000
      clear HO_474001
      clear HO_481000
      clear HO_481001
      clear HO_489000
      clear HO_489001
      clear BK458
      clear BK473
      clear BK480
      clear BK488
      clear HB
      have HO_474000 := n0_
      have HO_474001 := n1_
      have HO_481000 := n2_
      have HO_481001 := n3_
      have HO_489000 := n4_
      have HO_489001 := n5_
      have BK458 := n6_
      have BK473 := n7_
      have BK480 := n8_
      have BK488 := n9_
      have HB := n10_
      clear n0_ n1_ n2_ n3_ n4_ n5_ n6_ n7_ n8_ n9_ n10_
      refine start_ (n := 5) (S := fun w' => w'.cell? ⟨gb480, 0, none⟩ = some (.slice Ao29 t474.length co29) ∧ w'.cell? ⟨gb480, 1, none⟩ = some (.slice Ao33 t477.length co33) ∧ w'.cell? ⟨gb458, 0, none⟩ = some (.slice A0_0 l0_0.length c0_0) ∧ w'.cell? ⟨gb458, 1, none⟩ = some (.slice A0_1 l0_1.length c0_1)) (ds := []) #[false, false, false, false, false] (by kernel_rfl) rfl rfl ⟨(blk_cell BK480.out 0).trans rfl, (blk_cell BK480.out 1).trans rfl, (blk_cell BK458.out 0).trans rfl, (blk_cell BK458.out 1).trans rfl⟩ (fun hHeld => ?_)
      generalize wc.drew = w183 at HO_474000 HO_474001 HO_481000 HO_481001 HO_489000 HO_489001 BK458 BK473 BK480 BK488 HB hHeld ⊢
      refine take_ (i := 0) (N := some 45) (v := ?_) (a' := ?_) #[true, false, false, false, false] rfl rfl (by kernel_rfl) (fun _ _ _ h => h) (Or.inl ⟨by rfl, ?_⟩) hHeld ?_ ?_
      rotate_left
      ·rintro w' ⟨s0, s1, s2, s3⟩
       go_simp
       with_reducible rfl
      rotate_left
      ·simp only [Act.put, List.setIfInBounds_toArray, List.set_cons_zero, List.set_cons_succ, i64_w, i32_w]
       rfl
      refine take_ (i := 1) (N := some 46) (v := ?_) (a' := ?_) #[true, true, false, false, false] rfl rfl (by kernel_rfl) (fun _ _ _ h => h) (Or.inl ⟨by rfl, ?_⟩) hHeld ?_ ?_
      rotate_left
      ·rintro w' ⟨s0, s1, s2, s3⟩
       go_simp
       with_reducible rfl
      rotate_left
      ·simp only [Act.put, List.setIfInBounds_toArray, List.set_cons_zero, List.set_cons_succ, i64_w, i32_w]
       rfl
      refine one_ (i := 2) (N := some 47) #[true, true, true, false, false] rfl rfl (by kernel_rfl) (by decide) (fun K hK => ?_)
      refine goes_ Try.func16 (by kernel_rfl) rfl #[.agg #[.slice A0_0 l0_0.length c0_0, .slice A0_1 l0_1.length c0_1]] (by rfl) rfl rfl (by (try simp only [List.map_toArray, List.map_cons, List.map_nil]); first | done | rfl | (simp only [List.length_drop, List.length_take]; rfl)) ?_
      with_reducible refine (laws_toRotation.calls kj11 _ _ l0_0 _ _ l0_1 t490 t493 _ ?side1 ?side2 ?side3 ?side4 A61.out).mono ?_
      (case side1 => repeat (first | exact (Kd.C_below HR0_0.out HB.out) | (with_reducible refine Kd.C_alloc ?_ _) | (with_reducible refine Kd.C_drewN ?_ _) | (with_reducible refine Kd.C_drew ?_)))
      (case side2 => exact HC0_0.out)
      (case side3 => repeat (first | exact (Kd.C_below HR0_1.out HB.out) | (with_reducible refine Kd.C_alloc ?_ _) | (with_reducible refine Kd.C_drewN ?_ _) | (with_reducible refine Kd.C_drew ?_)))
      (case side4 => exact HC0_1.out)
      rintro e w184 ⟨v491, v494, rfl, ho0, ho1, hb⟩
      refine ⟨_, rfl, ?_⟩
      have n0_ := Aside0.mk (Kd.R_mono (Kd.R_told (Kd.R_told (Kd.R_old (by (with_reducible repeat (first | apply Kd.R_alloc | apply Kd.R_drewN | apply Kd.R_drew)); exact HO_474000.out) hb) (Kd.R_base ho0)) (Kd.R_base ho1)) (fun _ h_ => h_.1))
      have n1_ := Aside0.mk (Kd.R_mono (Kd.R_told (Kd.R_told (Kd.R_old (by (with_reducible repeat (first | apply Kd.R_alloc | apply Kd.R_drewN | apply Kd.R_drew)); exact HO_474001.out) hb) (Kd.R_base ho0)) (Kd.R_base ho1)) (fun _ h_ => h_.1))
      have n2_ := Aside0.mk (Kd.R_mono (Kd.R_told (Kd.R_told (Kd.R_old (by (with_reducible repeat (first | apply Kd.R_alloc | apply Kd.R_drewN | apply Kd.R_drew)); exact HO_481000.out) hb) (Kd.R_base ho0)) (Kd.R_base ho1)) (fun _ h_ => h_.1))
      have n3_ := Aside0.mk (Kd.R_mono (Kd.R_told (Kd.R_told (Kd.R_old (by (with_reducible repeat (first | apply Kd.R_alloc | apply Kd.R_drewN | apply Kd.R_drew)); exact HO_481001.out) hb) (Kd.R_base ho0)) (Kd.R_base ho1)) (fun _ h_ => h_.1))
      have n4_ := Aside0.mk (Kd.R_mono (Kd.R_told (Kd.R_told (Kd.R_old (by (with_reducible repeat (first | apply Kd.R_alloc | apply Kd.R_drewN | apply Kd.R_drew)); exact HO_489000.out) hb) (Kd.R_base ho0)) (Kd.R_base ho1)) (fun _ h_ => h_.1))
      have n5_ := Aside0.mk (Kd.R_mono (Kd.R_told (Kd.R_told (Kd.R_old (by (with_reducible repeat (first | apply Kd.R_alloc | apply Kd.R_drewN | apply Kd.R_drew)); exact HO_489001.out) hb) (Kd.R_base ho0)) (Kd.R_base ho1)) (fun _ h_ => h_.1))
      have n6_ := Aside0.mk (Kd.R_lower (Kd.R_new' (Kd.R_new' (Kd.R_new' (Kd.R_new' (Kd.R_new' (Kd.R_new' ho0 (Kd.R_lt (by (with_reducible repeat (first | apply Kd.R_alloc | apply Kd.R_drewN | apply Kd.R_drew)); exact HO_474000.out))) (Kd.R_lt (by (with_reducible repeat (first | apply Kd.R_alloc | apply Kd.R_drewN | apply Kd.R_drew)); exact HO_474001.out))) (Kd.R_lt (by (with_reducible repeat (first | apply Kd.R_alloc | apply Kd.R_drewN | apply Kd.R_drew)); exact HO_481000.out))) (Kd.R_lt (by (with_reducible repeat (first | apply Kd.R_alloc | apply Kd.R_drewN | apply Kd.R_drew)); exact HO_481001.out))) (Kd.R_lt (by (with_reducible repeat (first | apply Kd.R_alloc | apply Kd.R_drewN | apply Kd.R_drew)); exact HO_489000.out))) (Kd.R_lt (by (with_reducible repeat (first | apply Kd.R_alloc | apply Kd.R_drewN | apply Kd.R_drew)); exact HO_489001.out))) (below_size (by repeat (first | (with_reducible first | exact HB.out | apply below_alloc | apply pw_below_drewN | apply below_drew1 | refine below_set ?_ GE458.out | refine below_set ?_ GE473.out | refine below_set ?_ GE480.out | refine below_set ?_ GE488.out) | exact HB.out))))
      have n7_ := Aside0.mk (Kd.R_lower (Kd.R_new' (Kd.R_new' (Kd.R_new' (Kd.R_new' (Kd.R_new' (Kd.R_new' ho1 (Kd.R_lt (by (with_reducible repeat (first | apply Kd.R_alloc | apply Kd.R_drewN | apply Kd.R_drew)); exact HO_474000.out))) (Kd.R_lt (by (with_reducible repeat (first | apply Kd.R_alloc | apply Kd.R_drewN | apply Kd.R_drew)); exact HO_474001.out))) (Kd.R_lt (by (with_reducible repeat (first | apply Kd.R_alloc | apply Kd.R_drewN | apply Kd.R_drew)); exact HO_481000.out))) (Kd.R_lt (by (with_reducible repeat (first | apply Kd.R_alloc | apply Kd.R_drewN | apply Kd.R_drew)); exact HO_481001.out))) (Kd.R_lt (by (with_reducible repeat (first | apply Kd.R_alloc | apply Kd.R_drewN | apply Kd.R_drew)); exact HO_489000.out))) (Kd.R_lt (by (with_reducible repeat (first | apply Kd.R_alloc | apply Kd.R_drewN | apply Kd.R_drew)); exact HO_489001.out))) (below_size (by repeat (first | (with_reducible first | exact HB.out | apply below_alloc | apply pw_below_drewN | apply below_drew1 | refine below_set ?_ GE458.out | refine below_set ?_ GE473.out | refine below_set ?_ GE480.out | refine below_set ?_ GE488.out) | exact HB.out))))
      have n8_ := Aside0.mk (blk_below (g := gb458) (o := .cells #[.slice A0_0 l0_0.length c0_0, .slice A0_1 l0_1.length c0_1] 24 (0, 0)) (by (with_reducible repeat (first | refine blk_drewN ?_ _ | refine blk_drew ?_ | refine blk_alloc ?_ _)); exact BK458.out) hb)
      have n9_ := Aside0.mk (blk_below (g := gb473) (o := .cells #[.slice Ao22 t466.length co22, .slice Ao25 t469.length co25] 27 (0, 0)) (by (with_reducible repeat (first | refine blk_drewN ?_ _ | refine blk_drew ?_ | refine blk_alloc ?_ _)); exact BK473.out) hb)
      have n10_ := Aside0.mk (blk_below (g := gb480) (o := .cells #[.slice Ao29 t474.length co29, .slice Ao33 t477.length co33] 27 (0, 0)) (by (with_reducible repeat (first | refine blk_drewN ?_ _ | refine blk_drew ?_ | refine blk_alloc ?_ _)); exact BK480.out) hb)
      have n11_ := Aside0.mk (blk_below (g := gb488) (o := .cells #[.slice Ao36 t481.length co36, .slice Ao41 t484.length co41] 27 (0, 0)) (by (with_reducible repeat (first | refine blk_drewN ?_ _ | refine blk_drew ?_ | refine blk_alloc ?_ _)); exact BK488.out) hb)
      have n12_ := Aside0.mk (below_step (by repeat (first | (with_reducible first | exact HB.out | apply below_alloc | apply pw_below_drewN | apply below_drew1 | refine below_set ?_ GE458.out | refine below_set ?_ GE473.out | refine below_set ?_ GE480.out | refine below_set ?_ GE488.out) | exact HB.out)) hb)
      clear HO_474000
      clear HO_474001
      clear HO_481000
      clear HO_481001
      clear HO_489000
      clear HO_489001
      clear BK458
      clear BK473
      clear BK480
      clear BK488
      clear HB
      have HO_474000 := n0_
      have HO_474001 := n1_
      have HO_481000 := n2_
      have HO_481001 := n3_
      have HO_489000 := n4_
      have HO_489001 := n5_
      have HO492 := n6_
      have HO495 := n7_
      have BK458 := n8_
      have BK473 := n9_
      have BK480 := n10_
      have BK488 := n11_
      have HB := n12_
      clear n0_ n1_ n2_ n3_ n4_ n5_ n6_ n7_ n8_ n9_ n10_ n11_ n12_
      (try clear hb)
      (try clear hb2)
      (try clear hk)
      (try clear hi)
      (try clear ho0)
      (try clear ho1)
      obtain ⟨Ao185, co185, eo185⟩ := Kd.R_slice HO492.out
      (first | subst eo185 | (injection eo185 with f1_ f2_ f3_; have f4_ := f1_.symm; have f5_ := f3_.symm; clear f1_ f2_ f3_; subst f4_; subst f5_))
      obtain ⟨Ao186, co186, eo186⟩ := Kd.R_slice HO495.out
      (first | subst eo186 | (injection eo186 with f1_ f2_ f3_; have f4_ := f1_.symm; have f5_ := f3_.symm; clear f1_ f2_ f3_; subst f4_; subst f5_))
      refine hK.out _ _ ⟨(blk_cell BK480.out 0).trans rfl, (blk_cell BK480.out 1).trans rfl, (blk_cell BK458.out 0).trans rfl, (blk_cell BK458.out 1).trans rfl⟩ (fun hHeld => ?_)
      clear hK K
      refine norm_ (a' := ?_) ?_ ?_
      rotate_left
      ·show Act.put _ (some 47) _ = _
       simp only [Act.put, List.setIfInBounds_toArray, List.set_cons_zero, List.set_cons_succ, i64_w, i32_w]
       rfl
      refine one_ (i := 3) (N := some 48) #[true, true, true, true, false] rfl rfl (by kernel_rfl) (by decide) (fun K hK => ?_)
      refine goes_ Try.func18 (by kernel_rfl) rfl #[.agg #[.slice Ao29 t474.length co29, .slice Ao33 t477.length co33], .agg #[.slice Ao185 t490.length co185, .slice Ao186 t493.length co186]] (by rfl) rfl rfl (by (try simp only [List.map_toArray, List.map_cons, List.map_nil]); first | done | rfl | (simp only [List.length_drop, List.length_take]; rfl)) ?_
      with_reducible refine (laws_eqRotation.calls kj11 _ _ t474 _ _ t477 _ _ t490 _ _ t493 false _ ?side1 ?side2 ?side3 ?side4 ?side5 ?side6 ?side7 ?side8 A62.out).mono ?_
      (case side1 => repeat (first | exact (Kd.R_reads' HO_481000.out).2.2 | (with_reducible refine Kd.C_alloc ?_ _) | (with_reducible refine Kd.C_drewN ?_ _) | (with_reducible refine Kd.C_drew ?_)))
      (case side2 => exact (Kd.R_reads' HO_481000.out).2.1)
      (case side3 => repeat (first | exact (Kd.R_reads' HO_481001.out).2.2 | (with_reducible refine Kd.C_alloc ?_ _) | (with_reducible refine Kd.C_drewN ?_ _) | (with_reducible refine Kd.C_drew ?_)))
      (case side4 => exact (Kd.R_reads' HO_481001.out).2.1)
      (case side5 => repeat (first | exact (Kd.R_reads' HO492.out).2.2 | (with_reducible refine Kd.C_alloc ?_ _) | (with_reducible refine Kd.C_drewN ?_ _) | (with_reducible refine Kd.C_drew ?_)))
      (case side6 => exact (Kd.R_reads' HO492.out).2.1)
      (case side7 => repeat (first | exact (Kd.R_reads' HO495.out).2.2 | (with_reducible refine Kd.C_alloc ?_ _) | (with_reducible refine Kd.C_drewN ?_ _) | (with_reducible refine Kd.C_drew ?_)))
      (case side8 => exact (Kd.R_reads' HO495.out).2.1)
      rintro e w187 ⟨rfl, hb⟩
      refine ⟨_, rfl, ?_⟩
      have n0_ := Aside0.mk (Kd.R_below (by (with_reducible repeat (first | apply Kd.R_alloc | apply Kd.R_drewN | apply Kd.R_drew)); exact HO_474000.out) hb)
      have n1_ := Aside0.mk (Kd.R_below (by (with_reducible repeat (first | apply Kd.R_alloc | apply Kd.R_drewN | apply Kd.R_drew)); exact HO_474001.out) hb)
      have n2_ := Aside0.mk (Kd.R_below (by (with_reducible repeat (first | apply Kd.R_alloc | apply Kd.R_drewN | apply Kd.R_drew)); exact HO_481000.out) hb)
      have n3_ := Aside0.mk (Kd.R_below (by (with_reducible repeat (first | apply Kd.R_alloc | apply Kd.R_drewN | apply Kd.R_drew)); exact HO_481001.out) hb)
      have n4_ := Aside0.mk (Kd.R_below (by (with_reducible repeat (first | apply Kd.R_alloc | apply Kd.R_drewN | apply Kd.R_drew)); exact HO_489000.out) hb)
      have n5_ := Aside0.mk (Kd.R_below (by (with_reducible repeat (first | apply Kd.R_alloc | apply Kd.R_drewN | apply Kd.R_drew)); exact HO_489001.out) hb)
      have n6_ := Aside0.mk (Kd.R_below (by (with_reducible repeat (first | apply Kd.R_alloc | apply Kd.R_drewN | apply Kd.R_drew)); exact HO492.out) hb)
      have n7_ := Aside0.mk (Kd.R_below (by (with_reducible repeat (first | apply Kd.R_alloc | apply Kd.R_drewN | apply Kd.R_drew)); exact HO495.out) hb)
      have n8_ := Aside0.mk (blk_below (g := gb458) (o := .cells #[.slice A0_0 l0_0.length c0_0, .slice A0_1 l0_1.length c0_1] 24 (0, 0)) (by (with_reducible repeat (first | refine blk_drewN ?_ _ | refine blk_drew ?_ | refine blk_alloc ?_ _)); exact BK458.out) hb)
      have n9_ := Aside0.mk (blk_below (g := gb473) (o := .cells #[.slice Ao22 t466.length co22, .slice Ao25 t469.length co25] 27 (0, 0)) (by (with_reducible repeat (first | refine blk_drewN ?_ _ | refine blk_drew ?_ | refine blk_alloc ?_ _)); exact BK473.out) hb)
      have n10_ := Aside0.mk (blk_below (g := gb480) (o := .cells #[.slice Ao29 t474.length co29, .slice Ao33 t477.length co33] 27 (0, 0)) (by (with_reducible repeat (first | refine blk_drewN ?_ _ | refine blk_drew ?_ | refine blk_alloc ?_ _)); exact BK480.out) hb)
      have n11_ := Aside0.mk (blk_below (g := gb488) (o := .cells #[.slice Ao36 t481.length co36, .slice Ao41 t484.length co41] 27 (0, 0)) (by (with_reducible repeat (first | refine blk_drewN ?_ _ | refine blk_drew ?_ | refine blk_alloc ?_ _)); exact BK488.out) hb)
      have n12_ := Aside0.mk (below_step (by repeat (first | (with_reducible first | exact HB.out | apply below_alloc | apply pw_below_drewN | apply below_drew1 | refine below_set ?_ GE458.out | refine below_set ?_ GE473.out | refine below_set ?_ GE480.out | refine below_set ?_ GE488.out) | exact HB.out)) hb)
      clear HO_474000
      clear HO_474001
      clear HO_481000
      clear HO_481001
      clear HO_489000
      clear HO_489001
      clear HO492
      clear HO495
      clear BK458
      clear BK473
      clear BK480
      clear BK488
      clear HB
      have HO_474000 := n0_
      have HO_474001 := n1_
      have HO_481000 := n2_
      have HO_481001 := n3_
      have HO_489000 := n4_
      have HO_489001 := n5_
      have HO492 := n6_
      have HO495 := n7_
      have BK458 := n8_
      have BK473 := n9_
      have BK480 := n10_
      have BK488 := n11_
      have HB := n12_
      clear n0_ n1_ n2_ n3_ n4_ n5_ n6_ n7_ n8_ n9_ n10_ n11_ n12_
      (try clear hb)
      (try clear hb2)
      (try clear hk)
      (try clear hi)
      refine hK.out _ _ ⟨(blk_cell BK480.out 0).trans rfl, (blk_cell BK480.out 1).trans rfl, (blk_cell BK458.out 0).trans rfl, (blk_cell BK458.out 1).trans rfl⟩ (fun hHeld => ?_)
      clear hK K
      refine norm_ (a' := ?_) ?_ ?_
      rotate_left
      ·show Act.put _ (some 48) _ = _
       simp only [Act.put, List.setIfInBounds_toArray, List.set_cons_zero, List.set_cons_succ, i64_w, i32_w]
       rfl
      refine pure_ (i := 4) (N := some 49) (v := ?_) (a' := ?_) #[true, true, true, true, true] rfl rfl (by kernel_rfl) (fun _ _ _ h => h) (Or.inl ⟨by rfl, ?_⟩) ?_ ?_
      rotate_left
      ·intro w'
       go_simp
       with_reducible rfl
      rotate_left
      ·simp only [Act.put, List.setIfInBounds_toArray, List.set_cons_zero, List.set_cons_succ, i64_w, i32_w]
       rfl
      refine done_ (by kernel_rfl) ?_
      try go_wp2
      go_ret
      exact ⟨by first | rfl | (simp [errW_none, errW_some] <;> rfl) | (simp [*, errW_none, errW_some] <;> rfl), by repeat (first | (with_reducible first | exact HB.out | apply below_alloc | apply pw_below_drewN | apply below_drew1 | refine below_set ?_ GE458.out | refine below_set ?_ GE473.out | refine below_set ?_ GE480.out | refine below_set ?_ GE488.out) | exact HB.out)⟩

end Go.Proofs.Ytagbfaacklilbaa.X
