-- Written by a program of ours (wip/bin/xprint.py, over the kit's print.py) out of the translation. Not trusted: Lean checks it.
import Derived.Test.YtlldonokjgoajaaX0
import Derived.Test.YtlldonokjgoajaaFbGood
import Derived.Test.YtlldonokjgoajaaFbV
import Derived.Test.YtlldonokjgoajaaFimplContainersFor
import Derived.Test.YtlldonokjgoajaaFimplCountUnits
import Derived.Test.YtlldonokjgoajaaFimplFindContainer
import Derived.Test.YtlldonokjgoajaaFimplTotalWeight
import Derived.Test.YtlldonokjgoajaaFspecDrawHeaviestFirst
import Derived.Test.YtlldonokjgoajaaFspecHeaviestFirst
import Derived.Test.YtlldonokjgoajaaGHeavy
namespace Go.Proofs.Ytlldonokjgoajaa.X
open Go.RowKit Go.Proofs.YtlldonokjgoajaaW.PrintWords Go.Proofs.YtlldonokjgoajaaW.PrintLast Go.Proofs.YtlldonokjgoajaaW.PrintMore
attribute [local go_sem] max2_int min2_int max_two min_two max_three min_three max_four min_four   -- for this text's walks alone
set_option linter.unusedVariables false
set_option linter.unusedSimpArgs false

/-! ### laws_FnContainers: function 10 -/
mutual
def laws_FnContainers.j0 : Nat → List (S89) → List Int → Bool → Bool → Option (Bool)
 | 0, _, _, _, _ => none
 | k + 1, x3, x4, x5, x49 => if x49 = true then (none) else (if x5 = true then ((impl_TotalWeight.f k x3).bind fun bt1282 => ((impl_CountUnits.f k x3).bind fun bt1284 => (laws_FnContainers.l0 k x3 x4 bt1282.1 bt1282.2 bt1284.1 bt1284.2 0 0 0))) else (some ((x4.length : Int) == 0)))
def laws_FnContainers.l0 : Nat → List (S89) → List Int → Int → Bool → Int → Bool → Int → Int → Int → Option (Bool)
 | 0, _, _, _, _, _, _, _, _, _ => none
 | k + 1, x3, x4, x8, x9, x10, x11, x12, x13, x14 => if x14 < (x4.length : Int) then (if 0 ≤ x14 then (if 0 ≤ (rd x4 x14) then (if (rd x4 x14) < (x3.length : Int) then ((impl_FindContainer.f k x3 ((rd_T89 x3 (rd x4 x14)).f0)).bind fun bt1289 => (if bt1289.2 = true then (if bt1289.1 = (rd x4 x14) then ((impl_IsValidContainer.f k ((rd_T89 x3 (rd x4 x14)).f0) ((rd_T89 x3 (rd x4 x14)).f1) ((rd_T89 x3 (rd x4 x14)).f2) ((rd_T89 x3 (rd x4 x14)).f3) ((rd_T89 x3 (rd x4 x14)).f4)).bind fun t1292 => (if t1292 = true then (if x14 > 0 then (if 0 ≤ (wrap64 (x14 - 1)) then (if (wrap64 (x14 - 1)) < (x4.length : Int) then (if 0 ≤ (rd x4 (wrap64 (x14 - 1))) then (if (rd x4 (wrap64 (x14 - 1))) < (x3.length : Int) then (if ((rd_T89 x3 (rd x4 (wrap64 (x14 - 1)))).f2) < ((rd_T89 x3 (rd x4 x14)).f2) then (none) else (laws_FnContainers.l0 k x3 x4 x8 x9 x10 x11 (wrap64 (x12 + ((rd_T89 x3 (rd x4 x14)).f2))) x13 (wrap64 (x14 + 1)))) else (none)) else (none)) else (none)) else (none)) else (laws_FnContainers.l0 k x3 x4 x8 x9 x10 x11 (wrap64 (x12 + ((rd_T89 x3 (rd x4 x14)).f2))) x13 (wrap64 (x14 + 1)))) else (none))) else (none)) else (none))) else (none)) else (none)) else (none)) else (laws_FnContainers.l1 k x3 x8 x9 x10 x11 x12 x13 1)
def laws_FnContainers.l1 : Nat → List (S89) → Int → Bool → Int → Bool → Int → Int → Int → Option (Bool)
 | 0, _, _, _, _, _, _, _, _ => none
 | k + 1, x3, x8, x9, x10, x11, x12, x13, x18 => if x18 ≤ 9 then ((impl_ContainersFor.f k x3 x18).bind fun bt1295 => (if bt1295.2 = true then (laws_FnContainers.l1 k x3 x8 x9 x10 x11 x12 (wrap64 (x13 + (bt1295.1.length : Int))) (wrap64 (x18 + 1))) else (none))) else (if x9 = true then (if x11 = true then (if x12 = x8 then (if x13 = (x3.length : Int) then (if x10 ≥ (x3.length : Int) then (some (decide (x10 ≤ (wrap64 (2 * (x3.length : Int)))))) else (none)) else (none)) else (none)) else (none)) else (none))
end
def laws_FnContainers.f (k : Nat) (l0 : List Int) : Option (Bool) := (laws_vBig.f l0).bind fun t1268 => (if t1268 = true then (some true) else ((spec_DrawHeaviestFirst.f k l0).bind fun t1269 => ((impl_HeaviestFirst.f k t1269).bind fun bt1272 => ((spec_HeaviestFirst.f k t1269).bind fun bt1276 => (if (bt1272.2 != bt1276.2) = true then (none) else ((laws_vInts.f k bt1272.1 bt1276.1).bind fun t1280 => (if t1280 = true then ((impl_IsValidContainers.f k t1269).bind fun t1281 => (laws_FnContainers.j0 k t1269 bt1272.1 bt1272.2 (t1281 != bt1272.2))) else (none))))))))
theorem laws_FnContainers.mono_l : ∀ k, (∀ y0 y1 y2 y3, LeO (laws_FnContainers.j0 k y0 y1 y2 y3) (laws_FnContainers.j0 (k + 1) y0 y1 y2 y3)) ∧ (∀ y0 y1 y2 y3 y4 y5 y6 y7 y8, LeO (laws_FnContainers.l0 k y0 y1 y2 y3 y4 y5 y6 y7 y8) (laws_FnContainers.l0 (k + 1) y0 y1 y2 y3 y4 y5 y6 y7 y8)) ∧ (∀ y0 y1 y2 y3 y4 y5 y6 y7, LeO (laws_FnContainers.l1 k y0 y1 y2 y3 y4 y5 y6 y7) (laws_FnContainers.l1 (k + 1) y0 y1 y2 y3 y4 y5 y6 y7))
 | 0 => ⟨fun _ _ _ _ r h => by simp [laws_FnContainers.j0] at h, fun _ _ _ _ _ _ _ _ _ r h => by simp [laws_FnContainers.l0] at h, fun _ _ _ _ _ _ _ _ r h => by simp [laws_FnContainers.l1] at h⟩
 | k + 1 => by
  obtain ⟨ih0, ih1, ih2⟩ := laws_FnContainers.mono_l k
  refine ⟨?_, ?_, ?_⟩
  ·intro y0 y1 y2 y3
   unfold laws_FnContainers.j0
   repeat' first
   | (with_reducible exact ih0 _ _ _ _)
   | (with_reducible exact ih1 _ _ _ _ _ _ _ _ _)
   | (with_reducible exact ih2 _ _ _ _ _ _ _ _)
   | (with_reducible exact impl_ContainersFor.mono _ _ _)
   | (with_reducible exact impl_CountUnits.mono _ _)
   | (with_reducible exact impl_FindContainer.mono _ _ _)
   | (with_reducible exact impl_HeaviestFirst.mono _ _)
   | (with_reducible exact impl_IsValidContainer.mono _ _ _ _ _ _)
   | (with_reducible exact impl_IsValidContainers.mono _ _)
   | (with_reducible exact impl_TotalWeight.mono _ _)
   | (with_reducible exact laws_vInts.mono _ _ _)
   | (with_reducible exact spec_DrawHeaviestFirst.mono _ _)
   | (with_reducible exact spec_HeaviestFirst.mono _ _)
   | (with_reducible exact LeO.refl _)
   | (with_reducible exact LeO.none _)
   | (with_reducible refine LeO.ite ?_ ?_)
   | (with_reducible refine LeO.bind ?_ (fun _ => ?_))
   | exact ih0 _ _ _ _
   | exact ih1 _ _ _ _ _ _ _ _ _
   | exact ih2 _ _ _ _ _ _ _ _
   | exact impl_ContainersFor.mono _ _ _
   | exact impl_CountUnits.mono _ _
   | exact impl_FindContainer.mono _ _ _
   | exact impl_HeaviestFirst.mono _ _
   | exact impl_IsValidContainer.mono _ _ _ _ _ _
   | exact impl_IsValidContainers.mono _ _
   | exact impl_TotalWeight.mono _ _
   | exact laws_vInts.mono _ _ _
   | exact spec_DrawHeaviestFirst.mono _ _
   | exact spec_HeaviestFirst.mono _ _
   | exact LeO.none _
   | refine LeO.ite ?_ ?_
   | refine LeO.bind ?_ (fun _ => ?_)
  ·intro y0 y1 y2 y3 y4 y5 y6 y7 y8
   unfold laws_FnContainers.l0
   repeat' first
   | (with_reducible exact ih0 _ _ _ _)
   | (with_reducible exact ih1 _ _ _ _ _ _ _ _ _)
   | (with_reducible exact ih2 _ _ _ _ _ _ _ _)
   | (with_reducible exact impl_ContainersFor.mono _ _ _)
   | (with_reducible exact impl_CountUnits.mono _ _)
   | (with_reducible exact impl_FindContainer.mono _ _ _)
   | (with_reducible exact impl_HeaviestFirst.mono _ _)
   | (with_reducible exact impl_IsValidContainer.mono _ _ _ _ _ _)
   | (with_reducible exact impl_IsValidContainers.mono _ _)
   | (with_reducible exact impl_TotalWeight.mono _ _)
   | (with_reducible exact laws_vInts.mono _ _ _)
   | (with_reducible exact spec_DrawHeaviestFirst.mono _ _)
   | (with_reducible exact spec_HeaviestFirst.mono _ _)
   | (with_reducible exact LeO.refl _)
   | (with_reducible exact LeO.none _)
   | (with_reducible refine LeO.ite ?_ ?_)
   | (with_reducible refine LeO.bind ?_ (fun _ => ?_))
   | exact ih0 _ _ _ _
   | exact ih1 _ _ _ _ _ _ _ _ _
   | exact ih2 _ _ _ _ _ _ _ _
   | exact impl_ContainersFor.mono _ _ _
   | exact impl_CountUnits.mono _ _
   | exact impl_FindContainer.mono _ _ _
   | exact impl_HeaviestFirst.mono _ _
   | exact impl_IsValidContainer.mono _ _ _ _ _ _
   | exact impl_IsValidContainers.mono _ _
   | exact impl_TotalWeight.mono _ _
   | exact laws_vInts.mono _ _ _
   | exact spec_DrawHeaviestFirst.mono _ _
   | exact spec_HeaviestFirst.mono _ _
   | exact LeO.none _
   | refine LeO.ite ?_ ?_
   | refine LeO.bind ?_ (fun _ => ?_)
  ·intro y0 y1 y2 y3 y4 y5 y6 y7
   unfold laws_FnContainers.l1
   repeat' first
   | (with_reducible exact ih0 _ _ _ _)
   | (with_reducible exact ih1 _ _ _ _ _ _ _ _ _)
   | (with_reducible exact ih2 _ _ _ _ _ _ _ _)
   | (with_reducible exact impl_ContainersFor.mono _ _ _)
   | (with_reducible exact impl_CountUnits.mono _ _)
   | (with_reducible exact impl_FindContainer.mono _ _ _)
   | (with_reducible exact impl_HeaviestFirst.mono _ _)
   | (with_reducible exact impl_IsValidContainer.mono _ _ _ _ _ _)
   | (with_reducible exact impl_IsValidContainers.mono _ _)
   | (with_reducible exact impl_TotalWeight.mono _ _)
   | (with_reducible exact laws_vInts.mono _ _ _)
   | (with_reducible exact spec_DrawHeaviestFirst.mono _ _)
   | (with_reducible exact spec_HeaviestFirst.mono _ _)
   | (with_reducible exact LeO.refl _)
   | (with_reducible exact LeO.none _)
   | (with_reducible refine LeO.ite ?_ ?_)
   | (with_reducible refine LeO.bind ?_ (fun _ => ?_))
   | exact ih0 _ _ _ _
   | exact ih1 _ _ _ _ _ _ _ _ _
   | exact ih2 _ _ _ _ _ _ _ _
   | exact impl_ContainersFor.mono _ _ _
   | exact impl_CountUnits.mono _ _
   | exact impl_FindContainer.mono _ _ _
   | exact impl_HeaviestFirst.mono _ _
   | exact impl_IsValidContainer.mono _ _ _ _ _ _
   | exact impl_IsValidContainers.mono _ _
   | exact impl_TotalWeight.mono _ _
   | exact laws_vInts.mono _ _ _
   | exact spec_DrawHeaviestFirst.mono _ _
   | exact spec_HeaviestFirst.mono _ _
   | exact LeO.none _
   | refine LeO.ite ?_ ?_
   | refine LeO.bind ?_ (fun _ => ?_)
theorem laws_FnContainers.mono : ∀ a0 k, LeO (laws_FnContainers.f k a0) (laws_FnContainers.f (k + 1) a0) := by
 intro a0 k
 obtain ⟨ih0, ih1, ih2⟩ := laws_FnContainers.mono_l k
 unfold laws_FnContainers.f
 repeat' first
   | (with_reducible exact ih0 _ _ _ _)
   | (with_reducible exact ih1 _ _ _ _ _ _ _ _ _)
   | (with_reducible exact ih2 _ _ _ _ _ _ _ _)
   | (with_reducible exact impl_ContainersFor.mono _ _ _)
   | (with_reducible exact impl_CountUnits.mono _ _)
   | (with_reducible exact impl_FindContainer.mono _ _ _)
   | (with_reducible exact impl_HeaviestFirst.mono _ _)
   | (with_reducible exact impl_IsValidContainer.mono _ _ _ _ _ _)
   | (with_reducible exact impl_IsValidContainers.mono _ _)
   | (with_reducible exact impl_TotalWeight.mono _ _)
   | (with_reducible exact laws_vInts.mono _ _ _)
   | (with_reducible exact spec_DrawHeaviestFirst.mono _ _)
   | (with_reducible exact spec_HeaviestFirst.mono _ _)
   | (with_reducible exact LeO.refl _)
   | (with_reducible exact LeO.none _)
   | (with_reducible refine LeO.ite ?_ ?_)
   | (with_reducible refine LeO.bind ?_ (fun _ => ?_))
   | exact ih0 _ _ _ _
   | exact ih1 _ _ _ _ _ _ _ _ _
   | exact ih2 _ _ _ _ _ _ _ _
   | exact impl_ContainersFor.mono _ _ _
   | exact impl_CountUnits.mono _ _
   | exact impl_FindContainer.mono _ _ _
   | exact impl_HeaviestFirst.mono _ _
   | exact impl_IsValidContainer.mono _ _ _ _ _ _
   | exact impl_IsValidContainers.mono _ _
   | exact impl_TotalWeight.mono _ _
   | exact laws_vInts.mono _ _ _
   | exact spec_DrawHeaviestFirst.mono _ _
   | exact spec_HeaviestFirst.mono _ _
   | exact LeO.none _
   | refine LeO.ite ?_ ?_
   | refine LeO.bind ?_ (fun _ => ?_)
def laws_FnContainers.T19 : Bool × List (List Nat × List Nat) := (true, [([], []), ([0], [0]), ([1], [1]), ([2], [2]), ([2], [2]), ([2], [2]), ([4, 5, 2], [2, 4, 5]), ([6, 2], [2, 6]), ([3, 7, 2], [2, 3, 7]), ([2, 8], [2, 8]), ([9, 2], [9]), ([10], [10]), ([11, 10, 10], [10, 11]), ([12, 10], [10, 12]), ([10, 13], [10, 13]), ([14, 12], [14]), ([15], [15]), ([16, 15], [15, 16]), ([17, 15, 15], [15, 17]), ([18], [18]), ([18], [18]), ([18], [18]), ([21, 18], [18, 21]), ([20, 22, 18], [18, 20, 22]), ([23, 18], [18, 23]), ([19, 24, 18], [18, 19, 24]), ([25, 18], [18, 25]), ([26, 18], [18, 26]), ([18], [18]), ([28, 18], [18, 28]), ([27, 29, 18], [18, 27, 29]), ([18, 30, 15], [15, 18, 30]), ([15, 31], [15, 31])])
def laws_FnContainers.B19 : List Nat := [0, 1, 3, 7, 7, 7, 55, 119, 255, 511, 1023, 2047, 4095, 8191, 16383, 32767, 65535, 131071, 262143, 524287, 524287, 524287, 2621439, 7864319, 16252927, 33554431, 67108863, 134217727, 524287, 268959743, 1073741823, 2147483647, 4294967295]
theorem laws_FnContainers.tab19 : rtab .any (opsOf Try.f10 19) = laws_FnContainers.T19 := by kernel_rfl
theorem laws_FnContainers.bits19 : waitsOk laws_FnContainers.T19.2 laws_FnContainers.B19 = true := by kernel_rfl
set_option maxHeartbeats 8000000 in
set_option maxRecDepth 100000 in
theorem laws_FnContainers.calls (k : Nat) (A0 : Option Addr) (c0 : Nat) (l0 : List Int) (r : Bool) (w : World) (hr0 : Kd.C (Kd.int .u8) w A0 l0.length l0) (hc0 : l0.length ≤ c0) (h : laws_FnContainers.f k l0 = some r) :
  Calls Try.prog 10 #[.slice A0 l0.length c0] w fun e w' => e = .returned (.bool r) ∧ Below w.heap.size w w' := by
 have hu89 := Try.underlying89
 have HR0 := Aside0.mk hr0
 have HC0 := Aside0.mk hc0
 clear hr0 hc0
 have HB := Aside0.mk (Below.refl w.heap.size w)
 have H : ((laws_vBig.f l0).bind fun t1268 => (if t1268 = true then (some true) else ((spec_DrawHeaviestFirst.f k l0).bind fun t1269 => ((impl_HeaviestFirst.f k t1269).bind fun bt1272 => ((spec_HeaviestFirst.f k t1269).bind fun bt1276 => (if (bt1272.2 != bt1276.2) = true then (none) else ((laws_vInts.f k bt1272.1 bt1276.1).bind fun t1280 => (if t1280 = true then ((impl_IsValidContainers.f k t1269).bind fun t1281 => (laws_FnContainers.j0 k t1269 bt1272.1 bt1272.2 (t1281 != bt1272.2))) else (none))))))))) = some r := h
 clear h
 replace H := Option.bind_eq_some_iff.mp H
 obtain ⟨t1268, A20, H⟩ := H
 replace H : (if t1268 = true then (some true) else ((spec_DrawHeaviestFirst.f k l0).bind fun t1269 => ((impl_HeaviestFirst.f k t1269).bind fun bt1272 => ((spec_HeaviestFirst.f k t1269).bind fun bt1276 => (if (bt1272.2 != bt1276.2) = true then (none) else ((laws_vInts.f k bt1272.1 bt1276.1).bind fun t1280 => (if t1280 = true then ((impl_IsValidContainers.f k t1269).bind fun t1281 => (laws_FnContainers.j0 k t1269 bt1272.1 bt1272.2 (t1281 != bt1272.2))) else (none)))))))) = some r := H
 have A2 := Aside0.mk A20
 clear A20
 by_cases c3 : t1268 = true
 ·subst c3
  have H1 : (some true) = some r := by rw [if_pos rfl] at H; exact H
  clear H
  have H := H1
  clear H1
  obtain rfl := Option.some.inj H
  go_enter Try.func10, Try.ntmps10
  go_wp2_with (first | ((with_reducible refine gate_callee (f := 35) rfl ?_); refine goesL_ (some 22) rfl rfl Try.func35 (by kernel_rfl) rfl #[.slice A0 l0.length c0] rfl (by (try simp only [List.map_toArray, List.map_cons, List.map_nil]); first | done | rfl | (simp only [List.length_drop, List.length_take]; rfl)) ?_; (with_reducible refine (laws_vBig.calls _ _ l0 true _ ?side1 ?side2 A2.out).mono ?_); (case side1 => repeat (first | exact HR0.out | (with_reducible refine Kd.C_alloc ?_ _) | (with_reducible refine Kd.C_drewN ?_ _) | (with_reducible refine Kd.C_drew ?_))); (case side2 => exact HC0.out); rintro e w' ⟨rfl, ⟨nd, rfl⟩⟩; refine ⟨_, rfl, ?_⟩))
  go_ret
  exact ⟨by first | rfl | (simp [errW_none, errW_some] <;> rfl) | (simp [*, errW_none, errW_some] <;> rfl), by repeat (first | (with_reducible first | exact HB.out | apply below_alloc | apply pw_below_drewN | apply below_drew1) | exact HB.out)⟩
 ·replace c3 := Bool.eq_false_iff.mpr c3
  subst c3
  have H1 : ((spec_DrawHeaviestFirst.f k l0).bind fun t1269 => ((impl_HeaviestFirst.f k t1269).bind fun bt1272 => ((spec_HeaviestFirst.f k t1269).bind fun bt1276 => (if (bt1272.2 != bt1276.2) = true then (none) else ((laws_vInts.f k bt1272.1 bt1276.1).bind fun t1280 => (if t1280 = true then ((impl_IsValidContainers.f k t1269).bind fun t1281 => (laws_FnContainers.j0 k t1269 bt1272.1 bt1272.2 (t1281 != bt1272.2))) else (none))))))) = some r := by rw [if_neg (show ¬ (false = true) by decide)] at H; exact H
  clear H
  have H := H1
  clear H1
  replace H := Option.bind_eq_some_iff.mp H
  obtain ⟨t1269, A40, H⟩ := H
  replace H : ((impl_HeaviestFirst.f k t1269).bind fun bt1272 => ((spec_HeaviestFirst.f k t1269).bind fun bt1276 => (if (bt1272.2 != bt1276.2) = true then (none) else ((laws_vInts.f k bt1272.1 bt1276.1).bind fun t1280 => (if t1280 = true then ((impl_IsValidContainers.f k t1269).bind fun t1281 => (laws_FnContainers.j0 k t1269 bt1272.1 bt1272.2 (t1281 != bt1272.2))) else (none)))))) = some r := H
  have A4 := Aside0.mk A40
  clear A40
  replace H := Option.bind_eq_some_iff.mp H
  obtain ⟨⟨t1272, t1273⟩, A50, H⟩ := H
  replace H : ((spec_HeaviestFirst.f k t1269).bind fun bt1276 => (if (t1273 != bt1276.2) = true then (none) else ((laws_vInts.f k t1272 bt1276.1).bind fun t1280 => (if t1280 = true then ((impl_IsValidContainers.f k t1269).bind fun t1281 => (laws_FnContainers.j0 k t1269 t1272 t1273 (t1281 != t1273))) else (none))))) = some r := H
  have A5 := Aside0.mk A50
  clear A50
  replace H := Option.bind_eq_some_iff.mp H
  obtain ⟨⟨t1276, t1277⟩, A60, H⟩ := H
  replace H : (if (t1273 != t1277) = true then (none) else ((laws_vInts.f k t1272 t1276).bind fun t1280 => (if t1280 = true then ((impl_IsValidContainers.f k t1269).bind fun t1281 => (laws_FnContainers.j0 k t1269 t1272 t1273 (t1281 != t1273))) else (none)))) = some r := H
  have A6 := Aside0.mk A60
  clear A60
  have HC7 := Aside0.mk H
  clear H
  go_enter Try.func10, Try.ntmps10
  go_upto_region 6 with (first | ((with_reducible refine gate_callee (f := 35) rfl ?_); refine goesL_ (some 22) rfl rfl Try.func35 (by kernel_rfl) rfl #[.slice A0 l0.length c0] rfl (by (try simp only [List.map_toArray, List.map_cons, List.map_nil]); first | done | rfl | (simp only [List.length_drop, List.length_take]; rfl)) ?_; (with_reducible refine (laws_vBig.calls _ _ l0 false _ ?side1 ?side2 A2.out).mono ?_); (case side1 => repeat (first | exact HR0.out | (with_reducible refine Kd.C_alloc ?_ _) | (with_reducible refine Kd.C_drewN ?_ _) | (with_reducible refine Kd.C_drew ?_))); (case side2 => exact HC0.out); rintro e w' ⟨rfl, ⟨nd, rfl⟩⟩; refine ⟨_, rfl, ?_⟩) | ((with_reducible refine gate_callee (f := 70) rfl ?_); refine goesL_ (some 24) rfl rfl Try.func70 (by kernel_rfl) rfl #[.slice A0 l0.length c0] rfl (by (try simp only [List.map_toArray, List.map_cons, List.map_nil]); first | done | rfl | (simp only [List.length_drop, List.length_take]; rfl)) ?_; (with_reducible refine (spec_DrawHeaviestFirst.calls k _ _ l0 t1269 _ ?side1 ?side2 A4.out).mono ?_); (case side1 => repeat (first | exact HR0.out | (with_reducible refine Kd.C_alloc ?_ _) | (with_reducible refine Kd.C_drewN ?_ _) | (with_reducible refine Kd.C_drew ?_))); (case side2 => exact HC0.out); rintro e w8 ⟨v1270, rfl, ho0, hb⟩; refine ⟨_, rfl, ?_⟩; have n0_ := Aside0.mk (Kd.R_lower ho0 (below_size (by repeat (first | (with_reducible first | exact HB.out | apply below_alloc | apply pw_below_drewN | apply below_drew1) | exact HB.out)))); have n1_ := Aside0.mk (below_step (by repeat (first | (with_reducible first | exact HB.out | apply below_alloc | apply pw_below_drewN | apply below_drew1) | exact HB.out)) hb); clear HB; have HO1271 := n0_; have HB := n1_; clear n0_ n1_; (try clear hb); (try clear hb2); (try clear hk); (try clear hi); (try clear ho0); obtain ⟨Ao9, co9, eo9⟩ := Kd.R_slice HO1271.out; subst eo9) | ((with_reducible refine gate_callee (f := 65) rfl ?_); refine goesL_ (some 27) rfl rfl Try.func65 (by kernel_rfl) rfl #[.slice Ao9 t1269.length co9] rfl (by (try simp only [List.map_toArray, List.map_cons, List.map_nil]); first | done | rfl | (simp only [List.length_drop, List.length_take]; rfl)) ?_; (with_reducible refine (impl_HeaviestFirst.calls k _ _ t1269 t1272 t1273 _ ?side1 ?side2 A5.out).mono ?_); (case side1 => repeat (first | exact (Kd.R_reads' HO1271.out).2.2 | (with_reducible refine Kd.C_alloc ?_ _) | (with_reducible refine Kd.C_drewN ?_ _) | (with_reducible refine Kd.C_drew ?_))); (case side2 => exact (Kd.R_reads' HO1271.out).2.1); rintro e w10 ⟨v1274, rfl, ho0, hb⟩; refine ⟨_, rfl, ?_⟩; have n0_ := Aside0.mk (Kd.R_below (by (with_reducible repeat (first | apply Kd.R_alloc | apply Kd.R_drewN | apply Kd.R_drew)); exact HO1271.out) hb); have n1_ := Aside0.mk (Kd.R_lower ho0 (below_size (by repeat (first | (with_reducible first | exact HB.out | apply below_alloc | apply pw_below_drewN | apply below_drew1) | exact HB.out)))); have n2_ := Aside0.mk (below_step (by repeat (first | (with_reducible first | exact HB.out | apply below_alloc | apply pw_below_drewN | apply below_drew1) | exact HB.out)) hb); clear HO1271; clear HB; have HO1271 := n0_; have HO1275 := n1_; have HB := n2_; clear n0_ n1_ n2_; (try clear hb); (try clear hb2); (try clear hk); (try clear hi); (try clear ho0)) | ((with_reducible refine gate_callee (f := 64) rfl ?_); refine goesL_ (some 32) rfl rfl Try.func64 (by kernel_rfl) rfl #[.slice Ao9 t1269.length co9] rfl (by (try simp only [List.map_toArray, List.map_cons, List.map_nil]); first | done | rfl | (simp only [List.length_drop, List.length_take]; rfl)) ?_; (with_reducible refine (spec_HeaviestFirst.calls k _ _ t1269 t1276 t1277 _ ?side1 ?side2 A6.out).mono ?_); (case side1 => repeat (first | exact (Kd.R_reads' HO1271.out).2.2 | (with_reducible refine Kd.C_alloc ?_ _) | (with_reducible refine Kd.C_drewN ?_ _) | (with_reducible refine Kd.C_drew ?_))); (case side2 => exact (Kd.R_reads' HO1271.out).2.1); rintro e w11 ⟨v1278, rfl, ho0, hb⟩; refine ⟨_, rfl, ?_⟩; have n0_ := Aside0.mk (Kd.R_below (by (with_reducible repeat (first | apply Kd.R_alloc | apply Kd.R_drewN | apply Kd.R_drew)); exact HO1271.out) hb); have n1_ := Aside0.mk (Kd.R_elder' (by (with_reducible repeat (first | apply Kd.R_alloc | apply Kd.R_drewN | apply Kd.R_drew)); exact HO1275.out) (Kd.R_base ho0) hb); have n2_ := Aside0.mk (Kd.R_lower (Kd.R_new' ho0 (Kd.R_lt (by (with_reducible repeat (first | apply Kd.R_alloc | apply Kd.R_drewN | apply Kd.R_drew)); exact HO1275.out))) (below_size (by repeat (first | (with_reducible first | exact HB.out | apply below_alloc | apply pw_below_drewN | apply below_drew1) | exact HB.out)))); have n3_ := Aside0.mk (below_step (by repeat (first | (with_reducible first | exact HB.out | apply below_alloc | apply pw_below_drewN | apply below_drew1) | exact HB.out)) hb); clear HO1271; clear HO1275; clear HB; have HO1271 := n0_; have HO1275 := n1_; have HO1279 := n2_; have HB := n3_; clear n0_ n1_ n2_ n3_; (try clear hb); (try clear hb2); (try clear hk); (try clear hi); (try clear ho0)))
  (try simp only [Act.put, List.setIfInBounds_toArray, List.set_cons_zero, List.set_cons_succ])
  go_cut [49] (fun v49 wc => ∃ (kq : Nat) (x49_6 : Bool), v49 = .bool x49_6 ∧ Aside0 (laws_FnContainers.j0 kq t1269 t1272 t1273 x49_6 = some r) ∧ Aside0 (kq ≤ k) ∧ Aside0 (Kd.R k89 89 wc w.heap.size (fun _ => True) (.slice Ao9 t1269.length co9) t1269) ∧ Aside0 (Kd.R (Kd.int .i64) 3 wc w.heap.size (fun _ => True) v1274 t1272) ∧ Aside0 (Below w.heap.size w wc))
  case first =>
   have H := HC7.out
   clear HC7
   by_cases c12 : (t1273 != t1277) = true
   ·rw [if_pos c12] at H
    have c12b0 : (t1273 != t1277) = true := c12
    (try (have c12b1 : decide (t1273 = t1277) = false := by simpa using c12))
    (try (have c12b2 : (t1273 == t1277) = false := by simpa using c12))
    (try (have c12b3 : ¬ (t1273 = t1277) := by simpa using c12))
    clear c12
    (first | rw [c12b0] | (simp only [i64_w, i32_w]; rw [c12b0]) | skip)
    exact absurd H (by simp)
   ·rw [if_neg c12] at H
    have c12b0 : (t1273 != t1277) = false := by simpa using c12
    (try (have c12b1 : decide (t1273 = t1277) = true := by simpa using c12))
    (try (have c12b2 : (t1273 == t1277) = true := by simpa using c12))
    clear c12
    (first | rw [c12b0] | (simp only [i64_w, i32_w]; rw [c12b0]) | skip)
    replace H := Option.bind_eq_some_iff.mp H
    obtain ⟨t1280, A130, H⟩ := H
    replace H : (if t1280 = true then ((impl_IsValidContainers.f k t1269).bind fun t1281 => (laws_FnContainers.j0 k t1269 t1272 t1273 (t1281 != t1273))) else (none)) = some r := H
    have A13 := Aside0.mk A130
    clear A130
    by_cases c14 : t1280 = true
    ·subst c14
     have H1 : ((impl_IsValidContainers.f k t1269).bind fun t1281 => (laws_FnContainers.j0 k t1269 t1272 t1273 (t1281 != t1273))) = some r := by rw [if_pos rfl] at H; exact H
     clear H
     have H := H1
     clear H1
     replace H := Option.bind_eq_some_iff.mp H
     obtain ⟨t1281, A150, H⟩ := H
     replace H : (laws_FnContainers.j0 k t1269 t1272 t1273 (t1281 != t1273)) = some r := H
     have A15 := Aside0.mk A150
     clear A150
     have H' := Aside0.mk H
     clear H
     obtain ⟨Ao16, co16, eo16⟩ := Kd.R_slice HO1275.out
     subst eo16
     obtain ⟨Ao17, co17, eo17⟩ := Kd.R_slice HO1279.out
     subst eo17
     go_wp2_with (first | (go_at_call 71; (with_reducible refine (laws_vInts.calls k _ _ t1272 _ _ t1276 true _ ?side1 ?side2 ?side3 ?side4 A13.out).mono ?_); (case side1 => repeat (first | exact (Kd.R_reads' HO1275.out).2.2 | (with_reducible refine Kd.C_alloc ?_ _) | (with_reducible refine Kd.C_drewN ?_ _) | (with_reducible refine Kd.C_drew ?_))); (case side2 => exact (Kd.R_reads' HO1275.out).2.1); (case side3 => repeat (first | exact (Kd.R_reads' HO1279.out).2.2 | (with_reducible refine Kd.C_alloc ?_ _) | (with_reducible refine Kd.C_drewN ?_ _) | (with_reducible refine Kd.C_drew ?_))); (case side4 => exact (Kd.R_reads' HO1279.out).2.1); rintro e w' ⟨rfl, ⟨nd, rfl⟩⟩) | (go_at_call 72; (with_reducible refine (impl_IsValidContainers.calls k _ _ t1269 t1281 _ ?side1 ?side2 A15.out).mono ?_); (case side1 => repeat (first | exact (Kd.R_reads' HO1271.out).2.2 | (with_reducible refine Kd.C_alloc ?_ _) | (with_reducible refine Kd.C_drewN ?_ _) | (with_reducible refine Kd.C_drew ?_))); (case side2 => exact (Kd.R_reads' HO1271.out).2.1); rintro e w18 ⟨rfl, hb⟩; have n0_ := Aside0.mk (Kd.R_below (by (with_reducible repeat (first | apply Kd.R_alloc | apply Kd.R_drewN | apply Kd.R_drew)); exact HO1271.out) hb); have n1_ := Aside0.mk (Kd.R_below (by (with_reducible repeat (first | apply Kd.R_alloc | apply Kd.R_drewN | apply Kd.R_drew)); exact HO1275.out) hb); have n2_ := Aside0.mk (Kd.R_below (by (with_reducible repeat (first | apply Kd.R_alloc | apply Kd.R_drewN | apply Kd.R_drew)); exact HO1279.out) hb); have n3_ := Aside0.mk (below_step (by repeat (first | (with_reducible first | exact HB.out | apply below_alloc | apply pw_below_drewN | apply below_drew1) | exact HB.out)) hb); clear HO1271; clear HO1275; clear HO1279; clear HB; have HO1271 := n0_; have HO1275 := n1_; have HO1279 := n2_; have HB := n3_; clear n0_ n1_ n2_ n3_; (try clear hb); (try clear hb2); (try clear hk); (try clear hi)))
     go_meet
     case rel => exact ⟨_, ((t1281 != t1273)), (by first | rfl | (simp; done) | (simp [*]; done)), H', ⟨by first | omega | exact Nat.le_refl _⟩, ⟨by (with_reducible repeat (first | apply Kd.R_alloc | apply Kd.R_drewN | apply Kd.R_drew)); exact HO1271.out⟩, ⟨by (with_reducible repeat (first | apply Kd.R_alloc | apply Kd.R_drewN | apply Kd.R_drew)); exact Kd.R_mono HO1275.out (fun _ hk => trivial)⟩, ⟨by repeat (first | (with_reducible first | exact HB.out | apply below_alloc | apply pw_below_drewN | apply below_drew1) | exact HB.out)⟩⟩
    ·replace c14 := Bool.eq_false_iff.mpr c14
     subst c14
     have H1 : (none) = some r := by rw [if_neg (show ¬ (false = true) by decide)] at H; exact H
     clear H
     have H := H1
     clear H1
     exact absurd H (by simp)
  case rest =>
   clear HC7
   try clear c1
   try clear p2
   try clear c3
   try clear c6
   try clear c7
   try clear c10
   try clear c12
   try clear c12b0
   try clear c12b1
   try clear c12b2
   try clear c14
   obtain ⟨kq, x49_6, rfl, HA, HJ6, HO_3, HO_4, HB⟩ := hcut
   cases kq with
   | zero => exact absurd HA.out (by simp [laws_FnContainers.j0])
   | succ kj6 =>
    have H := HA.out
    clear HA
    simp only [laws_FnContainers.j0] at H
    by_cases c21 : x49_6 = true
    ·subst c21
     have H1 : (none) = some r := by rw [if_pos rfl] at H; exact H
     clear H
     have H := H1
     clear H1
     exact absurd H (by simp)
    ·replace c21 := Bool.eq_false_iff.mpr c21
     subst c21
     have H1 : (if t1273 = true then ((impl_TotalWeight.f kj6 t1269).bind fun bt1282 => ((impl_CountUnits.f kj6 t1269).bind fun bt1284 => (laws_FnContainers.l0 kj6 t1269 t1272 bt1282.1 bt1282.2 bt1284.1 bt1284.2 0 0 0))) else (some ((t1272.length : Int) == 0))) = some r := by rw [if_neg (show ¬ (false = true) by decide)] at H; exact H
     clear H
     have H := H1
     clear H1
     by_cases c22 : t1273 = true
     ·subst c22
      have H1 : ((impl_TotalWeight.f kj6 t1269).bind fun bt1282 => ((impl_CountUnits.f kj6 t1269).bind fun bt1284 => (laws_FnContainers.l0 kj6 t1269 t1272 bt1282.1 bt1282.2 bt1284.1 bt1284.2 0 0 0))) = some r := by rw [if_pos rfl] at H; exact H
      clear H
      have H := H1
      clear H1
      replace H := Option.bind_eq_some_iff.mp H
      obtain ⟨⟨t1282, t1283⟩, A230, H⟩ := H
      replace H : ((impl_CountUnits.f kj6 t1269).bind fun bt1284 => (laws_FnContainers.l0 kj6 t1269 t1272 t1282 t1283 bt1284.1 bt1284.2 0 0 0)) = some r := H
      have A23 := Aside0.mk A230
      clear A230
      replace H := Option.bind_eq_some_iff.mp H
      obtain ⟨⟨t1284, t1285⟩, A240, H⟩ := H
      replace H : (laws_FnContainers.l0 kj6 t1269 t1272 t1282 t1283 t1284 t1285 0 0 0) = some r := H
      have A24 := Aside0.mk A240
      clear A240
      have H' := Aside0.mk H
      clear H
      go_wp2_with (first | ((with_reducible refine gate_callee (f := 73) rfl ?_); refine goesL_ (some 57) rfl rfl Try.func73 (by kernel_rfl) rfl #[.slice Ao9 t1269.length co9] rfl (by (try simp only [List.map_toArray, List.map_cons, List.map_nil]); first | done | rfl | (simp only [List.length_drop, List.length_take]; rfl)) ?_; (with_reducible refine (impl_TotalWeight.calls kj6 _ _ t1269 t1282 t1283 _ ?side1 ?side2 A23.out).mono ?_); (case side1 => repeat (first | exact (Kd.R_reads' HO_3.out).2.2 | (with_reducible refine Kd.C_alloc ?_ _) | (with_reducible refine Kd.C_drewN ?_ _) | (with_reducible refine Kd.C_drew ?_))); (case side2 => exact (Kd.R_reads' HO_3.out).2.1); rintro e w25 ⟨rfl, hb⟩; refine ⟨_, rfl, ?_⟩; have n0_ := Aside0.mk (Kd.R_below (by (with_reducible repeat (first | apply Kd.R_alloc | apply Kd.R_drewN | apply Kd.R_drew)); exact HO_3.out) hb); have n1_ := Aside0.mk (Kd.R_below (by (with_reducible repeat (first | apply Kd.R_alloc | apply Kd.R_drewN | apply Kd.R_drew)); exact HO_4.out) hb); have n2_ := Aside0.mk (below_step (by repeat (first | (with_reducible first | exact HB.out | apply below_alloc | apply pw_below_drewN | apply below_drew1) | exact HB.out)) hb); clear HO_3; clear HO_4; clear HB; have HO_3 := n0_; have HO_4 := n1_; have HB := n2_; clear n0_ n1_ n2_; (try clear hb); (try clear hb2); (try clear hk); (try clear hi)) | ((with_reducible refine gate_callee (f := 74) rfl ?_); refine goesL_ (some 62) rfl rfl Try.func74 (by kernel_rfl) rfl #[.slice Ao9 t1269.length co9] rfl (by (try simp only [List.map_toArray, List.map_cons, List.map_nil]); first | done | rfl | (simp only [List.length_drop, List.length_take]; rfl)) ?_; (with_reducible refine (impl_CountUnits.calls kj6 _ _ t1269 t1284 t1285 _ ?side1 ?side2 A24.out).mono ?_); (case side1 => repeat (first | exact (Kd.R_reads' HO_3.out).2.2 | (with_reducible refine Kd.C_alloc ?_ _) | (with_reducible refine Kd.C_drewN ?_ _) | (with_reducible refine Kd.C_drew ?_))); (case side2 => exact (Kd.R_reads' HO_3.out).2.1); rintro e w26 ⟨rfl, hb⟩; refine ⟨_, rfl, ?_⟩; have n0_ := Aside0.mk (Kd.R_below (by (with_reducible repeat (first | apply Kd.R_alloc | apply Kd.R_drewN | apply Kd.R_drew)); exact HO_3.out) hb); have n1_ := Aside0.mk (Kd.R_below (by (with_reducible repeat (first | apply Kd.R_alloc | apply Kd.R_drewN | apply Kd.R_drew)); exact HO_4.out) hb); have n2_ := Aside0.mk (below_step (by repeat (first | (with_reducible first | exact HB.out | apply below_alloc | apply pw_below_drewN | apply below_drew1) | exact HB.out)) hb); clear HO_3; clear HO_4; clear HB; have HO_3 := n0_; have HO_4 := n1_; have HB := n2_; clear n0_ n1_ n2_; (try clear hb); (try clear hb2); (try clear hk); (try clear hi)))
      go_loopg [12, 14] kj6 (fun kq v12 v14 w' => ∃ (x12_2 : Int) (x14_2 : Int), v12 = .int .i64 x12_2 ∧ v14 = .int .i64 x14_2 ∧ Aside0 (laws_FnContainers.l0 kq t1269 t1272 t1282 t1283 t1284 t1285 x12_2 0 x14_2 = some r) ∧ Aside0 (kq ≤ kj6) ∧ Aside0 (Kd.R k89 89 w' w.heap.size (fun _ => True) (.slice Ao9 t1269.length co9) t1269) ∧ Aside0 (Kd.R (Kd.int .i64) 3 w' w.heap.size (fun _ => True) v1274 t1272) ∧ Aside0 (Below w.heap.size w w'))
      case atStart => exact ⟨(0), (0), (by first | rfl | (simp; done) | (simp [*]; done)), (by first | rfl | (simp; done) | (simp [*]; done)), H', ⟨Nat.le_refl _⟩, ⟨by (with_reducible repeat (first | apply Kd.R_alloc | apply Kd.R_drewN | apply Kd.R_drew)); exact HO_3.out⟩, ⟨by (with_reducible repeat (first | apply Kd.R_alloc | apply Kd.R_drewN | apply Kd.R_drew)); exact HO_4.out⟩, ⟨by repeat (first | (with_reducible first | exact HB.out | apply below_alloc | apply pw_below_drewN | apply below_drew1) | exact HB.out)⟩⟩
      case round =>
       clear H'
       try clear c1
       try clear c2
       try clear p2
       try clear c3
       try clear c6
       try clear c7
       try clear c10
       try clear c12
       try clear c12b0
       try clear c12b1
       try clear c12b2
       try clear c14
       try clear c21
       try clear c22
       try clear p2
       obtain ⟨x12_2, x14_2, rfl, rfl, HA, HK2, HO_3, HO_4, HB⟩ := hrel
       cases gk with
       | zero => exact absurd HA.out (by simp [laws_FnContainers.l0])
       | succ k2 =>
        have H := HA.out
        clear HA
        simp only [laws_FnContainers.l0] at H
        by_cases c27 : x14_2 < (t1272.length : Int)
        ·rw [if_pos c27] at H
         have c27b0 : decide (x14_2 < (t1272.length : Int)) = true := decide_eq_true c27
         clear c27
         by_cases c28 : 0 ≤ x14_2
         ·rw [if_pos c28] at H
          have c28b0 : decide (0 ≤ x14_2) = true := decide_eq_true c28
          clear c28
          by_cases c29 : 0 ≤ (rd t1272 x14_2)
          ·rw [if_pos c29] at H
           have c29b0 : decide (0 ≤ (rd t1272 x14_2)) = true := decide_eq_true c29
           clear c29
           by_cases c30 : (rd t1272 x14_2) < (t1269.length : Int)
           ·rw [if_pos c30] at H
            have c30b0 : decide ((rd t1272 x14_2) < (t1269.length : Int)) = true := decide_eq_true c30
            clear c30
            replace H := Option.bind_eq_some_iff.mp H
            obtain ⟨⟨t1289, t1290⟩, A310, H⟩ := H
            replace H : (if t1290 = true then (if t1289 = (rd t1272 x14_2) then ((impl_IsValidContainer.f k2 ((rd_T89 t1269 (rd t1272 x14_2)).f0) ((rd_T89 t1269 (rd t1272 x14_2)).f1) ((rd_T89 t1269 (rd t1272 x14_2)).f2) ((rd_T89 t1269 (rd t1272 x14_2)).f3) ((rd_T89 t1269 (rd t1272 x14_2)).f4)).bind fun t1292 => (if t1292 = true then (if x14_2 > 0 then (if 0 ≤ (wrap64 (x14_2 - 1)) then (if (wrap64 (x14_2 - 1)) < (t1272.length : Int) then (if 0 ≤ (rd t1272 (wrap64 (x14_2 - 1))) then (if (rd t1272 (wrap64 (x14_2 - 1))) < (t1269.length : Int) then (if ((rd_T89 t1269 (rd t1272 (wrap64 (x14_2 - 1)))).f2) < ((rd_T89 t1269 (rd t1272 x14_2)).f2) then (none) else (laws_FnContainers.l0 k2 t1269 t1272 t1282 t1283 t1284 t1285 (wrap64 (x12_2 + ((rd_T89 t1269 (rd t1272 x14_2)).f2))) 0 (wrap64 (x14_2 + 1)))) else (none)) else (none)) else (none)) else (none)) else (laws_FnContainers.l0 k2 t1269 t1272 t1282 t1283 t1284 t1285 (wrap64 (x12_2 + ((rd_T89 t1269 (rd t1272 x14_2)).f2))) 0 (wrap64 (x14_2 + 1)))) else (none))) else (none)) else (none)) = some r := H
            have A31 := Aside0.mk A310
            clear A310
            by_cases c32 : t1290 = true
            ·subst c32
             have H1 : (if t1289 = (rd t1272 x14_2) then ((impl_IsValidContainer.f k2 ((rd_T89 t1269 (rd t1272 x14_2)).f0) ((rd_T89 t1269 (rd t1272 x14_2)).f1) ((rd_T89 t1269 (rd t1272 x14_2)).f2) ((rd_T89 t1269 (rd t1272 x14_2)).f3) ((rd_T89 t1269 (rd t1272 x14_2)).f4)).bind fun t1292 => (if t1292 = true then (if x14_2 > 0 then (if 0 ≤ (wrap64 (x14_2 - 1)) then (if (wrap64 (x14_2 - 1)) < (t1272.length : Int) then (if 0 ≤ (rd t1272 (wrap64 (x14_2 - 1))) then (if (rd t1272 (wrap64 (x14_2 - 1))) < (t1269.length : Int) then (if ((rd_T89 t1269 (rd t1272 (wrap64 (x14_2 - 1)))).f2) < ((rd_T89 t1269 (rd t1272 x14_2)).f2) then (none) else (laws_FnContainers.l0 k2 t1269 t1272 t1282 t1283 t1284 t1285 (wrap64 (x12_2 + ((rd_T89 t1269 (rd t1272 x14_2)).f2))) 0 (wrap64 (x14_2 + 1)))) else (none)) else (none)) else (none)) else (none)) else (laws_FnContainers.l0 k2 t1269 t1272 t1282 t1283 t1284 t1285 (wrap64 (x12_2 + ((rd_T89 t1269 (rd t1272 x14_2)).f2))) 0 (wrap64 (x14_2 + 1)))) else (none))) else (none)) = some r := by rw [if_pos rfl] at H; exact H
             clear H
             have H := H1
             clear H1
             by_cases c33 : t1289 = (rd t1272 x14_2)
             ·rw [if_pos c33] at H
              have c33b0 : (t1289 == (rd t1272 x14_2)) = true := beq_iff_eq.mpr c33
              have c33b1 : (t1289 != (rd t1272 x14_2)) = false := bne_eq_false_iff_eq.mpr c33
              clear c33
              replace H := Option.bind_eq_some_iff.mp H
              obtain ⟨t1292, A340, H⟩ := H
              replace H : (if t1292 = true then (if x14_2 > 0 then (if 0 ≤ (wrap64 (x14_2 - 1)) then (if (wrap64 (x14_2 - 1)) < (t1272.length : Int) then (if 0 ≤ (rd t1272 (wrap64 (x14_2 - 1))) then (if (rd t1272 (wrap64 (x14_2 - 1))) < (t1269.length : Int) then (if ((rd_T89 t1269 (rd t1272 (wrap64 (x14_2 - 1)))).f2) < ((rd_T89 t1269 (rd t1272 x14_2)).f2) then (none) else (laws_FnContainers.l0 k2 t1269 t1272 t1282 t1283 t1284 t1285 (wrap64 (x12_2 + ((rd_T89 t1269 (rd t1272 x14_2)).f2))) 0 (wrap64 (x14_2 + 1)))) else (none)) else (none)) else (none)) else (none)) else (laws_FnContainers.l0 k2 t1269 t1272 t1282 t1283 t1284 t1285 (wrap64 (x12_2 + ((rd_T89 t1269 (rd t1272 x14_2)).f2))) 0 (wrap64 (x14_2 + 1)))) else (none)) = some r := H
              have A34 := Aside0.mk A340
              clear A340
              by_cases c35 : t1292 = true
              ·subst c35
               have H1 : (if x14_2 > 0 then (if 0 ≤ (wrap64 (x14_2 - 1)) then (if (wrap64 (x14_2 - 1)) < (t1272.length : Int) then (if 0 ≤ (rd t1272 (wrap64 (x14_2 - 1))) then (if (rd t1272 (wrap64 (x14_2 - 1))) < (t1269.length : Int) then (if ((rd_T89 t1269 (rd t1272 (wrap64 (x14_2 - 1)))).f2) < ((rd_T89 t1269 (rd t1272 x14_2)).f2) then (none) else (laws_FnContainers.l0 k2 t1269 t1272 t1282 t1283 t1284 t1285 (wrap64 (x12_2 + ((rd_T89 t1269 (rd t1272 x14_2)).f2))) 0 (wrap64 (x14_2 + 1)))) else (none)) else (none)) else (none)) else (none)) else (laws_FnContainers.l0 k2 t1269 t1272 t1282 t1283 t1284 t1285 (wrap64 (x12_2 + ((rd_T89 t1269 (rd t1272 x14_2)).f2))) 0 (wrap64 (x14_2 + 1)))) = some r := by rw [if_pos rfl] at H; exact H
               clear H
               have H := H1
               clear H1
               by_cases c36 : x14_2 > 0
               ·rw [if_pos c36] at H
                have c36b0 : decide (0 < x14_2) = true := decide_eq_true c36
                clear c36
                obtain ⟨ji37, hji37⟩ : ∃ j_ : Int, (wrap64 (x14_2 - 1)) = j_ := ⟨_, rfl⟩
                replace H : (if 0 ≤ (ji37) then (if (ji37) < (t1272.length : Int) then (if 0 ≤ (rd t1272 (ji37)) then (if (rd t1272 (ji37)) < (t1269.length : Int) then (if ((rd_T89 t1269 (rd t1272 (ji37))).f2) < ((rd_T89 t1269 (rd t1272 x14_2)).f2) then (none) else (laws_FnContainers.l0 k2 t1269 t1272 t1282 t1283 t1284 t1285 (wrap64 (x12_2 + ((rd_T89 t1269 (rd t1272 x14_2)).f2))) 0 (wrap64 (x14_2 + 1)))) else (none)) else (none)) else (none)) else (none)) = some r := by first | (rw [hji37] at H; exact H) | (simp only [hji37] at H ⊢; exact H)
                (try rw [hji37] at A31)
                (try rw [hji37] at A34)
                have hji37w : (IntKind.i64.wrap (x14_2 - 1)) = ji37 := (i64_w _).trans hji37
                by_cases c38 : 0 ≤ (ji37)
                ·rw [if_pos c38] at H
                 have c38b0 : decide (0 ≤ (ji37)) = true := decide_eq_true c38
                 clear c38
                 by_cases c39 : (ji37) < (t1272.length : Int)
                 ·rw [if_pos c39] at H
                  have c39b0 : decide ((ji37) < (t1272.length : Int)) = true := decide_eq_true c39
                  clear c39
                  by_cases c40 : 0 ≤ (rd t1272 (ji37))
                  ·rw [if_pos c40] at H
                   have c40b0 : decide (0 ≤ (rd t1272 (ji37))) = true := decide_eq_true c40
                   clear c40
                   by_cases c41 : (rd t1272 (ji37)) < (t1269.length : Int)
                   ·rw [if_pos c41] at H
                    have c41b0 : decide ((rd t1272 (ji37)) < (t1269.length : Int)) = true := decide_eq_true c41
                    clear c41
                    by_cases c42 : ((rd_T89 t1269 (rd t1272 (ji37))).f2) < ((rd_T89 t1269 (rd t1272 x14_2)).f2)
                    ·rw [if_pos c42] at H
                     have c42b0 : decide (((rd_T89 t1269 (rd t1272 (ji37))).f2) < ((rd_T89 t1269 (rd t1272 x14_2)).f2)) = true := decide_eq_true c42
                     clear c42
                     exact absurd H (by simp)
                    ·rw [if_neg c42] at H
                     have c42b0 : decide (((rd_T89 t1269 (rd t1272 (ji37))).f2) < ((rd_T89 t1269 (rd t1272 x14_2)).f2)) = false := decide_eq_false c42
                     clear c42
                     have H' := Aside0.mk H
                     clear H
                     obtain ⟨Ao49, co49, eo49⟩ := Kd.R_slice HO_4.out
                     subst eo49
                     have p1286 : 0 ≤ (x14_2 : Int) := of_decide_eq_true (by first | (with_reducible assumption) | assumption)
                     have q1286 : x14_2 < (t1272.length : Int) := of_decide_eq_true (by first | (with_reducible assumption) | assumption)
                     obtain ⟨ad1286, e1286, hx1286_0⟩ := Kd.at_int (Kd.R_reads' HO_4.out).2.2 x14_2 p1286 q1286
                     cases e1286
                     replace p1286 := eq_true p1286
                     replace q1286 := eq_true q1286
                     have p1287 : 0 ≤ ((rd t1272 x14_2) : Int) := of_decide_eq_true (by first | (with_reducible assumption) | assumption)
                     have q1287 : (rd t1272 x14_2) < (t1269.length : Int) := of_decide_eq_true (by first | (with_reducible assumption) | assumption)
                     obtain ⟨ad1287, e1287, hx1287_0, hx1287_1, hx1287_2, hx1287_3, hx1287_4⟩ := at_T89 (Kd.R_reads' HO_3.out).2.2 (rd t1272 x14_2) p1287 q1287
                     cases e1287
                     replace p1287 := eq_true p1287
                     replace q1287 := eq_true q1287
                     try go_wp2_with (first | ((with_reducible refine gate_dst (N := 15) rfl ?_); (try (refine gate_guard (by rfl) ?_; dsimp only)); refine box_event ?hg (N := 15) ?hd (cs := #[.string (⟨#[]⟩ : ByteArray), .int .i64 0, .int .i64 0, .int .i64 0, .int .i64 0]) (t := 89) ?hr ?_; (case hd => rfl); (case hg => rfl); (case hr => first | (go_simp; done) | (go_simp; rfl)); intro gb1288 hg w50 hbox hb; have n0_ := Aside0.mk (Kd.R_below (Kd.R_elderB (by (with_reducible repeat (first | apply Kd.R_alloc | apply Kd.R_drewN | apply Kd.R_drew)); exact HO_3.out) gb1288 (Nat.le_of_eq hg.symm)) hb); have n1_ := Aside0.mk (Kd.R_below (by (with_reducible repeat (first | apply Kd.R_alloc | apply Kd.R_drewN | apply Kd.R_drew)); exact HO_4.out) hb); have n2_ := Aside0.mk (below_step (by repeat (first | (with_reducible first | exact HB.out | apply below_alloc | apply pw_below_drewN | apply below_drew1) | exact HB.out)) hb); have n3_ := Aside0.mk (hbox); have n4_ := Aside0.mk ((by rw [hg]; exact (below_size (by repeat (first | (with_reducible first | exact HB.out | apply below_alloc | apply pw_below_drewN | apply below_drew1) | exact HB.out))) : w.heap.size ≤ gb1288)); have n5_ := Aside0.mk ((by rw [hg]; exact (below_size (by repeat (first | (with_reducible first | exact HB.out | apply below_alloc | apply pw_below_drewN | apply below_drew1) | exact HB.out))) : w.heap.size ≤ gb1288)); clear HO_3; clear HO_4; clear HB; have HO_3 := n0_; have HO_4 := n1_; have HB := n2_; have BK1288 := n3_; have GW1288 := n4_; have GE1288 := n5_; clear n0_ n1_ n2_ n3_ n4_ n5_; clear hb hbox hg; have hcz51_0 : w50.cell? ⟨gb1288, 0, none⟩ = some (.string (⟨#[]⟩ : ByteArray)) := (blk_cell BK1288.out 0).trans rfl; have hcz51_1 : w50.cell? ⟨gb1288, 1, none⟩ = some (.int .i64 0) := (blk_cell BK1288.out 1).trans rfl; have hcz51_2 : w50.cell? ⟨gb1288, 2, none⟩ = some (.int .i64 0) := (blk_cell BK1288.out 2).trans rfl; have hcz51_3 : w50.cell? ⟨gb1288, 3, none⟩ = some (.int .i64 0) := (blk_cell BK1288.out 3).trans rfl; have hcz51_4 : w50.cell? ⟨gb1288, 4, none⟩ = some (.int .i64 0) := (blk_cell BK1288.out 4).trans rfl; have hfz51_0 := blk_frozen BK1288.out 0; have hfz51_1 := blk_frozen BK1288.out 1; have hfz51_2 := blk_frozen BK1288.out 2; have hfz51_3 := blk_frozen BK1288.out 3; have hfz51_4 := blk_frozen BK1288.out 4) | ((with_reducible refine gate_callee (f := 75) rfl ?_); refine goesL_ (some 86) rfl rfl Try.func75 (by kernel_rfl) rfl #[.slice (some ad1287) t1269.length co9, .string ((rd_T89 t1269 (rd t1272 x14_2)).f0)] rfl (by (try simp only [List.map_toArray, List.map_cons, List.map_nil]); first | done | rfl | (simp only [List.length_drop, List.length_take]; rfl)) ?_; (with_reducible refine (impl_FindContainer.calls k2 _ _ t1269 ((rd_T89 t1269 (rd t1272 x14_2)).f0) t1289 true _ ?side1 ?side2 A31.out).mono ?_); (case side1 => refine (Kd.R_reads' (e := 89) (base := w.heap.size) (ok := fun k_ => (True ∧ k_ ≠ gb1288)) (n := t1269.length) (c := co9) ?_).2.2; exact (by (with_reducible repeat (first | apply Kd.R_alloc | apply Kd.R_drewN | apply Kd.R_drew)); exact (Kd.R_mono (Kd.R_far (p := ⟨gb1288, 4, none⟩) (Kd.R_far (p := ⟨gb1288, 3, none⟩) (Kd.R_far (p := ⟨gb1288, 2, none⟩) (Kd.R_far (p := ⟨gb1288, 1, none⟩) (Kd.R_far (p := ⟨gb1288, 0, none⟩) (Kd.R_mono HO_3.out (fun k_ hk => (⟨hk, hk.2⟩ : _ ∧ k_ ≠ gb1288))) (fun _ hk => hk.2) (.string ((rd_T89 t1269 (rd t1272 x14_2)).f0))) (fun _ hk => hk.2) (.int .i64 ((rd_T89 t1269 (rd t1272 x14_2)).f1))) (fun _ hk => hk.2) (.int .i64 ((rd_T89 t1269 (rd t1272 x14_2)).f2))) (fun _ hk => hk.2) (.int .i64 ((rd_T89 t1269 (rd t1272 x14_2)).f3))) (fun _ hk => hk.2) (.int .i64 ((rd_T89 t1269 (rd t1272 x14_2)).f4))) (fun _ h_ => h_.1)))); (case side2 => exact (Kd.R_reads' HO_3.out).2.1); rintro e w52 ⟨rfl, hb⟩; refine ⟨_, rfl, ?_⟩; have n0_ := Aside0.mk (Kd.R_below (by (with_reducible repeat (first | apply Kd.R_alloc | apply Kd.R_drewN | apply Kd.R_drew)); exact (Kd.R_mono (Kd.R_far (p := ⟨gb1288, 4, none⟩) (Kd.R_far (p := ⟨gb1288, 3, none⟩) (Kd.R_far (p := ⟨gb1288, 2, none⟩) (Kd.R_far (p := ⟨gb1288, 1, none⟩) (Kd.R_far (p := ⟨gb1288, 0, none⟩) (Kd.R_mono HO_3.out (fun k_ hk => (⟨hk, hk.2⟩ : _ ∧ k_ ≠ gb1288))) (fun _ hk => hk.2) (.string ((rd_T89 t1269 (rd t1272 x14_2)).f0))) (fun _ hk => hk.2) (.int .i64 ((rd_T89 t1269 (rd t1272 x14_2)).f1))) (fun _ hk => hk.2) (.int .i64 ((rd_T89 t1269 (rd t1272 x14_2)).f2))) (fun _ hk => hk.2) (.int .i64 ((rd_T89 t1269 (rd t1272 x14_2)).f3))) (fun _ hk => hk.2) (.int .i64 ((rd_T89 t1269 (rd t1272 x14_2)).f4))) (fun _ h_ => h_.1))) hb); have n1_ := Aside0.mk (Kd.R_below (by (with_reducible repeat (first | apply Kd.R_alloc | apply Kd.R_drewN | apply Kd.R_drew)); exact (Kd.R_mono (Kd.R_far (p := ⟨gb1288, 4, none⟩) (Kd.R_far (p := ⟨gb1288, 3, none⟩) (Kd.R_far (p := ⟨gb1288, 2, none⟩) (Kd.R_far (p := ⟨gb1288, 1, none⟩) (Kd.R_far (p := ⟨gb1288, 0, none⟩) (Kd.R_types HO_4.out BK1288.out (by decide)) (fun _ hk => hk.2) (.string ((rd_T89 t1269 (rd t1272 x14_2)).f0))) (fun _ hk => hk.2) (.int .i64 ((rd_T89 t1269 (rd t1272 x14_2)).f1))) (fun _ hk => hk.2) (.int .i64 ((rd_T89 t1269 (rd t1272 x14_2)).f2))) (fun _ hk => hk.2) (.int .i64 ((rd_T89 t1269 (rd t1272 x14_2)).f3))) (fun _ hk => hk.2) (.int .i64 ((rd_T89 t1269 (rd t1272 x14_2)).f4))) (fun _ h_ => h_.1))) hb); have n2_ := Aside0.mk (blk_below (g := gb1288) (o := .cells #[.string ((rd_T89 t1269 (rd t1272 x14_2)).f0), .int .i64 ((rd_T89 t1269 (rd t1272 x14_2)).f1), .int .i64 ((rd_T89 t1269 (rd t1272 x14_2)).f2), .int .i64 ((rd_T89 t1269 (rd t1272 x14_2)).f3), .int .i64 ((rd_T89 t1269 (rd t1272 x14_2)).f4)] 89 (0, 0)) (by (with_reducible repeat (first | refine blk_drewN ?_ _ | refine blk_drew ?_ | refine blk_alloc ?_ _)); refine blk_put (cs := #[.string ((rd_T89 t1269 (rd t1272 x14_2)).f0), .int .i64 ((rd_T89 t1269 (rd t1272 x14_2)).f1), .int .i64 ((rd_T89 t1269 (rd t1272 x14_2)).f2), .int .i64 ((rd_T89 t1269 (rd t1272 x14_2)).f3), .int .i64 0]) ?_ 4 _ rfl; (with_reducible repeat (first | refine blk_drewN ?_ _ | refine blk_drew ?_ | refine blk_alloc ?_ _)); refine blk_put (cs := #[.string ((rd_T89 t1269 (rd t1272 x14_2)).f0), .int .i64 ((rd_T89 t1269 (rd t1272 x14_2)).f1), .int .i64 ((rd_T89 t1269 (rd t1272 x14_2)).f2), .int .i64 0, .int .i64 0]) ?_ 3 _ rfl; (with_reducible repeat (first | refine blk_drewN ?_ _ | refine blk_drew ?_ | refine blk_alloc ?_ _)); refine blk_put (cs := #[.string ((rd_T89 t1269 (rd t1272 x14_2)).f0), .int .i64 ((rd_T89 t1269 (rd t1272 x14_2)).f1), .int .i64 0, .int .i64 0, .int .i64 0]) ?_ 2 _ rfl; (with_reducible repeat (first | refine blk_drewN ?_ _ | refine blk_drew ?_ | refine blk_alloc ?_ _)); refine blk_put (cs := #[.string ((rd_T89 t1269 (rd t1272 x14_2)).f0), .int .i64 0, .int .i64 0, .int .i64 0, .int .i64 0]) ?_ 1 _ rfl; (with_reducible repeat (first | refine blk_drewN ?_ _ | refine blk_drew ?_ | refine blk_alloc ?_ _)); refine blk_put (cs := #[.string (⟨#[]⟩ : ByteArray), .int .i64 0, .int .i64 0, .int .i64 0, .int .i64 0]) ?_ 0 _ rfl; (with_reducible repeat (first | refine blk_drewN ?_ _ | refine blk_drew ?_ | refine blk_alloc ?_ _)); exact BK1288.out) hb); have n3_ := Aside0.mk (below_step (by repeat (first | (with_reducible first | exact HB.out | apply below_alloc | apply pw_below_drewN | apply below_drew1 | refine below_set ?_ GE1288.out) | exact HB.out)) hb); clear HO_3; clear HO_4; clear BK1288; clear HB; have HO_3 := n0_; have HO_4 := n1_; have BK1288 := n2_; have HB := n3_; clear n0_ n1_ n2_ n3_; (try clear hb); (try clear hb2); (try clear hk); (try clear hi)))
                     have n0_ := Aside0.mk (Kd.R_drew HO_3.out)
                     have n1_ := Aside0.mk (Kd.R_drew HO_4.out)
                     have n2_ := Aside0.mk (blk_drew BK1288.out)
                     have n3_ := Aside0.mk (below_drew1 HB.out)
                     clear HO_3
                     clear HO_4
                     clear BK1288
                     clear HB
                     have HO_3 := n0_
                     have HO_4 := n1_
                     have BK1288 := n2_
                     have HB := n3_
                     clear n0_ n1_ n2_ n3_
                     have p1291 : 0 ≤ (x14_2 : Int) := of_decide_eq_true (by first | (with_reducible assumption) | assumption)
                     have q1291 : x14_2 < (t1272.length : Int) := of_decide_eq_true (by first | (with_reducible assumption) | assumption)
                     obtain ⟨ad1291, e1291, hx1291_0⟩ := Kd.at_int (Kd.R_reads' HO_4.out).2.2 x14_2 p1291 q1291
                     obtain rfl : ad1286 = ad1291 := (by injection e1291)
                     replace p1291 := eq_true p1291
                     replace q1291 := eq_true q1291
                     have p1293 : 0 ≤ ((ji37) : Int) := of_decide_eq_true (by first | (with_reducible assumption) | assumption)
                     have q1293 : (ji37) < (t1272.length : Int) := of_decide_eq_true (by first | (with_reducible assumption) | assumption)
                     obtain ⟨ad1293, e1293, hx1293_0⟩ := Kd.at_int (Kd.R_reads' HO_4.out).2.2 (ji37) p1293 q1293
                     obtain rfl : ad1286 = ad1293 := (by injection e1293)
                     replace p1293 := eq_true p1293
                     replace q1293 := eq_true q1293
                     have p1294 : 0 ≤ ((rd t1272 (ji37)) : Int) := of_decide_eq_true (by first | (with_reducible assumption) | assumption)
                     have q1294 : (rd t1272 (ji37)) < (t1269.length : Int) := of_decide_eq_true (by first | (with_reducible assumption) | assumption)
                     obtain ⟨ad1294, e1294, hx1294_0, hx1294_1, hx1294_2, hx1294_3, hx1294_4⟩ := at_T89 (Kd.R_reads' HO_3.out).2.2 (rd t1272 (ji37)) p1294 q1294
                     obtain rfl : ad1287 = ad1294 := (by injection e1294)
                     replace p1294 := eq_true p1294
                     replace q1294 := eq_true q1294
                     refine start_ (n := 33) (S := fun w' => w'.cell? ⟨gb1288, 0, none⟩ = some (.string ((rd_T89 t1269 (rd t1272 x14_2)).f0)) ∧ w'.cell? ⟨gb1288, 1, none⟩ = some (.int .i64 ((rd_T89 t1269 (rd t1272 x14_2)).f1)) ∧ w'.cell? ⟨gb1288, 2, none⟩ = some (.int .i64 ((rd_T89 t1269 (rd t1272 x14_2)).f2)) ∧ w'.cell? ⟨gb1288, 3, none⟩ = some (.int .i64 ((rd_T89 t1269 (rd t1272 x14_2)).f3)) ∧ w'.cell? ⟨gb1288, 4, none⟩ = some (.int .i64 ((rd_T89 t1269 (rd t1272 x14_2)).f4)) ∧ w'.cell? (ad1286.add (x14_2).toNat) = some (.int .i64 (rd t1272 x14_2)) ∧ w'.cell? (ad1286.add ((ji37)).toNat) = some (.int .i64 (rd t1272 (ji37))) ∧ w'.cell? (ad1287.add (((rd t1272 (ji37))).toNat * 5)) = some (.string ((rd_T89 t1269 (rd t1272 (ji37))).f0)) ∧ w'.cell? ⟨(ad1287.add (((rd t1272 (ji37))).toNat * 5)).block, (ad1287.add (((rd t1272 (ji37))).toNat * 5)).off + 1, none⟩ = some (.int .i64 ((rd_T89 t1269 (rd t1272 (ji37))).f1)) ∧ w'.cell? ⟨(ad1287.add (((rd t1272 (ji37))).toNat * 5)).block, (ad1287.add (((rd t1272 (ji37))).toNat * 5)).off + 2, none⟩ = some (.int .i64 ((rd_T89 t1269 (rd t1272 (ji37))).f2)) ∧ w'.cell? ⟨(ad1287.add (((rd t1272 (ji37))).toNat * 5)).block, (ad1287.add (((rd t1272 (ji37))).toNat * 5)).off + 3, none⟩ = some (.int .i64 ((rd_T89 t1269 (rd t1272 (ji37))).f3)) ∧ w'.cell? ⟨(ad1287.add (((rd t1272 (ji37))).toNat * 5)).block, (ad1287.add (((rd t1272 (ji37))).toNat * 5)).off + 4, none⟩ = some (.int .i64 ((rd_T89 t1269 (rd t1272 (ji37))).f4))) (ds := []) #[false, false, false, false, false, false, false, false, false, false, false, false, false, false, false, false, false, false, false, false, false, false, false, false, false, false, false, false, false, false, false, false, false] (by kernel_rfl) rfl rfl ⟨(blk_cell BK1288.out 0).trans rfl, (blk_cell BK1288.out 1).trans rfl, (blk_cell BK1288.out 2).trans rfl, (blk_cell BK1288.out 3).trans rfl, (blk_cell BK1288.out 4).trans rfl, hx1291_0, hx1293_0, hx1294_0, hx1294_1, hx1294_2, hx1294_3, hx1294_4⟩ (fun hHeld => ?_); refine with_tabW laws_FnContainers.tab19 laws_FnContainers.bits19 (fun HT_ HW_ => ?_)
                     generalize w52.drew = w53 at HO_3 HO_4 BK1288 HB hx1291_0 hx1293_0 hx1294_0 hx1294_1 hx1294_2 hx1294_3 hx1294_4 hHeld ⊢
                     refine pure_ (i := 0) (N := some 89) (v := ?_) (a' := ?_) #[true, false, false, false, false, false, false, false, false, false, false, false, false, false, false, false, false, false, false, false, false, false, false, false, false, false, false, false, false, false, false, false, false] rfl rfl (any_of HT_.out (by kernel_rfl)) (fun _ _ _ h => h) (Or.inl ⟨by rfl, ?_⟩) ?_ ?_
                     rotate_left
                     ·intro w'
                      go_simp
                      with_reducible rfl
                     rotate_left
                     ·simp only [Act.put, List.setIfInBounds_toArray, List.set_cons_zero, List.set_cons_succ, i64_w, i32_w]
                      rfl
                     refine pure_ (i := 1) (N := some 90) (v := ?_) (a' := ?_) #[true, true, false, false, false, false, false, false, false, false, false, false, false, false, false, false, false, false, false, false, false, false, false, false, false, false, false, false, false, false, false, false, false] rfl rfl (any_of HT_.out (by kernel_rfl)) (fun _ _ _ h => h) (Or.inl ⟨by rfl, ?_⟩) ?_ ?_
                     rotate_left
                     ·intro w'
                      go_simp
                      with_reducible rfl
                     rotate_left
                     ·simp only [Act.put, List.setIfInBounds_toArray, List.set_cons_zero, List.set_cons_succ, i64_w, i32_w]
                      rfl
                     refine pure_ (i := 2) (N := some 91) (v := ?_) (a' := ?_) #[true, true, true, false, false, false, false, false, false, false, false, false, false, false, false, false, false, false, false, false, false, false, false, false, false, false, false, false, false, false, false, false, false] rfl rfl (any_of HT_.out (by kernel_rfl)) (fun _ _ _ h => h) (Or.inl ⟨by rfl, ?_⟩) ?_ ?_
                     rotate_left
                     ·intro w'
                      go_simp
                      with_reducible rfl
                     rotate_left
                     ·simp only [Act.put, List.setIfInBounds_toArray, List.set_cons_zero, List.set_cons_succ, i64_w, i32_w]
                      rfl
                     refine pure_ (i := 3) (N := some 92) (v := ?_) (a' := ?_) #[true, true, true, true, false, false, false, false, false, false, false, false, false, false, false, false, false, false, false, false, false, false, false, false, false, false, false, false, false, false, false, false, false] rfl rfl (any_of HT_.out (by kernel_rfl)) (fun _ _ _ h => h) (Or.inl ⟨by rfl, ?_⟩) ?_ ?_
                     rotate_left
                     ·intro w'
                      go_simp
                      with_reducible rfl
                     rotate_left
                     ·simp only [Act.put, List.setIfInBounds_toArray, List.set_cons_zero, List.set_cons_succ, i64_w, i32_w]
                      rfl
                     refine pure_ (i := 4) (N := some 93) (v := ?_) (a' := ?_) #[true, true, true, true, true, false, false, false, false, false, false, false, false, false, false, false, false, false, false, false, false, false, false, false, false, false, false, false, false, false, false, false, false] rfl rfl (any_of HT_.out (by kernel_rfl)) (fun _ _ _ h => h) (Or.inl ⟨by rfl, ?_⟩) ?_ ?_
                     rotate_left
                     ·intro w'
                      go_simp
                      with_reducible rfl
                     rotate_left
                     ·simp only [Act.put, List.setIfInBounds_toArray, List.set_cons_zero, List.set_cons_succ, i64_w, i32_w]
                      rfl
                     refine pure_ (i := 5) (N := some 94) (v := ?_) (a' := ?_) #[true, true, true, true, true, true, false, false, false, false, false, false, false, false, false, false, false, false, false, false, false, false, false, false, false, false, false, false, false, false, false, false, false] rfl rfl (any_of HT_.out (by kernel_rfl)) (fun _ _ _ h => h) (Or.inl ⟨by rfl, ?_⟩) ?_ ?_
                     rotate_left
                     ·intro w'
                      go_simp
                      with_reducible rfl
                     rotate_left
                     ·simp only [Act.put, List.setIfInBounds_toArray, List.set_cons_zero, List.set_cons_succ, i64_w, i32_w]
                      rfl
                     refine pure_ (i := 6) (N := some 95) (v := ?_) (a' := ?_) #[true, true, true, true, true, true, true, false, false, false, false, false, false, false, false, false, false, false, false, false, false, false, false, false, false, false, false, false, false, false, false, false, false] rfl rfl (any_of HT_.out (by kernel_rfl)) (fun _ _ _ h => h) (Or.inl ⟨by rfl, ?_⟩) ?_ ?_
                     rotate_left
                     ·intro w'
                      go_simp
                      with_reducible rfl
                     rotate_left
                     ·simp only [Act.put, List.setIfInBounds_toArray, List.set_cons_zero, List.set_cons_succ, i64_w, i32_w]
                      rfl
                     refine take_ (i := 7) (N := some 96) (v := ?_) (a' := ?_) #[true, true, true, true, true, true, true, true, false, false, false, false, false, false, false, false, false, false, false, false, false, false, false, false, false, false, false, false, false, false, false, false, false] rfl rfl (take_ofW HT_.out HW_.out (by kernel_rfl)) (fun _ _ _ h => h) (Or.inl ⟨by rfl, ?_⟩) hHeld ?_ ?_
                     rotate_left
                     ·rintro w' ⟨s0, s1, s2, s3, s4, s5, s6, s7, s8, s9, s10, s11⟩
                      go_simp
                      with_reducible rfl
                     rotate_left
                     ·simp only [Act.put, List.setIfInBounds_toArray, List.set_cons_zero, List.set_cons_succ, i64_w, i32_w]
                      rfl
                     refine pure_ (i := 8) (N := some 97) (v := ?_) (a' := ?_) #[true, true, true, true, true, true, true, true, true, false, false, false, false, false, false, false, false, false, false, false, false, false, false, false, false, false, false, false, false, false, false, false, false] rfl rfl (any_of HT_.out (by kernel_rfl)) (fun _ _ _ h => h) (Or.inl ⟨by rfl, ?_⟩) ?_ ?_
                     rotate_left
                     ·intro w'
                      go_simp
                      with_reducible rfl
                     rotate_left
                     ·simp only [Act.put, List.setIfInBounds_toArray, List.set_cons_zero, List.set_cons_succ, i64_w, i32_w]
                      rfl
                     refine pure_ (i := 9) (N := some 98) (v := ?_) (a' := ?_) #[true, true, true, true, true, true, true, true, true, true, false, false, false, false, false, false, false, false, false, false, false, false, false, false, false, false, false, false, false, false, false, false, false] rfl rfl (any_of HT_.out (by kernel_rfl)) (fun _ _ _ h => h) (Or.inl ⟨by rfl, ?_⟩) ?_ ?_
                     rotate_left
                     ·intro w'
                      go_simp
                      with_reducible rfl
                     rotate_left
                     ·simp only [Act.put, List.setIfInBounds_toArray, List.set_cons_zero, List.set_cons_succ, i64_w, i32_w]
                      rfl
                     refine pure_ (i := 10) (N := some 99) (v := ?_) (a' := ?_) #[true, true, true, true, true, true, true, true, true, true, true, false, false, false, false, false, false, false, false, false, false, false, false, false, false, false, false, false, false, false, false, false, false] rfl rfl (any_of HT_.out (by kernel_rfl)) (fun _ _ _ h => h) (Or.inl ⟨by rfl, ?_⟩) ?_ ?_
                     rotate_left
                     ·intro w'
                      go_simp
                      with_reducible rfl
                     rotate_left
                     ·simp only [Act.put, List.setIfInBounds_toArray, List.set_cons_zero, List.set_cons_succ, i64_w, i32_w]
                      rfl
                     refine take_ (i := 11) (N := some 100) (v := ?_) (a' := ?_) #[true, true, true, true, true, true, true, true, true, true, true, true, false, false, false, false, false, false, false, false, false, false, false, false, false, false, false, false, false, false, false, false, false] rfl rfl (take_ofW HT_.out HW_.out (by kernel_rfl)) (fun _ _ _ h => h) (Or.inl ⟨by rfl, ?_⟩) hHeld ?_ ?_
                     rotate_left
                     ·rintro w' ⟨s0, s1, s2, s3, s4, s5, s6, s7, s8, s9, s10, s11⟩
                      go_simp
                      with_reducible rfl
                     rotate_left
                     ·simp only [Act.put, List.setIfInBounds_toArray, List.set_cons_zero, List.set_cons_succ, i64_w, i32_w]
                      rfl
                     refine one_ (i := 12) (N := some 101) #[true, true, true, true, true, true, true, true, true, true, true, true, true, false, false, false, false, false, false, false, false, false, false, false, false, false, false, false, false, false, false, false, false] rfl rfl (one_of HT_.out (by kernel_rfl)) (by decide) (fun K hK => ?_)
                     refine goes_ Try.func76 (by kernel_rfl) rfl #[.agg #[.string ((rd_T89 t1269 (rd t1272 x14_2)).f0), .int .i64 ((rd_T89 t1269 (rd t1272 x14_2)).f1), .int .i64 ((rd_T89 t1269 (rd t1272 x14_2)).f2), .int .i64 ((rd_T89 t1269 (rd t1272 x14_2)).f3), .int .i64 ((rd_T89 t1269 (rd t1272 x14_2)).f4)]] (by rfl) rfl rfl (by (try simp only [List.map_toArray, List.map_cons, List.map_nil]); first | done | rfl | (simp only [List.length_drop, List.length_take]; rfl)) ?_
                     with_reducible refine (impl_IsValidContainer.calls k2 ((rd_T89 t1269 (rd t1272 x14_2)).f0) ((rd_T89 t1269 (rd t1272 x14_2)).f1) ((rd_T89 t1269 (rd t1272 x14_2)).f2) ((rd_T89 t1269 (rd t1272 x14_2)).f3) ((rd_T89 t1269 (rd t1272 x14_2)).f4) true _ A34.out).mono ?_
                     rintro e w54 ⟨rfl, hb⟩
                     have HS5_ := (hb.cell (World.block_lt_of_cell? _ _ (hHeld.2.2.2.2.2.1))).trans (hHeld.2.2.2.2.2.1)
                     have HS6_ := (hb.cell (World.block_lt_of_cell? _ _ (hHeld.2.2.2.2.2.2.1))).trans (hHeld.2.2.2.2.2.2.1)
                     have HS7_ := (hb.cell (World.block_lt_of_cell? _ _ (hHeld.2.2.2.2.2.2.2.1))).trans (hHeld.2.2.2.2.2.2.2.1)
                     have HS8_ := (hb.cell (World.block_lt_of_cell? _ _ (hHeld.2.2.2.2.2.2.2.2.1))).trans (hHeld.2.2.2.2.2.2.2.2.1)
                     have HS9_ := (hb.cell (World.block_lt_of_cell? _ _ (hHeld.2.2.2.2.2.2.2.2.2.1))).trans (hHeld.2.2.2.2.2.2.2.2.2.1)
                     have HS10_ := (hb.cell (World.block_lt_of_cell? _ _ (hHeld.2.2.2.2.2.2.2.2.2.2.1))).trans (hHeld.2.2.2.2.2.2.2.2.2.2.1)
                     have HS11_ := (hb.cell (World.block_lt_of_cell? _ _ (hHeld.2.2.2.2.2.2.2.2.2.2.2))).trans (hHeld.2.2.2.2.2.2.2.2.2.2.2)
                     refine ⟨_, rfl, ?_⟩
                     have n0_ := Aside0.mk (Kd.R_below (by (with_reducible repeat (first | apply Kd.R_alloc | apply Kd.R_drewN | apply Kd.R_drew)); exact HO_3.out) hb)
                     have n1_ := Aside0.mk (Kd.R_below (by (with_reducible repeat (first | apply Kd.R_alloc | apply Kd.R_drewN | apply Kd.R_drew)); exact HO_4.out) hb)
                     have n2_ := Aside0.mk (blk_below (g := gb1288) (o := .cells #[.string ((rd_T89 t1269 (rd t1272 x14_2)).f0), .int .i64 ((rd_T89 t1269 (rd t1272 x14_2)).f1), .int .i64 ((rd_T89 t1269 (rd t1272 x14_2)).f2), .int .i64 ((rd_T89 t1269 (rd t1272 x14_2)).f3), .int .i64 ((rd_T89 t1269 (rd t1272 x14_2)).f4)] 89 (0, 0)) (by (with_reducible repeat (first | refine blk_drewN ?_ _ | refine blk_drew ?_ | refine blk_alloc ?_ _)); exact BK1288.out) hb)
                     have n3_ := Aside0.mk (below_step (by repeat (first | (with_reducible first | exact HB.out | apply below_alloc | apply pw_below_drewN | apply below_drew1 | refine below_set ?_ GE1288.out) | exact HB.out)) hb)
                     clear HO_3
                     clear HO_4
                     clear BK1288
                     clear HB
                     have HO_3 := n0_
                     have HO_4 := n1_
                     have BK1288 := n2_
                     have HB := n3_
                     clear n0_ n1_ n2_ n3_
                     (try clear hb)
                     (try clear hb2)
                     (try clear hk)
                     (try clear hi)
                     refine hK.out _ _ ⟨(blk_cell BK1288.out 0).trans rfl, (blk_cell BK1288.out 1).trans rfl, (blk_cell BK1288.out 2).trans rfl, (blk_cell BK1288.out 3).trans rfl, (blk_cell BK1288.out 4).trans rfl, HS5_, HS6_, HS7_, HS8_, HS9_, HS10_, HS11_⟩ (fun hHeld => ?_)
                     clear hK K
                     refine norm_ (a' := ?_) ?_ ?_
                     rotate_left
                     ·show Act.put _ (some 101) _ = _
                      simp only [Act.put, List.setIfInBounds_toArray, List.set_cons_zero, List.set_cons_succ, i64_w, i32_w]
                      rfl
                     refine pure_ (i := 13) (N := some 102) (v := ?_) (a' := ?_) #[true, true, true, true, true, true, true, true, true, true, true, true, true, true, false, false, false, false, false, false, false, false, false, false, false, false, false, false, false, false, false, false, false] rfl rfl (any_of HT_.out (by kernel_rfl)) (fun _ _ _ h => h) (Or.inl ⟨by rfl, ?_⟩) ?_ ?_
                     rotate_left
                     ·intro w'
                      go_simp
                      with_reducible rfl
                     rotate_left
                     ·simp only [Act.put, List.setIfInBounds_toArray, List.set_cons_zero, List.set_cons_succ, i64_w, i32_w]
                      rfl
                     refine pure_ (i := 14) (N := some 103) (v := ?_) (a' := ?_) #[true, true, true, true, true, true, true, true, true, true, true, true, true, true, true, false, false, false, false, false, false, false, false, false, false, false, false, false, false, false, false, false, false] rfl rfl (any_of HT_.out (by kernel_rfl)) (fun _ _ _ h => h) (Or.inl ⟨by rfl, ?_⟩) ?_ ?_
                     rotate_left
                     ·intro w'
                      go_simp
                      with_reducible rfl
                     rotate_left
                     ·simp only [Act.put, List.setIfInBounds_toArray, List.set_cons_zero, List.set_cons_succ, i64_w, i32_w]
                      rfl
                     refine pure_ (i := 15) (N := some 104) (v := ?_) (a' := ?_) #[true, true, true, true, true, true, true, true, true, true, true, true, true, true, true, true, false, false, false, false, false, false, false, false, false, false, false, false, false, false, false, false, false] rfl rfl (any_of HT_.out (by kernel_rfl)) (fun _ _ _ h => h) (Or.inl ⟨by rfl, ?_⟩) ?_ ?_
                     rotate_left
                     ·intro w'
                      go_simp
                      with_reducible rfl
                     rotate_left
                     ·simp only [Act.put, List.setIfInBounds_toArray, List.set_cons_zero, List.set_cons_succ, i64_w, i32_w]
                      rfl
                     refine pure_ (i := 16) (N := some 105) (v := ?_) (a' := ?_) #[true, true, true, true, true, true, true, true, true, true, true, true, true, true, true, true, true, false, false, false, false, false, false, false, false, false, false, false, false, false, false, false, false] rfl rfl (any_of HT_.out (by kernel_rfl)) (fun _ _ _ h => h) (Or.inl ⟨by rfl, ?_⟩) ?_ ?_
                     rotate_left
                     ·intro w'
                      go_simp
                      with_reducible rfl
                     rotate_left
                     ·simp only [Act.put, List.setIfInBounds_toArray, List.set_cons_zero, List.set_cons_succ, i64_w, i32_w]
                      rfl
                     refine pure_ (i := 17) (N := some 106) (v := ?_) (a' := ?_) #[true, true, true, true, true, true, true, true, true, true, true, true, true, true, true, true, true, true, false, false, false, false, false, false, false, false, false, false, false, false, false, false, false] rfl rfl (any_of HT_.out (by kernel_rfl)) (fun _ _ _ h => h) (Or.inl ⟨by rfl, ?_⟩) ?_ ?_
                     rotate_left
                     ·intro w'
                      go_simp
                      with_reducible rfl
                     rotate_left
                     ·simp only [Act.put, List.setIfInBounds_toArray, List.set_cons_zero, List.set_cons_succ, i64_w, i32_w]
                      rfl
                     refine pure_ (i := 18) (N := some 107) (v := ?_) (a' := ?_) #[true, true, true, true, true, true, true, true, true, true, true, true, true, true, true, true, true, true, true, false, false, false, false, false, false, false, false, false, false, false, false, false, false] rfl rfl (any_of HT_.out (by kernel_rfl)) (fun _ _ _ h => h) (Or.inl ⟨by rfl, ?_⟩) ?_ ?_
                     rotate_left
                     ·intro w'
                      go_simp
                      with_reducible rfl
                     rotate_left
                     ·simp only [Act.put, List.setIfInBounds_toArray, List.set_cons_zero, List.set_cons_succ, i64_w, i32_w]
                      rfl
                     refine pure_ (i := 19) (N := some 108) (v := ?_) (a' := ?_) #[true, true, true, true, true, true, true, true, true, true, true, true, true, true, true, true, true, true, true, true, false, false, false, false, false, false, false, false, false, false, false, false, false] rfl rfl (any_of HT_.out (by kernel_rfl)) (fun _ _ _ h => h) (Or.inl ⟨by rfl, ?_⟩) ?_ ?_
                     rotate_left
                     ·intro w'
                      go_simp
                      with_reducible rfl
                     rotate_left
                     ·simp only [Act.put, List.setIfInBounds_toArray, List.set_cons_zero, List.set_cons_succ, i64_w, i32_w]
                      rfl
                     refine pure_ (i := 20) (N := some 109) (v := ?_) (a' := ?_) #[true, true, true, true, true, true, true, true, true, true, true, true, true, true, true, true, true, true, true, true, true, false, false, false, false, false, false, false, false, false, false, false, false] rfl rfl (any_of HT_.out (by kernel_rfl)) (fun _ _ _ h => h) (Or.inl ⟨by rfl, ?_⟩) ?_ ?_
                     rotate_left
                     ·intro w'
                      go_simp
                      with_reducible rfl
                     rotate_left
                     ·simp only [Act.put, List.setIfInBounds_toArray, List.set_cons_zero, List.set_cons_succ, i64_w, i32_w]
                      rfl
                     refine pure_ (i := 21) (N := some 110) (v := ?_) (a' := ?_) #[true, true, true, true, true, true, true, true, true, true, true, true, true, true, true, true, true, true, true, true, true, true, false, false, false, false, false, false, false, false, false, false, false] rfl rfl (any_of HT_.out (by kernel_rfl)) (fun _ _ _ h => h) (Or.inl ⟨by rfl, ?_⟩) ?_ ?_
                     rotate_left
                     ·intro w'
                      go_simp
                      with_reducible rfl
                     rotate_left
                     ·simp only [Act.put, List.setIfInBounds_toArray, List.set_cons_zero, List.set_cons_succ, i64_w, i32_w]
                      rfl
                     refine pure_ (i := 22) (N := some 111) (v := ?_) (a' := ?_) #[true, true, true, true, true, true, true, true, true, true, true, true, true, true, true, true, true, true, true, true, true, true, true, false, false, false, false, false, false, false, false, false, false] rfl rfl (any_of HT_.out (by kernel_rfl)) (fun _ _ _ h => h) (Or.inl ⟨by rfl, ?_⟩) ?_ ?_
                     rotate_left
                     ·intro w'
                      go_simp
                      with_reducible rfl
                     rotate_left
                     ·simp only [Act.put, List.setIfInBounds_toArray, List.set_cons_zero, List.set_cons_succ, i64_w, i32_w]
                      rfl
                     refine pure_ (i := 23) (N := some 112) (v := ?_) (a' := ?_) #[true, true, true, true, true, true, true, true, true, true, true, true, true, true, true, true, true, true, true, true, true, true, true, true, false, false, false, false, false, false, false, false, false] rfl rfl (any_of HT_.out (by kernel_rfl)) (fun _ _ _ h => h) (Or.inl ⟨by rfl, ?_⟩) ?_ ?_
                     rotate_left
                     ·intro w'
                      go_simp
                      with_reducible rfl
                     rotate_left
                     ·simp only [Act.put, List.setIfInBounds_toArray, List.set_cons_zero, List.set_cons_succ, i64_w, i32_w]
                      rfl
                     refine pure_ (i := 28) (N := some 117) (v := ?_) (a' := ?_) #[true, true, true, true, true, true, true, true, true, true, true, true, true, true, true, true, true, true, true, true, true, true, true, true, false, false, false, false, true, false, false, false, false] rfl rfl (any_of HT_.out (by kernel_rfl)) (fun _ _ _ h => h) (Or.inl ⟨by rfl, ?_⟩) ?_ ?_
                     rotate_left
                     ·intro w'
                      go_simp
                      with_reducible rfl
                     rotate_left
                     ·simp only [Act.put, List.setIfInBounds_toArray, List.set_cons_zero, List.set_cons_succ, i64_w, i32_w]
                      rfl
                     refine take_ (i := 24) (N := some 113) (v := ?_) (a' := ?_) #[true, true, true, true, true, true, true, true, true, true, true, true, true, true, true, true, true, true, true, true, true, true, true, true, true, false, false, false, true, false, false, false, false] rfl rfl (take_ofW HT_.out HW_.out (by kernel_rfl)) (fun _ _ _ h => h) (Or.inl ⟨by rfl, ?_⟩) hHeld ?_ ?_
                     rotate_left
                     ·rintro w' ⟨s0, s1, s2, s3, s4, s5, s6, s7, s8, s9, s10, s11⟩
                      go_simp
                      with_reducible rfl
                     rotate_left
                     ·simp only [Act.put, List.setIfInBounds_toArray, List.set_cons_zero, List.set_cons_succ, i64_w, i32_w]
                      rfl
                     refine pure_ (i := 25) (N := some 114) (v := ?_) (a' := ?_) #[true, true, true, true, true, true, true, true, true, true, true, true, true, true, true, true, true, true, true, true, true, true, true, true, true, true, false, false, true, false, false, false, false] rfl rfl (any_of HT_.out (by kernel_rfl)) (fun _ _ _ h => h) (Or.inl ⟨by rfl, ?_⟩) ?_ ?_
                     rotate_left
                     ·intro w'
                      go_simp
                      with_reducible rfl
                     rotate_left
                     ·simp only [Act.put, List.setIfInBounds_toArray, List.set_cons_zero, List.set_cons_succ, i64_w, i32_w]
                      rfl
                     refine pure_ (i := 26) (N := some 115) (v := ?_) (a' := ?_) #[true, true, true, true, true, true, true, true, true, true, true, true, true, true, true, true, true, true, true, true, true, true, true, true, true, true, true, false, true, false, false, false, false] rfl rfl (any_of HT_.out (by kernel_rfl)) (fun _ _ _ h => h) (Or.inl ⟨by rfl, ?_⟩) ?_ ?_
                     rotate_left
                     ·intro w'
                      go_simp
                      with_reducible rfl
                     rotate_left
                     ·simp only [Act.put, List.setIfInBounds_toArray, List.set_cons_zero, List.set_cons_succ, i64_w, i32_w]
                      rfl
                     refine take_ (i := 27) (N := some 116) (v := ?_) (a' := ?_) #[true, true, true, true, true, true, true, true, true, true, true, true, true, true, true, true, true, true, true, true, true, true, true, true, true, true, true, true, true, false, false, false, false] rfl rfl (take_ofW HT_.out HW_.out (by kernel_rfl)) (fun _ _ _ h => h) (Or.inl ⟨by rfl, ?_⟩) hHeld ?_ ?_
                     rotate_left
                     ·rintro w' ⟨s0, s1, s2, s3, s4, s5, s6, s7, s8, s9, s10, s11⟩
                      go_simp
                      with_reducible rfl
                     rotate_left
                     ·simp only [Act.put, List.setIfInBounds_toArray, List.set_cons_zero, List.set_cons_succ, i64_w, i32_w]
                      rfl
                     refine take_ (i := 29) (N := some 118) (v := ?_) (a' := ?_) #[true, true, true, true, true, true, true, true, true, true, true, true, true, true, true, true, true, true, true, true, true, true, true, true, true, true, true, true, true, true, false, false, false] rfl rfl (take_ofW HT_.out HW_.out (by kernel_rfl)) (fun _ _ _ h => h) (Or.inl ⟨by rfl, ?_⟩) hHeld ?_ ?_
                     rotate_left
                     ·rintro w' ⟨s0, s1, s2, s3, s4, s5, s6, s7, s8, s9, s10, s11⟩
                      go_simp
                      with_reducible rfl
                     rotate_left
                     ·simp only [Act.put, List.setIfInBounds_toArray, List.set_cons_zero, List.set_cons_succ, i64_w, i32_w]
                      rfl
                     refine pure_ (i := 30) (N := some 119) (v := ?_) (a' := ?_) #[true, true, true, true, true, true, true, true, true, true, true, true, true, true, true, true, true, true, true, true, true, true, true, true, true, true, true, true, true, true, true, false, false] rfl rfl (any_of HT_.out (by kernel_rfl)) (fun _ _ _ h => h) (Or.inl ⟨by rfl, ?_⟩) ?_ ?_
                     rotate_left
                     ·intro w'
                      go_simp
                      with_reducible rfl
                     rotate_left
                     ·simp only [Act.put, List.setIfInBounds_toArray, List.set_cons_zero, List.set_cons_succ, i64_w, i32_w]
                      rfl
                     refine pure_ (i := 31) (N := some 120) (v := ?_) (a' := ?_) #[true, true, true, true, true, true, true, true, true, true, true, true, true, true, true, true, true, true, true, true, true, true, true, true, true, true, true, true, true, true, true, true, false] rfl rfl (any_of HT_.out (by kernel_rfl)) (fun _ _ _ h => h) (Or.inl ⟨by rfl, ?_⟩) ?_ ?_
                     rotate_left
                     ·intro w'
                      go_simp
                      with_reducible rfl
                     rotate_left
                     ·simp only [Act.put, List.setIfInBounds_toArray, List.set_cons_zero, List.set_cons_succ, i64_w, i32_w]
                      rfl
                     refine pure_ (i := 32) (N := some 121) (v := ?_) (a' := ?_) #[true, true, true, true, true, true, true, true, true, true, true, true, true, true, true, true, true, true, true, true, true, true, true, true, true, true, true, true, true, true, true, true, true] rfl rfl (any_of HT_.out (by kernel_rfl)) (fun _ _ _ h => h) (Or.inl ⟨by rfl, ?_⟩) ?_ ?_
                     rotate_left
                     ·intro w'
                      go_simp
                      with_reducible rfl
                     rotate_left
                     ·simp only [Act.put, List.setIfInBounds_toArray, List.set_cons_zero, List.set_cons_succ, i64_w, i32_w]
                      rfl
                     refine done_ (done_of HT_.out (by kernel_rfl)) ?_
                     try go_wp2
                     go_roundg k2
                     case measure => have := HJ6.out; have := HK2.out; omega
                     case rel => exact ⟨(wrap64 (x12_2 + ((rd_T89 t1269 (rd t1272 x14_2)).f2))), (wrap64 (x14_2 + 1)), (by first | rfl | (simp; done) | (simp [*]; done)), (by first | rfl | (simp; done) | (simp [*]; done)), H', ⟨by have := HJ6.out; have := HK2.out; omega⟩, ⟨by (with_reducible repeat (first | apply Kd.R_alloc | apply Kd.R_drewN | apply Kd.R_drew)); exact Kd.R_mono HO_3.out (fun _ hk => trivial)⟩, ⟨by (with_reducible repeat (first | apply Kd.R_alloc | apply Kd.R_drewN | apply Kd.R_drew)); exact HO_4.out⟩, ⟨by repeat (first | (with_reducible first | exact HB.out | apply below_alloc | apply pw_below_drewN | apply below_drew1 | refine below_set ?_ GE1288.out) | exact HB.out)⟩⟩
                   ·rw [if_neg c41] at H
                    exact absurd H (by simp)
                  ·rw [if_neg c40] at H
                   exact absurd H (by simp)
                 ·rw [if_neg c39] at H
                  exact absurd H (by simp)
                ·rw [if_neg c38] at H
                 exact absurd H (by simp)
               ·rw [if_neg c36] at H
                have c36b0 : decide (0 < x14_2) = false := decide_eq_false c36
                clear c36
                have H' := Aside0.mk H
                clear H
                obtain ⟨Ao55, co55, eo55⟩ := Kd.R_slice HO_4.out
                subst eo55
                have p1286 : 0 ≤ (x14_2 : Int) := of_decide_eq_true (by first | (with_reducible assumption) | assumption)
                have q1286 : x14_2 < (t1272.length : Int) := of_decide_eq_true (by first | (with_reducible assumption) | assumption)
                obtain ⟨ad1286, e1286, hx1286_0⟩ := Kd.at_int (Kd.R_reads' HO_4.out).2.2 x14_2 p1286 q1286
                cases e1286
                replace p1286 := eq_true p1286
                replace q1286 := eq_true q1286
                have p1287 : 0 ≤ ((rd t1272 x14_2) : Int) := of_decide_eq_true (by first | (with_reducible assumption) | assumption)
                have q1287 : (rd t1272 x14_2) < (t1269.length : Int) := of_decide_eq_true (by first | (with_reducible assumption) | assumption)
                obtain ⟨ad1287, e1287, hx1287_0, hx1287_1, hx1287_2, hx1287_3, hx1287_4⟩ := at_T89 (Kd.R_reads' HO_3.out).2.2 (rd t1272 x14_2) p1287 q1287
                cases e1287
                replace p1287 := eq_true p1287
                replace q1287 := eq_true q1287
                try go_wp2_with (first | ((with_reducible refine gate_dst (N := 15) rfl ?_); (try (refine gate_guard (by rfl) ?_; dsimp only)); refine box_event ?hg (N := 15) ?hd (cs := #[.string (⟨#[]⟩ : ByteArray), .int .i64 0, .int .i64 0, .int .i64 0, .int .i64 0]) (t := 89) ?hr ?_; (case hd => rfl); (case hg => rfl); (case hr => first | (go_simp; done) | (go_simp; rfl)); intro gb1288 hg w56 hbox hb; have n0_ := Aside0.mk (Kd.R_below (Kd.R_elderB (by (with_reducible repeat (first | apply Kd.R_alloc | apply Kd.R_drewN | apply Kd.R_drew)); exact HO_3.out) gb1288 (Nat.le_of_eq hg.symm)) hb); have n1_ := Aside0.mk (Kd.R_below (by (with_reducible repeat (first | apply Kd.R_alloc | apply Kd.R_drewN | apply Kd.R_drew)); exact HO_4.out) hb); have n2_ := Aside0.mk (below_step (by repeat (first | (with_reducible first | exact HB.out | apply below_alloc | apply pw_below_drewN | apply below_drew1) | exact HB.out)) hb); have n3_ := Aside0.mk (hbox); have n4_ := Aside0.mk ((by rw [hg]; exact (below_size (by repeat (first | (with_reducible first | exact HB.out | apply below_alloc | apply pw_below_drewN | apply below_drew1) | exact HB.out))) : w.heap.size ≤ gb1288)); have n5_ := Aside0.mk ((by rw [hg]; exact (below_size (by repeat (first | (with_reducible first | exact HB.out | apply below_alloc | apply pw_below_drewN | apply below_drew1) | exact HB.out))) : w.heap.size ≤ gb1288)); clear HO_3; clear HO_4; clear HB; have HO_3 := n0_; have HO_4 := n1_; have HB := n2_; have BK1288 := n3_; have GW1288 := n4_; have GE1288 := n5_; clear n0_ n1_ n2_ n3_ n4_ n5_; clear hb hbox hg; have hcz57_0 : w56.cell? ⟨gb1288, 0, none⟩ = some (.string (⟨#[]⟩ : ByteArray)) := (blk_cell BK1288.out 0).trans rfl; have hcz57_1 : w56.cell? ⟨gb1288, 1, none⟩ = some (.int .i64 0) := (blk_cell BK1288.out 1).trans rfl; have hcz57_2 : w56.cell? ⟨gb1288, 2, none⟩ = some (.int .i64 0) := (blk_cell BK1288.out 2).trans rfl; have hcz57_3 : w56.cell? ⟨gb1288, 3, none⟩ = some (.int .i64 0) := (blk_cell BK1288.out 3).trans rfl; have hcz57_4 : w56.cell? ⟨gb1288, 4, none⟩ = some (.int .i64 0) := (blk_cell BK1288.out 4).trans rfl; have hfz57_0 := blk_frozen BK1288.out 0; have hfz57_1 := blk_frozen BK1288.out 1; have hfz57_2 := blk_frozen BK1288.out 2; have hfz57_3 := blk_frozen BK1288.out 3; have hfz57_4 := blk_frozen BK1288.out 4) | ((with_reducible refine gate_callee (f := 75) rfl ?_); refine goesL_ (some 86) rfl rfl Try.func75 (by kernel_rfl) rfl #[.slice (some ad1287) t1269.length co9, .string ((rd_T89 t1269 (rd t1272 x14_2)).f0)] rfl (by (try simp only [List.map_toArray, List.map_cons, List.map_nil]); first | done | rfl | (simp only [List.length_drop, List.length_take]; rfl)) ?_; (with_reducible refine (impl_FindContainer.calls k2 _ _ t1269 ((rd_T89 t1269 (rd t1272 x14_2)).f0) t1289 true _ ?side1 ?side2 A31.out).mono ?_); (case side1 => refine (Kd.R_reads' (e := 89) (base := w.heap.size) (ok := fun k_ => (True ∧ k_ ≠ gb1288)) (n := t1269.length) (c := co9) ?_).2.2; exact (by (with_reducible repeat (first | apply Kd.R_alloc | apply Kd.R_drewN | apply Kd.R_drew)); exact (Kd.R_mono (Kd.R_far (p := ⟨gb1288, 4, none⟩) (Kd.R_far (p := ⟨gb1288, 3, none⟩) (Kd.R_far (p := ⟨gb1288, 2, none⟩) (Kd.R_far (p := ⟨gb1288, 1, none⟩) (Kd.R_far (p := ⟨gb1288, 0, none⟩) (Kd.R_mono HO_3.out (fun k_ hk => (⟨hk, hk.2⟩ : _ ∧ k_ ≠ gb1288))) (fun _ hk => hk.2) (.string ((rd_T89 t1269 (rd t1272 x14_2)).f0))) (fun _ hk => hk.2) (.int .i64 ((rd_T89 t1269 (rd t1272 x14_2)).f1))) (fun _ hk => hk.2) (.int .i64 ((rd_T89 t1269 (rd t1272 x14_2)).f2))) (fun _ hk => hk.2) (.int .i64 ((rd_T89 t1269 (rd t1272 x14_2)).f3))) (fun _ hk => hk.2) (.int .i64 ((rd_T89 t1269 (rd t1272 x14_2)).f4))) (fun _ h_ => h_.1)))); (case side2 => exact (Kd.R_reads' HO_3.out).2.1); rintro e w58 ⟨rfl, hb⟩; refine ⟨_, rfl, ?_⟩; have n0_ := Aside0.mk (Kd.R_below (by (with_reducible repeat (first | apply Kd.R_alloc | apply Kd.R_drewN | apply Kd.R_drew)); exact (Kd.R_mono (Kd.R_far (p := ⟨gb1288, 4, none⟩) (Kd.R_far (p := ⟨gb1288, 3, none⟩) (Kd.R_far (p := ⟨gb1288, 2, none⟩) (Kd.R_far (p := ⟨gb1288, 1, none⟩) (Kd.R_far (p := ⟨gb1288, 0, none⟩) (Kd.R_mono HO_3.out (fun k_ hk => (⟨hk, hk.2⟩ : _ ∧ k_ ≠ gb1288))) (fun _ hk => hk.2) (.string ((rd_T89 t1269 (rd t1272 x14_2)).f0))) (fun _ hk => hk.2) (.int .i64 ((rd_T89 t1269 (rd t1272 x14_2)).f1))) (fun _ hk => hk.2) (.int .i64 ((rd_T89 t1269 (rd t1272 x14_2)).f2))) (fun _ hk => hk.2) (.int .i64 ((rd_T89 t1269 (rd t1272 x14_2)).f3))) (fun _ hk => hk.2) (.int .i64 ((rd_T89 t1269 (rd t1272 x14_2)).f4))) (fun _ h_ => h_.1))) hb); have n1_ := Aside0.mk (Kd.R_below (by (with_reducible repeat (first | apply Kd.R_alloc | apply Kd.R_drewN | apply Kd.R_drew)); exact (Kd.R_mono (Kd.R_far (p := ⟨gb1288, 4, none⟩) (Kd.R_far (p := ⟨gb1288, 3, none⟩) (Kd.R_far (p := ⟨gb1288, 2, none⟩) (Kd.R_far (p := ⟨gb1288, 1, none⟩) (Kd.R_far (p := ⟨gb1288, 0, none⟩) (Kd.R_types HO_4.out BK1288.out (by decide)) (fun _ hk => hk.2) (.string ((rd_T89 t1269 (rd t1272 x14_2)).f0))) (fun _ hk => hk.2) (.int .i64 ((rd_T89 t1269 (rd t1272 x14_2)).f1))) (fun _ hk => hk.2) (.int .i64 ((rd_T89 t1269 (rd t1272 x14_2)).f2))) (fun _ hk => hk.2) (.int .i64 ((rd_T89 t1269 (rd t1272 x14_2)).f3))) (fun _ hk => hk.2) (.int .i64 ((rd_T89 t1269 (rd t1272 x14_2)).f4))) (fun _ h_ => h_.1))) hb); have n2_ := Aside0.mk (blk_below (g := gb1288) (o := .cells #[.string ((rd_T89 t1269 (rd t1272 x14_2)).f0), .int .i64 ((rd_T89 t1269 (rd t1272 x14_2)).f1), .int .i64 ((rd_T89 t1269 (rd t1272 x14_2)).f2), .int .i64 ((rd_T89 t1269 (rd t1272 x14_2)).f3), .int .i64 ((rd_T89 t1269 (rd t1272 x14_2)).f4)] 89 (0, 0)) (by (with_reducible repeat (first | refine blk_drewN ?_ _ | refine blk_drew ?_ | refine blk_alloc ?_ _)); refine blk_put (cs := #[.string ((rd_T89 t1269 (rd t1272 x14_2)).f0), .int .i64 ((rd_T89 t1269 (rd t1272 x14_2)).f1), .int .i64 ((rd_T89 t1269 (rd t1272 x14_2)).f2), .int .i64 ((rd_T89 t1269 (rd t1272 x14_2)).f3), .int .i64 0]) ?_ 4 _ rfl; (with_reducible repeat (first | refine blk_drewN ?_ _ | refine blk_drew ?_ | refine blk_alloc ?_ _)); refine blk_put (cs := #[.string ((rd_T89 t1269 (rd t1272 x14_2)).f0), .int .i64 ((rd_T89 t1269 (rd t1272 x14_2)).f1), .int .i64 ((rd_T89 t1269 (rd t1272 x14_2)).f2), .int .i64 0, .int .i64 0]) ?_ 3 _ rfl; (with_reducible repeat (first | refine blk_drewN ?_ _ | refine blk_drew ?_ | refine blk_alloc ?_ _)); refine blk_put (cs := #[.string ((rd_T89 t1269 (rd t1272 x14_2)).f0), .int .i64 ((rd_T89 t1269 (rd t1272 x14_2)).f1), .int .i64 0, .int .i64 0, .int .i64 0]) ?_ 2 _ rfl; (with_reducible repeat (first | refine blk_drewN ?_ _ | refine blk_drew ?_ | refine blk_alloc ?_ _)); refine blk_put (cs := #[.string ((rd_T89 t1269 (rd t1272 x14_2)).f0), .int .i64 0, .int .i64 0, .int .i64 0, .int .i64 0]) ?_ 1 _ rfl; (with_reducible repeat (first | refine blk_drewN ?_ _ | refine blk_drew ?_ | refine blk_alloc ?_ _)); refine blk_put (cs := #[.string (⟨#[]⟩ : ByteArray), .int .i64 0, .int .i64 0, .int .i64 0, .int .i64 0]) ?_ 0 _ rfl; (with_reducible repeat (first | refine blk_drewN ?_ _ | refine blk_drew ?_ | refine blk_alloc ?_ _)); exact BK1288.out) hb); have n3_ := Aside0.mk (below_step (by repeat (first | (with_reducible first | exact HB.out | apply below_alloc | apply pw_below_drewN | apply below_drew1 | refine below_set ?_ GE1288.out) | exact HB.out)) hb); clear HO_3; clear HO_4; clear BK1288; clear HB; have HO_3 := n0_; have HO_4 := n1_; have BK1288 := n2_; have HB := n3_; clear n0_ n1_ n2_ n3_; (try clear hb); (try clear hb2); (try clear hk); (try clear hi)))
                have n0_ := Aside0.mk (Kd.R_drew HO_3.out)
                have n1_ := Aside0.mk (Kd.R_drew HO_4.out)
                have n2_ := Aside0.mk (blk_drew BK1288.out)
                have n3_ := Aside0.mk (below_drew1 HB.out)
                clear HO_3
                clear HO_4
                clear BK1288
                clear HB
                have HO_3 := n0_
                have HO_4 := n1_
                have BK1288 := n2_
                have HB := n3_
                clear n0_ n1_ n2_ n3_
                have p1291 : 0 ≤ (x14_2 : Int) := of_decide_eq_true (by first | (with_reducible assumption) | assumption)
                have q1291 : x14_2 < (t1272.length : Int) := of_decide_eq_true (by first | (with_reducible assumption) | assumption)
                obtain ⟨ad1291, e1291, hx1291_0⟩ := Kd.at_int (Kd.R_reads' HO_4.out).2.2 x14_2 p1291 q1291
                obtain rfl : ad1286 = ad1291 := (by injection e1291)
                replace p1291 := eq_true p1291
                replace q1291 := eq_true q1291
                refine start_ (n := 33) (S := fun w' => w'.cell? ⟨gb1288, 0, none⟩ = some (.string ((rd_T89 t1269 (rd t1272 x14_2)).f0)) ∧ w'.cell? ⟨gb1288, 1, none⟩ = some (.int .i64 ((rd_T89 t1269 (rd t1272 x14_2)).f1)) ∧ w'.cell? ⟨gb1288, 2, none⟩ = some (.int .i64 ((rd_T89 t1269 (rd t1272 x14_2)).f2)) ∧ w'.cell? ⟨gb1288, 3, none⟩ = some (.int .i64 ((rd_T89 t1269 (rd t1272 x14_2)).f3)) ∧ w'.cell? ⟨gb1288, 4, none⟩ = some (.int .i64 ((rd_T89 t1269 (rd t1272 x14_2)).f4)) ∧ w'.cell? (ad1286.add (x14_2).toNat) = some (.int .i64 (rd t1272 x14_2))) (ds := []) #[false, false, false, false, false, false, false, false, false, false, false, false, false, false, false, false, false, false, false, false, false, false, false, false, false, false, false, false, false, false, false, false, false] (by kernel_rfl) rfl rfl ⟨(blk_cell BK1288.out 0).trans rfl, (blk_cell BK1288.out 1).trans rfl, (blk_cell BK1288.out 2).trans rfl, (blk_cell BK1288.out 3).trans rfl, (blk_cell BK1288.out 4).trans rfl, hx1291_0⟩ (fun hHeld => ?_); refine with_tabW laws_FnContainers.tab19 laws_FnContainers.bits19 (fun HT_ HW_ => ?_)
                generalize w58.drew = w59 at HO_3 HO_4 BK1288 HB hx1291_0 hHeld ⊢
                refine pure_ (i := 0) (N := some 89) (v := ?_) (a' := ?_) #[true, false, false, false, false, false, false, false, false, false, false, false, false, false, false, false, false, false, false, false, false, false, false, false, false, false, false, false, false, false, false, false, false] rfl rfl (any_of HT_.out (by kernel_rfl)) (fun _ _ _ h => h) (Or.inl ⟨by rfl, ?_⟩) ?_ ?_
                rotate_left
                ·intro w'
                 go_simp
                 with_reducible rfl
                rotate_left
                ·simp only [Act.put, List.setIfInBounds_toArray, List.set_cons_zero, List.set_cons_succ, i64_w, i32_w]
                 rfl
                refine pure_ (i := 1) (N := some 90) (v := ?_) (a' := ?_) #[true, true, false, false, false, false, false, false, false, false, false, false, false, false, false, false, false, false, false, false, false, false, false, false, false, false, false, false, false, false, false, false, false] rfl rfl (any_of HT_.out (by kernel_rfl)) (fun _ _ _ h => h) (Or.inl ⟨by rfl, ?_⟩) ?_ ?_
                rotate_left
                ·intro w'
                 go_simp
                 with_reducible rfl
                rotate_left
                ·simp only [Act.put, List.setIfInBounds_toArray, List.set_cons_zero, List.set_cons_succ, i64_w, i32_w]
                 rfl
                refine pure_ (i := 2) (N := some 91) (v := ?_) (a' := ?_) #[true, true, true, false, false, false, false, false, false, false, false, false, false, false, false, false, false, false, false, false, false, false, false, false, false, false, false, false, false, false, false, false, false] rfl rfl (any_of HT_.out (by kernel_rfl)) (fun _ _ _ h => h) (Or.inl ⟨by rfl, ?_⟩) ?_ ?_
                rotate_left
                ·intro w'
                 go_simp
                 with_reducible rfl
                rotate_left
                ·simp only [Act.put, List.setIfInBounds_toArray, List.set_cons_zero, List.set_cons_succ, i64_w, i32_w]
                 rfl
                refine pure_ (i := 3) (N := some 92) (v := ?_) (a' := ?_) #[true, true, true, true, false, false, false, false, false, false, false, false, false, false, false, false, false, false, false, false, false, false, false, false, false, false, false, false, false, false, false, false, false] rfl rfl (any_of HT_.out (by kernel_rfl)) (fun _ _ _ h => h) (Or.inl ⟨by rfl, ?_⟩) ?_ ?_
                rotate_left
                ·intro w'
                 go_simp
                 with_reducible rfl
                rotate_left
                ·simp only [Act.put, List.setIfInBounds_toArray, List.set_cons_zero, List.set_cons_succ, i64_w, i32_w]
                 rfl
                refine pure_ (i := 4) (N := some 93) (v := ?_) (a' := ?_) #[true, true, true, true, true, false, false, false, false, false, false, false, false, false, false, false, false, false, false, false, false, false, false, false, false, false, false, false, false, false, false, false, false] rfl rfl (any_of HT_.out (by kernel_rfl)) (fun _ _ _ h => h) (Or.inl ⟨by rfl, ?_⟩) ?_ ?_
                rotate_left
                ·intro w'
                 go_simp
                 with_reducible rfl
                rotate_left
                ·simp only [Act.put, List.setIfInBounds_toArray, List.set_cons_zero, List.set_cons_succ, i64_w, i32_w]
                 rfl
                refine pure_ (i := 5) (N := some 94) (v := ?_) (a' := ?_) #[true, true, true, true, true, true, false, false, false, false, false, false, false, false, false, false, false, false, false, false, false, false, false, false, false, false, false, false, false, false, false, false, false] rfl rfl (any_of HT_.out (by kernel_rfl)) (fun _ _ _ h => h) (Or.inl ⟨by rfl, ?_⟩) ?_ ?_
                rotate_left
                ·intro w'
                 go_simp
                 with_reducible rfl
                rotate_left
                ·simp only [Act.put, List.setIfInBounds_toArray, List.set_cons_zero, List.set_cons_succ, i64_w, i32_w]
                 rfl
                refine pure_ (i := 6) (N := some 95) (v := ?_) (a' := ?_) #[true, true, true, true, true, true, true, false, false, false, false, false, false, false, false, false, false, false, false, false, false, false, false, false, false, false, false, false, false, false, false, false, false] rfl rfl (any_of HT_.out (by kernel_rfl)) (fun _ _ _ h => h) (Or.inl ⟨by rfl, ?_⟩) ?_ ?_
                rotate_left
                ·intro w'
                 go_simp
                 with_reducible rfl
                rotate_left
                ·simp only [Act.put, List.setIfInBounds_toArray, List.set_cons_zero, List.set_cons_succ, i64_w, i32_w]
                 rfl
                refine take_ (i := 7) (N := some 96) (v := ?_) (a' := ?_) #[true, true, true, true, true, true, true, true, false, false, false, false, false, false, false, false, false, false, false, false, false, false, false, false, false, false, false, false, false, false, false, false, false] rfl rfl (take_ofW HT_.out HW_.out (by kernel_rfl)) (fun _ _ _ h => h) (Or.inl ⟨by rfl, ?_⟩) hHeld ?_ ?_
                rotate_left
                ·rintro w' ⟨s0, s1, s2, s3, s4, s5⟩
                 go_simp
                 with_reducible rfl
                rotate_left
                ·simp only [Act.put, List.setIfInBounds_toArray, List.set_cons_zero, List.set_cons_succ, i64_w, i32_w]
                 rfl
                refine pure_ (i := 8) (N := some 97) (v := ?_) (a' := ?_) #[true, true, true, true, true, true, true, true, true, false, false, false, false, false, false, false, false, false, false, false, false, false, false, false, false, false, false, false, false, false, false, false, false] rfl rfl (any_of HT_.out (by kernel_rfl)) (fun _ _ _ h => h) (Or.inl ⟨by rfl, ?_⟩) ?_ ?_
                rotate_left
                ·intro w'
                 go_simp
                 with_reducible rfl
                rotate_left
                ·simp only [Act.put, List.setIfInBounds_toArray, List.set_cons_zero, List.set_cons_succ, i64_w, i32_w]
                 rfl
                refine pure_ (i := 9) (N := some 98) (v := ?_) (a' := ?_) #[true, true, true, true, true, true, true, true, true, true, false, false, false, false, false, false, false, false, false, false, false, false, false, false, false, false, false, false, false, false, false, false, false] rfl rfl (any_of HT_.out (by kernel_rfl)) (fun _ _ _ h => h) (Or.inl ⟨by rfl, ?_⟩) ?_ ?_
                rotate_left
                ·intro w'
                 go_simp
                 with_reducible rfl
                rotate_left
                ·simp only [Act.put, List.setIfInBounds_toArray, List.set_cons_zero, List.set_cons_succ, i64_w, i32_w]
                 rfl
                refine pure_ (i := 10) (N := some 99) (v := ?_) (a' := ?_) #[true, true, true, true, true, true, true, true, true, true, true, false, false, false, false, false, false, false, false, false, false, false, false, false, false, false, false, false, false, false, false, false, false] rfl rfl (any_of HT_.out (by kernel_rfl)) (fun _ _ _ h => h) (Or.inl ⟨by rfl, ?_⟩) ?_ ?_
                rotate_left
                ·intro w'
                 go_simp
                 with_reducible rfl
                rotate_left
                ·simp only [Act.put, List.setIfInBounds_toArray, List.set_cons_zero, List.set_cons_succ, i64_w, i32_w]
                 rfl
                refine take_ (i := 11) (N := some 100) (v := ?_) (a' := ?_) #[true, true, true, true, true, true, true, true, true, true, true, true, false, false, false, false, false, false, false, false, false, false, false, false, false, false, false, false, false, false, false, false, false] rfl rfl (take_ofW HT_.out HW_.out (by kernel_rfl)) (fun _ _ _ h => h) (Or.inl ⟨by rfl, ?_⟩) hHeld ?_ ?_
                rotate_left
                ·rintro w' ⟨s0, s1, s2, s3, s4, s5⟩
                 go_simp
                 with_reducible rfl
                rotate_left
                ·simp only [Act.put, List.setIfInBounds_toArray, List.set_cons_zero, List.set_cons_succ, i64_w, i32_w]
                 rfl
                refine one_ (i := 12) (N := some 101) #[true, true, true, true, true, true, true, true, true, true, true, true, true, false, false, false, false, false, false, false, false, false, false, false, false, false, false, false, false, false, false, false, false] rfl rfl (one_of HT_.out (by kernel_rfl)) (by decide) (fun K hK => ?_)
                refine goes_ Try.func76 (by kernel_rfl) rfl #[.agg #[.string ((rd_T89 t1269 (rd t1272 x14_2)).f0), .int .i64 ((rd_T89 t1269 (rd t1272 x14_2)).f1), .int .i64 ((rd_T89 t1269 (rd t1272 x14_2)).f2), .int .i64 ((rd_T89 t1269 (rd t1272 x14_2)).f3), .int .i64 ((rd_T89 t1269 (rd t1272 x14_2)).f4)]] (by rfl) rfl rfl (by (try simp only [List.map_toArray, List.map_cons, List.map_nil]); first | done | rfl | (simp only [List.length_drop, List.length_take]; rfl)) ?_
                with_reducible refine (impl_IsValidContainer.calls k2 ((rd_T89 t1269 (rd t1272 x14_2)).f0) ((rd_T89 t1269 (rd t1272 x14_2)).f1) ((rd_T89 t1269 (rd t1272 x14_2)).f2) ((rd_T89 t1269 (rd t1272 x14_2)).f3) ((rd_T89 t1269 (rd t1272 x14_2)).f4) true _ A34.out).mono ?_
                rintro e w60 ⟨rfl, hb⟩
                have HS5_ := (hb.cell (World.block_lt_of_cell? _ _ (hHeld.2.2.2.2.2))).trans (hHeld.2.2.2.2.2)
                refine ⟨_, rfl, ?_⟩
                have n0_ := Aside0.mk (Kd.R_below (by (with_reducible repeat (first | apply Kd.R_alloc | apply Kd.R_drewN | apply Kd.R_drew)); exact HO_3.out) hb)
                have n1_ := Aside0.mk (Kd.R_below (by (with_reducible repeat (first | apply Kd.R_alloc | apply Kd.R_drewN | apply Kd.R_drew)); exact HO_4.out) hb)
                have n2_ := Aside0.mk (blk_below (g := gb1288) (o := .cells #[.string ((rd_T89 t1269 (rd t1272 x14_2)).f0), .int .i64 ((rd_T89 t1269 (rd t1272 x14_2)).f1), .int .i64 ((rd_T89 t1269 (rd t1272 x14_2)).f2), .int .i64 ((rd_T89 t1269 (rd t1272 x14_2)).f3), .int .i64 ((rd_T89 t1269 (rd t1272 x14_2)).f4)] 89 (0, 0)) (by (with_reducible repeat (first | refine blk_drewN ?_ _ | refine blk_drew ?_ | refine blk_alloc ?_ _)); exact BK1288.out) hb)
                have n3_ := Aside0.mk (below_step (by repeat (first | (with_reducible first | exact HB.out | apply below_alloc | apply pw_below_drewN | apply below_drew1 | refine below_set ?_ GE1288.out) | exact HB.out)) hb)
                clear HO_3
                clear HO_4
                clear BK1288
                clear HB
                have HO_3 := n0_
                have HO_4 := n1_
                have BK1288 := n2_
                have HB := n3_
                clear n0_ n1_ n2_ n3_
                (try clear hb)
                (try clear hb2)
                (try clear hk)
                (try clear hi)
                refine hK.out _ _ ⟨(blk_cell BK1288.out 0).trans rfl, (blk_cell BK1288.out 1).trans rfl, (blk_cell BK1288.out 2).trans rfl, (blk_cell BK1288.out 3).trans rfl, (blk_cell BK1288.out 4).trans rfl, HS5_⟩ (fun hHeld => ?_)
                clear hK K
                refine norm_ (a' := ?_) ?_ ?_
                rotate_left
                ·show Act.put _ (some 101) _ = _
                 simp only [Act.put, List.setIfInBounds_toArray, List.set_cons_zero, List.set_cons_succ, i64_w, i32_w]
                 rfl
                refine pure_ (i := 13) (N := some 102) (v := ?_) (a' := ?_) #[true, true, true, true, true, true, true, true, true, true, true, true, true, true, false, false, false, false, false, false, false, false, false, false, false, false, false, false, false, false, false, false, false] rfl rfl (any_of HT_.out (by kernel_rfl)) (fun _ _ _ h => h) (Or.inl ⟨by rfl, ?_⟩) ?_ ?_
                rotate_left
                ·intro w'
                 go_simp
                 with_reducible rfl
                rotate_left
                ·simp only [Act.put, List.setIfInBounds_toArray, List.set_cons_zero, List.set_cons_succ, i64_w, i32_w]
                 rfl
                refine pure_ (i := 14) (N := some 103) (v := ?_) (a' := ?_) #[true, true, true, true, true, true, true, true, true, true, true, true, true, true, true, false, false, false, false, false, false, false, false, false, false, false, false, false, false, false, false, false, false] rfl rfl (any_of HT_.out (by kernel_rfl)) (fun _ _ _ h => h) (Or.inl ⟨by rfl, ?_⟩) ?_ ?_
                rotate_left
                ·intro w'
                 go_simp
                 with_reducible rfl
                rotate_left
                ·simp only [Act.put, List.setIfInBounds_toArray, List.set_cons_zero, List.set_cons_succ, i64_w, i32_w]
                 rfl
                refine pure_ (i := 15) (N := some 104) (v := ?_) (a' := ?_) #[true, true, true, true, true, true, true, true, true, true, true, true, true, true, true, true, false, false, false, false, false, false, false, false, false, false, false, false, false, false, false, false, false] rfl rfl (any_of HT_.out (by kernel_rfl)) (fun _ _ _ h => h) (Or.inl ⟨by rfl, ?_⟩) ?_ ?_
                rotate_left
                ·intro w'
                 go_simp
                 with_reducible rfl
                rotate_left
                ·simp only [Act.put, List.setIfInBounds_toArray, List.set_cons_zero, List.set_cons_succ, i64_w, i32_w]
                 rfl
                refine pure_ (i := 16) (N := some 105) (v := ?_) (a' := ?_) #[true, true, true, true, true, true, true, true, true, true, true, true, true, true, true, true, true, false, false, false, false, false, false, false, false, false, false, false, false, false, false, false, false] rfl rfl (any_of HT_.out (by kernel_rfl)) (fun _ _ _ h => h) (Or.inl ⟨by rfl, ?_⟩) ?_ ?_
                rotate_left
                ·intro w'
                 go_simp
                 with_reducible rfl
                rotate_left
                ·simp only [Act.put, List.setIfInBounds_toArray, List.set_cons_zero, List.set_cons_succ, i64_w, i32_w]
                 rfl
                refine pure_ (i := 17) (N := some 106) (v := ?_) (a' := ?_) #[true, true, true, true, true, true, true, true, true, true, true, true, true, true, true, true, true, true, false, false, false, false, false, false, false, false, false, false, false, false, false, false, false] rfl rfl (any_of HT_.out (by kernel_rfl)) (fun _ _ _ h => h) (Or.inl ⟨by rfl, ?_⟩) ?_ ?_
                rotate_left
                ·intro w'
                 go_simp
                 with_reducible rfl
                rotate_left
                ·simp only [Act.put, List.setIfInBounds_toArray, List.set_cons_zero, List.set_cons_succ, i64_w, i32_w]
                 rfl
                refine pure_ (i := 18) (N := some 107) (v := ?_) (a' := ?_) #[true, true, true, true, true, true, true, true, true, true, true, true, true, true, true, true, true, true, true, false, false, false, false, false, false, false, false, false, false, false, false, false, false] rfl rfl (any_of HT_.out (by kernel_rfl)) (fun _ _ _ h => h) (Or.inl ⟨by rfl, ?_⟩) ?_ ?_
                rotate_left
                ·intro w'
                 go_simp
                 with_reducible rfl
                rotate_left
                ·simp only [Act.put, List.setIfInBounds_toArray, List.set_cons_zero, List.set_cons_succ, i64_w, i32_w]
                 rfl
                refine pure_ (i := 19) (N := some 108) (v := undef) (a' := ?_) #[true, true, true, true, true, true, true, true, true, true, true, true, true, true, true, true, true, true, true, true, false, false, false, false, false, false, false, false, false, false, false, false, false] rfl rfl (any_of HT_.out (by kernel_rfl)) (fun _ _ _ h => h) (Or.inr ⟨by rfl, rfl⟩) ?_ ?_
                rotate_left
                ·simp only [Act.put, List.setIfInBounds_toArray, List.set_cons_zero, List.set_cons_succ, i64_w, i32_w]
                 rfl
                refine pure_ (i := 20) (N := some 109) (v := undef) (a' := ?_) #[true, true, true, true, true, true, true, true, true, true, true, true, true, true, true, true, true, true, true, true, true, false, false, false, false, false, false, false, false, false, false, false, false] rfl rfl (any_of HT_.out (by kernel_rfl)) (fun _ _ _ h => h) (Or.inr ⟨by rfl, rfl⟩) ?_ ?_
                rotate_left
                ·simp only [Act.put, List.setIfInBounds_toArray, List.set_cons_zero, List.set_cons_succ, i64_w, i32_w]
                 rfl
                refine pure_ (i := 21) (N := some 110) (v := undef) (a' := ?_) #[true, true, true, true, true, true, true, true, true, true, true, true, true, true, true, true, true, true, true, true, true, true, false, false, false, false, false, false, false, false, false, false, false] rfl rfl (any_of HT_.out (by kernel_rfl)) (fun _ _ _ h => h) (Or.inr ⟨by rfl, rfl⟩) ?_ ?_
                rotate_left
                ·simp only [Act.put, List.setIfInBounds_toArray, List.set_cons_zero, List.set_cons_succ, i64_w, i32_w]
                 rfl
                refine pure_ (i := 22) (N := some 111) (v := undef) (a' := ?_) #[true, true, true, true, true, true, true, true, true, true, true, true, true, true, true, true, true, true, true, true, true, true, true, false, false, false, false, false, false, false, false, false, false] rfl rfl (any_of HT_.out (by kernel_rfl)) (fun _ _ _ h => h) (Or.inr ⟨by rfl, rfl⟩) ?_ ?_
                rotate_left
                ·simp only [Act.put, List.setIfInBounds_toArray, List.set_cons_zero, List.set_cons_succ, i64_w, i32_w]
                 rfl
                refine pure_ (i := 23) (N := some 112) (v := undef) (a' := ?_) #[true, true, true, true, true, true, true, true, true, true, true, true, true, true, true, true, true, true, true, true, true, true, true, true, false, false, false, false, false, false, false, false, false] rfl rfl (any_of HT_.out (by kernel_rfl)) (fun _ _ _ h => h) (Or.inr ⟨by rfl, rfl⟩) ?_ ?_
                rotate_left
                ·simp only [Act.put, List.setIfInBounds_toArray, List.set_cons_zero, List.set_cons_succ, i64_w, i32_w]
                 rfl
                refine pure_ (i := 24) (N := some 113) (v := undef) (a' := ?_) #[true, true, true, true, true, true, true, true, true, true, true, true, true, true, true, true, true, true, true, true, true, true, true, true, true, false, false, false, false, false, false, false, false] rfl rfl (any_of HT_.out (by kernel_rfl)) (fun _ _ _ h => h) (Or.inr ⟨by rfl, rfl⟩) ?_ ?_
                rotate_left
                ·simp only [Act.put, List.setIfInBounds_toArray, List.set_cons_zero, List.set_cons_succ, i64_w, i32_w]
                 rfl
                refine pure_ (i := 25) (N := some 114) (v := undef) (a' := ?_) #[true, true, true, true, true, true, true, true, true, true, true, true, true, true, true, true, true, true, true, true, true, true, true, true, true, true, false, false, false, false, false, false, false] rfl rfl (any_of HT_.out (by kernel_rfl)) (fun _ _ _ h => h) (Or.inr ⟨by rfl, rfl⟩) ?_ ?_
                rotate_left
                ·simp only [Act.put, List.setIfInBounds_toArray, List.set_cons_zero, List.set_cons_succ, i64_w, i32_w]
                 rfl
                refine pure_ (i := 26) (N := some 115) (v := undef) (a' := ?_) #[true, true, true, true, true, true, true, true, true, true, true, true, true, true, true, true, true, true, true, true, true, true, true, true, true, true, true, false, false, false, false, false, false] rfl rfl (any_of HT_.out (by kernel_rfl)) (fun _ _ _ h => h) (Or.inr ⟨by rfl, rfl⟩) ?_ ?_
                rotate_left
                ·simp only [Act.put, List.setIfInBounds_toArray, List.set_cons_zero, List.set_cons_succ, i64_w, i32_w]
                 rfl
                refine pure_ (i := 27) (N := some 116) (v := undef) (a' := ?_) #[true, true, true, true, true, true, true, true, true, true, true, true, true, true, true, true, true, true, true, true, true, true, true, true, true, true, true, true, false, false, false, false, false] rfl rfl (any_of HT_.out (by kernel_rfl)) (fun _ _ _ h => h) (Or.inr ⟨by rfl, rfl⟩) ?_ ?_
                rotate_left
                ·simp only [Act.put, List.setIfInBounds_toArray, List.set_cons_zero, List.set_cons_succ, i64_w, i32_w]
                 rfl
                refine pure_ (i := 28) (N := some 117) (v := undef) (a' := ?_) #[true, true, true, true, true, true, true, true, true, true, true, true, true, true, true, true, true, true, true, true, true, true, true, true, true, true, true, true, true, false, false, false, false] rfl rfl (any_of HT_.out (by kernel_rfl)) (fun _ _ _ h => h) (Or.inr ⟨by rfl, rfl⟩) ?_ ?_
                rotate_left
                ·simp only [Act.put, List.setIfInBounds_toArray, List.set_cons_zero, List.set_cons_succ, i64_w, i32_w]
                 rfl
                refine pure_ (i := 29) (N := some 118) (v := undef) (a' := ?_) #[true, true, true, true, true, true, true, true, true, true, true, true, true, true, true, true, true, true, true, true, true, true, true, true, true, true, true, true, true, true, false, false, false] rfl rfl (any_of HT_.out (by kernel_rfl)) (fun _ _ _ h => h) (Or.inr ⟨by rfl, rfl⟩) ?_ ?_
                rotate_left
                ·simp only [Act.put, List.setIfInBounds_toArray, List.set_cons_zero, List.set_cons_succ, i64_w, i32_w]
                 rfl
                refine pure_ (i := 30) (N := some 119) (v := undef) (a' := ?_) #[true, true, true, true, true, true, true, true, true, true, true, true, true, true, true, true, true, true, true, true, true, true, true, true, true, true, true, true, true, true, true, false, false] rfl rfl (any_of HT_.out (by kernel_rfl)) (fun _ _ _ h => h) (Or.inr ⟨by rfl, rfl⟩) ?_ ?_
                rotate_left
                ·simp only [Act.put, List.setIfInBounds_toArray, List.set_cons_zero, List.set_cons_succ, i64_w, i32_w]
                 rfl
                refine pure_ (i := 31) (N := some 120) (v := ?_) (a' := ?_) #[true, true, true, true, true, true, true, true, true, true, true, true, true, true, true, true, true, true, true, true, true, true, true, true, true, true, true, true, true, true, true, true, false] rfl rfl (any_of HT_.out (by kernel_rfl)) (fun _ _ _ h => h) (Or.inl ⟨by rfl, ?_⟩) ?_ ?_
                rotate_left
                ·intro w'
                 go_simp
                 with_reducible rfl
                rotate_left
                ·simp only [Act.put, List.setIfInBounds_toArray, List.set_cons_zero, List.set_cons_succ, i64_w, i32_w]
                 rfl
                refine pure_ (i := 32) (N := some 121) (v := ?_) (a' := ?_) #[true, true, true, true, true, true, true, true, true, true, true, true, true, true, true, true, true, true, true, true, true, true, true, true, true, true, true, true, true, true, true, true, true] rfl rfl (any_of HT_.out (by kernel_rfl)) (fun _ _ _ h => h) (Or.inl ⟨by rfl, ?_⟩) ?_ ?_
                rotate_left
                ·intro w'
                 go_simp
                 with_reducible rfl
                rotate_left
                ·simp only [Act.put, List.setIfInBounds_toArray, List.set_cons_zero, List.set_cons_succ, i64_w, i32_w]
                 rfl
                refine done_ (done_of HT_.out (by kernel_rfl)) ?_
                try go_wp2
                go_roundg k2
                case measure => have := HJ6.out; have := HK2.out; omega
                case rel => exact ⟨(wrap64 (x12_2 + ((rd_T89 t1269 (rd t1272 x14_2)).f2))), (wrap64 (x14_2 + 1)), (by first | rfl | (simp; done) | (simp [*]; done)), (by first | rfl | (simp; done) | (simp [*]; done)), H', ⟨by have := HJ6.out; have := HK2.out; omega⟩, ⟨by (with_reducible repeat (first | apply Kd.R_alloc | apply Kd.R_drewN | apply Kd.R_drew)); exact Kd.R_mono HO_3.out (fun _ hk => trivial)⟩, ⟨by (with_reducible repeat (first | apply Kd.R_alloc | apply Kd.R_drewN | apply Kd.R_drew)); exact HO_4.out⟩, ⟨by repeat (first | (with_reducible first | exact HB.out | apply below_alloc | apply pw_below_drewN | apply below_drew1 | refine below_set ?_ GE1288.out) | exact HB.out)⟩⟩
              ·replace c35 := Bool.eq_false_iff.mpr c35
               subst c35
               have H1 : (none) = some r := by rw [if_neg (show ¬ (false = true) by decide)] at H; exact H
               clear H
               have H := H1
               clear H1
               exact absurd H (by simp)
             ·rw [if_neg c33] at H
              have c33b0 : (t1289 == (rd t1272 x14_2)) = false := beq_eq_false_iff_ne.mpr c33
              have c33b1 : (t1289 != (rd t1272 x14_2)) = true := bne_iff_ne.mpr c33
              exact absurd H (by simp)
            ·replace c32 := Bool.eq_false_iff.mpr c32
             subst c32
             have H1 : (none) = some r := by rw [if_neg (show ¬ (false = true) by decide)] at H; exact H
             clear H
             have H := H1
             clear H1
             exact absurd H (by simp)
           ·rw [if_neg c30] at H
            exact absurd H (by simp)
          ·rw [if_neg c29] at H
           exact absurd H (by simp)
         ·rw [if_neg c28] at H
          exact absurd H (by simp)
        ·rw [if_neg c27] at H
         have c27b0 : decide (x14_2 < (t1272.length : Int)) = false := decide_eq_false c27
         clear c27
         have H' := Aside0.mk H
         clear H
         obtain ⟨Ao77, co77, eo77⟩ := Kd.R_slice HO_4.out
         subst eo77
         go_wp2
         go_loopg [13, 18] k2 (fun kq v13 v18 w' => ∃ (x13_3 : Int) (x18_3 : Int), v13 = .int .i64 x13_3 ∧ v18 = .int .i64 x18_3 ∧ Aside0 (laws_FnContainers.l1 kq t1269 t1282 t1283 t1284 t1285 x12_2 x13_3 x18_3 = some r) ∧ Aside0 (kq ≤ k2) ∧ Aside0 (Kd.R k89 89 w' w.heap.size (fun _ => True) (.slice Ao9 t1269.length co9) t1269) ∧ Aside0 (Below w.heap.size w w'))
         case atStart => exact ⟨(0), (1), (by first | rfl | (simp; done) | (simp [*]; done)), (by first | rfl | (simp; done) | (simp [*]; done)), H', ⟨Nat.le_refl _⟩, ⟨by (with_reducible repeat (first | apply Kd.R_alloc | apply Kd.R_drewN | apply Kd.R_drew)); exact HO_3.out⟩, ⟨by repeat (first | (with_reducible first | exact HB.out | apply below_alloc | apply pw_below_drewN | apply below_drew1) | exact HB.out)⟩⟩
         case round =>
          clear H'
          try clear p1
          try clear q1
          try clear hx1
          try clear c2
          try clear p2
          try clear c3
          try clear c7
          try clear p12
          try clear q12
          try clear hx12
          try clear c27
          try clear c27b0
          try clear c28
          try clear c29
          try clear c30
          try clear c32
          try clear c33
          try clear c33b0
          try clear c33b1
          try clear c75
          try clear c76
          try clear hcz69_0
          try clear hcz69_1
          try clear hcz69_2
          try clear hcz69_3
          try clear hcz69_4
          try clear hcz74_0
          try clear hcz74_1
          try clear hcz74_2
          try clear hcz74_3
          try clear hcz74_4
          try clear hfz69_0
          try clear hfz69_1
          try clear hfz69_2
          try clear hfz69_3
          try clear hfz69_4
          try clear hfz74_0
          try clear hfz74_1
          try clear hfz74_2
          try clear hfz74_3
          try clear hfz74_4
          try clear hx1286_0
          try clear hx1287_0
          try clear hx1287_1
          try clear hx1287_2
          try clear hx1287_3
          try clear hx1287_4
          try clear hx1291_0
          try clear p1286
          try clear p1287
          try clear p1291
          try clear q1286
          try clear q1287
          try clear q1291
          obtain ⟨x13_3, x18_3, rfl, rfl, HA, HK3, HO_3, HB⟩ := hrel
          cases gk with
          | zero => exact absurd HA.out (by simp [laws_FnContainers.l1])
          | succ k3 =>
           have H := HA.out
           clear HA
           simp only [laws_FnContainers.l1] at H
           by_cases c78 : x18_3 ≤ 9
           ·rw [if_pos c78] at H
            have c78b0 : decide (x18_3 ≤ 9) = true := decide_eq_true c78
            clear c78
            replace H := Option.bind_eq_some_iff.mp H
            obtain ⟨⟨t1295, t1296⟩, A790, H⟩ := H
            replace H : (if t1296 = true then (laws_FnContainers.l1 k3 t1269 t1282 t1283 t1284 t1285 x12_2 (wrap64 (x13_3 + (t1295.length : Int))) (wrap64 (x18_3 + 1))) else (none)) = some r := H
            have A79 := Aside0.mk A790
            clear A790
            by_cases c80 : t1296 = true
            ·subst c80
             have H1 : (laws_FnContainers.l1 k3 t1269 t1282 t1283 t1284 t1285 x12_2 (wrap64 (x13_3 + (t1295.length : Int))) (wrap64 (x18_3 + 1))) = some r := by rw [if_pos rfl] at H; exact H
             clear H
             have H := H1
             clear H1
             have H' := Aside0.mk H
             clear H
             go_wp2_with (first | ((with_reducible refine gate_callee (f := 77) rfl ?_); refine goesL_ (some 129) rfl rfl Try.func77 (by kernel_rfl) rfl #[.slice Ao9 t1269.length co9, .int .i64 x18_3] rfl (by (try simp only [List.map_toArray, List.map_cons, List.map_nil]); first | done | rfl | (simp only [List.length_drop, List.length_take]; rfl)) ?_; (with_reducible refine (impl_ContainersFor.calls k3 _ _ t1269 x18_3 t1295 true _ ?side1 ?side2 A79.out).mono ?_); (case side1 => repeat (first | exact (Kd.R_reads' HO_3.out).2.2 | (with_reducible refine Kd.C_alloc ?_ _) | (with_reducible refine Kd.C_drewN ?_ _) | (with_reducible refine Kd.C_drew ?_))); (case side2 => exact (Kd.R_reads' HO_3.out).2.1); rintro e w81 ⟨v1297, rfl, ho0, hb⟩; refine ⟨_, rfl, ?_⟩; have n0_ := Aside0.mk (Kd.R_below (by (with_reducible repeat (first | apply Kd.R_alloc | apply Kd.R_drewN | apply Kd.R_drew)); exact HO_3.out) hb); have n1_ := Aside0.mk (Kd.R_lower ho0 (below_size (by repeat (first | (with_reducible first | exact HB.out | apply below_alloc | apply pw_below_drewN | apply below_drew1) | exact HB.out)))); have n2_ := Aside0.mk (below_step (by repeat (first | (with_reducible first | exact HB.out | apply below_alloc | apply pw_below_drewN | apply below_drew1) | exact HB.out)) hb); clear HO_3; clear HB; have HO_3 := n0_; have HO1298 := n1_; have HB := n2_; clear n0_ n1_ n2_; (try clear hb); (try clear hb2); (try clear hk); (try clear hi); (try clear ho0); obtain ⟨Ao82, co82, eo82⟩ := Kd.R_slice HO1298.out; subst eo82))
             go_roundg k3
             case measure => have := HJ6.out; have := HK2.out; have := HK3.out; omega
             case rel => exact ⟨(wrap64 (x13_3 + (t1295.length : Int))), (wrap64 (x18_3 + 1)), (by first | rfl | (simp; done) | (simp [*]; done)), (by first | rfl | (simp; done) | (simp [*]; done)), H', ⟨by have := HJ6.out; have := HK2.out; have := HK3.out; omega⟩, ⟨by (with_reducible repeat (first | apply Kd.R_alloc | apply Kd.R_drewN | apply Kd.R_drew)); exact HO_3.out⟩, ⟨by repeat (first | (with_reducible first | exact HB.out | apply below_alloc | apply pw_below_drewN | apply below_drew1) | exact HB.out)⟩⟩
            ·replace c80 := Bool.eq_false_iff.mpr c80
             subst c80
             have H1 : (none) = some r := by rw [if_neg (show ¬ (false = true) by decide)] at H; exact H
             clear H
             have H := H1
             clear H1
             exact absurd H (by simp)
           ·rw [if_neg c78] at H
            have c78b0 : decide (x18_3 ≤ 9) = false := decide_eq_false c78
            clear c78
            by_cases c84 : t1283 = true
            ·subst c84
             have H1 : (if t1285 = true then (if x12_2 = t1282 then (if x13_3 = (t1269.length : Int) then (if t1284 ≥ (t1269.length : Int) then (some (decide (t1284 ≤ (wrap64 (2 * (t1269.length : Int)))))) else (none)) else (none)) else (none)) else (none)) = some r := by rw [if_pos rfl] at H; exact H
             clear H
             have H := H1
             clear H1
             by_cases c85 : t1285 = true
             ·subst c85
              have H1 : (if x12_2 = t1282 then (if x13_3 = (t1269.length : Int) then (if t1284 ≥ (t1269.length : Int) then (some (decide (t1284 ≤ (wrap64 (2 * (t1269.length : Int)))))) else (none)) else (none)) else (none)) = some r := by rw [if_pos rfl] at H; exact H
              clear H
              have H := H1
              clear H1
              by_cases c86 : x12_2 = t1282
              ·rw [if_pos c86] at H
               have c86b0 : (x12_2 == t1282) = true := beq_iff_eq.mpr c86
               have c86b1 : (x12_2 != t1282) = false := bne_eq_false_iff_eq.mpr c86
               clear c86
               by_cases c87 : x13_3 = (t1269.length : Int)
               ·rw [if_pos c87] at H
                have c87b0 : (x13_3 == (t1269.length : Int)) = true := beq_iff_eq.mpr c87
                have c87b1 : (x13_3 != (t1269.length : Int)) = false := bne_eq_false_iff_eq.mpr c87
                clear c87
                by_cases c88 : t1284 ≥ (t1269.length : Int)
                ·rw [if_pos c88] at H
                 have c88b0 : decide ((t1269.length : Int) ≤ t1284) = true := decide_eq_true c88
                 clear c88
                 obtain rfl := Option.some.inj H
                 go_wp2
                 go_ret
                 exact ⟨by first | rfl | (simp [errW_none, errW_some] <;> rfl) | (simp [*, errW_none, errW_some] <;> rfl), by repeat (first | (with_reducible first | exact HB.out | apply below_alloc | apply pw_below_drewN | apply below_drew1) | exact HB.out)⟩
                ·rw [if_neg c88] at H
                 have c88b0 : decide ((t1269.length : Int) ≤ t1284) = false := decide_eq_false c88
                 clear c88
                 exact absurd H (by simp)
               ·rw [if_neg c87] at H
                have c87b0 : (x13_3 == (t1269.length : Int)) = false := beq_eq_false_iff_ne.mpr c87
                have c87b1 : (x13_3 != (t1269.length : Int)) = true := bne_iff_ne.mpr c87
                exact absurd H (by simp)
              ·rw [if_neg c86] at H
               have c86b0 : (x12_2 == t1282) = false := beq_eq_false_iff_ne.mpr c86
               have c86b1 : (x12_2 != t1282) = true := bne_iff_ne.mpr c86
               exact absurd H (by simp)
             ·replace c85 := Bool.eq_false_iff.mpr c85
              subst c85
              have H1 : (none) = some r := by rw [if_neg (show ¬ (false = true) by decide)] at H; exact H
              clear H
              have H := H1
              clear H1
              exact absurd H (by simp)
            ·replace c84 := Bool.eq_false_iff.mpr c84
             subst c84
             have H1 : (none) = some r := by rw [if_neg (show ¬ (false = true) by decide)] at H; exact H
             clear H
             have H := H1
             clear H1
             exact absurd H (by simp)
     ·replace c22 := Bool.eq_false_iff.mpr c22
      subst c22
      have H1 : (some ((t1272.length : Int) == 0)) = some r := by rw [if_neg (show ¬ (false = true) by decide)] at H; exact H
      clear H
      have H := H1
      clear H1
      obtain rfl := Option.some.inj H
      obtain ⟨Ao89, co89, eo89⟩ := Kd.R_slice HO_4.out
      subst eo89
      go_wp2
      go_ret
      exact ⟨by first | rfl | (simp [errW_none, errW_some] <;> rfl) | (simp [*, errW_none, errW_some] <;> rfl), by repeat (first | (with_reducible first | exact HB.out | apply below_alloc | apply pw_below_drewN | apply below_drew1) | exact HB.out)⟩

end Go.Proofs.Ytlldonokjgoajaa.X
