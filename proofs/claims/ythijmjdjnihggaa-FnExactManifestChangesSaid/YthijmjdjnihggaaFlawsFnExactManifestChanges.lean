-- Written by a program of ours (wip/bin/xprint.py, over the kit's print.py) out of the translation. Not trusted: Lean checks it.
import Derived.Test.YthijmjdjnihggaaX0
import Derived.Test.YthijmjdjnihggaaFbHelpC
import Derived.Test.YthijmjdjnihggaaFbHelpM
import Derived.Test.YthijmjdjnihggaaFbHelpT
import Derived.Test.YthijmjdjnihggaaFimplManifestChanges
import Derived.Test.YthijmjdjnihggaaFspecManifestChanges
namespace Go.Proofs.Ythijmjdjnihggaa.X
open Go.RowKit Go.Proofs.YthijmjdjnihggaaW.PrintWords Go.Proofs.YthijmjdjnihggaaW.PrintLast Go.Proofs.YthijmjdjnihggaaW.PrintMore
attribute [local go_sem] max2_int min2_int max_two min_two max_three min_three max_four min_four   -- for this text's walks alone
set_option linter.unusedVariables false
set_option linter.unusedSimpArgs false

/-! ### laws_FnExactManifestChanges: function 11 -/
mutual
def laws_FnExactManifestChanges.j0 : Nat → List (S67) → List (S67) → List ByteArray → List ByteArray → List ByteArray → Bool → List (S61) → List (S61) → List ByteArray → List ByteArray → List ByteArray → Bool → Bool → Option (Bool)
 | 0, _, _, _, _, _, _, _, _, _, _, _, _, _ => none
 | k + 1, x0, x1, x6, x7, x8, x9, x10, x11, x12, x13, x14, x15, x75 => if x75 = true then (none) else ((laws_toContainerS.f k x0).bind fun t609 => ((laws_eqContainerS.f k x10 t609).bind fun t612 => (if t612 = true then ((laws_toContainerS.f k x1).bind fun t613 => ((laws_eqContainerS.f k x11 t613).bind fun t616 => (if t616 = true then ((laws_markContainerS.f k x10 1).bind fun bt617 => ((laws_markContainerS.f k x11 bt617.1).bind fun bt619 => (if bt619.1 < 0 then (none) else ((laws_eqStringS.f k x12 x6).bind fun t621 => (if t621 = true then ((laws_eqStringS.f k x13 x7).bind fun t622 => (if t622 = true then ((laws_eqStringS.f k x14 x8).bind fun t623 => (if t623 = true then (laws_FnExactManifestChanges.j1 k x0 x1 x6 x7 x8 x9 x12 x13 x14 (x15 != x9)) else (none))) else (none))) else (none)))))) else (none)))) else (none))))
def laws_FnExactManifestChanges.j1 : Nat → List (S67) → List (S67) → List ByteArray → List ByteArray → List ByteArray → Bool → List ByteArray → List ByteArray → List ByteArray → Bool → Option (Bool)
 | 0, _, _, _, _, _, _, _, _, _, _ => none
 | k + 1, x0, x1, x6, x7, x8, x9, x12, x13, x14, x116 => if x116 = true then (none) else ((laws_markStringS.f k x12 1).bind fun bt624 => ((laws_markStringS.f k x13 bt624.1).bind fun bt626 => ((laws_markStringS.f k x14 bt626.1).bind fun bt628 => ((laws_heldStringS.f k bt624.2 1).bind fun t630 => (if t630 < 0 then (none) else ((laws_heldStringS.f k bt626.2 t630).bind fun t631 => (if t631 < 0 then (none) else ((laws_heldStringS.f k bt628.2 t631).bind fun t632 => (if t632 < 0 then (none) else (if t632 = bt628.1 then ((laws_toContainerS.f k x0).bind fun t633 => ((laws_toContainerS.f k x1).bind fun t636 => ((impl_ManifestChanges.f k t633 t636).bind fun bt639 => ((laws_eqStringS.f k bt639.1 x6).bind fun t649 => (if t649 = true then ((laws_eqStringS.f k bt639.2.1 x7).bind fun t650 => (if t650 = true then ((laws_eqStringS.f k bt639.2.2.1 x8).bind fun t651 => (if t651 = true then (laws_FnExactManifestChanges.j2 k bt624.2 bt626.2 bt628.2 bt628.1 (bt639.2.2.2 != x9)) else (none))) else (none))) else (none)))))) else (none)))))))))))
def laws_FnExactManifestChanges.j2 : Nat → List ByteArray → List ByteArray → List ByteArray → Int → Bool → Option (Bool)
 | 0, _, _, _, _, _ => none
 | k + 1, x12, x13, x14, x17, x174 => if x174 = true then (none) else ((laws_heldStringS.f k x12 1).bind fun t652 => (if t652 < 0 then (none) else ((laws_heldStringS.f k x13 t652).bind fun t653 => (if t653 < 0 then (none) else ((laws_heldStringS.f k x14 t653).bind fun t654 => (if t654 < 0 then (none) else (if t654 = x17 then (some true) else (none))))))))
end
def laws_FnExactManifestChanges.f (k : Nat) (l0 : List (S67)) (l1 : List (S67)) : Option (Bool) := (laws_szContainerS.f k l0 1048576).bind fun t572 => (if t572 < 0 then (some true) else ((laws_szContainerS.f k l1 t572).bind fun t573 => (if t573 < 0 then (some true) else ((laws_toContainerS.f k l0).bind fun t574 => ((laws_toContainerS.f k l1).bind fun t577 => ((spec_ManifestChanges.f k t574 t577).bind fun bt580 => ((laws_toContainerS.f k l0).bind fun t590 => ((laws_toContainerS.f k l1).bind fun t593 => ((impl_ManifestChanges.f k t590 t593).bind fun bt596 => ((laws_eqStringS.f k bt596.1 bt580.1).bind fun t606 => (if t606 = true then ((laws_eqStringS.f k bt596.2.1 bt580.2.1).bind fun t607 => (if t607 = true then ((laws_eqStringS.f k bt596.2.2.1 bt580.2.2.1).bind fun t608 => (if t608 = true then (laws_FnExactManifestChanges.j0 k l0 l1 bt580.1 bt580.2.1 bt580.2.2.1 bt580.2.2.2 t590 t593 bt596.1 bt596.2.1 bt596.2.2.1 bt596.2.2.2 (bt596.2.2.2 != bt580.2.2.2)) else (none))) else (none))) else (none))))))))))))
theorem laws_FnExactManifestChanges.mono_l : ∀ k, (∀ y0 y1 y2 y3 y4 y5 y6 y7 y8 y9 y10 y11 y12, LeO (laws_FnExactManifestChanges.j0 k y0 y1 y2 y3 y4 y5 y6 y7 y8 y9 y10 y11 y12) (laws_FnExactManifestChanges.j0 (k + 1) y0 y1 y2 y3 y4 y5 y6 y7 y8 y9 y10 y11 y12)) ∧ (∀ y0 y1 y2 y3 y4 y5 y6 y7 y8 y9, LeO (laws_FnExactManifestChanges.j1 k y0 y1 y2 y3 y4 y5 y6 y7 y8 y9) (laws_FnExactManifestChanges.j1 (k + 1) y0 y1 y2 y3 y4 y5 y6 y7 y8 y9)) ∧ (∀ y0 y1 y2 y3 y4, LeO (laws_FnExactManifestChanges.j2 k y0 y1 y2 y3 y4) (laws_FnExactManifestChanges.j2 (k + 1) y0 y1 y2 y3 y4))
 | 0 => ⟨fun _ _ _ _ _ _ _ _ _ _ _ _ _ r h => by simp [laws_FnExactManifestChanges.j0] at h, fun _ _ _ _ _ _ _ _ _ _ r h => by simp [laws_FnExactManifestChanges.j1] at h, fun _ _ _ _ _ r h => by simp [laws_FnExactManifestChanges.j2] at h⟩
 | k + 1 => by
  obtain ⟨ih0, ih1, ih2⟩ := laws_FnExactManifestChanges.mono_l k
  refine ⟨?_, ?_, ?_⟩
  ·intro y0 y1 y2 y3 y4 y5 y6 y7 y8 y9 y10 y11 y12
   unfold laws_FnExactManifestChanges.j0
   repeat' first
   | (with_reducible exact ih0 _ _ _ _ _ _ _ _ _ _ _ _ _)
   | (with_reducible exact ih1 _ _ _ _ _ _ _ _ _ _)
   | (with_reducible exact ih2 _ _ _ _ _)
   | (with_reducible exact impl_ManifestChanges.mono _ _ _)
   | (with_reducible exact laws_eqContainerS.mono _ _ _)
   | (with_reducible exact laws_eqStringS.mono _ _ _)
   | (with_reducible exact laws_heldStringS.mono _ _ _)
   | (with_reducible exact laws_markContainerS.mono _ _ _)
   | (with_reducible exact laws_markStringS.mono _ _ _)
   | (with_reducible exact laws_szContainerS.mono _ _ _)
   | (with_reducible exact laws_toContainerS.mono _ _)
   | (with_reducible exact spec_ManifestChanges.mono _ _ _)
   | (with_reducible exact LeO.refl _)
   | (with_reducible exact LeO.none _)
   | (with_reducible refine LeO.ite ?_ ?_)
   | (with_reducible refine LeO.bind ?_ (fun _ => ?_))
   | exact ih0 _ _ _ _ _ _ _ _ _ _ _ _ _
   | exact ih1 _ _ _ _ _ _ _ _ _ _
   | exact ih2 _ _ _ _ _
   | exact impl_ManifestChanges.mono _ _ _
   | exact laws_eqContainerS.mono _ _ _
   | exact laws_eqStringS.mono _ _ _
   | exact laws_heldStringS.mono _ _ _
   | exact laws_markContainerS.mono _ _ _
   | exact laws_markStringS.mono _ _ _
   | exact laws_szContainerS.mono _ _ _
   | exact laws_toContainerS.mono _ _
   | exact spec_ManifestChanges.mono _ _ _
   | exact LeO.none _
   | refine LeO.ite ?_ ?_
   | refine LeO.bind ?_ (fun _ => ?_)
  ·intro y0 y1 y2 y3 y4 y5 y6 y7 y8 y9
   unfold laws_FnExactManifestChanges.j1
   repeat' first
   | (with_reducible exact ih0 _ _ _ _ _ _ _ _ _ _ _ _ _)
   | (with_reducible exact ih1 _ _ _ _ _ _ _ _ _ _)
   | (with_reducible exact ih2 _ _ _ _ _)
   | (with_reducible exact impl_ManifestChanges.mono _ _ _)
   | (with_reducible exact laws_eqContainerS.mono _ _ _)
   | (with_reducible exact laws_eqStringS.mono _ _ _)
   | (with_reducible exact laws_heldStringS.mono _ _ _)
   | (with_reducible exact laws_markContainerS.mono _ _ _)
   | (with_reducible exact laws_markStringS.mono _ _ _)
   | (with_reducible exact laws_szContainerS.mono _ _ _)
   | (with_reducible exact laws_toContainerS.mono _ _)
   | (with_reducible exact spec_ManifestChanges.mono _ _ _)
   | (with_reducible exact LeO.refl _)
   | (with_reducible exact LeO.none _)
   | (with_reducible refine LeO.ite ?_ ?_)
   | (with_reducible refine LeO.bind ?_ (fun _ => ?_))
   | exact ih0 _ _ _ _ _ _ _ _ _ _ _ _ _
   | exact ih1 _ _ _ _ _ _ _ _ _ _
   | exact ih2 _ _ _ _ _
   | exact impl_ManifestChanges.mono _ _ _
   | exact laws_eqContainerS.mono _ _ _
   | exact laws_eqStringS.mono _ _ _
   | exact laws_heldStringS.mono _ _ _
   | exact laws_markContainerS.mono _ _ _
   | exact laws_markStringS.mono _ _ _
   | exact laws_szContainerS.mono _ _ _
   | exact laws_toContainerS.mono _ _
   | exact spec_ManifestChanges.mono _ _ _
   | exact LeO.none _
   | refine LeO.ite ?_ ?_
   | refine LeO.bind ?_ (fun _ => ?_)
  ·intro y0 y1 y2 y3 y4
   unfold laws_FnExactManifestChanges.j2
   repeat' first
   | (with_reducible exact ih0 _ _ _ _ _ _ _ _ _ _ _ _ _)
   | (with_reducible exact ih1 _ _ _ _ _ _ _ _ _ _)
   | (with_reducible exact ih2 _ _ _ _ _)
   | (with_reducible exact impl_ManifestChanges.mono _ _ _)
   | (with_reducible exact laws_eqContainerS.mono _ _ _)
   | (with_reducible exact laws_eqStringS.mono _ _ _)
   | (with_reducible exact laws_heldStringS.mono _ _ _)
   | (with_reducible exact laws_markContainerS.mono _ _ _)
   | (with_reducible exact laws_markStringS.mono _ _ _)
   | (with_reducible exact laws_szContainerS.mono _ _ _)
   | (with_reducible exact laws_toContainerS.mono _ _)
   | (with_reducible exact spec_ManifestChanges.mono _ _ _)
   | (with_reducible exact LeO.refl _)
   | (with_reducible exact LeO.none _)
   | (with_reducible refine LeO.ite ?_ ?_)
   | (with_reducible refine LeO.bind ?_ (fun _ => ?_))
   | exact ih0 _ _ _ _ _ _ _ _ _ _ _ _ _
   | exact ih1 _ _ _ _ _ _ _ _ _ _
   | exact ih2 _ _ _ _ _
   | exact impl_ManifestChanges.mono _ _ _
   | exact laws_eqContainerS.mono _ _ _
   | exact laws_eqStringS.mono _ _ _
   | exact laws_heldStringS.mono _ _ _
   | exact laws_markContainerS.mono _ _ _
   | exact laws_markStringS.mono _ _ _
   | exact laws_szContainerS.mono _ _ _
   | exact laws_toContainerS.mono _ _
   | exact spec_ManifestChanges.mono _ _ _
   | exact LeO.none _
   | refine LeO.ite ?_ ?_
   | refine LeO.bind ?_ (fun _ => ?_)
theorem laws_FnExactManifestChanges.mono : ∀ a0 a1 k, LeO (laws_FnExactManifestChanges.f k a0 a1) (laws_FnExactManifestChanges.f (k + 1) a0 a1) := by
 intro a0 a1 k
 obtain ⟨ih0, ih1, ih2⟩ := laws_FnExactManifestChanges.mono_l k
 unfold laws_FnExactManifestChanges.f
 repeat' first
   | (with_reducible exact ih0 _ _ _ _ _ _ _ _ _ _ _ _ _)
   | (with_reducible exact ih1 _ _ _ _ _ _ _ _ _ _)
   | (with_reducible exact ih2 _ _ _ _ _)
   | (with_reducible exact impl_ManifestChanges.mono _ _ _)
   | (with_reducible exact laws_eqContainerS.mono _ _ _)
   | (with_reducible exact laws_eqStringS.mono _ _ _)
   | (with_reducible exact laws_heldStringS.mono _ _ _)
   | (with_reducible exact laws_markContainerS.mono _ _ _)
   | (with_reducible exact laws_markStringS.mono _ _ _)
   | (with_reducible exact laws_szContainerS.mono _ _ _)
   | (with_reducible exact laws_toContainerS.mono _ _)
   | (with_reducible exact spec_ManifestChanges.mono _ _ _)
   | (with_reducible exact LeO.refl _)
   | (with_reducible exact LeO.none _)
   | (with_reducible refine LeO.ite ?_ ?_)
   | (with_reducible refine LeO.bind ?_ (fun _ => ?_))
   | exact ih0 _ _ _ _ _ _ _ _ _ _ _ _ _
   | exact ih1 _ _ _ _ _ _ _ _ _ _
   | exact ih2 _ _ _ _ _
   | exact impl_ManifestChanges.mono _ _ _
   | exact laws_eqContainerS.mono _ _ _
   | exact laws_eqStringS.mono _ _ _
   | exact laws_heldStringS.mono _ _ _
   | exact laws_markContainerS.mono _ _ _
   | exact laws_markStringS.mono _ _ _
   | exact laws_szContainerS.mono _ _ _
   | exact laws_toContainerS.mono _ _
   | exact spec_ManifestChanges.mono _ _ _
   | exact LeO.none _
   | refine LeO.ite ?_ ?_
   | refine LeO.bind ?_ (fun _ => ?_)
set_option maxHeartbeats 8000000 in
set_option maxRecDepth 100000 in
theorem laws_FnExactManifestChanges.calls (k : Nat) (A0 : Option Addr) (c0 : Nat) (l0 : List (S67)) (A1 : Option Addr) (c1 : Nat) (l1 : List (S67)) (r : Bool) (w : World) (hr0 : Kd.C k67 w A0 l0.length l0) (hc0 : l0.length ≤ c0) (hr1 : Kd.C k67 w A1 l1.length l1) (hc1 : l1.length ≤ c1) (h : laws_FnExactManifestChanges.f k l0 l1 = some r) :
  Calls Try.prog 11 #[.slice A0 l0.length c0, .slice A1 l1.length c1] w fun e w' => e = .returned (.bool r) ∧ Below w.heap.size w w' := by
 have HR0 := Aside0.mk hr0
 have HC0 := Aside0.mk hc0
 clear hr0 hc0
 have HR1 := Aside0.mk hr1
 have HC1 := Aside0.mk hc1
 clear hr1 hc1
 have HB := Aside0.mk (Below.refl w.heap.size w)
 have H : ((laws_szContainerS.f k l0 1048576).bind fun t572 => (if t572 < 0 then (some true) else ((laws_szContainerS.f k l1 t572).bind fun t573 => (if t573 < 0 then (some true) else ((laws_toContainerS.f k l0).bind fun t574 => ((laws_toContainerS.f k l1).bind fun t577 => ((spec_ManifestChanges.f k t574 t577).bind fun bt580 => ((laws_toContainerS.f k l0).bind fun t590 => ((laws_toContainerS.f k l1).bind fun t593 => ((impl_ManifestChanges.f k t590 t593).bind fun bt596 => ((laws_eqStringS.f k bt596.1 bt580.1).bind fun t606 => (if t606 = true then ((laws_eqStringS.f k bt596.2.1 bt580.2.1).bind fun t607 => (if t607 = true then ((laws_eqStringS.f k bt596.2.2.1 bt580.2.2.1).bind fun t608 => (if t608 = true then (laws_FnExactManifestChanges.j0 k l0 l1 bt580.1 bt580.2.1 bt580.2.2.1 bt580.2.2.2 t590 t593 bt596.1 bt596.2.1 bt596.2.2.1 bt596.2.2.2 (bt596.2.2.2 != bt580.2.2.2)) else (none))) else (none))) else (none))))))))))))) = some r := h
 clear h
 replace H := Option.bind_eq_some_iff.mp H
 obtain ⟨t572, A30, H⟩ := H
 replace H : (if t572 < 0 then (some true) else ((laws_szContainerS.f k l1 t572).bind fun t573 => (if t573 < 0 then (some true) else ((laws_toContainerS.f k l0).bind fun t574 => ((laws_toContainerS.f k l1).bind fun t577 => ((spec_ManifestChanges.f k t574 t577).bind fun bt580 => ((laws_toContainerS.f k l0).bind fun t590 => ((laws_toContainerS.f k l1).bind fun t593 => ((impl_ManifestChanges.f k t590 t593).bind fun bt596 => ((laws_eqStringS.f k bt596.1 bt580.1).bind fun t606 => (if t606 = true then ((laws_eqStringS.f k bt596.2.1 bt580.2.1).bind fun t607 => (if t607 = true then ((laws_eqStringS.f k bt596.2.2.1 bt580.2.2.1).bind fun t608 => (if t608 = true then (laws_FnExactManifestChanges.j0 k l0 l1 bt580.1 bt580.2.1 bt580.2.2.1 bt580.2.2.2 t590 t593 bt596.1 bt596.2.1 bt596.2.2.1 bt596.2.2.2 (bt596.2.2.2 != bt580.2.2.2)) else (none))) else (none))) else (none)))))))))))) = some r := H
 have A3 := Aside0.mk A30
 clear A30
 by_cases c4 : t572 < 0
 ·rw [if_pos c4] at H
  have c4b0 : decide (t572 < 0) = true := decide_eq_true c4
  clear c4
  obtain rfl := Option.some.inj H
  go_enter Try.func11, Try.ntmps11
  go_wp2_with (first | ((with_reducible refine gate_callee (f := 15) rfl ?_); refine goesL_ (some 25) rfl rfl Try.func15 (by kernel_rfl) rfl #[.slice A0 l0.length c0, .int .i64 1048576] rfl (by (try simp only [List.map_toArray, List.map_cons, List.map_nil]); first | done | rfl | (simp only [List.length_drop, List.length_take]; rfl)) ?_; (with_reducible refine (laws_szContainerS.calls k _ _ l0 1048576 t572 _ ?side1 ?side2 A3.out).mono ?_); (case side1 => repeat (first | exact HR0.out | (with_reducible refine Kd.C_alloc ?_ _) | (with_reducible refine Kd.C_drewN ?_ _) | (with_reducible refine Kd.C_drew ?_))); (case side2 => exact HC0.out); rintro e w5 ⟨rfl, hb⟩; refine ⟨_, rfl, ?_⟩; have n0_ := Aside0.mk (below_step (by repeat (first | (with_reducible first | exact HB.out | apply below_alloc | apply pw_below_drewN | apply below_drew1) | exact HB.out)) hb); clear HB; have HB := n0_; clear n0_; (try clear hb); (try clear hb2); (try clear hk); (try clear hi)))
  go_ret
  exact ⟨by first | rfl | (simp [errW_none, errW_some] <;> rfl) | (simp [*, errW_none, errW_some] <;> rfl), by repeat (first | (with_reducible first | exact HB.out | apply below_alloc | apply pw_below_drewN | apply below_drew1) | exact HB.out)⟩
 ·rw [if_neg c4] at H
  have c4b0 : decide (t572 < 0) = false := decide_eq_false c4
  clear c4
  replace H := Option.bind_eq_some_iff.mp H
  obtain ⟨t573, A60, H⟩ := H
  replace H : (if t573 < 0 then (some true) else ((laws_toContainerS.f k l0).bind fun t574 => ((laws_toContainerS.f k l1).bind fun t577 => ((spec_ManifestChanges.f k t574 t577).bind fun bt580 => ((laws_toContainerS.f k l0).bind fun t590 => ((laws_toContainerS.f k l1).bind fun t593 => ((impl_ManifestChanges.f k t590 t593).bind fun bt596 => ((laws_eqStringS.f k bt596.1 bt580.1).bind fun t606 => (if t606 = true then ((laws_eqStringS.f k bt596.2.1 bt580.2.1).bind fun t607 => (if t607 = true then ((laws_eqStringS.f k bt596.2.2.1 bt580.2.2.1).bind fun t608 => (if t608 = true then (laws_FnExactManifestChanges.j0 k l0 l1 bt580.1 bt580.2.1 bt580.2.2.1 bt580.2.2.2 t590 t593 bt596.1 bt596.2.1 bt596.2.2.1 bt596.2.2.2 (bt596.2.2.2 != bt580.2.2.2)) else (none))) else (none))) else (none)))))))))) = some r := H
  have A6 := Aside0.mk A60
  clear A60
  by_cases c7 : t573 < 0
  ·rw [if_pos c7] at H
   have c7b0 : decide (t573 < 0) = true := decide_eq_true c7
   clear c7
   obtain rfl := Option.some.inj H
   go_enter Try.func11, Try.ntmps11
   go_wp2_with (first | ((with_reducible refine gate_callee (f := 15) rfl ?_); refine goesL_ (some 25) rfl rfl Try.func15 (by kernel_rfl) rfl #[.slice A0 l0.length c0, .int .i64 1048576] rfl (by (try simp only [List.map_toArray, List.map_cons, List.map_nil]); first | done | rfl | (simp only [List.length_drop, List.length_take]; rfl)) ?_; (with_reducible refine (laws_szContainerS.calls k _ _ l0 1048576 t572 _ ?side1 ?side2 A3.out).mono ?_); (case side1 => repeat (first | exact HR0.out | (with_reducible refine Kd.C_alloc ?_ _) | (with_reducible refine Kd.C_drewN ?_ _) | (with_reducible refine Kd.C_drew ?_))); (case side2 => exact HC0.out); rintro e w8 ⟨rfl, hb⟩; refine ⟨_, rfl, ?_⟩; have n0_ := Aside0.mk (below_step (by repeat (first | (with_reducible first | exact HB.out | apply below_alloc | apply pw_below_drewN | apply below_drew1) | exact HB.out)) hb); clear HB; have HB := n0_; clear n0_; (try clear hb); (try clear hb2); (try clear hk); (try clear hi)) | ((with_reducible refine gate_callee (f := 15) rfl ?_); refine goesL_ (some 30) rfl rfl Try.func15 (by kernel_rfl) rfl #[.slice A1 l1.length c1, .int .i64 t572] rfl (by (try simp only [List.map_toArray, List.map_cons, List.map_nil]); first | done | rfl | (simp only [List.length_drop, List.length_take]; rfl)) ?_; (with_reducible refine (laws_szContainerS.calls k _ _ l1 t572 t573 _ ?side1 ?side2 A6.out).mono ?_); (case side1 => repeat (first | exact (Kd.C_below HR1.out HB.out) | (with_reducible refine Kd.C_alloc ?_ _) | (with_reducible refine Kd.C_drewN ?_ _) | (with_reducible refine Kd.C_drew ?_))); (case side2 => exact HC1.out); rintro e w9 ⟨rfl, hb⟩; refine ⟨_, rfl, ?_⟩; have n0_ := Aside0.mk (below_step (by repeat (first | (with_reducible first | exact HB.out | apply below_alloc | apply pw_below_drewN | apply below_drew1) | exact HB.out)) hb); clear HB; have HB := n0_; clear n0_; (try clear hb); (try clear hb2); (try clear hk); (try clear hi)))
   go_ret
   exact ⟨by first | rfl | (simp [errW_none, errW_some] <;> rfl) | (simp [*, errW_none, errW_some] <;> rfl), by repeat (first | (with_reducible first | exact HB.out | apply below_alloc | apply pw_below_drewN | apply below_drew1) | exact HB.out)⟩
  ·rw [if_neg c7] at H
   have c7b0 : decide (t573 < 0) = false := decide_eq_false c7
   clear c7
   replace H := Option.bind_eq_some_iff.mp H
   obtain ⟨t574, A100, H⟩ := H
   replace H : ((laws_toContainerS.f k l1).bind fun t577 => ((spec_ManifestChanges.f k t574 t577).bind fun bt580 => ((laws_toContainerS.f k l0).bind fun t590 => ((laws_toContainerS.f k l1).bind fun t593 => ((impl_ManifestChanges.f k t590 t593).bind fun bt596 => ((laws_eqStringS.f k bt596.1 bt580.1).bind fun t606 => (if t606 = true then ((laws_eqStringS.f k bt596.2.1 bt580.2.1).bind fun t607 => (if t607 = true then ((laws_eqStringS.f k bt596.2.2.1 bt580.2.2.1).bind fun t608 => (if t608 = true then (laws_FnExactManifestChanges.j0 k l0 l1 bt580.1 bt580.2.1 bt580.2.2.1 bt580.2.2.2 t590 t593 bt596.1 bt596.2.1 bt596.2.2.1 bt596.2.2.2 (bt596.2.2.2 != bt580.2.2.2)) else (none))) else (none))) else (none)))))))) = some r := H
   have A10 := Aside0.mk A100
   clear A100
   replace H := Option.bind_eq_some_iff.mp H
   obtain ⟨t577, A110, H⟩ := H
   replace H : ((spec_ManifestChanges.f k t574 t577).bind fun bt580 => ((laws_toContainerS.f k l0).bind fun t590 => ((laws_toContainerS.f k l1).bind fun t593 => ((impl_ManifestChanges.f k t590 t593).bind fun bt596 => ((laws_eqStringS.f k bt596.1 bt580.1).bind fun t606 => (if t606 = true then ((laws_eqStringS.f k bt596.2.1 bt580.2.1).bind fun t607 => (if t607 = true then ((laws_eqStringS.f k bt596.2.2.1 bt580.2.2.1).bind fun t608 => (if t608 = true then (laws_FnExactManifestChanges.j0 k l0 l1 bt580.1 bt580.2.1 bt580.2.2.1 bt580.2.2.2 t590 t593 bt596.1 bt596.2.1 bt596.2.2.1 bt596.2.2.2 (bt596.2.2.2 != bt580.2.2.2)) else (none))) else (none))) else (none))))))) = some r := H
   have A11 := Aside0.mk A110
   clear A110
   replace H := Option.bind_eq_some_iff.mp H
   obtain ⟨⟨t580, t581, t582, t583⟩, A120, H⟩ := H
   replace H : ((laws_toContainerS.f k l0).bind fun t590 => ((laws_toContainerS.f k l1).bind fun t593 => ((impl_ManifestChanges.f k t590 t593).bind fun bt596 => ((laws_eqStringS.f k bt596.1 t580).bind fun t606 => (if t606 = true then ((laws_eqStringS.f k bt596.2.1 t581).bind fun t607 => (if t607 = true then ((laws_eqStringS.f k bt596.2.2.1 t582).bind fun t608 => (if t608 = true then (laws_FnExactManifestChanges.j0 k l0 l1 t580 t581 t582 t583 t590 t593 bt596.1 bt596.2.1 bt596.2.2.1 bt596.2.2.2 (bt596.2.2.2 != t583)) else (none))) else (none))) else (none)))))) = some r := H
   have A12 := Aside0.mk A120
   clear A120
   replace H := Option.bind_eq_some_iff.mp H
   obtain ⟨t590, A130, H⟩ := H
   replace H : ((laws_toContainerS.f k l1).bind fun t593 => ((impl_ManifestChanges.f k t590 t593).bind fun bt596 => ((laws_eqStringS.f k bt596.1 t580).bind fun t606 => (if t606 = true then ((laws_eqStringS.f k bt596.2.1 t581).bind fun t607 => (if t607 = true then ((laws_eqStringS.f k bt596.2.2.1 t582).bind fun t608 => (if t608 = true then (laws_FnExactManifestChanges.j0 k l0 l1 t580 t581 t582 t583 t590 t593 bt596.1 bt596.2.1 bt596.2.2.1 bt596.2.2.2 (bt596.2.2.2 != t583)) else (none))) else (none))) else (none))))) = some r := H
   have A13 := Aside0.mk A130
   have H_sameA13 : t590 = t574 := Option.some.inj (A13.out.symm.trans A10.out)
   subst H_sameA13
   clear A130
   replace H := Option.bind_eq_some_iff.mp H
   obtain ⟨t593, A140, H⟩ := H
   replace H : ((impl_ManifestChanges.f k t590 t593).bind fun bt596 => ((laws_eqStringS.f k bt596.1 t580).bind fun t606 => (if t606 = true then ((laws_eqStringS.f k bt596.2.1 t581).bind fun t607 => (if t607 = true then ((laws_eqStringS.f k bt596.2.2.1 t582).bind fun t608 => (if t608 = true then (laws_FnExactManifestChanges.j0 k l0 l1 t580 t581 t582 t583 t590 t593 bt596.1 bt596.2.1 bt596.2.2.1 bt596.2.2.2 (bt596.2.2.2 != t583)) else (none))) else (none))) else (none)))) = some r := H
   have A14 := Aside0.mk A140
   have H_sameA14 : t593 = t577 := Option.some.inj (A14.out.symm.trans A11.out)
   subst H_sameA14
   clear A140
   replace H := Option.bind_eq_some_iff.mp H
   obtain ⟨⟨t596, t597, t598, t599⟩, A150, H⟩ := H
   replace H : ((laws_eqStringS.f k t596 t580).bind fun t606 => (if t606 = true then ((laws_eqStringS.f k t597 t581).bind fun t607 => (if t607 = true then ((laws_eqStringS.f k t598 t582).bind fun t608 => (if t608 = true then (laws_FnExactManifestChanges.j0 k l0 l1 t580 t581 t582 t583 t590 t593 t596 t597 t598 t599 (t599 != t583)) else (none))) else (none))) else (none))) = some r := H
   have A15 := Aside0.mk A150
   clear A150
   have HC16 := Aside0.mk H
   clear H
   go_enter Try.func11, Try.ntmps11
   go_upto_region 12 with (first | ((with_reducible refine gate_callee (f := 15) rfl ?_); refine goesL_ (some 25) rfl rfl Try.func15 (by kernel_rfl) rfl #[.slice A0 l0.length c0, .int .i64 1048576] rfl (by (try simp only [List.map_toArray, List.map_cons, List.map_nil]); first | done | rfl | (simp only [List.length_drop, List.length_take]; rfl)) ?_; (with_reducible refine (laws_szContainerS.calls k _ _ l0 1048576 t572 _ ?side1 ?side2 A3.out).mono ?_); (case side1 => repeat (first | exact HR0.out | (with_reducible refine Kd.C_alloc ?_ _) | (with_reducible refine Kd.C_drewN ?_ _) | (with_reducible refine Kd.C_drew ?_))); (case side2 => exact HC0.out); rintro e w17 ⟨rfl, hb⟩; refine ⟨_, rfl, ?_⟩; have n0_ := Aside0.mk (below_step (by repeat (first | (with_reducible first | exact HB.out | apply below_alloc | apply pw_below_drewN | apply below_drew1) | exact HB.out)) hb); clear HB; have HB := n0_; clear n0_; (try clear hb); (try clear hb2); (try clear hk); (try clear hi)) | ((with_reducible refine gate_callee (f := 15) rfl ?_); refine goesL_ (some 30) rfl rfl Try.func15 (by kernel_rfl) rfl #[.slice A1 l1.length c1, .int .i64 t572] rfl (by (try simp only [List.map_toArray, List.map_cons, List.map_nil]); first | done | rfl | (simp only [List.length_drop, List.length_take]; rfl)) ?_; (with_reducible refine (laws_szContainerS.calls k _ _ l1 t572 t573 _ ?side1 ?side2 A6.out).mono ?_); (case side1 => repeat (first | exact (Kd.C_below HR1.out HB.out) | (with_reducible refine Kd.C_alloc ?_ _) | (with_reducible refine Kd.C_drewN ?_ _) | (with_reducible refine Kd.C_drew ?_))); (case side2 => exact HC1.out); rintro e w18 ⟨rfl, hb⟩; refine ⟨_, rfl, ?_⟩; have n0_ := Aside0.mk (below_step (by repeat (first | (with_reducible first | exact HB.out | apply below_alloc | apply pw_below_drewN | apply below_drew1) | exact HB.out)) hb); clear HB; have HB := n0_; clear n0_; (try clear hb); (try clear hb2); (try clear hk); (try clear hi)) | ((with_reducible refine gate_callee (f := 17) rfl ?_); refine goesL_ (some 35) rfl rfl Try.func17 (by kernel_rfl) rfl #[.slice A0 l0.length c0] rfl (by (try simp only [List.map_toArray, List.map_cons, List.map_nil]); first | done | rfl | (simp only [List.length_drop, List.length_take]; rfl)) ?_; (with_reducible refine (laws_toContainerS.calls k _ _ l0 t590 _ ?side1 ?side2 A10.out).mono ?_); (case side1 => repeat (first | exact (Kd.C_below HR0.out HB.out) | (with_reducible refine Kd.C_alloc ?_ _) | (with_reducible refine Kd.C_drewN ?_ _) | (with_reducible refine Kd.C_drew ?_))); (case side2 => exact HC0.out); rintro e w19 ⟨v575, rfl, ho0, hb⟩; refine ⟨_, rfl, ?_⟩; have n0_ := Aside0.mk (Kd.R_lower ho0 (below_size (by repeat (first | (with_reducible first | exact HB.out | apply below_alloc | apply pw_below_drewN | apply below_drew1) | exact HB.out)))); have n1_ := Aside0.mk (below_step (by repeat (first | (with_reducible first | exact HB.out | apply below_alloc | apply pw_below_drewN | apply below_drew1) | exact HB.out)) hb); clear HB; have HO576 := n0_; have HB := n1_; clear n0_ n1_; (try clear hb); (try clear hb2); (try clear hk); (try clear hi); (try clear ho0)) | ((with_reducible refine gate_callee (f := 17) rfl ?_); refine goesL_ (some 37) rfl rfl Try.func17 (by kernel_rfl) rfl #[.slice A1 l1.length c1] rfl (by (try simp only [List.map_toArray, List.map_cons, List.map_nil]); first | done | rfl | (simp only [List.length_drop, List.length_take]; rfl)) ?_; (with_reducible refine (laws_toContainerS.calls k _ _ l1 t593 _ ?side1 ?side2 A11.out).mono ?_); (case side1 => repeat (first | exact (Kd.C_below HR1.out HB.out) | (with_reducible refine Kd.C_alloc ?_ _) | (with_reducible refine Kd.C_drewN ?_ _) | (with_reducible refine Kd.C_drew ?_))); (case side2 => exact HC1.out); rintro e w20 ⟨v578, rfl, ho0, hb⟩; refine ⟨_, rfl, ?_⟩; have n0_ := Aside0.mk (Kd.R_elder' (by (with_reducible repeat (first | apply Kd.R_alloc | apply Kd.R_drewN | apply Kd.R_drew)); exact HO576.out) (Kd.R_base ho0) hb); have n1_ := Aside0.mk (Kd.R_lower (Kd.R_new' ho0 (Kd.R_lt (by (with_reducible repeat (first | apply Kd.R_alloc | apply Kd.R_drewN | apply Kd.R_drew)); exact HO576.out))) (below_size (by repeat (first | (with_reducible first | exact HB.out | apply below_alloc | apply pw_below_drewN | apply below_drew1) | exact HB.out)))); have n2_ := Aside0.mk (below_step (by repeat (first | (with_reducible first | exact HB.out | apply below_alloc | apply pw_below_drewN | apply below_drew1) | exact HB.out)) hb); clear HO576; clear HB; have HO576 := n0_; have HO579 := n1_; have HB := n2_; clear n0_ n1_ n2_; (try clear hb); (try clear hb2); (try clear hk); (try clear hi); (try clear ho0); obtain ⟨Ao21, co21, eo21⟩ := Kd.R_slice HO576.out; subst eo21; obtain ⟨Ao22, co22, eo22⟩ := Kd.R_slice HO579.out; subst eo22) | ((with_reducible refine gate_callee (f := 42) rfl ?_); refine goesL_ (some 38) rfl rfl Try.func42 (by kernel_rfl) rfl #[.slice Ao21 t590.length co21, .slice Ao22 t593.length co22] rfl (by (try simp only [List.map_toArray, List.map_cons, List.map_nil]); first | done | rfl | (simp only [List.length_drop, List.length_take]; rfl)) ?_; (with_reducible refine (spec_ManifestChanges.calls k _ _ t590 _ _ t593 t580 t581 t582 t583 _ ?side1 ?side2 ?side3 ?side4 A12.out).mono ?_); (case side1 => repeat (first | exact (Kd.R_reads' HO576.out).2.2 | (with_reducible refine Kd.C_alloc ?_ _) | (with_reducible refine Kd.C_drewN ?_ _) | (with_reducible refine Kd.C_drew ?_))); (case side2 => exact (Kd.R_reads' HO576.out).2.1); (case side3 => repeat (first | exact (Kd.R_reads' HO579.out).2.2 | (with_reducible refine Kd.C_alloc ?_ _) | (with_reducible refine Kd.C_drewN ?_ _) | (with_reducible refine Kd.C_drew ?_))); (case side4 => exact (Kd.R_reads' HO579.out).2.1); rintro e w23 ⟨v584, v586, v588, rfl, ho0, ho1, ho2, hb⟩; refine ⟨_, rfl, ?_⟩; have n0_ := Aside0.mk (Kd.R_below (by (with_reducible repeat (first | apply Kd.R_alloc | apply Kd.R_drewN | apply Kd.R_drew)); exact HO576.out) hb); have n1_ := Aside0.mk (Kd.R_below (by (with_reducible repeat (first | apply Kd.R_alloc | apply Kd.R_drewN | apply Kd.R_drew)); exact HO579.out) hb); have n2_ := Aside0.mk (Kd.R_lower ho0 (below_size (by repeat (first | (with_reducible first | exact HB.out | apply below_alloc | apply pw_below_drewN | apply below_drew1) | exact HB.out)))); have n3_ := Aside0.mk (Kd.R_lower ho1 (below_size (by repeat (first | (with_reducible first | exact HB.out | apply below_alloc | apply pw_below_drewN | apply below_drew1) | exact HB.out)))); have n4_ := Aside0.mk (Kd.R_lower ho2 (below_size (by repeat (first | (with_reducible first | exact HB.out | apply below_alloc | apply pw_below_drewN | apply below_drew1) | exact HB.out)))); have n5_ := Aside0.mk (below_step (by repeat (first | (with_reducible first | exact HB.out | apply below_alloc | apply pw_below_drewN | apply below_drew1) | exact HB.out)) hb); clear HO576; clear HO579; clear HB; have HO576 := n0_; have HO579 := n1_; have HO585 := n2_; have HO587 := n3_; have HO589 := n4_; have HB := n5_; clear n0_ n1_ n2_ n3_ n4_ n5_; (try clear hb); (try clear hb2); (try clear hk); (try clear hi); (try clear ho0); (try clear ho1); (try clear ho2)) | ((with_reducible refine gate_callee (f := 17) rfl ?_); refine goesL_ (some 44) rfl rfl Try.func17 (by kernel_rfl) rfl #[.slice A0 l0.length c0] rfl (by (try simp only [List.map_toArray, List.map_cons, List.map_nil]); first | done | rfl | (simp only [List.length_drop, List.length_take]; rfl)) ?_; (with_reducible refine (laws_toContainerS.calls k _ _ l0 t590 _ ?side1 ?side2 A13.out).mono ?_); (case side1 => repeat (first | exact (Kd.C_below HR0.out HB.out) | (with_reducible refine Kd.C_alloc ?_ _) | (with_reducible refine Kd.C_drewN ?_ _) | (with_reducible refine Kd.C_drew ?_))); (case side2 => exact HC0.out); rintro e w24 ⟨v591, rfl, ho0, hb⟩; refine ⟨_, rfl, ?_⟩; have n0_ := Aside0.mk (Kd.R_elder' (by (with_reducible repeat (first | apply Kd.R_alloc | apply Kd.R_drewN | apply Kd.R_drew)); exact HO576.out) (Kd.R_base ho0) hb); have n1_ := Aside0.mk (Kd.R_elder' (by (with_reducible repeat (first | apply Kd.R_alloc | apply Kd.R_drewN | apply Kd.R_drew)); exact HO579.out) (Kd.R_base ho0) hb); have n2_ := Aside0.mk (Kd.R_below (by (with_reducible repeat (first | apply Kd.R_alloc | apply Kd.R_drewN | apply Kd.R_drew)); exact HO585.out) hb); have n3_ := Aside0.mk (Kd.R_below (by (with_reducible repeat (first | apply Kd.R_alloc | apply Kd.R_drewN | apply Kd.R_drew)); exact HO587.out) hb); have n4_ := Aside0.mk (Kd.R_below (by (with_reducible repeat (first | apply Kd.R_alloc | apply Kd.R_drewN | apply Kd.R_drew)); exact HO589.out) hb); have n5_ := Aside0.mk (Kd.R_lower (Kd.R_new' (Kd.R_new' ho0 (Kd.R_lt (by (with_reducible repeat (first | apply Kd.R_alloc | apply Kd.R_drewN | apply Kd.R_drew)); exact HO576.out))) (Kd.R_lt (by (with_reducible repeat (first | apply Kd.R_alloc | apply Kd.R_drewN | apply Kd.R_drew)); exact HO579.out))) (below_size (by repeat (first | (with_reducible first | exact HB.out | apply below_alloc | apply pw_below_drewN | apply below_drew1) | exact HB.out)))); have n6_ := Aside0.mk (below_step (by repeat (first | (with_reducible first | exact HB.out | apply below_alloc | apply pw_below_drewN | apply below_drew1) | exact HB.out)) hb); clear HO576; clear HO579; clear HO585; clear HO587; clear HO589; clear HB; have HO576 := n0_; have HO579 := n1_; have HO585 := n2_; have HO587 := n3_; have HO589 := n4_; have HO592 := n5_; have HB := n6_; clear n0_ n1_ n2_ n3_ n4_ n5_ n6_; (try clear hb); (try clear hb2); (try clear hk); (try clear hi); (try clear ho0)) | ((with_reducible refine gate_callee (f := 17) rfl ?_); refine goesL_ (some 46) rfl rfl Try.func17 (by kernel_rfl) rfl #[.slice A1 l1.length c1] rfl (by (try simp only [List.map_toArray, List.map_cons, List.map_nil]); first | done | rfl | (simp only [List.length_drop, List.length_take]; rfl)) ?_; (with_reducible refine (laws_toContainerS.calls k _ _ l1 t593 _ ?side1 ?side2 A14.out).mono ?_); (case side1 => repeat (first | exact (Kd.C_below HR1.out HB.out) | (with_reducible refine Kd.C_alloc ?_ _) | (with_reducible refine Kd.C_drewN ?_ _) | (with_reducible refine Kd.C_drew ?_))); (case side2 => exact HC1.out); rintro e w25 ⟨v594, rfl, ho0, hb⟩; refine ⟨_, rfl, ?_⟩; have n0_ := Aside0.mk (Kd.R_elder' (by (with_reducible repeat (first | apply Kd.R_alloc | apply Kd.R_drewN | apply Kd.R_drew)); exact HO576.out) (Kd.R_base ho0) hb); have n1_ := Aside0.mk (Kd.R_elder' (by (with_reducible repeat (first | apply Kd.R_alloc | apply Kd.R_drewN | apply Kd.R_drew)); exact HO579.out) (Kd.R_base ho0) hb); have n2_ := Aside0.mk (Kd.R_below (by (with_reducible repeat (first | apply Kd.R_alloc | apply Kd.R_drewN | apply Kd.R_drew)); exact HO585.out) hb); have n3_ := Aside0.mk (Kd.R_below (by (with_reducible repeat (first | apply Kd.R_alloc | apply Kd.R_drewN | apply Kd.R_drew)); exact HO587.out) hb); have n4_ := Aside0.mk (Kd.R_below (by (with_reducible repeat (first | apply Kd.R_alloc | apply Kd.R_drewN | apply Kd.R_drew)); exact HO589.out) hb); have n5_ := Aside0.mk (Kd.R_elder' (by (with_reducible repeat (first | apply Kd.R_alloc | apply Kd.R_drewN | apply Kd.R_drew)); exact HO592.out) (Kd.R_base ho0) hb); have n6_ := Aside0.mk (Kd.R_lower (Kd.R_new' (Kd.R_new' (Kd.R_new' ho0 (Kd.R_lt (by (with_reducible repeat (first | apply Kd.R_alloc | apply Kd.R_drewN | apply Kd.R_drew)); exact HO576.out))) (Kd.R_lt (by (with_reducible repeat (first | apply Kd.R_alloc | apply Kd.R_drewN | apply Kd.R_drew)); exact HO579.out))) (Kd.R_lt (by (with_reducible repeat (first | apply Kd.R_alloc | apply Kd.R_drewN | apply Kd.R_drew)); exact HO592.out))) (below_size (by repeat (first | (with_reducible first | exact HB.out | apply below_alloc | apply pw_below_drewN | apply below_drew1) | exact HB.out)))); have n7_ := Aside0.mk (below_step (by repeat (first | (with_reducible first | exact HB.out | apply below_alloc | apply pw_below_drewN | apply below_drew1) | exact HB.out)) hb); clear HO576; clear HO579; clear HO585; clear HO587; clear HO589; clear HO592; clear HB; have HO576 := n0_; have HO579 := n1_; have HO585 := n2_; have HO587 := n3_; have HO589 := n4_; have HO592 := n5_; have HO595 := n6_; have HB := n7_; clear n0_ n1_ n2_ n3_ n4_ n5_ n6_ n7_; (try clear hb); (try clear hb2); (try clear hk); (try clear hi); (try clear ho0); obtain ⟨Ao26, co26, eo26⟩ := Kd.R_slice HO592.out; subst eo26; obtain ⟨Ao27, co27, eo27⟩ := Kd.R_slice HO595.out; subst eo27) | ((with_reducible refine gate_callee (f := 43) rfl ?_); refine goesL_ (some 50) rfl rfl Try.func43 (by kernel_rfl) rfl #[.slice Ao26 t590.length co26, .slice Ao27 t593.length co27] rfl (by (try simp only [List.map_toArray, List.map_cons, List.map_nil]); first | done | rfl | (simp only [List.length_drop, List.length_take]; rfl)) ?_; (with_reducible refine (impl_ManifestChanges.calls k _ _ t590 _ _ t593 t596 t597 t598 t599 _ ?side1 ?side2 ?side3 ?side4 A15.out).mono ?_); (case side1 => repeat (first | exact (Kd.R_reads' HO592.out).2.2 | (with_reducible refine Kd.C_alloc ?_ _) | (with_reducible refine Kd.C_drewN ?_ _) | (with_reducible refine Kd.C_drew ?_))); (case side2 => exact (Kd.R_reads' HO592.out).2.1); (case side3 => repeat (first | exact (Kd.R_reads' HO595.out).2.2 | (with_reducible refine Kd.C_alloc ?_ _) | (with_reducible refine Kd.C_drewN ?_ _) | (with_reducible refine Kd.C_drew ?_))); (case side4 => exact (Kd.R_reads' HO595.out).2.1); rintro e w28 ⟨v600, v602, v604, rfl, ho0, ho1, ho2, hb⟩; refine ⟨_, rfl, ?_⟩; have n0_ := Aside0.mk (Kd.R_below (by (with_reducible repeat (first | apply Kd.R_alloc | apply Kd.R_drewN | apply Kd.R_drew)); exact HO576.out) hb); have n1_ := Aside0.mk (Kd.R_below (by (with_reducible repeat (first | apply Kd.R_alloc | apply Kd.R_drewN | apply Kd.R_drew)); exact HO579.out) hb); have n2_ := Aside0.mk (Kd.R_mono (Kd.R_told (Kd.R_told (Kd.R_told (Kd.R_old (by (with_reducible repeat (first | apply Kd.R_alloc | apply Kd.R_drewN | apply Kd.R_drew)); exact HO585.out) hb) (Kd.R_base ho0)) (Kd.R_base ho1)) (Kd.R_base ho2)) (fun _ h_ => h_.1)); have n3_ := Aside0.mk (Kd.R_mono (Kd.R_told (Kd.R_told (Kd.R_told (Kd.R_old (by (with_reducible repeat (first | apply Kd.R_alloc | apply Kd.R_drewN | apply Kd.R_drew)); exact HO587.out) hb) (Kd.R_base ho0)) (Kd.R_base ho1)) (Kd.R_base ho2)) (fun _ h_ => h_.1)); have n4_ := Aside0.mk (Kd.R_mono (Kd.R_told (Kd.R_told (Kd.R_told (Kd.R_old (by (with_reducible repeat (first | apply Kd.R_alloc | apply Kd.R_drewN | apply Kd.R_drew)); exact HO589.out) hb) (Kd.R_base ho0)) (Kd.R_base ho1)) (Kd.R_base ho2)) (fun _ h_ => h_.1)); have n5_ := Aside0.mk (Kd.R_below (by (with_reducible repeat (first | apply Kd.R_alloc | apply Kd.R_drewN | apply Kd.R_drew)); exact HO592.out) hb); have n6_ := Aside0.mk (Kd.R_below (by (with_reducible repeat (first | apply Kd.R_alloc | apply Kd.R_drewN | apply Kd.R_drew)); exact HO595.out) hb); have n7_ := Aside0.mk (Kd.R_lower (Kd.R_new' (Kd.R_new' (Kd.R_new' ho0 (Kd.R_lt (by (with_reducible repeat (first | apply Kd.R_alloc | apply Kd.R_drewN | apply Kd.R_drew)); exact HO585.out))) (Kd.R_lt (by (with_reducible repeat (first | apply Kd.R_alloc | apply Kd.R_drewN | apply Kd.R_drew)); exact HO587.out))) (Kd.R_lt (by (with_reducible repeat (first | apply Kd.R_alloc | apply Kd.R_drewN | apply Kd.R_drew)); exact HO589.out))) (below_size (by repeat (first | (with_reducible first | exact HB.out | apply below_alloc | apply pw_below_drewN | apply below_drew1) | exact HB.out)))); have n8_ := Aside0.mk (Kd.R_lower (Kd.R_new' (Kd.R_new' (Kd.R_new' ho1 (Kd.R_lt (by (with_reducible repeat (first | apply Kd.R_alloc | apply Kd.R_drewN | apply Kd.R_drew)); exact HO585.out))) (Kd.R_lt (by (with_reducible repeat (first | apply Kd.R_alloc | apply Kd.R_drewN | apply Kd.R_drew)); exact HO587.out))) (Kd.R_lt (by (with_reducible repeat (first | apply Kd.R_alloc | apply Kd.R_drewN | apply Kd.R_drew)); exact HO589.out))) (below_size (by repeat (first | (with_reducible first | exact HB.out | apply below_alloc | apply pw_below_drewN | apply below_drew1) | exact HB.out)))); have n9_ := Aside0.mk (Kd.R_lower (Kd.R_new' (Kd.R_new' (Kd.R_new' ho2 (Kd.R_lt (by (with_reducible repeat (first | apply Kd.R_alloc | apply Kd.R_drewN | apply Kd.R_drew)); exact HO585.out))) (Kd.R_lt (by (with_reducible repeat (first | apply Kd.R_alloc | apply Kd.R_drewN | apply Kd.R_drew)); exact HO587.out))) (Kd.R_lt (by (with_reducible repeat (first | apply Kd.R_alloc | apply Kd.R_drewN | apply Kd.R_drew)); exact HO589.out))) (below_size (by repeat (first | (with_reducible first | exact HB.out | apply below_alloc | apply pw_below_drewN | apply below_drew1) | exact HB.out)))); have n10_ := Aside0.mk (below_step (by repeat (first | (with_reducible first | exact HB.out | apply below_alloc | apply pw_below_drewN | apply below_drew1) | exact HB.out)) hb); clear HO576; clear HO579; clear HO585; clear HO587; clear HO589; clear HO592; clear HO595; clear HB; have HO576 := n0_; have HO579 := n1_; have HO585 := n2_; have HO587 := n3_; have HO589 := n4_; have HO592 := n5_; have HO595 := n6_; have HO601 := n7_; have HO603 := n8_; have HO605 := n9_; have HB := n10_; clear n0_ n1_ n2_ n3_ n4_ n5_ n6_ n7_ n8_ n9_ n10_; (try clear hb); (try clear hb2); (try clear hk); (try clear hi); (try clear ho0); (try clear ho1); (try clear ho2)))
   (try simp only [Act.put, List.setIfInBounds_toArray, List.set_cons_zero, List.set_cons_succ])
   go_cut [75] (fun v75 wc => ∃ (kq : Nat) (x75_15 : Bool), v75 = .bool x75_15 ∧ Aside0 (laws_FnExactManifestChanges.j0 kq l0 l1 t580 t581 t582 t583 t590 t593 t596 t597 t598 t599 x75_15 = some r) ∧ Aside0 (kq ≤ k) ∧ Aside0 (Kd.R Kd.string 9 wc w.heap.size (fun k_ => some k_ ≠ (v586 : Value).ownBlock ∧ some k_ ≠ (v588 : Value).ownBlock ∧ some k_ ≠ (v600 : Value).ownBlock ∧ some k_ ≠ (v602 : Value).ownBlock ∧ some k_ ≠ (v604 : Value).ownBlock) v584 t580) ∧ Aside0 (Kd.R Kd.string 9 wc w.heap.size (fun k_ => some k_ ≠ (v584 : Value).ownBlock ∧ some k_ ≠ (v588 : Value).ownBlock ∧ some k_ ≠ (v600 : Value).ownBlock ∧ some k_ ≠ (v602 : Value).ownBlock ∧ some k_ ≠ (v604 : Value).ownBlock) v586 t581) ∧ Aside0 (Kd.R Kd.string 9 wc w.heap.size (fun k_ => some k_ ≠ (v584 : Value).ownBlock ∧ some k_ ≠ (v586 : Value).ownBlock ∧ some k_ ≠ (v600 : Value).ownBlock ∧ some k_ ≠ (v602 : Value).ownBlock ∧ some k_ ≠ (v604 : Value).ownBlock) v588 t582) ∧ Aside0 (Kd.R k61 61 wc w.heap.size (fun k_ => some k_ ≠ ((.slice Ao27 t593.length co27) : Value).ownBlock) (.slice Ao26 t590.length co26) t590) ∧ Aside0 (Kd.R k61 61 wc w.heap.size (fun k_ => some k_ ≠ ((.slice Ao26 t590.length co26) : Value).ownBlock) (.slice Ao27 t593.length co27) t593) ∧ Aside0 (Kd.R Kd.string 9 wc w.heap.size (fun k_ => some k_ ≠ (v584 : Value).ownBlock ∧ some k_ ≠ (v586 : Value).ownBlock ∧ some k_ ≠ (v588 : Value).ownBlock ∧ some k_ ≠ (v602 : Value).ownBlock ∧ some k_ ≠ (v604 : Value).ownBlock) v600 t596) ∧ Aside0 (Kd.R Kd.string 9 wc w.heap.size (fun k_ => some k_ ≠ (v584 : Value).ownBlock ∧ some k_ ≠ (v586 : Value).ownBlock ∧ some k_ ≠ (v588 : Value).ownBlock ∧ some k_ ≠ (v600 : Value).ownBlock ∧ some k_ ≠ (v604 : Value).ownBlock) v602 t597) ∧ Aside0 (Kd.R Kd.string 9 wc w.heap.size (fun k_ => some k_ ≠ (v584 : Value).ownBlock ∧ some k_ ≠ (v586 : Value).ownBlock ∧ some k_ ≠ (v588 : Value).ownBlock ∧ some k_ ≠ (v600 : Value).ownBlock ∧ some k_ ≠ (v602 : Value).ownBlock) v604 t598) ∧ Aside0 (Below w.heap.size w wc))
   case first =>
    have H := HC16.out
    clear HC16
    replace H := Option.bind_eq_some_iff.mp H
    obtain ⟨t606, A290, H⟩ := H
    replace H : (if t606 = true then ((laws_eqStringS.f k t597 t581).bind fun t607 => (if t607 = true then ((laws_eqStringS.f k t598 t582).bind fun t608 => (if t608 = true then (laws_FnExactManifestChanges.j0 k l0 l1 t580 t581 t582 t583 t590 t593 t596 t597 t598 t599 (t599 != t583)) else (none))) else (none))) else (none)) = some r := H
    have A29 := Aside0.mk A290
    clear A290
    by_cases c30 : t606 = true
    ·subst c30
     have H1 : ((laws_eqStringS.f k t597 t581).bind fun t607 => (if t607 = true then ((laws_eqStringS.f k t598 t582).bind fun t608 => (if t608 = true then (laws_FnExactManifestChanges.j0 k l0 l1 t580 t581 t582 t583 t590 t593 t596 t597 t598 t599 (t599 != t583)) else (none))) else (none))) = some r := by rw [if_pos rfl] at H; exact H
     clear H
     have H := H1
     clear H1
     replace H := Option.bind_eq_some_iff.mp H
     obtain ⟨t607, A310, H⟩ := H
     replace H : (if t607 = true then ((laws_eqStringS.f k t598 t582).bind fun t608 => (if t608 = true then (laws_FnExactManifestChanges.j0 k l0 l1 t580 t581 t582 t583 t590 t593 t596 t597 t598 t599 (t599 != t583)) else (none))) else (none)) = some r := H
     have A31 := Aside0.mk A310
     clear A310
     by_cases c32 : t607 = true
     ·subst c32
      have H1 : ((laws_eqStringS.f k t598 t582).bind fun t608 => (if t608 = true then (laws_FnExactManifestChanges.j0 k l0 l1 t580 t581 t582 t583 t590 t593 t596 t597 t598 t599 (t599 != t583)) else (none))) = some r := by rw [if_pos rfl] at H; exact H
      clear H
      have H := H1
      clear H1
      replace H := Option.bind_eq_some_iff.mp H
      obtain ⟨t608, A330, H⟩ := H
      replace H : (if t608 = true then (laws_FnExactManifestChanges.j0 k l0 l1 t580 t581 t582 t583 t590 t593 t596 t597 t598 t599 (t599 != t583)) else (none)) = some r := H
      have A33 := Aside0.mk A330
      clear A330
      by_cases c34 : t608 = true
      ·subst c34
       have H1 : (laws_FnExactManifestChanges.j0 k l0 l1 t580 t581 t582 t583 t590 t593 t596 t597 t598 t599 (t599 != t583)) = some r := by rw [if_pos rfl] at H; exact H
       clear H
       have H := H1
       clear H1
       have H' := Aside0.mk H
       clear H
       obtain ⟨Ao35, co35, eo35⟩ := Kd.R_slice HO601.out
       subst eo35
       obtain ⟨Ao36, co36, eo36⟩ := Kd.R_slice HO585.out
       subst eo36
       go_wp2_with (first | ((with_reducible refine gate_callee (f := 28) rfl ?_); refine goesL_ (some 57) rfl rfl Try.func28 (by kernel_rfl) rfl #[.slice Ao35 t596.length co35, .slice Ao36 t580.length co36] rfl (by (try simp only [List.map_toArray, List.map_cons, List.map_nil]); first | done | rfl | (simp only [List.length_drop, List.length_take]; rfl)) ?_; (with_reducible refine (laws_eqStringS.calls k _ _ t596 _ _ t580 true _ ?side1 ?side2 ?side3 ?side4 A29.out).mono ?_); (case side1 => repeat (first | exact (Kd.R_reads' HO601.out).2.2 | (with_reducible refine Kd.C_alloc ?_ _) | (with_reducible refine Kd.C_drewN ?_ _) | (with_reducible refine Kd.C_drew ?_))); (case side2 => exact (Kd.R_reads' HO601.out).2.1); (case side3 => repeat (first | exact (Kd.R_reads' HO585.out).2.2 | (with_reducible refine Kd.C_alloc ?_ _) | (with_reducible refine Kd.C_drewN ?_ _) | (with_reducible refine Kd.C_drew ?_))); (case side4 => exact (Kd.R_reads' HO585.out).2.1); rintro e w' ⟨rfl, ⟨nd, rfl⟩⟩; refine ⟨_, rfl, ?_⟩; obtain ⟨Ao37, co37, eo37⟩ := Kd.R_slice HO603.out; subst eo37; obtain ⟨Ao38, co38, eo38⟩ := Kd.R_slice HO587.out; subst eo38) | (go_at_call 28; (with_reducible refine (laws_eqStringS.calls k _ _ t597 _ _ t581 true _ ?side1 ?side2 ?side3 ?side4 A31.out).mono ?_); (case side1 => repeat (first | exact (Kd.R_reads' HO603.out).2.2 | (with_reducible refine Kd.C_alloc ?_ _) | (with_reducible refine Kd.C_drewN ?_ _) | (with_reducible refine Kd.C_drew ?_))); (case side2 => exact (Kd.R_reads' HO603.out).2.1); (case side3 => repeat (first | exact (Kd.R_reads' HO587.out).2.2 | (with_reducible refine Kd.C_alloc ?_ _) | (with_reducible refine Kd.C_drewN ?_ _) | (with_reducible refine Kd.C_drew ?_))); (case side4 => exact (Kd.R_reads' HO587.out).2.1); rintro e w' ⟨rfl, ⟨nd, rfl⟩⟩; obtain ⟨Ao39, co39, eo39⟩ := Kd.R_slice HO605.out; subst eo39; obtain ⟨Ao40, co40, eo40⟩ := Kd.R_slice HO589.out; subst eo40) | (go_at_call 28; (with_reducible refine (laws_eqStringS.calls k _ _ t598 _ _ t582 true _ ?side1 ?side2 ?side3 ?side4 A33.out).mono ?_); (case side1 => repeat (first | exact (Kd.R_reads' HO605.out).2.2 | (with_reducible refine Kd.C_alloc ?_ _) | (with_reducible refine Kd.C_drewN ?_ _) | (with_reducible refine Kd.C_drew ?_))); (case side2 => exact (Kd.R_reads' HO605.out).2.1); (case side3 => repeat (first | exact (Kd.R_reads' HO589.out).2.2 | (with_reducible refine Kd.C_alloc ?_ _) | (with_reducible refine Kd.C_drewN ?_ _) | (with_reducible refine Kd.C_drew ?_))); (case side4 => exact (Kd.R_reads' HO589.out).2.1); rintro e w' ⟨rfl, ⟨nd, rfl⟩⟩))
       go_meet
       case rel => exact ⟨_, ((t599 != t583)), (by first | rfl | (simp; done) | (simp [*]; done)), H', ⟨by first | omega | exact Nat.le_refl _⟩, ⟨by (with_reducible repeat (first | apply Kd.R_alloc | apply Kd.R_drewN | apply Kd.R_drew)); exact Kd.R_mono HO585.out (fun _ hk => ⟨hk.1.1.1.1, ⟨hk.1.1.1.2, ⟨hk.1.1.2, ⟨hk.1.2, hk.2⟩⟩⟩⟩)⟩, ⟨by (with_reducible repeat (first | apply Kd.R_alloc | apply Kd.R_drewN | apply Kd.R_drew)); exact Kd.R_mono HO587.out (fun _ hk => ⟨hk.1.1.1.1, ⟨hk.1.1.1.2, ⟨hk.1.1.2, ⟨hk.1.2, hk.2⟩⟩⟩⟩)⟩, ⟨by (with_reducible repeat (first | apply Kd.R_alloc | apply Kd.R_drewN | apply Kd.R_drew)); exact Kd.R_mono HO589.out (fun _ hk => ⟨hk.1.1.1.1, ⟨hk.1.1.1.2, ⟨hk.1.1.2, ⟨hk.1.2, hk.2⟩⟩⟩⟩)⟩, ⟨by (with_reducible repeat (first | apply Kd.R_alloc | apply Kd.R_drewN | apply Kd.R_drew)); exact Kd.R_mono HO592.out (fun _ hk => hk.2)⟩, ⟨by (with_reducible repeat (first | apply Kd.R_alloc | apply Kd.R_drewN | apply Kd.R_drew)); exact Kd.R_mono HO595.out (fun _ hk => hk.2)⟩, ⟨by (with_reducible repeat (first | apply Kd.R_alloc | apply Kd.R_drewN | apply Kd.R_drew)); exact Kd.R_mono HO601.out (fun _ hk => ⟨hk.1.1.2, ⟨hk.1.2, ⟨hk.2, ⟨hk.1.1.1.1, hk.1.1.1.2⟩⟩⟩⟩)⟩, ⟨by (with_reducible repeat (first | apply Kd.R_alloc | apply Kd.R_drewN | apply Kd.R_drew)); exact Kd.R_mono HO603.out (fun _ hk => ⟨hk.1.1.2, ⟨hk.1.2, ⟨hk.2, ⟨hk.1.1.1.1, hk.1.1.1.2⟩⟩⟩⟩)⟩, ⟨by (with_reducible repeat (first | apply Kd.R_alloc | apply Kd.R_drewN | apply Kd.R_drew)); exact Kd.R_mono HO605.out (fun _ hk => ⟨hk.1.1.2, ⟨hk.1.2, ⟨hk.2, ⟨hk.1.1.1.1, hk.1.1.1.2⟩⟩⟩⟩)⟩, ⟨by repeat (first | (with_reducible first | exact HB.out | apply below_alloc | apply pw_below_drewN | apply below_drew1) | exact HB.out)⟩⟩
      ·replace c34 := Bool.eq_false_iff.mpr c34
       subst c34
       have H1 : (none) = some r := by rw [if_neg (show ¬ (false = true) by decide)] at H; exact H
       clear H
       have H := H1
       clear H1
       exact absurd H (by simp)
     ·replace c32 := Bool.eq_false_iff.mpr c32
      subst c32
      have H1 : (none) = some r := by rw [if_neg (show ¬ (false = true) by decide)] at H; exact H
      clear H
      have H := H1
      clear H1
      exact absurd H (by simp)
    ·replace c30 := Bool.eq_false_iff.mpr c30
     subst c30
     have H1 : (none) = some r := by rw [if_neg (show ¬ (false = true) by decide)] at H; exact H
     clear H
     have H := H1
     clear H1
     exact absurd H (by simp)
   case rest =>
    clear HC16
    try clear c1
    try clear c2
    try clear p2
    try clear c3
    try clear c4
    try clear c4b0
    try clear c7
    try clear c7b0
    try clear c11
    try clear c15
    try clear c17
    try clear c28
    try clear c30
    try clear c32
    try clear c34
    try clear c42
    try clear c43
    obtain ⟨kq, x75_15, rfl, HA, HJ15, HO_6, HO_7, HO_8, HO_10, HO_11, HO_12, HO_13, HO_14, HB⟩ := hcut
    cases kq with
    | zero => exact absurd HA.out (by simp [laws_FnExactManifestChanges.j0])
    | succ kj15 =>
     have H := HA.out
     clear HA
     simp only [laws_FnExactManifestChanges.j0] at H
     by_cases c53 : x75_15 = true
     ·subst c53
      have H1 : (none) = some r := by rw [if_pos rfl] at H; exact H
      clear H
      have H := H1
      clear H1
      exact absurd H (by simp)
     ·replace c53 := Bool.eq_false_iff.mpr c53
      subst c53
      have H1 : ((laws_toContainerS.f kj15 l0).bind fun t609 => ((laws_eqContainerS.f kj15 t590 t609).bind fun t612 => (if t612 = true then ((laws_toContainerS.f kj15 l1).bind fun t613 => ((laws_eqContainerS.f kj15 t593 t613).bind fun t616 => (if t616 = true then ((laws_markContainerS.f kj15 t590 1).bind fun bt617 => ((laws_markContainerS.f kj15 t593 bt617.1).bind fun bt619 => (if bt619.1 < 0 then (none) else ((laws_eqStringS.f kj15 t596 t580).bind fun t621 => (if t621 = true then ((laws_eqStringS.f kj15 t597 t581).bind fun t622 => (if t622 = true then ((laws_eqStringS.f kj15 t598 t582).bind fun t623 => (if t623 = true then (laws_FnExactManifestChanges.j1 kj15 l0 l1 t580 t581 t582 t583 t596 t597 t598 (t599 != t583)) else (none))) else (none))) else (none)))))) else (none)))) else (none)))) = some r := by rw [if_neg (show ¬ (false = true) by decide)] at H; exact H
      clear H
      have H := H1
      clear H1
      replace H := Option.bind_eq_some_iff.mp H
      obtain ⟨t609, A540, H⟩ := H
      replace H : ((laws_eqContainerS.f kj15 t590 t609).bind fun t612 => (if t612 = true then ((laws_toContainerS.f kj15 l1).bind fun t613 => ((laws_eqContainerS.f kj15 t593 t613).bind fun t616 => (if t616 = true then ((laws_markContainerS.f kj15 t590 1).bind fun bt617 => ((laws_markContainerS.f kj15 t593 bt617.1).bind fun bt619 => (if bt619.1 < 0 then (none) else ((laws_eqStringS.f kj15 t596 t580).bind fun t621 => (if t621 = true then ((laws_eqStringS.f kj15 t597 t581).bind fun t622 => (if t622 = true then ((laws_eqStringS.f kj15 t598 t582).bind fun t623 => (if t623 = true then (laws_FnExactManifestChanges.j1 kj15 l0 l1 t580 t581 t582 t583 t596 t597 t598 (t599 != t583)) else (none))) else (none))) else (none)))))) else (none)))) else (none))) = some r := H
      have A54 := Aside0.mk A540
      clear A540
      replace H := Option.bind_eq_some_iff.mp H
      obtain ⟨t612, A550, H⟩ := H
      replace H : (if t612 = true then ((laws_toContainerS.f kj15 l1).bind fun t613 => ((laws_eqContainerS.f kj15 t593 t613).bind fun t616 => (if t616 = true then ((laws_markContainerS.f kj15 t590 1).bind fun bt617 => ((laws_markContainerS.f kj15 t593 bt617.1).bind fun bt619 => (if bt619.1 < 0 then (none) else ((laws_eqStringS.f kj15 t596 t580).bind fun t621 => (if t621 = true then ((laws_eqStringS.f kj15 t597 t581).bind fun t622 => (if t622 = true then ((laws_eqStringS.f kj15 t598 t582).bind fun t623 => (if t623 = true then (laws_FnExactManifestChanges.j1 kj15 l0 l1 t580 t581 t582 t583 t596 t597 t598 (t599 != t583)) else (none))) else (none))) else (none)))))) else (none)))) else (none)) = some r := H
      have A55 := Aside0.mk A550
      clear A550
      by_cases c56 : t612 = true
      ·subst c56
       have H1 : ((laws_toContainerS.f kj15 l1).bind fun t613 => ((laws_eqContainerS.f kj15 t593 t613).bind fun t616 => (if t616 = true then ((laws_markContainerS.f kj15 t590 1).bind fun bt617 => ((laws_markContainerS.f kj15 t593 bt617.1).bind fun bt619 => (if bt619.1 < 0 then (none) else ((laws_eqStringS.f kj15 t596 t580).bind fun t621 => (if t621 = true then ((laws_eqStringS.f kj15 t597 t581).bind fun t622 => (if t622 = true then ((laws_eqStringS.f kj15 t598 t582).bind fun t623 => (if t623 = true then (laws_FnExactManifestChanges.j1 kj15 l0 l1 t580 t581 t582 t583 t596 t597 t598 (t599 != t583)) else (none))) else (none))) else (none)))))) else (none)))) = some r := by rw [if_pos rfl] at H; exact H
       clear H
       have H := H1
       clear H1
       replace H := Option.bind_eq_some_iff.mp H
       obtain ⟨t613, A570, H⟩ := H
       replace H : ((laws_eqContainerS.f kj15 t593 t613).bind fun t616 => (if t616 = true then ((laws_markContainerS.f kj15 t590 1).bind fun bt617 => ((laws_markContainerS.f kj15 t593 bt617.1).bind fun bt619 => (if bt619.1 < 0 then (none) else ((laws_eqStringS.f kj15 t596 t580).bind fun t621 => (if t621 = true then ((laws_eqStringS.f kj15 t597 t581).bind fun t622 => (if t622 = true then ((laws_eqStringS.f kj15 t598 t582).bind fun t623 => (if t623 = true then (laws_FnExactManifestChanges.j1 kj15 l0 l1 t580 t581 t582 t583 t596 t597 t598 (t599 != t583)) else (none))) else (none))) else (none)))))) else (none))) = some r := H
       have A57 := Aside0.mk A570
       clear A570
       replace H := Option.bind_eq_some_iff.mp H
       obtain ⟨t616, A580, H⟩ := H
       replace H : (if t616 = true then ((laws_markContainerS.f kj15 t590 1).bind fun bt617 => ((laws_markContainerS.f kj15 t593 bt617.1).bind fun bt619 => (if bt619.1 < 0 then (none) else ((laws_eqStringS.f kj15 t596 t580).bind fun t621 => (if t621 = true then ((laws_eqStringS.f kj15 t597 t581).bind fun t622 => (if t622 = true then ((laws_eqStringS.f kj15 t598 t582).bind fun t623 => (if t623 = true then (laws_FnExactManifestChanges.j1 kj15 l0 l1 t580 t581 t582 t583 t596 t597 t598 (t599 != t583)) else (none))) else (none))) else (none)))))) else (none)) = some r := H
       have A58 := Aside0.mk A580
       clear A580
       by_cases c59 : t616 = true
       ·subst c59
        have H1 : ((laws_markContainerS.f kj15 t590 1).bind fun bt617 => ((laws_markContainerS.f kj15 t593 bt617.1).bind fun bt619 => (if bt619.1 < 0 then (none) else ((laws_eqStringS.f kj15 t596 t580).bind fun t621 => (if t621 = true then ((laws_eqStringS.f kj15 t597 t581).bind fun t622 => (if t622 = true then ((laws_eqStringS.f kj15 t598 t582).bind fun t623 => (if t623 = true then (laws_FnExactManifestChanges.j1 kj15 l0 l1 t580 t581 t582 t583 t596 t597 t598 (t599 != t583)) else (none))) else (none))) else (none)))))) = some r := by rw [if_pos rfl] at H; exact H
        clear H
        have H := H1
        clear H1
        replace H := Option.bind_eq_some_iff.mp H
        obtain ⟨⟨t617, t618⟩, A600, H⟩ := H
        replace H : ((laws_markContainerS.f kj15 t593 t617).bind fun bt619 => (if bt619.1 < 0 then (none) else ((laws_eqStringS.f kj15 t596 t580).bind fun t621 => (if t621 = true then ((laws_eqStringS.f kj15 t597 t581).bind fun t622 => (if t622 = true then ((laws_eqStringS.f kj15 t598 t582).bind fun t623 => (if t623 = true then (laws_FnExactManifestChanges.j1 kj15 l0 l1 t580 t581 t582 t583 t596 t597 t598 (t599 != t583)) else (none))) else (none))) else (none))))) = some r := H
        have A60 := Aside0.mk A600
        clear A600
        replace H := Option.bind_eq_some_iff.mp H
        obtain ⟨⟨t619, t620⟩, A610, H⟩ := H
        replace H : (if t619 < 0 then (none) else ((laws_eqStringS.f kj15 t596 t580).bind fun t621 => (if t621 = true then ((laws_eqStringS.f kj15 t597 t581).bind fun t622 => (if t622 = true then ((laws_eqStringS.f kj15 t598 t582).bind fun t623 => (if t623 = true then (laws_FnExactManifestChanges.j1 kj15 l0 l1 t580 t581 t582 t583 t596 t597 t598 (t599 != t583)) else (none))) else (none))) else (none)))) = some r := H
        have A61 := Aside0.mk A610
        clear A610
        have HC62 := Aside0.mk H
        clear H
        go_upto_region 21 with (first | ((with_reducible refine gate_callee (f := 17) rfl ?_); refine goesL_ (some 78) rfl rfl Try.func17 (by kernel_rfl) rfl #[.slice A0 l0.length c0] rfl (by (try simp only [List.map_toArray, List.map_cons, List.map_nil]); first | done | rfl | (simp only [List.length_drop, List.length_take]; rfl)) ?_; (with_reducible refine (laws_toContainerS.calls kj15 _ _ l0 t609 _ ?side1 ?side2 A54.out).mono ?_); (case side1 => repeat (first | exact (Kd.C_below HR0.out HB.out) | (with_reducible refine Kd.C_alloc ?_ _) | (with_reducible refine Kd.C_drewN ?_ _) | (with_reducible refine Kd.C_drew ?_))); (case side2 => exact HC0.out); rintro e w63 ⟨v610, rfl, ho0, hb⟩; refine ⟨_, rfl, ?_⟩; have n0_ := Aside0.mk (Kd.R_below (by (with_reducible repeat (first | apply Kd.R_alloc | apply Kd.R_drewN | apply Kd.R_drew)); exact HO_6.out) hb); have n1_ := Aside0.mk (Kd.R_below (by (with_reducible repeat (first | apply Kd.R_alloc | apply Kd.R_drewN | apply Kd.R_drew)); exact HO_7.out) hb); have n2_ := Aside0.mk (Kd.R_below (by (with_reducible repeat (first | apply Kd.R_alloc | apply Kd.R_drewN | apply Kd.R_drew)); exact HO_8.out) hb); have n3_ := Aside0.mk (Kd.R_elder' (by (with_reducible repeat (first | apply Kd.R_alloc | apply Kd.R_drewN | apply Kd.R_drew)); exact HO_10.out) (Kd.R_base ho0) hb); have n4_ := Aside0.mk (Kd.R_elder' (by (with_reducible repeat (first | apply Kd.R_alloc | apply Kd.R_drewN | apply Kd.R_drew)); exact HO_11.out) (Kd.R_base ho0) hb); have n5_ := Aside0.mk (Kd.R_below (by (with_reducible repeat (first | apply Kd.R_alloc | apply Kd.R_drewN | apply Kd.R_drew)); exact HO_12.out) hb); have n6_ := Aside0.mk (Kd.R_below (by (with_reducible repeat (first | apply Kd.R_alloc | apply Kd.R_drewN | apply Kd.R_drew)); exact HO_13.out) hb); have n7_ := Aside0.mk (Kd.R_below (by (with_reducible repeat (first | apply Kd.R_alloc | apply Kd.R_drewN | apply Kd.R_drew)); exact HO_14.out) hb); have n8_ := Aside0.mk (Kd.R_lower (Kd.R_new' (Kd.R_new' ho0 (Kd.R_lt (by (with_reducible repeat (first | apply Kd.R_alloc | apply Kd.R_drewN | apply Kd.R_drew)); exact HO_10.out))) (Kd.R_lt (by (with_reducible repeat (first | apply Kd.R_alloc | apply Kd.R_drewN | apply Kd.R_drew)); exact HO_11.out))) (below_size (by repeat (first | (with_reducible first | exact HB.out | apply below_alloc | apply pw_below_drewN | apply below_drew1) | exact HB.out)))); have n9_ := Aside0.mk (below_step (by repeat (first | (with_reducible first | exact HB.out | apply below_alloc | apply pw_below_drewN | apply below_drew1) | exact HB.out)) hb); clear HO_6; clear HO_7; clear HO_8; clear HO_10; clear HO_11; clear HO_12; clear HO_13; clear HO_14; clear HB; have HO_6 := n0_; have HO_7 := n1_; have HO_8 := n2_; have HO_10 := n3_; have HO_11 := n4_; have HO_12 := n5_; have HO_13 := n6_; have HO_14 := n7_; have HO611 := n8_; have HB := n9_; clear n0_ n1_ n2_ n3_ n4_ n5_ n6_ n7_ n8_ n9_; (try clear hb); (try clear hb2); (try clear hk); (try clear hi); (try clear ho0); obtain ⟨Ao64, co64, eo64⟩ := Kd.R_slice HO611.out; subst eo64) | ((with_reducible refine gate_callee (f := 19) rfl ?_); refine goesL_ (some 79) rfl rfl Try.func19 (by kernel_rfl) rfl #[.slice Ao26 t590.length co26, .slice Ao64 t609.length co64] rfl (by (try simp only [List.map_toArray, List.map_cons, List.map_nil]); first | done | rfl | (simp only [List.length_drop, List.length_take]; rfl)) ?_; (with_reducible refine (laws_eqContainerS.calls kj15 _ _ t590 _ _ t609 true _ ?side1 ?side2 ?side3 ?side4 A55.out).mono ?_); (case side1 => repeat (first | exact (Kd.R_reads' HO_10.out).2.2 | (with_reducible refine Kd.C_alloc ?_ _) | (with_reducible refine Kd.C_drewN ?_ _) | (with_reducible refine Kd.C_drew ?_))); (case side2 => exact (Kd.R_reads' HO_10.out).2.1); (case side3 => repeat (first | exact (Kd.R_reads' HO611.out).2.2 | (with_reducible refine Kd.C_alloc ?_ _) | (with_reducible refine Kd.C_drewN ?_ _) | (with_reducible refine Kd.C_drew ?_))); (case side4 => exact (Kd.R_reads' HO611.out).2.1); rintro e w65 ⟨rfl, hb⟩; refine ⟨_, rfl, ?_⟩; have n0_ := Aside0.mk (Kd.R_below (by (with_reducible repeat (first | apply Kd.R_alloc | apply Kd.R_drewN | apply Kd.R_drew)); exact HO_6.out) hb); have n1_ := Aside0.mk (Kd.R_below (by (with_reducible repeat (first | apply Kd.R_alloc | apply Kd.R_drewN | apply Kd.R_drew)); exact HO_7.out) hb); have n2_ := Aside0.mk (Kd.R_below (by (with_reducible repeat (first | apply Kd.R_alloc | apply Kd.R_drewN | apply Kd.R_drew)); exact HO_8.out) hb); have n3_ := Aside0.mk (Kd.R_below (by (with_reducible repeat (first | apply Kd.R_alloc | apply Kd.R_drewN | apply Kd.R_drew)); exact HO_10.out) hb); have n4_ := Aside0.mk (Kd.R_below (by (with_reducible repeat (first | apply Kd.R_alloc | apply Kd.R_drewN | apply Kd.R_drew)); exact HO_11.out) hb); have n5_ := Aside0.mk (Kd.R_below (by (with_reducible repeat (first | apply Kd.R_alloc | apply Kd.R_drewN | apply Kd.R_drew)); exact HO_12.out) hb); have n6_ := Aside0.mk (Kd.R_below (by (with_reducible repeat (first | apply Kd.R_alloc | apply Kd.R_drewN | apply Kd.R_drew)); exact HO_13.out) hb); have n7_ := Aside0.mk (Kd.R_below (by (with_reducible repeat (first | apply Kd.R_alloc | apply Kd.R_drewN | apply Kd.R_drew)); exact HO_14.out) hb); have n8_ := Aside0.mk (Kd.R_below (by (with_reducible repeat (first | apply Kd.R_alloc | apply Kd.R_drewN | apply Kd.R_drew)); exact HO611.out) hb); have n9_ := Aside0.mk (below_step (by repeat (first | (with_reducible first | exact HB.out | apply below_alloc | apply pw_below_drewN | apply below_drew1) | exact HB.out)) hb); clear HO_6; clear HO_7; clear HO_8; clear HO_10; clear HO_11; clear HO_12; clear HO_13; clear HO_14; clear HO611; clear HB; have HO_6 := n0_; have HO_7 := n1_; have HO_8 := n2_; have HO_10 := n3_; have HO_11 := n4_; have HO_12 := n5_; have HO_13 := n6_; have HO_14 := n7_; have HO611 := n8_; have HB := n9_; clear n0_ n1_ n2_ n3_ n4_ n5_ n6_ n7_ n8_ n9_; (try clear hb); (try clear hb2); (try clear hk); (try clear hi)) | ((with_reducible refine gate_callee (f := 17) rfl ?_); refine goesL_ (some 83) rfl rfl Try.func17 (by kernel_rfl) rfl #[.slice A1 l1.length c1] rfl (by (try simp only [List.map_toArray, List.map_cons, List.map_nil]); first | done | rfl | (simp only [List.length_drop, List.length_take]; rfl)) ?_; (with_reducible refine (laws_toContainerS.calls kj15 _ _ l1 t613 _ ?side1 ?side2 A57.out).mono ?_); (case side1 => repeat (first | exact (Kd.C_below HR1.out HB.out) | (with_reducible refine Kd.C_alloc ?_ _) | (with_reducible refine Kd.C_drewN ?_ _) | (with_reducible refine Kd.C_drew ?_))); (case side2 => exact HC1.out); rintro e w66 ⟨v614, rfl, ho0, hb⟩; refine ⟨_, rfl, ?_⟩; have n0_ := Aside0.mk (Kd.R_below (by (with_reducible repeat (first | apply Kd.R_alloc | apply Kd.R_drewN | apply Kd.R_drew)); exact HO_6.out) hb); have n1_ := Aside0.mk (Kd.R_below (by (with_reducible repeat (first | apply Kd.R_alloc | apply Kd.R_drewN | apply Kd.R_drew)); exact HO_7.out) hb); have n2_ := Aside0.mk (Kd.R_below (by (with_reducible repeat (first | apply Kd.R_alloc | apply Kd.R_drewN | apply Kd.R_drew)); exact HO_8.out) hb); have n3_ := Aside0.mk (Kd.R_elder' (by (with_reducible repeat (first | apply Kd.R_alloc | apply Kd.R_drewN | apply Kd.R_drew)); exact HO_10.out) (Kd.R_base ho0) hb); have n4_ := Aside0.mk (Kd.R_elder' (by (with_reducible repeat (first | apply Kd.R_alloc | apply Kd.R_drewN | apply Kd.R_drew)); exact HO_11.out) (Kd.R_base ho0) hb); have n5_ := Aside0.mk (Kd.R_below (by (with_reducible repeat (first | apply Kd.R_alloc | apply Kd.R_drewN | apply Kd.R_drew)); exact HO_12.out) hb); have n6_ := Aside0.mk (Kd.R_below (by (with_reducible repeat (first | apply Kd.R_alloc | apply Kd.R_drewN | apply Kd.R_drew)); exact HO_13.out) hb); have n7_ := Aside0.mk (Kd.R_below (by (with_reducible repeat (first | apply Kd.R_alloc | apply Kd.R_drewN | apply Kd.R_drew)); exact HO_14.out) hb); have n8_ := Aside0.mk (Kd.R_elder' (by (with_reducible repeat (first | apply Kd.R_alloc | apply Kd.R_drewN | apply Kd.R_drew)); exact HO611.out) (Kd.R_base ho0) hb); have n9_ := Aside0.mk (Kd.R_lower (Kd.R_new' (Kd.R_new' (Kd.R_new' ho0 (Kd.R_lt (by (with_reducible repeat (first | apply Kd.R_alloc | apply Kd.R_drewN | apply Kd.R_drew)); exact HO_10.out))) (Kd.R_lt (by (with_reducible repeat (first | apply Kd.R_alloc | apply Kd.R_drewN | apply Kd.R_drew)); exact HO_11.out))) (Kd.R_lt (by (with_reducible repeat (first | apply Kd.R_alloc | apply Kd.R_drewN | apply Kd.R_drew)); exact HO611.out))) (below_size (by repeat (first | (with_reducible first | exact HB.out | apply below_alloc | apply pw_below_drewN | apply below_drew1) | exact HB.out)))); have n10_ := Aside0.mk (below_step (by repeat (first | (with_reducible first | exact HB.out | apply below_alloc | apply pw_below_drewN | apply below_drew1) | exact HB.out)) hb); clear HO_6; clear HO_7; clear HO_8; clear HO_10; clear HO_11; clear HO_12; clear HO_13; clear HO_14; clear HO611; clear HB; have HO_6 := n0_; have HO_7 := n1_; have HO_8 := n2_; have HO_10 := n3_; have HO_11 := n4_; have HO_12 := n5_; have HO_13 := n6_; have HO_14 := n7_; have HO611 := n8_; have HO615 := n9_; have HB := n10_; clear n0_ n1_ n2_ n3_ n4_ n5_ n6_ n7_ n8_ n9_ n10_; (try clear hb); (try clear hb2); (try clear hk); (try clear hi); (try clear ho0); obtain ⟨Ao67, co67, eo67⟩ := Kd.R_slice HO615.out; subst eo67) | ((with_reducible refine gate_callee (f := 19) rfl ?_); refine goesL_ (some 84) rfl rfl Try.func19 (by kernel_rfl) rfl #[.slice Ao27 t593.length co27, .slice Ao67 t613.length co67] rfl (by (try simp only [List.map_toArray, List.map_cons, List.map_nil]); first | done | rfl | (simp only [List.length_drop, List.length_take]; rfl)) ?_; (with_reducible refine (laws_eqContainerS.calls kj15 _ _ t593 _ _ t613 true _ ?side1 ?side2 ?side3 ?side4 A58.out).mono ?_); (case side1 => repeat (first | exact (Kd.R_reads' HO_11.out).2.2 | (with_reducible refine Kd.C_alloc ?_ _) | (with_reducible refine Kd.C_drewN ?_ _) | (with_reducible refine Kd.C_drew ?_))); (case side2 => exact (Kd.R_reads' HO_11.out).2.1); (case side3 => repeat (first | exact (Kd.R_reads' HO615.out).2.2 | (with_reducible refine Kd.C_alloc ?_ _) | (with_reducible refine Kd.C_drewN ?_ _) | (with_reducible refine Kd.C_drew ?_))); (case side4 => exact (Kd.R_reads' HO615.out).2.1); rintro e w68 ⟨rfl, hb⟩; refine ⟨_, rfl, ?_⟩; have n0_ := Aside0.mk (Kd.R_below (by (with_reducible repeat (first | apply Kd.R_alloc | apply Kd.R_drewN | apply Kd.R_drew)); exact HO_6.out) hb); have n1_ := Aside0.mk (Kd.R_below (by (with_reducible repeat (first | apply Kd.R_alloc | apply Kd.R_drewN | apply Kd.R_drew)); exact HO_7.out) hb); have n2_ := Aside0.mk (Kd.R_below (by (with_reducible repeat (first | apply Kd.R_alloc | apply Kd.R_drewN | apply Kd.R_drew)); exact HO_8.out) hb); have n3_ := Aside0.mk (Kd.R_below (by (with_reducible repeat (first | apply Kd.R_alloc | apply Kd.R_drewN | apply Kd.R_drew)); exact HO_10.out) hb); have n4_ := Aside0.mk (Kd.R_below (by (with_reducible repeat (first | apply Kd.R_alloc | apply Kd.R_drewN | apply Kd.R_drew)); exact HO_11.out) hb); have n5_ := Aside0.mk (Kd.R_below (by (with_reducible repeat (first | apply Kd.R_alloc | apply Kd.R_drewN | apply Kd.R_drew)); exact HO_12.out) hb); have n6_ := Aside0.mk (Kd.R_below (by (with_reducible repeat (first | apply Kd.R_alloc | apply Kd.R_drewN | apply Kd.R_drew)); exact HO_13.out) hb); have n7_ := Aside0.mk (Kd.R_below (by (with_reducible repeat (first | apply Kd.R_alloc | apply Kd.R_drewN | apply Kd.R_drew)); exact HO_14.out) hb); have n8_ := Aside0.mk (Kd.R_below (by (with_reducible repeat (first | apply Kd.R_alloc | apply Kd.R_drewN | apply Kd.R_drew)); exact HO611.out) hb); have n9_ := Aside0.mk (Kd.R_below (by (with_reducible repeat (first | apply Kd.R_alloc | apply Kd.R_drewN | apply Kd.R_drew)); exact HO615.out) hb); have n10_ := Aside0.mk (below_step (by repeat (first | (with_reducible first | exact HB.out | apply below_alloc | apply pw_below_drewN | apply below_drew1) | exact HB.out)) hb); clear HO_6; clear HO_7; clear HO_8; clear HO_10; clear HO_11; clear HO_12; clear HO_13; clear HO_14; clear HO611; clear HO615; clear HB; have HO_6 := n0_; have HO_7 := n1_; have HO_8 := n2_; have HO_10 := n3_; have HO_11 := n4_; have HO_12 := n5_; have HO_13 := n6_; have HO_14 := n7_; have HO611 := n8_; have HO615 := n9_; have HB := n10_; clear n0_ n1_ n2_ n3_ n4_ n5_ n6_ n7_ n8_ n9_ n10_; (try clear hb); (try clear hb2); (try clear hk); (try clear hi)) | ((with_reducible refine gate_callee (f := 29) rfl ?_); refine goesL_ (some 88) rfl rfl Try.func29 (by kernel_rfl) rfl #[.slice Ao26 t590.length co26, .int .i64 1] rfl (by (try simp only [List.map_toArray, List.map_cons, List.map_nil]); first | done | rfl | (simp only [List.length_drop, List.length_take]; rfl)) ?_; (with_reducible refine (laws_markContainerS.calls kj15 (fun k_ => some k_ = (.slice Ao26 t590.length co26 : Value).ownBlock) (.slice Ao26 t590.length co26) t590 1 t617 t618 w _ ?side1 ?side2 A60.out).mono ?_); (case side1 => repeat (first | (with_reducible first | exact HB.out | apply below_alloc | apply pw_below_drewN | apply below_drew1) | exact HB.out)); (case side2 => exact Kd.R_tight rfl HO_10.out); rintro e w69 ⟨rfl, hy0, hb, hkp⟩; refine ⟨_, rfl, ?_⟩; have n0_ := Aside0.mk (Kd.R_mono (ok' := fun k_ => some k_ ≠ (v586 : Value).ownBlock ∧ some k_ ≠ (v588 : Value).ownBlock ∧ some k_ ≠ (v600 : Value).ownBlock ∧ some k_ ≠ (v602 : Value).ownBlock ∧ some k_ ≠ (v604 : Value).ownBlock) (Kd.R_keptB ((Kd.R_apart' HO_6.out (Kd.R_typed HO_10.out) (by decide))) hkp (fun k_ hk_ hs_ => (hk_.2) hs_)) (fun k_ hk_ => ⟨hk_.1.1.1, hk_.1.1.2.1, hk_.1.1.2.2.1, hk_.1.1.2.2.2.1, hk_.1.1.2.2.2.2⟩)); have n1_ := Aside0.mk (Kd.R_mono (ok' := fun k_ => some k_ ≠ (v584 : Value).ownBlock ∧ some k_ ≠ (v588 : Value).ownBlock ∧ some k_ ≠ (v600 : Value).ownBlock ∧ some k_ ≠ (v602 : Value).ownBlock ∧ some k_ ≠ (v604 : Value).ownBlock) (Kd.R_keptB ((Kd.R_apart' HO_7.out (Kd.R_typed HO_10.out) (by decide))) hkp (fun k_ hk_ hs_ => (hk_.2) hs_)) (fun k_ hk_ => ⟨hk_.1.1.1, hk_.1.1.2.1, hk_.1.1.2.2.1, hk_.1.1.2.2.2.1, hk_.1.1.2.2.2.2⟩)); have n2_ := Aside0.mk (Kd.R_mono (ok' := fun k_ => some k_ ≠ (v584 : Value).ownBlock ∧ some k_ ≠ (v586 : Value).ownBlock ∧ some k_ ≠ (v600 : Value).ownBlock ∧ some k_ ≠ (v602 : Value).ownBlock ∧ some k_ ≠ (v604 : Value).ownBlock) (Kd.R_keptB ((Kd.R_apart' HO_8.out (Kd.R_typed HO_10.out) (by decide))) hkp (fun k_ hk_ hs_ => (hk_.2) hs_)) (fun k_ hk_ => ⟨hk_.1.1.1, hk_.1.1.2.1, hk_.1.1.2.2.1, hk_.1.1.2.2.2.1, hk_.1.1.2.2.2.2⟩)); have n3_ := Aside0.mk (Kd.R_reok rfl hy0 (fun k_ e_ => HO_10.out.1 k_ e_)); have n4_ := Aside0.mk (Kd.R_mono (ok' := fun k_ => some k_ ≠ (.slice Ao26 t590.length co26 : Value).ownBlock ∧ some k_ ≠ (.slice Ao64 t609.length co64 : Value).ownBlock ∧ some k_ ≠ (.slice Ao67 t613.length co67 : Value).ownBlock) (Kd.R_keptB (HO_11.out) hkp (fun k_ hk_ hs_ => (hk_.1.1) hs_)) (fun k_ hk_ => ⟨hk_.1.1.1, hk_.1.1.2, hk_.1.2⟩)); have n5_ := Aside0.mk (Kd.R_mono (ok' := fun k_ => some k_ ≠ (v584 : Value).ownBlock ∧ some k_ ≠ (v586 : Value).ownBlock ∧ some k_ ≠ (v588 : Value).ownBlock ∧ some k_ ≠ (v602 : Value).ownBlock ∧ some k_ ≠ (v604 : Value).ownBlock) (Kd.R_keptB ((Kd.R_apart' HO_12.out (Kd.R_typed HO_10.out) (by decide))) hkp (fun k_ hk_ hs_ => (hk_.2) hs_)) (fun k_ hk_ => ⟨hk_.1.1.1, hk_.1.1.2.1, hk_.1.1.2.2.1, hk_.1.1.2.2.2.1, hk_.1.1.2.2.2.2⟩)); have n6_ := Aside0.mk (Kd.R_mono (ok' := fun k_ => some k_ ≠ (v584 : Value).ownBlock ∧ some k_ ≠ (v586 : Value).ownBlock ∧ some k_ ≠ (v588 : Value).ownBlock ∧ some k_ ≠ (v600 : Value).ownBlock ∧ some k_ ≠ (v604 : Value).ownBlock) (Kd.R_keptB ((Kd.R_apart' HO_13.out (Kd.R_typed HO_10.out) (by decide))) hkp (fun k_ hk_ hs_ => (hk_.2) hs_)) (fun k_ hk_ => ⟨hk_.1.1.1, hk_.1.1.2.1, hk_.1.1.2.2.1, hk_.1.1.2.2.2.1, hk_.1.1.2.2.2.2⟩)); have n7_ := Aside0.mk (Kd.R_mono (ok' := fun k_ => some k_ ≠ (v584 : Value).ownBlock ∧ some k_ ≠ (v586 : Value).ownBlock ∧ some k_ ≠ (v588 : Value).ownBlock ∧ some k_ ≠ (v600 : Value).ownBlock ∧ some k_ ≠ (v602 : Value).ownBlock) (Kd.R_keptB ((Kd.R_apart' HO_14.out (Kd.R_typed HO_10.out) (by decide))) hkp (fun k_ hk_ hs_ => (hk_.2) hs_)) (fun k_ hk_ => ⟨hk_.1.1.1, hk_.1.1.2.1, hk_.1.1.2.2.1, hk_.1.1.2.2.2.1, hk_.1.1.2.2.2.2⟩)); have n8_ := Aside0.mk (Kd.R_mono (ok' := fun k_ => some k_ ≠ (.slice Ao26 t590.length co26 : Value).ownBlock ∧ some k_ ≠ (.slice Ao27 t593.length co27 : Value).ownBlock ∧ some k_ ≠ (.slice Ao67 t613.length co67 : Value).ownBlock) (Kd.R_keptB (HO611.out) hkp (fun k_ hk_ hs_ => (hk_.1.1.2) hs_)) (fun k_ hk_ => ⟨hk_.1.1.1.2, hk_.1.1.2, hk_.1.2⟩)); have n9_ := Aside0.mk (Kd.R_mono (ok' := fun k_ => some k_ ≠ (.slice Ao26 t590.length co26 : Value).ownBlock ∧ some k_ ≠ (.slice Ao27 t593.length co27 : Value).ownBlock ∧ some k_ ≠ (.slice Ao64 t609.length co64 : Value).ownBlock) (Kd.R_keptB (HO615.out) hkp (fun k_ hk_ hs_ => (hk_.1.1.2) hs_)) (fun k_ hk_ => ⟨hk_.1.1.1.2, hk_.1.1.2, hk_.1.2⟩)); have n10_ := Aside0.mk (hb); clear HO_6; clear HO_7; clear HO_8; clear HO_10; clear HO_11; clear HO_12; clear HO_13; clear HO_14; clear HO611; clear HO615; clear HB; have HO_6 := n0_; have HO_7 := n1_; have HO_8 := n2_; have HO_10 := n3_; have HO_11 := n4_; have HO_12 := n5_; have HO_13 := n6_; have HO_14 := n7_; have HO611 := n8_; have HO615 := n9_; have HB := n10_; clear n0_ n1_ n2_ n3_ n4_ n5_ n6_ n7_ n8_ n9_ n10_; (try clear hb); (try clear hkp); (try clear hy0)) | ((with_reducible refine gate_callee (f := 29) rfl ?_); refine goesL_ (some 91) rfl rfl Try.func29 (by kernel_rfl) rfl #[.slice Ao27 t593.length co27, .int .i64 t617] rfl (by (try simp only [List.map_toArray, List.map_cons, List.map_nil]); first | done | rfl | (simp only [List.length_drop, List.length_take]; rfl)) ?_; (with_reducible refine (laws_markContainerS.calls kj15 (fun k_ => some k_ = (.slice Ao27 t593.length co27 : Value).ownBlock) (.slice Ao27 t593.length co27) t593 t617 t619 t620 w _ ?side1 ?side2 A61.out).mono ?_); (case side1 => repeat (first | (with_reducible first | exact HB.out | apply below_alloc | apply pw_below_drewN | apply below_drew1) | exact HB.out)); (case side2 => exact Kd.R_tight rfl HO_11.out); rintro e w70 ⟨rfl, hy0, hb, hkp⟩; refine ⟨_, rfl, ?_⟩; have n0_ := Aside0.mk (Kd.R_mono (ok' := fun k_ => some k_ ≠ (v586 : Value).ownBlock ∧ some k_ ≠ (v588 : Value).ownBlock ∧ some k_ ≠ (v600 : Value).ownBlock ∧ some k_ ≠ (v602 : Value).ownBlock ∧ some k_ ≠ (v604 : Value).ownBlock) (Kd.R_keptB ((Kd.R_apart' HO_6.out (Kd.R_typed HO_11.out) (by decide))) hkp (fun k_ hk_ hs_ => (hk_.2) hs_)) (fun k_ hk_ => ⟨hk_.1.1.1, hk_.1.1.2.1, hk_.1.1.2.2.1, hk_.1.1.2.2.2.1, hk_.1.1.2.2.2.2⟩)); have n1_ := Aside0.mk (Kd.R_mono (ok' := fun k_ => some k_ ≠ (v584 : Value).ownBlock ∧ some k_ ≠ (v588 : Value).ownBlock ∧ some k_ ≠ (v600 : Value).ownBlock ∧ some k_ ≠ (v602 : Value).ownBlock ∧ some k_ ≠ (v604 : Value).ownBlock) (Kd.R_keptB ((Kd.R_apart' HO_7.out (Kd.R_typed HO_11.out) (by decide))) hkp (fun k_ hk_ hs_ => (hk_.2) hs_)) (fun k_ hk_ => ⟨hk_.1.1.1, hk_.1.1.2.1, hk_.1.1.2.2.1, hk_.1.1.2.2.2.1, hk_.1.1.2.2.2.2⟩)); have n2_ := Aside0.mk (Kd.R_mono (ok' := fun k_ => some k_ ≠ (v584 : Value).ownBlock ∧ some k_ ≠ (v586 : Value).ownBlock ∧ some k_ ≠ (v600 : Value).ownBlock ∧ some k_ ≠ (v602 : Value).ownBlock ∧ some k_ ≠ (v604 : Value).ownBlock) (Kd.R_keptB ((Kd.R_apart' HO_8.out (Kd.R_typed HO_11.out) (by decide))) hkp (fun k_ hk_ hs_ => (hk_.2) hs_)) (fun k_ hk_ => ⟨hk_.1.1.1, hk_.1.1.2.1, hk_.1.1.2.2.1, hk_.1.1.2.2.2.1, hk_.1.1.2.2.2.2⟩)); have n3_ := Aside0.mk (Kd.R_mono (ok' := fun k_ => some k_ ≠ (.slice Ao27 t593.length co27 : Value).ownBlock ∧ some k_ ≠ (.slice Ao64 t609.length co64 : Value).ownBlock ∧ some k_ ≠ (.slice Ao67 t613.length co67 : Value).ownBlock) (Kd.R_keptB (HO_10.out) hkp (fun k_ hk_ hs_ => (hk_.1.1) hs_)) (fun k_ hk_ => ⟨hk_.1.1.1, hk_.1.1.2, hk_.1.2⟩)); have n4_ := Aside0.mk (Kd.R_reok rfl hy0 (fun k_ e_ => HO_11.out.1 k_ e_)); have n5_ := Aside0.mk (Kd.R_mono (ok' := fun k_ => some k_ ≠ (v584 : Value).ownBlock ∧ some k_ ≠ (v586 : Value).ownBlock ∧ some k_ ≠ (v588 : Value).ownBlock ∧ some k_ ≠ (v602 : Value).ownBlock ∧ some k_ ≠ (v604 : Value).ownBlock) (Kd.R_keptB ((Kd.R_apart' HO_12.out (Kd.R_typed HO_11.out) (by decide))) hkp (fun k_ hk_ hs_ => (hk_.2) hs_)) (fun k_ hk_ => ⟨hk_.1.1.1, hk_.1.1.2.1, hk_.1.1.2.2.1, hk_.1.1.2.2.2.1, hk_.1.1.2.2.2.2⟩)); have n6_ := Aside0.mk (Kd.R_mono (ok' := fun k_ => some k_ ≠ (v584 : Value).ownBlock ∧ some k_ ≠ (v586 : Value).ownBlock ∧ some k_ ≠ (v588 : Value).ownBlock ∧ some k_ ≠ (v600 : Value).ownBlock ∧ some k_ ≠ (v604 : Value).ownBlock) (Kd.R_keptB ((Kd.R_apart' HO_13.out (Kd.R_typed HO_11.out) (by decide))) hkp (fun k_ hk_ hs_ => (hk_.2) hs_)) (fun k_ hk_ => ⟨hk_.1.1.1, hk_.1.1.2.1, hk_.1.1.2.2.1, hk_.1.1.2.2.2.1, hk_.1.1.2.2.2.2⟩)); have n7_ := Aside0.mk (Kd.R_mono (ok' := fun k_ => some k_ ≠ (v584 : Value).ownBlock ∧ some k_ ≠ (v586 : Value).ownBlock ∧ some k_ ≠ (v588 : Value).ownBlock ∧ some k_ ≠ (v600 : Value).ownBlock ∧ some k_ ≠ (v602 : Value).ownBlock) (Kd.R_keptB ((Kd.R_apart' HO_14.out (Kd.R_typed HO_11.out) (by decide))) hkp (fun k_ hk_ hs_ => (hk_.2) hs_)) (fun k_ hk_ => ⟨hk_.1.1.1, hk_.1.1.2.1, hk_.1.1.2.2.1, hk_.1.1.2.2.2.1, hk_.1.1.2.2.2.2⟩)); have n8_ := Aside0.mk (Kd.R_mono (ok' := fun k_ => some k_ ≠ (.slice Ao26 t590.length co26 : Value).ownBlock ∧ some k_ ≠ (.slice Ao27 t593.length co27 : Value).ownBlock ∧ some k_ ≠ (.slice Ao67 t613.length co67 : Value).ownBlock) (Kd.R_keptB (HO611.out) hkp (fun k_ hk_ hs_ => (hk_.2.1) hs_)) (fun k_ hk_ => ⟨hk_.1.1, hk_.1.2.1, hk_.1.2.2⟩)); have n9_ := Aside0.mk (Kd.R_mono (ok' := fun k_ => some k_ ≠ (.slice Ao26 t590.length co26 : Value).ownBlock ∧ some k_ ≠ (.slice Ao27 t593.length co27 : Value).ownBlock ∧ some k_ ≠ (.slice Ao64 t609.length co64 : Value).ownBlock) (Kd.R_keptB (HO615.out) hkp (fun k_ hk_ hs_ => (hk_.2.1) hs_)) (fun k_ hk_ => ⟨hk_.1.1, hk_.1.2.1, hk_.1.2.2⟩)); have n10_ := Aside0.mk (hb); clear HO_6; clear HO_7; clear HO_8; clear HO_10; clear HO_11; clear HO_12; clear HO_13; clear HO_14; clear HO611; clear HO615; clear HB; have HO_6 := n0_; have HO_7 := n1_; have HO_8 := n2_; have HO_10 := n3_; have HO_11 := n4_; have HO_12 := n5_; have HO_13 := n6_; have HO_14 := n7_; have HO611 := n8_; have HO615 := n9_; have HB := n10_; clear n0_ n1_ n2_ n3_ n4_ n5_ n6_ n7_ n8_ n9_ n10_; (try clear hb); (try clear hkp); (try clear hy0)))
        (try simp only [Act.put, List.setIfInBounds_toArray, List.set_cons_zero, List.set_cons_succ])
        go_cut [116] (fun v116 wc => ∃ (kq : Nat) (x116_61 : Bool), v116 = .bool x116_61 ∧ Aside0 (laws_FnExactManifestChanges.j1 kq l0 l1 t580 t581 t582 t583 t596 t597 t598 x116_61 = some r) ∧ Aside0 (kq ≤ kj15) ∧ Aside0 (Kd.R Kd.string 9 wc w.heap.size (fun k_ => some k_ ≠ (v586 : Value).ownBlock ∧ some k_ ≠ (v588 : Value).ownBlock ∧ some k_ ≠ (v600 : Value).ownBlock ∧ some k_ ≠ (v602 : Value).ownBlock ∧ some k_ ≠ (v604 : Value).ownBlock) v584 t580) ∧ Aside0 (Kd.R Kd.string 9 wc w.heap.size (fun k_ => some k_ ≠ (v584 : Value).ownBlock ∧ some k_ ≠ (v588 : Value).ownBlock ∧ some k_ ≠ (v600 : Value).ownBlock ∧ some k_ ≠ (v602 : Value).ownBlock ∧ some k_ ≠ (v604 : Value).ownBlock) v586 t581) ∧ Aside0 (Kd.R Kd.string 9 wc w.heap.size (fun k_ => some k_ ≠ (v584 : Value).ownBlock ∧ some k_ ≠ (v586 : Value).ownBlock ∧ some k_ ≠ (v600 : Value).ownBlock ∧ some k_ ≠ (v602 : Value).ownBlock ∧ some k_ ≠ (v604 : Value).ownBlock) v588 t582) ∧ Aside0 (Kd.R Kd.string 9 wc w.heap.size (fun k_ => some k_ ≠ (v584 : Value).ownBlock ∧ some k_ ≠ (v586 : Value).ownBlock ∧ some k_ ≠ (v588 : Value).ownBlock ∧ some k_ ≠ (v602 : Value).ownBlock ∧ some k_ ≠ (v604 : Value).ownBlock) v600 t596) ∧ Aside0 (Kd.R Kd.string 9 wc w.heap.size (fun k_ => some k_ ≠ (v584 : Value).ownBlock ∧ some k_ ≠ (v586 : Value).ownBlock ∧ some k_ ≠ (v588 : Value).ownBlock ∧ some k_ ≠ (v600 : Value).ownBlock ∧ some k_ ≠ (v604 : Value).ownBlock) v602 t597) ∧ Aside0 (Kd.R Kd.string 9 wc w.heap.size (fun k_ => some k_ ≠ (v584 : Value).ownBlock ∧ some k_ ≠ (v586 : Value).ownBlock ∧ some k_ ≠ (v588 : Value).ownBlock ∧ some k_ ≠ (v600 : Value).ownBlock ∧ some k_ ≠ (v602 : Value).ownBlock) v604 t598) ∧ Aside0 (Below w.heap.size w wc))
        case first =>
         have H := HC62.out
         clear HC62
         by_cases c71 : t619 < 0
         ·rw [if_pos c71] at H
          have c71b0 : decide (t619 < 0) = true := decide_eq_true c71
          clear c71
          (first | rw [c71b0] | (simp only [i64_w, i32_w]; rw [c71b0]) | skip)
          exact absurd H (by simp)
         ·rw [if_neg c71] at H
          have c71b0 : decide (t619 < 0) = false := decide_eq_false c71
          clear c71
          (first | rw [c71b0] | (simp only [i64_w, i32_w]; rw [c71b0]) | skip)
          replace H := Option.bind_eq_some_iff.mp H
          obtain ⟨t621, A720, H⟩ := H
          replace H : (if t621 = true then ((laws_eqStringS.f kj15 t597 t581).bind fun t622 => (if t622 = true then ((laws_eqStringS.f kj15 t598 t582).bind fun t623 => (if t623 = true then (laws_FnExactManifestChanges.j1 kj15 l0 l1 t580 t581 t582 t583 t596 t597 t598 (t599 != t583)) else (none))) else (none))) else (none)) = some r := H
          have A72 := Aside0.mk A720
          clear A720
          by_cases c73 : t621 = true
          ·subst c73
           have H1 : ((laws_eqStringS.f kj15 t597 t581).bind fun t622 => (if t622 = true then ((laws_eqStringS.f kj15 t598 t582).bind fun t623 => (if t623 = true then (laws_FnExactManifestChanges.j1 kj15 l0 l1 t580 t581 t582 t583 t596 t597 t598 (t599 != t583)) else (none))) else (none))) = some r := by rw [if_pos rfl] at H; exact H
           clear H
           have H := H1
           clear H1
           replace H := Option.bind_eq_some_iff.mp H
           obtain ⟨t622, A740, H⟩ := H
           replace H : (if t622 = true then ((laws_eqStringS.f kj15 t598 t582).bind fun t623 => (if t623 = true then (laws_FnExactManifestChanges.j1 kj15 l0 l1 t580 t581 t582 t583 t596 t597 t598 (t599 != t583)) else (none))) else (none)) = some r := H
           have A74 := Aside0.mk A740
           clear A740
           by_cases c75 : t622 = true
           ·subst c75
            have H1 : ((laws_eqStringS.f kj15 t598 t582).bind fun t623 => (if t623 = true then (laws_FnExactManifestChanges.j1 kj15 l0 l1 t580 t581 t582 t583 t596 t597 t598 (t599 != t583)) else (none))) = some r := by rw [if_pos rfl] at H; exact H
            clear H
            have H := H1
            clear H1
            replace H := Option.bind_eq_some_iff.mp H
            obtain ⟨t623, A760, H⟩ := H
            replace H : (if t623 = true then (laws_FnExactManifestChanges.j1 kj15 l0 l1 t580 t581 t582 t583 t596 t597 t598 (t599 != t583)) else (none)) = some r := H
            have A76 := Aside0.mk A760
            clear A760
            by_cases c77 : t623 = true
            ·subst c77
             have H1 : (laws_FnExactManifestChanges.j1 kj15 l0 l1 t580 t581 t582 t583 t596 t597 t598 (t599 != t583)) = some r := by rw [if_pos rfl] at H; exact H
             clear H
             have H := H1
             clear H1
             have H' := Aside0.mk H
             clear H
             obtain ⟨Ao78, co78, eo78⟩ := Kd.R_slice HO_12.out
             subst eo78
             obtain ⟨Ao79, co79, eo79⟩ := Kd.R_slice HO_6.out
             subst eo79
             go_wp2_with (first | (go_at_call 28; (with_reducible refine (laws_eqStringS.calls kj15 _ _ t596 _ _ t580 true _ ?side1 ?side2 ?side3 ?side4 A72.out).mono ?_); (case side1 => repeat (first | exact (Kd.R_reads' HO_12.out).2.2 | (with_reducible refine Kd.C_alloc ?_ _) | (with_reducible refine Kd.C_drewN ?_ _) | (with_reducible refine Kd.C_drew ?_))); (case side2 => exact (Kd.R_reads' HO_12.out).2.1); (case side3 => repeat (first | exact (Kd.R_reads' HO_6.out).2.2 | (with_reducible refine Kd.C_alloc ?_ _) | (with_reducible refine Kd.C_drewN ?_ _) | (with_reducible refine Kd.C_drew ?_))); (case side4 => exact (Kd.R_reads' HO_6.out).2.1); rintro e w' ⟨rfl, ⟨nd, rfl⟩⟩; obtain ⟨Ao80, co80, eo80⟩ := Kd.R_slice HO_13.out; subst eo80; obtain ⟨Ao81, co81, eo81⟩ := Kd.R_slice HO_7.out; subst eo81) | (go_at_call 28; (with_reducible refine (laws_eqStringS.calls kj15 _ _ t597 _ _ t581 true _ ?side1 ?side2 ?side3 ?side4 A74.out).mono ?_); (case side1 => repeat (first | exact (Kd.R_reads' HO_13.out).2.2 | (with_reducible refine Kd.C_alloc ?_ _) | (with_reducible refine Kd.C_drewN ?_ _) | (with_reducible refine Kd.C_drew ?_))); (case side2 => exact (Kd.R_reads' HO_13.out).2.1); (case side3 => repeat (first | exact (Kd.R_reads' HO_7.out).2.2 | (with_reducible refine Kd.C_alloc ?_ _) | (with_reducible refine Kd.C_drewN ?_ _) | (with_reducible refine Kd.C_drew ?_))); (case side4 => exact (Kd.R_reads' HO_7.out).2.1); rintro e w' ⟨rfl, ⟨nd, rfl⟩⟩; obtain ⟨Ao82, co82, eo82⟩ := Kd.R_slice HO_14.out; subst eo82; obtain ⟨Ao83, co83, eo83⟩ := Kd.R_slice HO_8.out; subst eo83) | (go_at_call 28; (with_reducible refine (laws_eqStringS.calls kj15 _ _ t598 _ _ t582 true _ ?side1 ?side2 ?side3 ?side4 A76.out).mono ?_); (case side1 => repeat (first | exact (Kd.R_reads' HO_14.out).2.2 | (with_reducible refine Kd.C_alloc ?_ _) | (with_reducible refine Kd.C_drewN ?_ _) | (with_reducible refine Kd.C_drew ?_))); (case side2 => exact (Kd.R_reads' HO_14.out).2.1); (case side3 => repeat (first | exact (Kd.R_reads' HO_8.out).2.2 | (with_reducible refine Kd.C_alloc ?_ _) | (with_reducible refine Kd.C_drewN ?_ _) | (with_reducible refine Kd.C_drew ?_))); (case side4 => exact (Kd.R_reads' HO_8.out).2.1); rintro e w' ⟨rfl, ⟨nd, rfl⟩⟩))
             go_meet
             case rel => exact ⟨_, ((t599 != t583)), (by first | rfl | (simp; done) | (simp [*]; done)), H', ⟨by have := HJ15.out; first | omega | exact Nat.le_refl _⟩, ⟨by (with_reducible repeat (first | apply Kd.R_alloc | apply Kd.R_drewN | apply Kd.R_drew)); exact HO_6.out⟩, ⟨by (with_reducible repeat (first | apply Kd.R_alloc | apply Kd.R_drewN | apply Kd.R_drew)); exact HO_7.out⟩, ⟨by (with_reducible repeat (first | apply Kd.R_alloc | apply Kd.R_drewN | apply Kd.R_drew)); exact HO_8.out⟩, ⟨by (with_reducible repeat (first | apply Kd.R_alloc | apply Kd.R_drewN | apply Kd.R_drew)); exact HO_12.out⟩, ⟨by (with_reducible repeat (first | apply Kd.R_alloc | apply Kd.R_drewN | apply Kd.R_drew)); exact HO_13.out⟩, ⟨by (with_reducible repeat (first | apply Kd.R_alloc | apply Kd.R_drewN | apply Kd.R_drew)); exact HO_14.out⟩, ⟨by repeat (first | (with_reducible first | exact HB.out | apply below_alloc | apply pw_below_drewN | apply below_drew1) | exact HB.out)⟩⟩
            ·replace c77 := Bool.eq_false_iff.mpr c77
             subst c77
             have H1 : (none) = some r := by rw [if_neg (show ¬ (false = true) by decide)] at H; exact H
             clear H
             have H := H1
             clear H1
             exact absurd H (by simp)
           ·replace c75 := Bool.eq_false_iff.mpr c75
            subst c75
            have H1 : (none) = some r := by rw [if_neg (show ¬ (false = true) by decide)] at H; exact H
            clear H
            have H := H1
            clear H1
            exact absurd H (by simp)
          ·replace c73 := Bool.eq_false_iff.mpr c73
           subst c73
           have H1 : (none) = some r := by rw [if_neg (show ¬ (false = true) by decide)] at H; exact H
           clear H
           have H := H1
           clear H1
           exact absurd H (by simp)
        case rest =>
         clear HC62
         try clear c1
         try clear c2
         try clear p2
         try clear c3
         try clear c4
         try clear c4b0
         try clear c5
         try clear c7
         try clear c7b0
         try clear c11
         try clear c15
         try clear c17
         try clear c19
         try clear c28
         try clear c29
         try clear c30
         try clear c32
         try clear c34
         try clear c42
         try clear c43
         try clear c53
         try clear c56
         try clear c59
         try clear c71
         try clear c71b0
         try clear c73
         try clear c75
         try clear c77
         try clear p2
         obtain ⟨kq, x116_61, rfl, HA, HJ61, HO_6, HO_7, HO_8, HO_12, HO_13, HO_14, HB⟩ := hcut
         cases kq with
         | zero => exact absurd HA.out (by simp [laws_FnExactManifestChanges.j1])
         | succ kj61 =>
          have H := HA.out
          clear HA
          simp only [laws_FnExactManifestChanges.j1] at H
          by_cases c96 : x116_61 = true
          ·subst c96
           have H1 : (none) = some r := by rw [if_pos rfl] at H; exact H
           clear H
           have H := H1
           clear H1
           exact absurd H (by simp)
          ·replace c96 := Bool.eq_false_iff.mpr c96
           subst c96
           have H1 : ((laws_markStringS.f kj61 t596 1).bind fun bt624 => ((laws_markStringS.f kj61 t597 bt624.1).bind fun bt626 => ((laws_markStringS.f kj61 t598 bt626.1).bind fun bt628 => ((laws_heldStringS.f kj61 bt624.2 1).bind fun t630 => (if t630 < 0 then (none) else ((laws_heldStringS.f kj61 bt626.2 t630).bind fun t631 => (if t631 < 0 then (none) else ((laws_heldStringS.f kj61 bt628.2 t631).bind fun t632 => (if t632 < 0 then (none) else (if t632 = bt628.1 then ((laws_toContainerS.f kj61 l0).bind fun t633 => ((laws_toContainerS.f kj61 l1).bind fun t636 => ((impl_ManifestChanges.f kj61 t633 t636).bind fun bt639 => ((laws_eqStringS.f kj61 bt639.1 t580).bind fun t649 => (if t649 = true then ((laws_eqStringS.f kj61 bt639.2.1 t581).bind fun t650 => (if t650 = true then ((laws_eqStringS.f kj61 bt639.2.2.1 t582).bind fun t651 => (if t651 = true then (laws_FnExactManifestChanges.j2 kj61 bt624.2 bt626.2 bt628.2 bt628.1 (bt639.2.2.2 != t583)) else (none))) else (none))) else (none)))))) else (none))))))))))) = some r := by rw [if_neg (show ¬ (false = true) by decide)] at H; exact H
           clear H
           have H := H1
           clear H1
           replace H := Option.bind_eq_some_iff.mp H
           obtain ⟨⟨t624, t625⟩, A970, H⟩ := H
           replace H : ((laws_markStringS.f kj61 t597 t624).bind fun bt626 => ((laws_markStringS.f kj61 t598 bt626.1).bind fun bt628 => ((laws_heldStringS.f kj61 t625 1).bind fun t630 => (if t630 < 0 then (none) else ((laws_heldStringS.f kj61 bt626.2 t630).bind fun t631 => (if t631 < 0 then (none) else ((laws_heldStringS.f kj61 bt628.2 t631).bind fun t632 => (if t632 < 0 then (none) else (if t632 = bt628.1 then ((laws_toContainerS.f kj61 l0).bind fun t633 => ((laws_toContainerS.f kj61 l1).bind fun t636 => ((impl_ManifestChanges.f kj61 t633 t636).bind fun bt639 => ((laws_eqStringS.f kj61 bt639.1 t580).bind fun t649 => (if t649 = true then ((laws_eqStringS.f kj61 bt639.2.1 t581).bind fun t650 => (if t650 = true then ((laws_eqStringS.f kj61 bt639.2.2.1 t582).bind fun t651 => (if t651 = true then (laws_FnExactManifestChanges.j2 kj61 t625 bt626.2 bt628.2 bt628.1 (bt639.2.2.2 != t583)) else (none))) else (none))) else (none)))))) else (none)))))))))) = some r := H
           have A97 := Aside0.mk A970
           clear A970
           replace H := Option.bind_eq_some_iff.mp H
           obtain ⟨⟨t626, t627⟩, A980, H⟩ := H
           replace H : ((laws_markStringS.f kj61 t598 t626).bind fun bt628 => ((laws_heldStringS.f kj61 t625 1).bind fun t630 => (if t630 < 0 then (none) else ((laws_heldStringS.f kj61 t627 t630).bind fun t631 => (if t631 < 0 then (none) else ((laws_heldStringS.f kj61 bt628.2 t631).bind fun t632 => (if t632 < 0 then (none) else (if t632 = bt628.1 then ((laws_toContainerS.f kj61 l0).bind fun t633 => ((laws_toContainerS.f kj61 l1).bind fun t636 => ((impl_ManifestChanges.f kj61 t633 t636).bind fun bt639 => ((laws_eqStringS.f kj61 bt639.1 t580).bind fun t649 => (if t649 = true then ((laws_eqStringS.f kj61 bt639.2.1 t581).bind fun t650 => (if t650 = true then ((laws_eqStringS.f kj61 bt639.2.2.1 t582).bind fun t651 => (if t651 = true then (laws_FnExactManifestChanges.j2 kj61 t625 t627 bt628.2 bt628.1 (bt639.2.2.2 != t583)) else (none))) else (none))) else (none)))))) else (none))))))))) = some r := H
           have A98 := Aside0.mk A980
           clear A980
           replace H := Option.bind_eq_some_iff.mp H
           obtain ⟨⟨t628, t629⟩, A990, H⟩ := H
           replace H : ((laws_heldStringS.f kj61 t625 1).bind fun t630 => (if t630 < 0 then (none) else ((laws_heldStringS.f kj61 t627 t630).bind fun t631 => (if t631 < 0 then (none) else ((laws_heldStringS.f kj61 t629 t631).bind fun t632 => (if t632 < 0 then (none) else (if t632 = t628 then ((laws_toContainerS.f kj61 l0).bind fun t633 => ((laws_toContainerS.f kj61 l1).bind fun t636 => ((impl_ManifestChanges.f kj61 t633 t636).bind fun bt639 => ((laws_eqStringS.f kj61 bt639.1 t580).bind fun t649 => (if t649 = true then ((laws_eqStringS.f kj61 bt639.2.1 t581).bind fun t650 => (if t650 = true then ((laws_eqStringS.f kj61 bt639.2.2.1 t582).bind fun t651 => (if t651 = true then (laws_FnExactManifestChanges.j2 kj61 t625 t627 t629 t628 (bt639.2.2.2 != t583)) else (none))) else (none))) else (none)))))) else (none)))))))) = some r := H
           have A99 := Aside0.mk A990
           clear A990
           replace H := Option.bind_eq_some_iff.mp H
           obtain ⟨t630, A1000, H⟩ := H
           replace H : (if t630 < 0 then (none) else ((laws_heldStringS.f kj61 t627 t630).bind fun t631 => (if t631 < 0 then (none) else ((laws_heldStringS.f kj61 t629 t631).bind fun t632 => (if t632 < 0 then (none) else (if t632 = t628 then ((laws_toContainerS.f kj61 l0).bind fun t633 => ((laws_toContainerS.f kj61 l1).bind fun t636 => ((impl_ManifestChanges.f kj61 t633 t636).bind fun bt639 => ((laws_eqStringS.f kj61 bt639.1 t580).bind fun t649 => (if t649 = true then ((laws_eqStringS.f kj61 bt639.2.1 t581).bind fun t650 => (if t650 = true then ((laws_eqStringS.f kj61 bt639.2.2.1 t582).bind fun t651 => (if t651 = true then (laws_FnExactManifestChanges.j2 kj61 t625 t627 t629 t628 (bt639.2.2.2 != t583)) else (none))) else (none))) else (none)))))) else (none))))))) = some r := H
           have A100 := Aside0.mk A1000
           clear A1000
           by_cases c101 : t630 < 0
           ·rw [if_pos c101] at H
            have c101b0 : decide (t630 < 0) = true := decide_eq_true c101
            clear c101
            exact absurd H (by simp)
           ·rw [if_neg c101] at H
            have c101b0 : decide (t630 < 0) = false := decide_eq_false c101
            clear c101
            replace H := Option.bind_eq_some_iff.mp H
            obtain ⟨t631, A1090, H⟩ := H
            replace H : (if t631 < 0 then (none) else ((laws_heldStringS.f kj61 t629 t631).bind fun t632 => (if t632 < 0 then (none) else (if t632 = t628 then ((laws_toContainerS.f kj61 l0).bind fun t633 => ((laws_toContainerS.f kj61 l1).bind fun t636 => ((impl_ManifestChanges.f kj61 t633 t636).bind fun bt639 => ((laws_eqStringS.f kj61 bt639.1 t580).bind fun t649 => (if t649 = true then ((laws_eqStringS.f kj61 bt639.2.1 t581).bind fun t650 => (if t650 = true then ((laws_eqStringS.f kj61 bt639.2.2.1 t582).bind fun t651 => (if t651 = true then (laws_FnExactManifestChanges.j2 kj61 t625 t627 t629 t628 (bt639.2.2.2 != t583)) else (none))) else (none))) else (none)))))) else (none))))) = some r := H
            have A109 := Aside0.mk A1090
            clear A1090
            by_cases c110 : t631 < 0
            ·rw [if_pos c110] at H
             have c110b0 : decide (t631 < 0) = true := decide_eq_true c110
             clear c110
             exact absurd H (by simp)
            ·rw [if_neg c110] at H
             have c110b0 : decide (t631 < 0) = false := decide_eq_false c110
             clear c110
             replace H := Option.bind_eq_some_iff.mp H
             obtain ⟨t632, A1190, H⟩ := H
             replace H : (if t632 < 0 then (none) else (if t632 = t628 then ((laws_toContainerS.f kj61 l0).bind fun t633 => ((laws_toContainerS.f kj61 l1).bind fun t636 => ((impl_ManifestChanges.f kj61 t633 t636).bind fun bt639 => ((laws_eqStringS.f kj61 bt639.1 t580).bind fun t649 => (if t649 = true then ((laws_eqStringS.f kj61 bt639.2.1 t581).bind fun t650 => (if t650 = true then ((laws_eqStringS.f kj61 bt639.2.2.1 t582).bind fun t651 => (if t651 = true then (laws_FnExactManifestChanges.j2 kj61 t625 t627 t629 t628 (bt639.2.2.2 != t583)) else (none))) else (none))) else (none)))))) else (none))) = some r := H
             have A119 := Aside0.mk A1190
             clear A1190
             by_cases c120 : t632 < 0
             ·rw [if_pos c120] at H
              have c120b0 : decide (t632 < 0) = true := decide_eq_true c120
              clear c120
              exact absurd H (by simp)
             ·rw [if_neg c120] at H
              have c120b0 : decide (t632 < 0) = false := decide_eq_false c120
              clear c120
              by_cases c130 : t632 = t628
              ·rw [if_pos c130] at H
               have c130b0 : (t632 == t628) = true := beq_iff_eq.mpr c130
               have c130b1 : (t632 != t628) = false := bne_eq_false_iff_eq.mpr c130
               clear c130
               replace H := Option.bind_eq_some_iff.mp H
               obtain ⟨t633, A1310, H⟩ := H
               replace H : ((laws_toContainerS.f kj61 l1).bind fun t636 => ((impl_ManifestChanges.f kj61 t633 t636).bind fun bt639 => ((laws_eqStringS.f kj61 bt639.1 t580).bind fun t649 => (if t649 = true then ((laws_eqStringS.f kj61 bt639.2.1 t581).bind fun t650 => (if t650 = true then ((laws_eqStringS.f kj61 bt639.2.2.1 t582).bind fun t651 => (if t651 = true then (laws_FnExactManifestChanges.j2 kj61 t625 t627 t629 t628 (bt639.2.2.2 != t583)) else (none))) else (none))) else (none))))) = some r := H
               have A131 := Aside0.mk A1310
               clear A1310
               replace H := Option.bind_eq_some_iff.mp H
               obtain ⟨t636, A1320, H⟩ := H
               replace H : ((impl_ManifestChanges.f kj61 t633 t636).bind fun bt639 => ((laws_eqStringS.f kj61 bt639.1 t580).bind fun t649 => (if t649 = true then ((laws_eqStringS.f kj61 bt639.2.1 t581).bind fun t650 => (if t650 = true then ((laws_eqStringS.f kj61 bt639.2.2.1 t582).bind fun t651 => (if t651 = true then (laws_FnExactManifestChanges.j2 kj61 t625 t627 t629 t628 (bt639.2.2.2 != t583)) else (none))) else (none))) else (none)))) = some r := H
               have A132 := Aside0.mk A1320
               clear A1320
               replace H := Option.bind_eq_some_iff.mp H
               obtain ⟨⟨t639, t640, t641, t642⟩, A1330, H⟩ := H
               replace H : ((laws_eqStringS.f kj61 t639 t580).bind fun t649 => (if t649 = true then ((laws_eqStringS.f kj61 t640 t581).bind fun t650 => (if t650 = true then ((laws_eqStringS.f kj61 t641 t582).bind fun t651 => (if t651 = true then (laws_FnExactManifestChanges.j2 kj61 t625 t627 t629 t628 (t642 != t583)) else (none))) else (none))) else (none))) = some r := H
               have A133 := Aside0.mk A1330
               clear A1330
               have HC134 := Aside0.mk H
               clear H
               obtain ⟨Ao135, co135, eo135⟩ := Kd.R_slice HO_12.out
               subst eo135
               go_upto_region 40 with (first | ((with_reducible refine gate_callee (f := 30) rfl ?_); refine goesL_ (some 119) rfl rfl Try.func30 (by kernel_rfl) rfl #[.slice Ao135 t596.length co135, .int .i64 1] rfl (by (try simp only [List.map_toArray, List.map_cons, List.map_nil]); first | done | rfl | (simp only [List.length_drop, List.length_take]; rfl)) ?_; (with_reducible refine (laws_markStringS.calls kj61 (fun k_ => some k_ = (.slice Ao135 t596.length co135 : Value).ownBlock) (.slice Ao135 t596.length co135) t596 1 t624 t625 w _ ?side1 ?side2 A97.out).mono ?_); (case side1 => repeat (first | (with_reducible first | exact HB.out | apply below_alloc | apply pw_below_drewN | apply below_drew1) | exact HB.out)); (case side2 => exact Kd.R_tight rfl HO_12.out); rintro e w136 ⟨rfl, hy0, hb, hkp⟩; refine ⟨_, rfl, ?_⟩; have n0_ := Aside0.mk (Kd.R_mono (ok' := fun k_ => some k_ ≠ (v586 : Value).ownBlock ∧ some k_ ≠ (v588 : Value).ownBlock ∧ some k_ ≠ (.slice Ao135 t596.length co135 : Value).ownBlock ∧ some k_ ≠ (v602 : Value).ownBlock ∧ some k_ ≠ (v604 : Value).ownBlock) (Kd.R_keptB (HO_6.out) hkp (fun k_ hk_ hs_ => (hk_.2.2.1) hs_)) (fun k_ hk_ => ⟨hk_.1.1, hk_.1.2.1, hk_.1.2.2.1, hk_.1.2.2.2.1, hk_.1.2.2.2.2⟩)); have n1_ := Aside0.mk (Kd.R_mono (ok' := fun k_ => some k_ ≠ (v584 : Value).ownBlock ∧ some k_ ≠ (v588 : Value).ownBlock ∧ some k_ ≠ (.slice Ao135 t596.length co135 : Value).ownBlock ∧ some k_ ≠ (v602 : Value).ownBlock ∧ some k_ ≠ (v604 : Value).ownBlock) (Kd.R_keptB (HO_7.out) hkp (fun k_ hk_ hs_ => (hk_.2.2.1) hs_)) (fun k_ hk_ => ⟨hk_.1.1, hk_.1.2.1, hk_.1.2.2.1, hk_.1.2.2.2.1, hk_.1.2.2.2.2⟩)); have n2_ := Aside0.mk (Kd.R_mono (ok' := fun k_ => some k_ ≠ (v584 : Value).ownBlock ∧ some k_ ≠ (v586 : Value).ownBlock ∧ some k_ ≠ (.slice Ao135 t596.length co135 : Value).ownBlock ∧ some k_ ≠ (v602 : Value).ownBlock ∧ some k_ ≠ (v604 : Value).ownBlock) (Kd.R_keptB (HO_8.out) hkp (fun k_ hk_ hs_ => (hk_.2.2.1) hs_)) (fun k_ hk_ => ⟨hk_.1.1, hk_.1.2.1, hk_.1.2.2.1, hk_.1.2.2.2.1, hk_.1.2.2.2.2⟩)); have n3_ := Aside0.mk (Kd.R_reok rfl hy0 (fun k_ e_ => HO_12.out.1 k_ e_)); have n4_ := Aside0.mk (Kd.R_mono (ok' := fun k_ => some k_ ≠ (v584 : Value).ownBlock ∧ some k_ ≠ (v586 : Value).ownBlock ∧ some k_ ≠ (v588 : Value).ownBlock ∧ some k_ ≠ (.slice Ao135 t596.length co135 : Value).ownBlock ∧ some k_ ≠ (v604 : Value).ownBlock) (Kd.R_keptB (HO_13.out) hkp (fun k_ hk_ hs_ => (hk_.2.2.2.1) hs_)) (fun k_ hk_ => ⟨hk_.1.1, hk_.1.2.1, hk_.1.2.2.1, hk_.1.2.2.2.1, hk_.1.2.2.2.2⟩)); have n5_ := Aside0.mk (Kd.R_mono (ok' := fun k_ => some k_ ≠ (v584 : Value).ownBlock ∧ some k_ ≠ (v586 : Value).ownBlock ∧ some k_ ≠ (v588 : Value).ownBlock ∧ some k_ ≠ (.slice Ao135 t596.length co135 : Value).ownBlock ∧ some k_ ≠ (v602 : Value).ownBlock) (Kd.R_keptB (HO_14.out) hkp (fun k_ hk_ hs_ => (hk_.2.2.2.1) hs_)) (fun k_ hk_ => ⟨hk_.1.1, hk_.1.2.1, hk_.1.2.2.1, hk_.1.2.2.2.1, hk_.1.2.2.2.2⟩)); have n6_ := Aside0.mk (hb); clear HO_6; clear HO_7; clear HO_8; clear HO_12; clear HO_13; clear HO_14; clear HB; have HO_6 := n0_; have HO_7 := n1_; have HO_8 := n2_; have HO_12 := n3_; have HO_13 := n4_; have HO_14 := n5_; have HB := n6_; clear n0_ n1_ n2_ n3_ n4_ n5_ n6_; (try clear hb); (try clear hkp); (try clear hy0); obtain ⟨Ao137, co137, eo137⟩ := Kd.R_slice HO_13.out; subst eo137) | ((with_reducible refine gate_callee (f := 30) rfl ?_); refine goesL_ (some 122) rfl rfl Try.func30 (by kernel_rfl) rfl #[.slice Ao137 t597.length co137, .int .i64 t624] rfl (by (try simp only [List.map_toArray, List.map_cons, List.map_nil]); first | done | rfl | (simp only [List.length_drop, List.length_take]; rfl)) ?_; (with_reducible refine (laws_markStringS.calls kj61 (fun k_ => some k_ = (.slice Ao137 t597.length co137 : Value).ownBlock) (.slice Ao137 t597.length co137) t597 t624 t626 t627 w _ ?side1 ?side2 A98.out).mono ?_); (case side1 => repeat (first | (with_reducible first | exact HB.out | apply below_alloc | apply pw_below_drewN | apply below_drew1) | exact HB.out)); (case side2 => exact Kd.R_tight rfl HO_13.out); rintro e w138 ⟨rfl, hy0, hb, hkp⟩; refine ⟨_, rfl, ?_⟩; have n0_ := Aside0.mk (Kd.R_mono (ok' := fun k_ => some k_ ≠ (v586 : Value).ownBlock ∧ some k_ ≠ (v588 : Value).ownBlock ∧ some k_ ≠ (.slice Ao135 t596.length co135 : Value).ownBlock ∧ some k_ ≠ (.slice Ao137 t597.length co137 : Value).ownBlock ∧ some k_ ≠ (v604 : Value).ownBlock) (Kd.R_keptB (HO_6.out) hkp (fun k_ hk_ hs_ => (hk_.2.2.2.1) hs_)) (fun k_ hk_ => ⟨hk_.1.1, hk_.1.2.1, hk_.1.2.2.1, hk_.1.2.2.2.1, hk_.1.2.2.2.2⟩)); have n1_ := Aside0.mk (Kd.R_mono (ok' := fun k_ => some k_ ≠ (v584 : Value).ownBlock ∧ some k_ ≠ (v588 : Value).ownBlock ∧ some k_ ≠ (.slice Ao135 t596.length co135 : Value).ownBlock ∧ some k_ ≠ (.slice Ao137 t597.length co137 : Value).ownBlock ∧ some k_ ≠ (v604 : Value).ownBlock) (Kd.R_keptB (HO_7.out) hkp (fun k_ hk_ hs_ => (hk_.2.2.2.1) hs_)) (fun k_ hk_ => ⟨hk_.1.1, hk_.1.2.1, hk_.1.2.2.1, hk_.1.2.2.2.1, hk_.1.2.2.2.2⟩)); have n2_ := Aside0.mk (Kd.R_mono (ok' := fun k_ => some k_ ≠ (v584 : Value).ownBlock ∧ some k_ ≠ (v586 : Value).ownBlock ∧ some k_ ≠ (.slice Ao135 t596.length co135 : Value).ownBlock ∧ some k_ ≠ (.slice Ao137 t597.length co137 : Value).ownBlock ∧ some k_ ≠ (v604 : Value).ownBlock) (Kd.R_keptB (HO_8.out) hkp (fun k_ hk_ hs_ => (hk_.2.2.2.1) hs_)) (fun k_ hk_ => ⟨hk_.1.1, hk_.1.2.1, hk_.1.2.2.1, hk_.1.2.2.2.1, hk_.1.2.2.2.2⟩)); have n3_ := Aside0.mk (Kd.R_mono (ok' := fun k_ => some k_ ≠ (v584 : Value).ownBlock ∧ some k_ ≠ (v586 : Value).ownBlock ∧ some k_ ≠ (v588 : Value).ownBlock ∧ some k_ ≠ (.slice Ao137 t597.length co137 : Value).ownBlock ∧ some k_ ≠ (v604 : Value).ownBlock) (Kd.R_keptB (HO_12.out) hkp (fun k_ hk_ hs_ => (hk_.2.2.2.1) hs_)) (fun k_ hk_ => ⟨hk_.1.1, hk_.1.2.1, hk_.1.2.2.1, hk_.1.2.2.2.1, hk_.1.2.2.2.2⟩)); have n4_ := Aside0.mk (Kd.R_reok rfl hy0 (fun k_ e_ => HO_13.out.1 k_ e_)); have n5_ := Aside0.mk (Kd.R_mono (ok' := fun k_ => some k_ ≠ (v584 : Value).ownBlock ∧ some k_ ≠ (v586 : Value).ownBlock ∧ some k_ ≠ (v588 : Value).ownBlock ∧ some k_ ≠ (.slice Ao135 t596.length co135 : Value).ownBlock ∧ some k_ ≠ (.slice Ao137 t597.length co137 : Value).ownBlock) (Kd.R_keptB (HO_14.out) hkp (fun k_ hk_ hs_ => (hk_.2.2.2.2) hs_)) (fun k_ hk_ => ⟨hk_.1.1, hk_.1.2.1, hk_.1.2.2.1, hk_.1.2.2.2.1, hk_.1.2.2.2.2⟩)); have n6_ := Aside0.mk (hb); clear HO_6; clear HO_7; clear HO_8; clear HO_12; clear HO_13; clear HO_14; clear HB; have HO_6 := n0_; have HO_7 := n1_; have HO_8 := n2_; have HO_12 := n3_; have HO_13 := n4_; have HO_14 := n5_; have HB := n6_; clear n0_ n1_ n2_ n3_ n4_ n5_ n6_; (try clear hb); (try clear hkp); (try clear hy0); obtain ⟨Ao139, co139, eo139⟩ := Kd.R_slice HO_14.out; subst eo139) | ((with_reducible refine gate_callee (f := 30) rfl ?_); refine goesL_ (some 125) rfl rfl Try.func30 (by kernel_rfl) rfl #[.slice Ao139 t598.length co139, .int .i64 t626] rfl (by (try simp only [List.map_toArray, List.map_cons, List.map_nil]); first | done | rfl | (simp only [List.length_drop, List.length_take]; rfl)) ?_; (with_reducible refine (laws_markStringS.calls kj61 (fun k_ => some k_ = (.slice Ao139 t598.length co139 : Value).ownBlock) (.slice Ao139 t598.length co139) t598 t626 t628 t629 w _ ?side1 ?side2 A99.out).mono ?_); (case side1 => repeat (first | (with_reducible first | exact HB.out | apply below_alloc | apply pw_below_drewN | apply below_drew1) | exact HB.out)); (case side2 => exact Kd.R_tight rfl HO_14.out); rintro e w140 ⟨rfl, hy0, hb, hkp⟩; refine ⟨_, rfl, ?_⟩; have n0_ := Aside0.mk (Kd.R_mono (ok' := fun k_ => some k_ ≠ (v586 : Value).ownBlock ∧ some k_ ≠ (v588 : Value).ownBlock ∧ some k_ ≠ (.slice Ao135 t596.length co135 : Value).ownBlock ∧ some k_ ≠ (.slice Ao137 t597.length co137 : Value).ownBlock ∧ some k_ ≠ (.slice Ao139 t598.length co139 : Value).ownBlock) (Kd.R_keptB (HO_6.out) hkp (fun k_ hk_ hs_ => (hk_.2.2.2.2) hs_)) (fun k_ hk_ => ⟨hk_.1.1, hk_.1.2.1, hk_.1.2.2.1, hk_.1.2.2.2.1, hk_.1.2.2.2.2⟩)); have n1_ := Aside0.mk (Kd.R_mono (ok' := fun k_ => some k_ ≠ (v584 : Value).ownBlock ∧ some k_ ≠ (v588 : Value).ownBlock ∧ some k_ ≠ (.slice Ao135 t596.length co135 : Value).ownBlock ∧ some k_ ≠ (.slice Ao137 t597.length co137 : Value).ownBlock ∧ some k_ ≠ (.slice Ao139 t598.length co139 : Value).ownBlock) (Kd.R_keptB (HO_7.out) hkp (fun k_ hk_ hs_ => (hk_.2.2.2.2) hs_)) (fun k_ hk_ => ⟨hk_.1.1, hk_.1.2.1, hk_.1.2.2.1, hk_.1.2.2.2.1, hk_.1.2.2.2.2⟩)); have n2_ := Aside0.mk (Kd.R_mono (ok' := fun k_ => some k_ ≠ (v584 : Value).ownBlock ∧ some k_ ≠ (v586 : Value).ownBlock ∧ some k_ ≠ (.slice Ao135 t596.length co135 : Value).ownBlock ∧ some k_ ≠ (.slice Ao137 t597.length co137 : Value).ownBlock ∧ some k_ ≠ (.slice Ao139 t598.length co139 : Value).ownBlock) (Kd.R_keptB (HO_8.out) hkp (fun k_ hk_ hs_ => (hk_.2.2.2.2) hs_)) (fun k_ hk_ => ⟨hk_.1.1, hk_.1.2.1, hk_.1.2.2.1, hk_.1.2.2.2.1, hk_.1.2.2.2.2⟩)); have n3_ := Aside0.mk (Kd.R_mono (ok' := fun k_ => some k_ ≠ (v584 : Value).ownBlock ∧ some k_ ≠ (v586 : Value).ownBlock ∧ some k_ ≠ (v588 : Value).ownBlock ∧ some k_ ≠ (.slice Ao137 t597.length co137 : Value).ownBlock ∧ some k_ ≠ (.slice Ao139 t598.length co139 : Value).ownBlock) (Kd.R_keptB (HO_12.out) hkp (fun k_ hk_ hs_ => (hk_.2.2.2.2) hs_)) (fun k_ hk_ => ⟨hk_.1.1, hk_.1.2.1, hk_.1.2.2.1, hk_.1.2.2.2.1, hk_.1.2.2.2.2⟩)); have n4_ := Aside0.mk (Kd.R_mono (ok' := fun k_ => some k_ ≠ (v584 : Value).ownBlock ∧ some k_ ≠ (v586 : Value).ownBlock ∧ some k_ ≠ (v588 : Value).ownBlock ∧ some k_ ≠ (.slice Ao135 t596.length co135 : Value).ownBlock ∧ some k_ ≠ (.slice Ao139 t598.length co139 : Value).ownBlock) (Kd.R_keptB (HO_13.out) hkp (fun k_ hk_ hs_ => (hk_.2.2.2.2) hs_)) (fun k_ hk_ => ⟨hk_.1.1, hk_.1.2.1, hk_.1.2.2.1, hk_.1.2.2.2.1, hk_.1.2.2.2.2⟩)); have n5_ := Aside0.mk (Kd.R_reok rfl hy0 (fun k_ e_ => HO_14.out.1 k_ e_)); have n6_ := Aside0.mk (hb); clear HO_6; clear HO_7; clear HO_8; clear HO_12; clear HO_13; clear HO_14; clear HB; have HO_6 := n0_; have HO_7 := n1_; have HO_8 := n2_; have HO_12 := n3_; have HO_13 := n4_; have HO_14 := n5_; have HB := n6_; clear n0_ n1_ n2_ n3_ n4_ n5_ n6_; (try clear hb); (try clear hkp); (try clear hy0)) | ((with_reducible refine gate_callee (f := 31) rfl ?_); refine goesL_ (some 128) rfl rfl Try.func31 (by kernel_rfl) rfl #[.slice Ao135 t625.length co135, .int .i64 1] rfl (by (try simp only [List.map_toArray, List.map_cons, List.map_nil]); first | done | (rw [show t625.length = t596.length from (Kd.R_reads' HO_12.out).1.symm] <;> rfl) | rfl | (simp only [List.length_drop, List.length_take]; rfl)) ?_; (with_reducible refine (laws_heldStringS.calls kj61 _ _ t625 1 t630 _ ?side1 ?side2 A100.out).mono ?_); (case side1 => repeat (first | exact (Kd.R_reads' HO_12.out).2.2 | (with_reducible refine Kd.C_alloc ?_ _) | (with_reducible refine Kd.C_drewN ?_ _) | (with_reducible refine Kd.C_drew ?_))); (case side2 => rw [show t625.length = t596.length from (Kd.R_reads' HO_12.out).1.symm]; exact (Kd.R_reads' HO_12.out).2.1); rintro e w141 ⟨rfl, hb⟩; refine ⟨_, rfl, ?_⟩; have n0_ := Aside0.mk (Kd.R_below (by (with_reducible repeat (first | apply Kd.R_alloc | apply Kd.R_drewN | apply Kd.R_drew)); exact HO_6.out) hb); have n1_ := Aside0.mk (Kd.R_below (by (with_reducible repeat (first | apply Kd.R_alloc | apply Kd.R_drewN | apply Kd.R_drew)); exact HO_7.out) hb); have n2_ := Aside0.mk (Kd.R_below (by (with_reducible repeat (first | apply Kd.R_alloc | apply Kd.R_drewN | apply Kd.R_drew)); exact HO_8.out) hb); have n3_ := Aside0.mk (Kd.R_below (by (with_reducible repeat (first | apply Kd.R_alloc | apply Kd.R_drewN | apply Kd.R_drew)); exact HO_12.out) hb); have n4_ := Aside0.mk (Kd.R_below (by (with_reducible repeat (first | apply Kd.R_alloc | apply Kd.R_drewN | apply Kd.R_drew)); exact HO_13.out) hb); have n5_ := Aside0.mk (Kd.R_below (by (with_reducible repeat (first | apply Kd.R_alloc | apply Kd.R_drewN | apply Kd.R_drew)); exact HO_14.out) hb); have n6_ := Aside0.mk (below_step (by repeat (first | (with_reducible first | exact HB.out | apply below_alloc | apply pw_below_drewN | apply below_drew1) | exact HB.out)) hb); clear HO_6; clear HO_7; clear HO_8; clear HO_12; clear HO_13; clear HO_14; clear HB; have HO_6 := n0_; have HO_7 := n1_; have HO_8 := n2_; have HO_12 := n3_; have HO_13 := n4_; have HO_14 := n5_; have HB := n6_; clear n0_ n1_ n2_ n3_ n4_ n5_ n6_; (try clear hb); (try clear hb2); (try clear hk); (try clear hi)) | ((with_reducible refine gate_callee (f := 31) rfl ?_); refine goesL_ (some 133) rfl rfl Try.func31 (by kernel_rfl) rfl #[.slice Ao137 t627.length co137, .int .i64 t630] rfl (by (try simp only [List.map_toArray, List.map_cons, List.map_nil]); first | done | (rw [show t627.length = t597.length from (Kd.R_reads' HO_13.out).1.symm] <;> rfl) | rfl | (simp only [List.length_drop, List.length_take]; rfl)) ?_; (with_reducible refine (laws_heldStringS.calls kj61 _ _ t627 t630 t631 _ ?side1 ?side2 A109.out).mono ?_); (case side1 => repeat (first | exact (Kd.R_reads' HO_13.out).2.2 | (with_reducible refine Kd.C_alloc ?_ _) | (with_reducible refine Kd.C_drewN ?_ _) | (with_reducible refine Kd.C_drew ?_))); (case side2 => rw [show t627.length = t597.length from (Kd.R_reads' HO_13.out).1.symm]; exact (Kd.R_reads' HO_13.out).2.1); rintro e w142 ⟨rfl, hb⟩; refine ⟨_, rfl, ?_⟩; have n0_ := Aside0.mk (Kd.R_below (by (with_reducible repeat (first | apply Kd.R_alloc | apply Kd.R_drewN | apply Kd.R_drew)); exact HO_6.out) hb); have n1_ := Aside0.mk (Kd.R_below (by (with_reducible repeat (first | apply Kd.R_alloc | apply Kd.R_drewN | apply Kd.R_drew)); exact HO_7.out) hb); have n2_ := Aside0.mk (Kd.R_below (by (with_reducible repeat (first | apply Kd.R_alloc | apply Kd.R_drewN | apply Kd.R_drew)); exact HO_8.out) hb); have n3_ := Aside0.mk (Kd.R_below (by (with_reducible repeat (first | apply Kd.R_alloc | apply Kd.R_drewN | apply Kd.R_drew)); exact HO_12.out) hb); have n4_ := Aside0.mk (Kd.R_below (by (with_reducible repeat (first | apply Kd.R_alloc | apply Kd.R_drewN | apply Kd.R_drew)); exact HO_13.out) hb); have n5_ := Aside0.mk (Kd.R_below (by (with_reducible repeat (first | apply Kd.R_alloc | apply Kd.R_drewN | apply Kd.R_drew)); exact HO_14.out) hb); have n6_ := Aside0.mk (below_step (by repeat (first | (with_reducible first | exact HB.out | apply below_alloc | apply pw_below_drewN | apply below_drew1) | exact HB.out)) hb); clear HO_6; clear HO_7; clear HO_8; clear HO_12; clear HO_13; clear HO_14; clear HB; have HO_6 := n0_; have HO_7 := n1_; have HO_8 := n2_; have HO_12 := n3_; have HO_13 := n4_; have HO_14 := n5_; have HB := n6_; clear n0_ n1_ n2_ n3_ n4_ n5_ n6_; (try clear hb); (try clear hb2); (try clear hk); (try clear hi)) | ((with_reducible refine gate_callee (f := 31) rfl ?_); refine goesL_ (some 138) rfl rfl Try.func31 (by kernel_rfl) rfl #[.slice Ao139 t629.length co139, .int .i64 t631] rfl (by (try simp only [List.map_toArray, List.map_cons, List.map_nil]); first | done | (rw [show t629.length = t598.length from (Kd.R_reads' HO_14.out).1.symm] <;> rfl) | rfl | (simp only [List.length_drop, List.length_take]; rfl)) ?_; (with_reducible refine (laws_heldStringS.calls kj61 _ _ t629 t631 t632 _ ?side1 ?side2 A119.out).mono ?_); (case side1 => repeat (first | exact (Kd.R_reads' HO_14.out).2.2 | (with_reducible refine Kd.C_alloc ?_ _) | (with_reducible refine Kd.C_drewN ?_ _) | (with_reducible refine Kd.C_drew ?_))); (case side2 => rw [show t629.length = t598.length from (Kd.R_reads' HO_14.out).1.symm]; exact (Kd.R_reads' HO_14.out).2.1); rintro e w143 ⟨rfl, hb⟩; refine ⟨_, rfl, ?_⟩; have n0_ := Aside0.mk (Kd.R_below (by (with_reducible repeat (first | apply Kd.R_alloc | apply Kd.R_drewN | apply Kd.R_drew)); exact HO_6.out) hb); have n1_ := Aside0.mk (Kd.R_below (by (with_reducible repeat (first | apply Kd.R_alloc | apply Kd.R_drewN | apply Kd.R_drew)); exact HO_7.out) hb); have n2_ := Aside0.mk (Kd.R_below (by (with_reducible repeat (first | apply Kd.R_alloc | apply Kd.R_drewN | apply Kd.R_drew)); exact HO_8.out) hb); have n3_ := Aside0.mk (Kd.R_below (by (with_reducible repeat (first | apply Kd.R_alloc | apply Kd.R_drewN | apply Kd.R_drew)); exact HO_12.out) hb); have n4_ := Aside0.mk (Kd.R_below (by (with_reducible repeat (first | apply Kd.R_alloc | apply Kd.R_drewN | apply Kd.R_drew)); exact HO_13.out) hb); have n5_ := Aside0.mk (Kd.R_below (by (with_reducible repeat (first | apply Kd.R_alloc | apply Kd.R_drewN | apply Kd.R_drew)); exact HO_14.out) hb); have n6_ := Aside0.mk (below_step (by repeat (first | (with_reducible first | exact HB.out | apply below_alloc | apply pw_below_drewN | apply below_drew1) | exact HB.out)) hb); clear HO_6; clear HO_7; clear HO_8; clear HO_12; clear HO_13; clear HO_14; clear HB; have HO_6 := n0_; have HO_7 := n1_; have HO_8 := n2_; have HO_12 := n3_; have HO_13 := n4_; have HO_14 := n5_; have HB := n6_; clear n0_ n1_ n2_ n3_ n4_ n5_ n6_; (try clear hb); (try clear hb2); (try clear hk); (try clear hi)) | ((with_reducible refine gate_callee (f := 17) rfl ?_); refine goesL_ (some 146) rfl rfl Try.func17 (by kernel_rfl) rfl #[.slice A0 l0.length c0] rfl (by (try simp only [List.map_toArray, List.map_cons, List.map_nil]); first | done | rfl | (simp only [List.length_drop, List.length_take]; rfl)) ?_; (with_reducible refine (laws_toContainerS.calls kj61 _ _ l0 t633 _ ?side1 ?side2 A131.out).mono ?_); (case side1 => repeat (first | exact (Kd.C_below HR0.out HB.out) | (with_reducible refine Kd.C_alloc ?_ _) | (with_reducible refine Kd.C_drewN ?_ _) | (with_reducible refine Kd.C_drew ?_))); (case side2 => exact HC0.out); rintro e w144 ⟨v634, rfl, ho0, hb⟩; refine ⟨_, rfl, ?_⟩; have n0_ := Aside0.mk (Kd.R_below (by (with_reducible repeat (first | apply Kd.R_alloc | apply Kd.R_drewN | apply Kd.R_drew)); exact HO_6.out) hb); have n1_ := Aside0.mk (Kd.R_below (by (with_reducible repeat (first | apply Kd.R_alloc | apply Kd.R_drewN | apply Kd.R_drew)); exact HO_7.out) hb); have n2_ := Aside0.mk (Kd.R_below (by (with_reducible repeat (first | apply Kd.R_alloc | apply Kd.R_drewN | apply Kd.R_drew)); exact HO_8.out) hb); have n3_ := Aside0.mk (Kd.R_below (by (with_reducible repeat (first | apply Kd.R_alloc | apply Kd.R_drewN | apply Kd.R_drew)); exact HO_12.out) hb); have n4_ := Aside0.mk (Kd.R_below (by (with_reducible repeat (first | apply Kd.R_alloc | apply Kd.R_drewN | apply Kd.R_drew)); exact HO_13.out) hb); have n5_ := Aside0.mk (Kd.R_below (by (with_reducible repeat (first | apply Kd.R_alloc | apply Kd.R_drewN | apply Kd.R_drew)); exact HO_14.out) hb); have n6_ := Aside0.mk (Kd.R_lower ho0 (below_size (by repeat (first | (with_reducible first | exact HB.out | apply below_alloc | apply pw_below_drewN | apply below_drew1) | exact HB.out)))); have n7_ := Aside0.mk (below_step (by repeat (first | (with_reducible first | exact HB.out | apply below_alloc | apply pw_below_drewN | apply below_drew1) | exact HB.out)) hb); clear HO_6; clear HO_7; clear HO_8; clear HO_12; clear HO_13; clear HO_14; clear HB; have HO_6 := n0_; have HO_7 := n1_; have HO_8 := n2_; have HO_12 := n3_; have HO_13 := n4_; have HO_14 := n5_; have HO635 := n6_; have HB := n7_; clear n0_ n1_ n2_ n3_ n4_ n5_ n6_ n7_; (try clear hb); (try clear hb2); (try clear hk); (try clear hi); (try clear ho0)) | ((with_reducible refine gate_callee (f := 17) rfl ?_); refine goesL_ (some 148) rfl rfl Try.func17 (by kernel_rfl) rfl #[.slice A1 l1.length c1] rfl (by (try simp only [List.map_toArray, List.map_cons, List.map_nil]); first | done | rfl | (simp only [List.length_drop, List.length_take]; rfl)) ?_; (with_reducible refine (laws_toContainerS.calls kj61 _ _ l1 t636 _ ?side1 ?side2 A132.out).mono ?_); (case side1 => repeat (first | exact (Kd.C_below HR1.out HB.out) | (with_reducible refine Kd.C_alloc ?_ _) | (with_reducible refine Kd.C_drewN ?_ _) | (with_reducible refine Kd.C_drew ?_))); (case side2 => exact HC1.out); rintro e w145 ⟨v637, rfl, ho0, hb⟩; refine ⟨_, rfl, ?_⟩; have n0_ := Aside0.mk (Kd.R_below (by (with_reducible repeat (first | apply Kd.R_alloc | apply Kd.R_drewN | apply Kd.R_drew)); exact HO_6.out) hb); have n1_ := Aside0.mk (Kd.R_below (by (with_reducible repeat (first | apply Kd.R_alloc | apply Kd.R_drewN | apply Kd.R_drew)); exact HO_7.out) hb); have n2_ := Aside0.mk (Kd.R_below (by (with_reducible repeat (first | apply Kd.R_alloc | apply Kd.R_drewN | apply Kd.R_drew)); exact HO_8.out) hb); have n3_ := Aside0.mk (Kd.R_below (by (with_reducible repeat (first | apply Kd.R_alloc | apply Kd.R_drewN | apply Kd.R_drew)); exact HO_12.out) hb); have n4_ := Aside0.mk (Kd.R_below (by (with_reducible repeat (first | apply Kd.R_alloc | apply Kd.R_drewN | apply Kd.R_drew)); exact HO_13.out) hb); have n5_ := Aside0.mk (Kd.R_below (by (with_reducible repeat (first | apply Kd.R_alloc | apply Kd.R_drewN | apply Kd.R_drew)); exact HO_14.out) hb); have n6_ := Aside0.mk (Kd.R_elder' (by (with_reducible repeat (first | apply Kd.R_alloc | apply Kd.R_drewN | apply Kd.R_drew)); exact HO635.out) (Kd.R_base ho0) hb); have n7_ := Aside0.mk (Kd.R_lower (Kd.R_new' ho0 (Kd.R_lt (by (with_reducible repeat (first | apply Kd.R_alloc | apply Kd.R_drewN | apply Kd.R_drew)); exact HO635.out))) (below_size (by repeat (first | (with_reducible first | exact HB.out | apply below_alloc | apply pw_below_drewN | apply below_drew1) | exact HB.out)))); have n8_ := Aside0.mk (below_step (by repeat (first | (with_reducible first | exact HB.out | apply below_alloc | apply pw_below_drewN | apply below_drew1) | exact HB.out)) hb); clear HO_6; clear HO_7; clear HO_8; clear HO_12; clear HO_13; clear HO_14; clear HO635; clear HB; have HO_6 := n0_; have HO_7 := n1_; have HO_8 := n2_; have HO_12 := n3_; have HO_13 := n4_; have HO_14 := n5_; have HO635 := n6_; have HO638 := n7_; have HB := n8_; clear n0_ n1_ n2_ n3_ n4_ n5_ n6_ n7_ n8_; (try clear hb); (try clear hb2); (try clear hk); (try clear hi); (try clear ho0); obtain ⟨Ao146, co146, eo146⟩ := Kd.R_slice HO635.out; subst eo146; obtain ⟨Ao147, co147, eo147⟩ := Kd.R_slice HO638.out; subst eo147) | ((with_reducible refine gate_callee (f := 43) rfl ?_); refine goesL_ (some 149) rfl rfl Try.func43 (by kernel_rfl) rfl #[.slice Ao146 t633.length co146, .slice Ao147 t636.length co147] rfl (by (try simp only [List.map_toArray, List.map_cons, List.map_nil]); first | done | rfl | (simp only [List.length_drop, List.length_take]; rfl)) ?_; (with_reducible refine (impl_ManifestChanges.calls kj61 _ _ t633 _ _ t636 t639 t640 t641 t642 _ ?side1 ?side2 ?side3 ?side4 A133.out).mono ?_); (case side1 => repeat (first | exact (Kd.R_reads' HO635.out).2.2 | (with_reducible refine Kd.C_alloc ?_ _) | (with_reducible refine Kd.C_drewN ?_ _) | (with_reducible refine Kd.C_drew ?_))); (case side2 => exact (Kd.R_reads' HO635.out).2.1); (case side3 => repeat (first | exact (Kd.R_reads' HO638.out).2.2 | (with_reducible refine Kd.C_alloc ?_ _) | (with_reducible refine Kd.C_drewN ?_ _) | (with_reducible refine Kd.C_drew ?_))); (case side4 => exact (Kd.R_reads' HO638.out).2.1); rintro e w148 ⟨v643, v645, v647, rfl, ho0, ho1, ho2, hb⟩; refine ⟨_, rfl, ?_⟩; have n0_ := Aside0.mk (Kd.R_mono (Kd.R_told (Kd.R_told (Kd.R_told (Kd.R_old (by (with_reducible repeat (first | apply Kd.R_alloc | apply Kd.R_drewN | apply Kd.R_drew)); exact HO_6.out) hb) (Kd.R_base ho0)) (Kd.R_base ho1)) (Kd.R_base ho2)) (fun _ h_ => h_.1)); have n1_ := Aside0.mk (Kd.R_mono (Kd.R_told (Kd.R_told (Kd.R_told (Kd.R_old (by (with_reducible repeat (first | apply Kd.R_alloc | apply Kd.R_drewN | apply Kd.R_drew)); exact HO_7.out) hb) (Kd.R_base ho0)) (Kd.R_base ho1)) (Kd.R_base ho2)) (fun _ h_ => h_.1)); have n2_ := Aside0.mk (Kd.R_mono (Kd.R_told (Kd.R_told (Kd.R_told (Kd.R_old (by (with_reducible repeat (first | apply Kd.R_alloc | apply Kd.R_drewN | apply Kd.R_drew)); exact HO_8.out) hb) (Kd.R_base ho0)) (Kd.R_base ho1)) (Kd.R_base ho2)) (fun _ h_ => h_.1)); have n3_ := Aside0.mk (Kd.R_mono (Kd.R_told (Kd.R_told (Kd.R_told (Kd.R_old (by (with_reducible repeat (first | apply Kd.R_alloc | apply Kd.R_drewN | apply Kd.R_drew)); exact HO_12.out) hb) (Kd.R_base ho0)) (Kd.R_base ho1)) (Kd.R_base ho2)) (fun _ h_ => h_.1)); have n4_ := Aside0.mk (Kd.R_mono (Kd.R_told (Kd.R_told (Kd.R_told (Kd.R_old (by (with_reducible repeat (first | apply Kd.R_alloc | apply Kd.R_drewN | apply Kd.R_drew)); exact HO_13.out) hb) (Kd.R_base ho0)) (Kd.R_base ho1)) (Kd.R_base ho2)) (fun _ h_ => h_.1)); have n5_ := Aside0.mk (Kd.R_mono (Kd.R_told (Kd.R_told (Kd.R_told (Kd.R_old (by (with_reducible repeat (first | apply Kd.R_alloc | apply Kd.R_drewN | apply Kd.R_drew)); exact HO_14.out) hb) (Kd.R_base ho0)) (Kd.R_base ho1)) (Kd.R_base ho2)) (fun _ h_ => h_.1)); have n6_ := Aside0.mk (Kd.R_below (by (with_reducible repeat (first | apply Kd.R_alloc | apply Kd.R_drewN | apply Kd.R_drew)); exact HO635.out) hb); have n7_ := Aside0.mk (Kd.R_below (by (with_reducible repeat (first | apply Kd.R_alloc | apply Kd.R_drewN | apply Kd.R_drew)); exact HO638.out) hb); have n8_ := Aside0.mk (Kd.R_lower (Kd.R_new' (Kd.R_new' (Kd.R_new' (Kd.R_new' (Kd.R_new' (Kd.R_new' ho0 (Kd.R_lt (by (with_reducible repeat (first | apply Kd.R_alloc | apply Kd.R_drewN | apply Kd.R_drew)); exact HO_6.out))) (Kd.R_lt (by (with_reducible repeat (first | apply Kd.R_alloc | apply Kd.R_drewN | apply Kd.R_drew)); exact HO_7.out))) (Kd.R_lt (by (with_reducible repeat (first | apply Kd.R_alloc | apply Kd.R_drewN | apply Kd.R_drew)); exact HO_8.out))) (Kd.R_lt (by (with_reducible repeat (first | apply Kd.R_alloc | apply Kd.R_drewN | apply Kd.R_drew)); exact HO_12.out))) (Kd.R_lt (by (with_reducible repeat (first | apply Kd.R_alloc | apply Kd.R_drewN | apply Kd.R_drew)); exact HO_13.out))) (Kd.R_lt (by (with_reducible repeat (first | apply Kd.R_alloc | apply Kd.R_drewN | apply Kd.R_drew)); exact HO_14.out))) (below_size (by repeat (first | (with_reducible first | exact HB.out | apply below_alloc | apply pw_below_drewN | apply below_drew1) | exact HB.out)))); have n9_ := Aside0.mk (Kd.R_lower (Kd.R_new' (Kd.R_new' (Kd.R_new' (Kd.R_new' (Kd.R_new' (Kd.R_new' ho1 (Kd.R_lt (by (with_reducible repeat (first | apply Kd.R_alloc | apply Kd.R_drewN | apply Kd.R_drew)); exact HO_6.out))) (Kd.R_lt (by (with_reducible repeat (first | apply Kd.R_alloc | apply Kd.R_drewN | apply Kd.R_drew)); exact HO_7.out))) (Kd.R_lt (by (with_reducible repeat (first | apply Kd.R_alloc | apply Kd.R_drewN | apply Kd.R_drew)); exact HO_8.out))) (Kd.R_lt (by (with_reducible repeat (first | apply Kd.R_alloc | apply Kd.R_drewN | apply Kd.R_drew)); exact HO_12.out))) (Kd.R_lt (by (with_reducible repeat (first | apply Kd.R_alloc | apply Kd.R_drewN | apply Kd.R_drew)); exact HO_13.out))) (Kd.R_lt (by (with_reducible repeat (first | apply Kd.R_alloc | apply Kd.R_drewN | apply Kd.R_drew)); exact HO_14.out))) (below_size (by repeat (first | (with_reducible first | exact HB.out | apply below_alloc | apply pw_below_drewN | apply below_drew1) | exact HB.out)))); have n10_ := Aside0.mk (Kd.R_lower (Kd.R_new' (Kd.R_new' (Kd.R_new' (Kd.R_new' (Kd.R_new' (Kd.R_new' ho2 (Kd.R_lt (by (with_reducible repeat (first | apply Kd.R_alloc | apply Kd.R_drewN | apply Kd.R_drew)); exact HO_6.out))) (Kd.R_lt (by (with_reducible repeat (first | apply Kd.R_alloc | apply Kd.R_drewN | apply Kd.R_drew)); exact HO_7.out))) (Kd.R_lt (by (with_reducible repeat (first | apply Kd.R_alloc | apply Kd.R_drewN | apply Kd.R_drew)); exact HO_8.out))) (Kd.R_lt (by (with_reducible repeat (first | apply Kd.R_alloc | apply Kd.R_drewN | apply Kd.R_drew)); exact HO_12.out))) (Kd.R_lt (by (with_reducible repeat (first | apply Kd.R_alloc | apply Kd.R_drewN | apply Kd.R_drew)); exact HO_13.out))) (Kd.R_lt (by (with_reducible repeat (first | apply Kd.R_alloc | apply Kd.R_drewN | apply Kd.R_drew)); exact HO_14.out))) (below_size (by repeat (first | (with_reducible first | exact HB.out | apply below_alloc | apply pw_below_drewN | apply below_drew1) | exact HB.out)))); have n11_ := Aside0.mk (below_step (by repeat (first | (with_reducible first | exact HB.out | apply below_alloc | apply pw_below_drewN | apply below_drew1) | exact HB.out)) hb); clear HO_6; clear HO_7; clear HO_8; clear HO_12; clear HO_13; clear HO_14; clear HO635; clear HO638; clear HB; have HO_6 := n0_; have HO_7 := n1_; have HO_8 := n2_; have HO_12 := n3_; have HO_13 := n4_; have HO_14 := n5_; have HO635 := n6_; have HO638 := n7_; have HO644 := n8_; have HO646 := n9_; have HO648 := n10_; have HB := n11_; clear n0_ n1_ n2_ n3_ n4_ n5_ n6_ n7_ n8_ n9_ n10_ n11_; (try clear hb); (try clear hb2); (try clear hk); (try clear hi); (try clear ho0); (try clear ho1); (try clear ho2)))
               (try simp only [Act.put, List.setIfInBounds_toArray, List.set_cons_zero, List.set_cons_succ])
               go_cut [174] (fun v174 wc => ∃ (kq : Nat) (x174_133 : Bool), v174 = .bool x174_133 ∧ Aside0 (laws_FnExactManifestChanges.j2 kq t625 t627 t629 t628 x174_133 = some r) ∧ Aside0 (kq ≤ kj61) ∧ Aside0 (Kd.R Kd.string 9 wc w.heap.size (fun k_ => some k_ ≠ ((.slice Ao137 t597.length co137) : Value).ownBlock ∧ some k_ ≠ ((.slice Ao139 t598.length co139) : Value).ownBlock) (.slice Ao135 t596.length co135) t625) ∧ Aside0 (Kd.R Kd.string 9 wc w.heap.size (fun k_ => some k_ ≠ ((.slice Ao135 t596.length co135) : Value).ownBlock ∧ some k_ ≠ ((.slice Ao139 t598.length co139) : Value).ownBlock) (.slice Ao137 t597.length co137) t627) ∧ Aside0 (Kd.R Kd.string 9 wc w.heap.size (fun k_ => some k_ ≠ ((.slice Ao135 t596.length co135) : Value).ownBlock ∧ some k_ ≠ ((.slice Ao137 t597.length co137) : Value).ownBlock) (.slice Ao139 t598.length co139) t629) ∧ Aside0 (Below w.heap.size w wc))
               case first =>
                have H := HC134.out
                clear HC134
                replace H := Option.bind_eq_some_iff.mp H
                obtain ⟨t649, A1490, H⟩ := H
                replace H : (if t649 = true then ((laws_eqStringS.f kj61 t640 t581).bind fun t650 => (if t650 = true then ((laws_eqStringS.f kj61 t641 t582).bind fun t651 => (if t651 = true then (laws_FnExactManifestChanges.j2 kj61 t625 t627 t629 t628 (t642 != t583)) else (none))) else (none))) else (none)) = some r := H
                have A149 := Aside0.mk A1490
                clear A1490
                by_cases c150 : t649 = true
                ·subst c150
                 have H1 : ((laws_eqStringS.f kj61 t640 t581).bind fun t650 => (if t650 = true then ((laws_eqStringS.f kj61 t641 t582).bind fun t651 => (if t651 = true then (laws_FnExactManifestChanges.j2 kj61 t625 t627 t629 t628 (t642 != t583)) else (none))) else (none))) = some r := by rw [if_pos rfl] at H; exact H
                 clear H
                 have H := H1
                 clear H1
                 replace H := Option.bind_eq_some_iff.mp H
                 obtain ⟨t650, A1510, H⟩ := H
                 replace H : (if t650 = true then ((laws_eqStringS.f kj61 t641 t582).bind fun t651 => (if t651 = true then (laws_FnExactManifestChanges.j2 kj61 t625 t627 t629 t628 (t642 != t583)) else (none))) else (none)) = some r := H
                 have A151 := Aside0.mk A1510
                 clear A1510
                 by_cases c152 : t650 = true
                 ·subst c152
                  have H1 : ((laws_eqStringS.f kj61 t641 t582).bind fun t651 => (if t651 = true then (laws_FnExactManifestChanges.j2 kj61 t625 t627 t629 t628 (t642 != t583)) else (none))) = some r := by rw [if_pos rfl] at H; exact H
                  clear H
                  have H := H1
                  clear H1
                  replace H := Option.bind_eq_some_iff.mp H
                  obtain ⟨t651, A1530, H⟩ := H
                  replace H : (if t651 = true then (laws_FnExactManifestChanges.j2 kj61 t625 t627 t629 t628 (t642 != t583)) else (none)) = some r := H
                  have A153 := Aside0.mk A1530
                  clear A1530
                  by_cases c154 : t651 = true
                  ·subst c154
                   have H1 : (laws_FnExactManifestChanges.j2 kj61 t625 t627 t629 t628 (t642 != t583)) = some r := by rw [if_pos rfl] at H; exact H
                   clear H
                   have H := H1
                   clear H1
                   have H' := Aside0.mk H
                   clear H
                   obtain ⟨Ao155, co155, eo155⟩ := Kd.R_slice HO644.out
                   subst eo155
                   obtain ⟨Ao156, co156, eo156⟩ := Kd.R_slice HO_6.out
                   subst eo156
                   go_wp2_with (first | ((with_reducible refine gate_callee (f := 28) rfl ?_); refine goesL_ (some 156) rfl rfl Try.func28 (by kernel_rfl) rfl #[.slice Ao155 t639.length co155, .slice Ao156 t580.length co156] rfl (by (try simp only [List.map_toArray, List.map_cons, List.map_nil]); first | done | rfl | (simp only [List.length_drop, List.length_take]; rfl)) ?_; (with_reducible refine (laws_eqStringS.calls kj61 _ _ t639 _ _ t580 true _ ?side1 ?side2 ?side3 ?side4 A149.out).mono ?_); (case side1 => repeat (first | exact (Kd.R_reads' HO644.out).2.2 | (with_reducible refine Kd.C_alloc ?_ _) | (with_reducible refine Kd.C_drewN ?_ _) | (with_reducible refine Kd.C_drew ?_))); (case side2 => exact (Kd.R_reads' HO644.out).2.1); (case side3 => repeat (first | exact (Kd.R_reads' HO_6.out).2.2 | (with_reducible refine Kd.C_alloc ?_ _) | (with_reducible refine Kd.C_drewN ?_ _) | (with_reducible refine Kd.C_drew ?_))); (case side4 => exact (Kd.R_reads' HO_6.out).2.1); rintro e w' ⟨rfl, ⟨nd, rfl⟩⟩; refine ⟨_, rfl, ?_⟩; obtain ⟨Ao157, co157, eo157⟩ := Kd.R_slice HO646.out; subst eo157; obtain ⟨Ao158, co158, eo158⟩ := Kd.R_slice HO_7.out; subst eo158) | (go_at_call 28; (with_reducible refine (laws_eqStringS.calls kj61 _ _ t640 _ _ t581 true _ ?side1 ?side2 ?side3 ?side4 A151.out).mono ?_); (case side1 => repeat (first | exact (Kd.R_reads' HO646.out).2.2 | (with_reducible refine Kd.C_alloc ?_ _) | (with_reducible refine Kd.C_drewN ?_ _) | (with_reducible refine Kd.C_drew ?_))); (case side2 => exact (Kd.R_reads' HO646.out).2.1); (case side3 => repeat (first | exact (Kd.R_reads' HO_7.out).2.2 | (with_reducible refine Kd.C_alloc ?_ _) | (with_reducible refine Kd.C_drewN ?_ _) | (with_reducible refine Kd.C_drew ?_))); (case side4 => exact (Kd.R_reads' HO_7.out).2.1); rintro e w' ⟨rfl, ⟨nd, rfl⟩⟩; obtain ⟨Ao159, co159, eo159⟩ := Kd.R_slice HO648.out; subst eo159; obtain ⟨Ao160, co160, eo160⟩ := Kd.R_slice HO_8.out; subst eo160) | (go_at_call 28; (with_reducible refine (laws_eqStringS.calls kj61 _ _ t641 _ _ t582 true _ ?side1 ?side2 ?side3 ?side4 A153.out).mono ?_); (case side1 => repeat (first | exact (Kd.R_reads' HO648.out).2.2 | (with_reducible refine Kd.C_alloc ?_ _) | (with_reducible refine Kd.C_drewN ?_ _) | (with_reducible refine Kd.C_drew ?_))); (case side2 => exact (Kd.R_reads' HO648.out).2.1); (case side3 => repeat (first | exact (Kd.R_reads' HO_8.out).2.2 | (with_reducible refine Kd.C_alloc ?_ _) | (with_reducible refine Kd.C_drewN ?_ _) | (with_reducible refine Kd.C_drew ?_))); (case side4 => exact (Kd.R_reads' HO_8.out).2.1); rintro e w' ⟨rfl, ⟨nd, rfl⟩⟩))
                   go_meet
                   case rel => exact ⟨_, ((t642 != t583)), (by first | rfl | (simp; done) | (simp [*]; done)), H', ⟨by have := HJ15.out; have := HJ61.out; first | omega | exact Nat.le_refl _⟩, ⟨by (with_reducible repeat (first | apply Kd.R_alloc | apply Kd.R_drewN | apply Kd.R_drew)); exact Kd.R_mono HO_12.out (fun _ hk => ⟨hk.1.1.1.2.2.2.1, hk.1.1.1.2.2.2.2⟩)⟩, ⟨by (with_reducible repeat (first | apply Kd.R_alloc | apply Kd.R_drewN | apply Kd.R_drew)); exact Kd.R_mono HO_13.out (fun _ hk => ⟨hk.1.1.1.2.2.2.1, hk.1.1.1.2.2.2.2⟩)⟩, ⟨by (with_reducible repeat (first | apply Kd.R_alloc | apply Kd.R_drewN | apply Kd.R_drew)); exact Kd.R_mono HO_14.out (fun _ hk => ⟨hk.1.1.1.2.2.2.1, hk.1.1.1.2.2.2.2⟩)⟩, ⟨by repeat (first | (with_reducible first | exact HB.out | apply below_alloc | apply pw_below_drewN | apply below_drew1) | exact HB.out)⟩⟩
                  ·replace c154 := Bool.eq_false_iff.mpr c154
                   subst c154
                   have H1 : (none) = some r := by rw [if_neg (show ¬ (false = true) by decide)] at H; exact H
                   clear H
                   have H := H1
                   clear H1
                   exact absurd H (by simp)
                 ·replace c152 := Bool.eq_false_iff.mpr c152
                  subst c152
                  have H1 : (none) = some r := by rw [if_neg (show ¬ (false = true) by decide)] at H; exact H
                  clear H
                  have H := H1
                  clear H1
                  exact absurd H (by simp)
                ·replace c150 := Bool.eq_false_iff.mpr c150
                 subst c150
                 have H1 : (none) = some r := by rw [if_neg (show ¬ (false = true) by decide)] at H; exact H
                 clear H
                 have H := H1
                 clear H1
                 exact absurd H (by simp)
               case rest =>
                clear HC134
                try clear c1
                try clear c2
                try clear p2
                try clear c3
                try clear c4
                try clear c4b0
                try clear c5
                try clear c7
                try clear c7b0
                try clear c9
                try clear c10
                try clear c11
                try clear c12
                try clear c13
                try clear c15
                try clear c17
                try clear c19
                try clear c28
                try clear c29
                try clear c30
                try clear c31
                try clear c32
                try clear c34
                try clear c42
                try clear c43
                try clear c53
                try clear c56
                try clear c59
                try clear c71
                try clear c71b0
                try clear c73
                try clear c75
                try clear c77
                try clear c96
                try clear c101
                try clear c101b0
                try clear c110
                try clear c110b0
                try clear c120
                try clear c120b0
                try clear c130
                try clear c130b0
                try clear c130b1
                try clear c150
                try clear c152
                try clear c154
                try clear p2
                obtain ⟨kq, x174_133, rfl, HA, HJ133, HO_12, HO_13, HO_14, HB⟩ := hcut
                have hl12_133 := (Kd.R_reads' HO_12.out).1
                rw [hl12_133] at HO_12
                (try simp only [hl12_133])
                (try simp only [hl12_133] at HO_13)
                (try simp only [hl12_133] at HO_14)
                have hl13_133 := (Kd.R_reads' HO_13.out).1
                rw [hl13_133] at HO_13
                (try simp only [hl13_133])
                (try simp only [hl13_133] at HO_12)
                (try simp only [hl13_133] at HO_14)
                have hl14_133 := (Kd.R_reads' HO_14.out).1
                rw [hl14_133] at HO_14
                (try simp only [hl14_133])
                (try simp only [hl14_133] at HO_12)
                (try simp only [hl14_133] at HO_13)
                cases kq with
                | zero => exact absurd HA.out (by simp [laws_FnExactManifestChanges.j2])
                | succ kj133 =>
                 have H := HA.out
                 clear HA
                 simp only [laws_FnExactManifestChanges.j2] at H
                 by_cases c173 : x174_133 = true
                 ·subst c173
                  have H1 : (none) = some r := by rw [if_pos rfl] at H; exact H
                  clear H
                  have H := H1
                  clear H1
                  exact absurd H (by simp)
                 ·replace c173 := Bool.eq_false_iff.mpr c173
                  subst c173
                  have H1 : ((laws_heldStringS.f kj133 t625 1).bind fun t652 => (if t652 < 0 then (none) else ((laws_heldStringS.f kj133 t627 t652).bind fun t653 => (if t653 < 0 then (none) else ((laws_heldStringS.f kj133 t629 t653).bind fun t654 => (if t654 < 0 then (none) else (if t654 = t628 then (some true) else (none)))))))) = some r := by rw [if_neg (show ¬ (false = true) by decide)] at H; exact H
                  clear H
                  have H := H1
                  clear H1
                  replace H := Option.bind_eq_some_iff.mp H
                  obtain ⟨t652, A1740, H⟩ := H
                  replace H : (if t652 < 0 then (none) else ((laws_heldStringS.f kj133 t627 t652).bind fun t653 => (if t653 < 0 then (none) else ((laws_heldStringS.f kj133 t629 t653).bind fun t654 => (if t654 < 0 then (none) else (if t654 = t628 then (some true) else (none))))))) = some r := H
                  have A174 := Aside0.mk A1740
                  clear A1740
                  by_cases c175 : t652 < 0
                  ·rw [if_pos c175] at H
                   have c175b0 : decide (t652 < 0) = true := decide_eq_true c175
                   clear c175
                   exact absurd H (by simp)
                  ·rw [if_neg c175] at H
                   have c175b0 : decide (t652 < 0) = false := decide_eq_false c175
                   clear c175
                   replace H := Option.bind_eq_some_iff.mp H
                   obtain ⟨t653, A1770, H⟩ := H
                   replace H : (if t653 < 0 then (none) else ((laws_heldStringS.f kj133 t629 t653).bind fun t654 => (if t654 < 0 then (none) else (if t654 = t628 then (some true) else (none))))) = some r := H
                   have A177 := Aside0.mk A1770
                   clear A1770
                   by_cases c178 : t653 < 0
                   ·rw [if_pos c178] at H
                    have c178b0 : decide (t653 < 0) = true := decide_eq_true c178
                    clear c178
                    exact absurd H (by simp)
                   ·rw [if_neg c178] at H
                    have c178b0 : decide (t653 < 0) = false := decide_eq_false c178
                    clear c178
                    replace H := Option.bind_eq_some_iff.mp H
                    obtain ⟨t654, A1810, H⟩ := H
                    replace H : (if t654 < 0 then (none) else (if t654 = t628 then (some true) else (none))) = some r := H
                    have A181 := Aside0.mk A1810
                    clear A1810
                    by_cases c182 : t654 < 0
                    ·rw [if_pos c182] at H
                     have c182b0 : decide (t654 < 0) = true := decide_eq_true c182
                     clear c182
                     exact absurd H (by simp)
                    ·rw [if_neg c182] at H
                     have c182b0 : decide (t654 < 0) = false := decide_eq_false c182
                     clear c182
                     by_cases c186 : t654 = t628
                     ·rw [if_pos c186] at H
                      have c186b0 : (t654 == t628) = true := beq_iff_eq.mpr c186
                      have c186b1 : (t654 != t628) = false := bne_eq_false_iff_eq.mpr c186
                      clear c186
                      obtain rfl := Option.some.inj H
                      go_wp2_with (first | ((with_reducible refine gate_callee (f := 31) rfl ?_); refine goesL_ (some 177) rfl rfl Try.func31 (by kernel_rfl) rfl #[.slice Ao135 t625.length co135, .int .i64 1] rfl (by (try simp only [List.map_toArray, List.map_cons, List.map_nil]); first | done | rfl | (simp only [List.length_drop, List.length_take]; rfl)) ?_; (with_reducible refine (laws_heldStringS.calls kj133 _ _ t625 1 t652 _ ?side1 ?side2 A174.out).mono ?_); (case side1 => repeat (first | exact (Kd.R_reads' HO_12.out).2.2 | (with_reducible refine Kd.C_alloc ?_ _) | (with_reducible refine Kd.C_drewN ?_ _) | (with_reducible refine Kd.C_drew ?_))); (case side2 => exact (Kd.R_reads' HO_12.out).2.1); rintro e w187 ⟨rfl, hb⟩; refine ⟨_, rfl, ?_⟩; have n0_ := Aside0.mk (Kd.R_below (by (with_reducible repeat (first | apply Kd.R_alloc | apply Kd.R_drewN | apply Kd.R_drew)); exact HO_12.out) hb); have n1_ := Aside0.mk (Kd.R_below (by (with_reducible repeat (first | apply Kd.R_alloc | apply Kd.R_drewN | apply Kd.R_drew)); exact HO_13.out) hb); have n2_ := Aside0.mk (Kd.R_below (by (with_reducible repeat (first | apply Kd.R_alloc | apply Kd.R_drewN | apply Kd.R_drew)); exact HO_14.out) hb); have n3_ := Aside0.mk (below_step (by repeat (first | (with_reducible first | exact HB.out | apply below_alloc | apply pw_below_drewN | apply below_drew1) | exact HB.out)) hb); clear HO_12; clear HO_13; clear HO_14; clear HB; have HO_12 := n0_; have HO_13 := n1_; have HO_14 := n2_; have HB := n3_; clear n0_ n1_ n2_ n3_; (try clear hb); (try clear hb2); (try clear hk); (try clear hi)) | ((with_reducible refine gate_callee (f := 31) rfl ?_); refine goesL_ (some 182) rfl rfl Try.func31 (by kernel_rfl) rfl #[.slice Ao137 t627.length co137, .int .i64 t652] rfl (by (try simp only [List.map_toArray, List.map_cons, List.map_nil]); first | done | rfl | (simp only [List.length_drop, List.length_take]; rfl)) ?_; (with_reducible refine (laws_heldStringS.calls kj133 _ _ t627 t652 t653 _ ?side1 ?side2 A177.out).mono ?_); (case side1 => repeat (first | exact (Kd.R_reads' HO_13.out).2.2 | (with_reducible refine Kd.C_alloc ?_ _) | (with_reducible refine Kd.C_drewN ?_ _) | (with_reducible refine Kd.C_drew ?_))); (case side2 => exact (Kd.R_reads' HO_13.out).2.1); rintro e w188 ⟨rfl, hb⟩; refine ⟨_, rfl, ?_⟩; have n0_ := Aside0.mk (Kd.R_below (by (with_reducible repeat (first | apply Kd.R_alloc | apply Kd.R_drewN | apply Kd.R_drew)); exact HO_12.out) hb); have n1_ := Aside0.mk (Kd.R_below (by (with_reducible repeat (first | apply Kd.R_alloc | apply Kd.R_drewN | apply Kd.R_drew)); exact HO_13.out) hb); have n2_ := Aside0.mk (Kd.R_below (by (with_reducible repeat (first | apply Kd.R_alloc | apply Kd.R_drewN | apply Kd.R_drew)); exact HO_14.out) hb); have n3_ := Aside0.mk (below_step (by repeat (first | (with_reducible first | exact HB.out | apply below_alloc | apply pw_below_drewN | apply below_drew1) | exact HB.out)) hb); clear HO_12; clear HO_13; clear HO_14; clear HB; have HO_12 := n0_; have HO_13 := n1_; have HO_14 := n2_; have HB := n3_; clear n0_ n1_ n2_ n3_; (try clear hb); (try clear hb2); (try clear hk); (try clear hi)) | ((with_reducible refine gate_callee (f := 31) rfl ?_); refine goesL_ (some 187) rfl rfl Try.func31 (by kernel_rfl) rfl #[.slice Ao139 t629.length co139, .int .i64 t653] rfl (by (try simp only [List.map_toArray, List.map_cons, List.map_nil]); first | done | rfl | (simp only [List.length_drop, List.length_take]; rfl)) ?_; (with_reducible refine (laws_heldStringS.calls kj133 _ _ t629 t653 t654 _ ?side1 ?side2 A181.out).mono ?_); (case side1 => repeat (first | exact (Kd.R_reads' HO_14.out).2.2 | (with_reducible refine Kd.C_alloc ?_ _) | (with_reducible refine Kd.C_drewN ?_ _) | (with_reducible refine Kd.C_drew ?_))); (case side2 => exact (Kd.R_reads' HO_14.out).2.1); rintro e w189 ⟨rfl, hb⟩; refine ⟨_, rfl, ?_⟩; have n0_ := Aside0.mk (Kd.R_below (by (with_reducible repeat (first | apply Kd.R_alloc | apply Kd.R_drewN | apply Kd.R_drew)); exact HO_12.out) hb); have n1_ := Aside0.mk (Kd.R_below (by (with_reducible repeat (first | apply Kd.R_alloc | apply Kd.R_drewN | apply Kd.R_drew)); exact HO_13.out) hb); have n2_ := Aside0.mk (Kd.R_below (by (with_reducible repeat (first | apply Kd.R_alloc | apply Kd.R_drewN | apply Kd.R_drew)); exact HO_14.out) hb); have n3_ := Aside0.mk (below_step (by repeat (first | (with_reducible first | exact HB.out | apply below_alloc | apply pw_below_drewN | apply below_drew1) | exact HB.out)) hb); clear HO_12; clear HO_13; clear HO_14; clear HB; have HO_12 := n0_; have HO_13 := n1_; have HO_14 := n2_; have HB := n3_; clear n0_ n1_ n2_ n3_; (try clear hb); (try clear hb2); (try clear hk); (try clear hi)))
                      go_ret
                      exact ⟨by first | rfl | (simp [errW_none, errW_some] <;> rfl) | (simp [*, errW_none, errW_some] <;> rfl), by repeat (first | (with_reducible first | exact HB.out | apply below_alloc | apply pw_below_drewN | apply below_drew1) | exact HB.out)⟩
                     ·rw [if_neg c186] at H
                      have c186b0 : (t654 == t628) = false := beq_eq_false_iff_ne.mpr c186
                      have c186b1 : (t654 != t628) = true := bne_iff_ne.mpr c186
                      exact absurd H (by simp)
              ·rw [if_neg c130] at H
               have c130b0 : (t632 == t628) = false := beq_eq_false_iff_ne.mpr c130
               have c130b1 : (t632 != t628) = true := bne_iff_ne.mpr c130
               exact absurd H (by simp)
       ·replace c59 := Bool.eq_false_iff.mpr c59
        subst c59
        have H1 : (none) = some r := by rw [if_neg (show ¬ (false = true) by decide)] at H; exact H
        clear H
        have H := H1
        clear H1
        exact absurd H (by simp)
      ·replace c56 := Bool.eq_false_iff.mpr c56
       subst c56
       have H1 : (none) = some r := by rw [if_neg (show ¬ (false = true) by decide)] at H; exact H
       clear H
       have H := H1
       clear H1
       exact absurd H (by simp)

end Go.Proofs.Ythijmjdjnihggaa.X
