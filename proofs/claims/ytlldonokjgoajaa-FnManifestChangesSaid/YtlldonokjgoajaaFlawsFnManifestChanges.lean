-- Written by a program of ours (wip/bin/xprint.py,over the kit's print.py) out of the translation. Not trusted: Lean checks it.
import Derived.Test.YtlldonokjgoajaaX0
import Derived.Test.YtlldonokjgoajaaFbV
import Derived.Test.YtlldonokjgoajaaFimplManifestChanges
import Derived.Test.YtlldonokjgoajaaFimplMergeManifests
import Derived.Test.YtlldonokjgoajaaFimplPortCounts
import Derived.Test.YtlldonokjgoajaaFimplSplitManifest
import Derived.Test.YtlldonokjgoajaaFspecDrawManifestChanges
import Derived.Test.YtlldonokjgoajaaFspecManifestChanges
import Derived.Test.YtlldonokjgoajaaFspecMergeManifests
namespace Go.Proofs.Ytlldonokjgoajaa.X
open Go.RowKit Go.Proofs.YtlldonokjgoajaaW.PrintWords Go.Proofs.YtlldonokjgoajaaW.PrintLast Go.Proofs.YtlldonokjgoajaaW.PrintMore
attribute [local go_sem] max2_int min2_int max_two min_two max_three min_three max_four min_four   -- for this text's walks alone
set_option linter.unusedVariables false
set_option linter.unusedSimpArgs false

/-! ### laws_FnManifestChanges: function 11 -/
mutual
def laws_FnManifestChanges.j0 : Nat → List (S89) → List (S89) → List ByteArray → List ByteArray → List ByteArray → Bool → Bool → Option (Bool)
 | 0,_,_,_,_,_,_,_ => none
 | k + 1,x3,x4,x5,x6,x7,x8,x75 => if x75 = true then (none) else ((impl_MergeManifests.f k x3 x4).bind fun bt1557 => ((spec_MergeManifests.f k x3 x4).bind fun bt1561 => (if (bt1557.2 != bt1561.2) = true then (none) else ((laws_vList.f k bt1557.1 bt1561.1).bind fun t1565 => (laws_FnManifestChanges.j1 k x3 x4 x5 x6 x7 x8 bt1557.1 bt1557.2 (!t1565))))))
def laws_FnManifestChanges.j1 : Nat → List (S89) → List (S89) → List ByteArray → List ByteArray → List ByteArray → Bool → List (S89) → Bool → Bool → Option (Bool)
 | 0,_,_,_,_,_,_,_,_,_ => none
 | k + 1,x3,x4,x5,x6,x7,x8,x13,x14,x96 => if x96 = true then (none) else (if x8 = true then ((impl_ManifestChanges.f k x4 x3).bind fun bt1566 => (if bt1566.2.2.2 = true then ((laws_vTexts.f k bt1566.1 x6).bind fun t1576 => (if t1576 = true then ((laws_vTexts.f k bt1566.2.1 x5).bind fun t1577 => (if t1577 = true then ((laws_vTexts.f k bt1566.2.2.1 x7).bind fun t1578 => (laws_FnManifestChanges.j2 k x3 x4 x5 x6 x13 x14 (!t1578))) else (none))) else (none))) else (none))) else (some (!x14)))
def laws_FnManifestChanges.j2 : Nat → List (S89) → List (S89) → List ByteArray → List ByteArray → List (S89) → Bool → Bool → Option (Bool)
 | 0,_,_,_,_,_,_,_ => none
 | k + 1,x3,x4,x5,x6,x13,x14,x128 => if x128 = true then (none) else (if x14 = true then ((impl_ManifestChanges.f k x4 x13).bind fun bt1579 => (if bt1579.2.2.2 = true then ((laws_vTexts.f k bt1579.1 x6).bind fun t1589 => (if t1589 = true then (if (bt1579.2.1.length : Int) > 0 then (none) else (if (bt1579.2.2.1.length : Int) > 0 then (none) else (if (x13.length : Int) = (wrap64 ((x3.length : Int) + (x5.length : Int))) then (laws_FnManifestChanges.j3 k x4) else (none)))) else (none))) else (none))) else (laws_FnManifestChanges.j3 k x4))
def laws_FnManifestChanges.j3 : Nat → List (S89) → Option (Bool)
 | 0,_ => none
 | k + 1,x4 => (impl_PortCounts.f k x4).bind fun bt1590 => (laws_FnManifestChanges.l0 k x4 bt1590.1 bt1590.2 0 0)
def laws_FnManifestChanges.l0 : Nat → List (S89) → List (S104) → Bool → Int → Int → Option (Bool)
 | 0,_,_,_,_,_ => none
 | k + 1,x4,x25,x26,x27,x28 => if x28 < (x25.length : Int) then (if 0 ≤ x28 then ((impl_SplitManifest.f k x4 ((rd_T104 x25 x28).f0)).bind fun bt1595 => (if bt1595.2.2 = true then (if (bt1595.1.length : Int) = ((rd_T104 x25 x28).f1) then (if (wrap64 ((bt1595.1.length : Int) + (bt1595.2.1.length : Int))) = (x4.length : Int) then (laws_FnManifestChanges.l0 k x4 x25 x26 (wrap64 (x27 + ((rd_T104 x25 x28).f1))) (wrap64 (x28 + 1))) else (none)) else (none)) else (none))) else (none)) else (if x26 = true then (some (x27 == (x4.length : Int))) else (none))
end
def laws_FnManifestChanges.f (k : Nat) (l0 : List Int) : Option (Bool):=(laws_vBig.f l0).bind fun t1527 => (if t1527 = true then (some true) else ((spec_DrawManifestChanges.f k l0).bind fun bt1528 => ((impl_ManifestChanges.f k bt1528.1 bt1528.2).bind fun bt1534 => ((spec_ManifestChanges.f k bt1528.1 bt1528.2).bind fun bt1544 => (if (bt1534.2.2.2 != bt1544.2.2.2) = true then (none) else ((laws_vTexts.f k bt1534.1 bt1544.1).bind fun t1554 => (if t1554 = true then ((laws_vTexts.f k bt1534.2.1 bt1544.2.1).bind fun t1555 => (if t1555 = true then ((laws_vTexts.f k bt1534.2.2.1 bt1544.2.2.1).bind fun t1556 => (laws_FnManifestChanges.j0 k bt1528.1 bt1528.2 bt1534.1 bt1534.2.1 bt1534.2.2.1 bt1534.2.2.2 (!t1556))) else (none))) else (none))))))))
theorem laws_FnManifestChanges.mono_l : ∀ k,(∀ y0 y1 y2 y3 y4 y5 y6,LeO (laws_FnManifestChanges.j0 k y0 y1 y2 y3 y4 y5 y6) (laws_FnManifestChanges.j0 (k + 1) y0 y1 y2 y3 y4 y5 y6)) ∧ (∀ y0 y1 y2 y3 y4 y5 y6 y7 y8,LeO (laws_FnManifestChanges.j1 k y0 y1 y2 y3 y4 y5 y6 y7 y8) (laws_FnManifestChanges.j1 (k + 1) y0 y1 y2 y3 y4 y5 y6 y7 y8)) ∧ (∀ y0 y1 y2 y3 y4 y5 y6,LeO (laws_FnManifestChanges.j2 k y0 y1 y2 y3 y4 y5 y6) (laws_FnManifestChanges.j2 (k + 1) y0 y1 y2 y3 y4 y5 y6)) ∧ (∀ y0,LeO (laws_FnManifestChanges.j3 k y0) (laws_FnManifestChanges.j3 (k + 1) y0)) ∧ (∀ y0 y1 y2 y3 y4,LeO (laws_FnManifestChanges.l0 k y0 y1 y2 y3 y4) (laws_FnManifestChanges.l0 (k + 1) y0 y1 y2 y3 y4))
 | 0 => ⟨fun _ _ _ _ _ _ _ r h => by simp [laws_FnManifestChanges.j0] at h,fun _ _ _ _ _ _ _ _ _ r h => by simp [laws_FnManifestChanges.j1] at h,fun _ _ _ _ _ _ _ r h => by simp [laws_FnManifestChanges.j2] at h,fun _ r h => by simp [laws_FnManifestChanges.j3] at h,fun _ _ _ _ _ r h => by simp [laws_FnManifestChanges.l0] at h⟩
 | k + 1 => by
  obtain ⟨ih0,ih1,ih2,ih3,ih4⟩:=laws_FnManifestChanges.mono_l k
  refine ⟨?_,?_,?_,?_,?_⟩
  ·intro y0 y1 y2 y3 y4 y5 y6
   unfold laws_FnManifestChanges.j0
   repeat' first
   | (with_reducible exact ih0 _ _ _ _ _ _ _)
   | (with_reducible exact ih1 _ _ _ _ _ _ _ _ _)
   | (with_reducible exact ih2 _ _ _ _ _ _ _)
   | (with_reducible exact ih3 _)
   | (with_reducible exact ih4 _ _ _ _ _)
   | (with_reducible exact impl_ManifestChanges.mono _ _ _)
   | (with_reducible exact impl_MergeManifests.mono _ _ _)
   | (with_reducible exact impl_PortCounts.mono _ _)
   | (with_reducible exact impl_SplitManifest.mono _ _ _)
   | (with_reducible exact laws_vList.mono _ _ _)
   | (with_reducible exact laws_vTexts.mono _ _ _)
   | (with_reducible exact spec_DrawManifestChanges.mono _ _)
   | (with_reducible exact spec_ManifestChanges.mono _ _ _)
   | (with_reducible exact spec_MergeManifests.mono _ _ _)
   | (with_reducible exact LeO.refl _)
   | (with_reducible exact LeO.none _)
   | (with_reducible refine LeO.ite ?_ ?_)
   | (with_reducible refine LeO.bind ?_ (fun _ => ?_))
   | exact ih0 _ _ _ _ _ _ _
   | exact ih1 _ _ _ _ _ _ _ _ _
   | exact ih2 _ _ _ _ _ _ _
   | exact ih3 _
   | exact ih4 _ _ _ _ _
   | exact impl_ManifestChanges.mono _ _ _
   | exact impl_MergeManifests.mono _ _ _
   | exact impl_PortCounts.mono _ _
   | exact impl_SplitManifest.mono _ _ _
   | exact laws_vList.mono _ _ _
   | exact laws_vTexts.mono _ _ _
   | exact spec_DrawManifestChanges.mono _ _
   | exact spec_ManifestChanges.mono _ _ _
   | exact spec_MergeManifests.mono _ _ _
   | exact LeO.none _
   | refine LeO.ite ?_ ?_
   | refine LeO.bind ?_ (fun _ => ?_)
  ·intro y0 y1 y2 y3 y4 y5 y6 y7 y8
   unfold laws_FnManifestChanges.j1
   repeat' first
   | (with_reducible exact ih0 _ _ _ _ _ _ _)
   | (with_reducible exact ih1 _ _ _ _ _ _ _ _ _)
   | (with_reducible exact ih2 _ _ _ _ _ _ _)
   | (with_reducible exact ih3 _)
   | (with_reducible exact ih4 _ _ _ _ _)
   | (with_reducible exact impl_ManifestChanges.mono _ _ _)
   | (with_reducible exact impl_MergeManifests.mono _ _ _)
   | (with_reducible exact impl_PortCounts.mono _ _)
   | (with_reducible exact impl_SplitManifest.mono _ _ _)
   | (with_reducible exact laws_vList.mono _ _ _)
   | (with_reducible exact laws_vTexts.mono _ _ _)
   | (with_reducible exact spec_DrawManifestChanges.mono _ _)
   | (with_reducible exact spec_ManifestChanges.mono _ _ _)
   | (with_reducible exact spec_MergeManifests.mono _ _ _)
   | (with_reducible exact LeO.refl _)
   | (with_reducible exact LeO.none _)
   | (with_reducible refine LeO.ite ?_ ?_)
   | (with_reducible refine LeO.bind ?_ (fun _ => ?_))
   | exact ih0 _ _ _ _ _ _ _
   | exact ih1 _ _ _ _ _ _ _ _ _
   | exact ih2 _ _ _ _ _ _ _
   | exact ih3 _
   | exact ih4 _ _ _ _ _
   | exact impl_ManifestChanges.mono _ _ _
   | exact impl_MergeManifests.mono _ _ _
   | exact impl_PortCounts.mono _ _
   | exact impl_SplitManifest.mono _ _ _
   | exact laws_vList.mono _ _ _
   | exact laws_vTexts.mono _ _ _
   | exact spec_DrawManifestChanges.mono _ _
   | exact spec_ManifestChanges.mono _ _ _
   | exact spec_MergeManifests.mono _ _ _
   | exact LeO.none _
   | refine LeO.ite ?_ ?_
   | refine LeO.bind ?_ (fun _ => ?_)
  ·intro y0 y1 y2 y3 y4 y5 y6
   unfold laws_FnManifestChanges.j2
   repeat' first
   | (with_reducible exact ih0 _ _ _ _ _ _ _)
   | (with_reducible exact ih1 _ _ _ _ _ _ _ _ _)
   | (with_reducible exact ih2 _ _ _ _ _ _ _)
   | (with_reducible exact ih3 _)
   | (with_reducible exact ih4 _ _ _ _ _)
   | (with_reducible exact impl_ManifestChanges.mono _ _ _)
   | (with_reducible exact impl_MergeManifests.mono _ _ _)
   | (with_reducible exact impl_PortCounts.mono _ _)
   | (with_reducible exact impl_SplitManifest.mono _ _ _)
   | (with_reducible exact laws_vList.mono _ _ _)
   | (with_reducible exact laws_vTexts.mono _ _ _)
   | (with_reducible exact spec_DrawManifestChanges.mono _ _)
   | (with_reducible exact spec_ManifestChanges.mono _ _ _)
   | (with_reducible exact spec_MergeManifests.mono _ _ _)
   | (with_reducible exact LeO.refl _)
   | (with_reducible exact LeO.none _)
   | (with_reducible refine LeO.ite ?_ ?_)
   | (with_reducible refine LeO.bind ?_ (fun _ => ?_))
   | exact ih0 _ _ _ _ _ _ _
   | exact ih1 _ _ _ _ _ _ _ _ _
   | exact ih2 _ _ _ _ _ _ _
   | exact ih3 _
   | exact ih4 _ _ _ _ _
   | exact impl_ManifestChanges.mono _ _ _
   | exact impl_MergeManifests.mono _ _ _
   | exact impl_PortCounts.mono _ _
   | exact impl_SplitManifest.mono _ _ _
   | exact laws_vList.mono _ _ _
   | exact laws_vTexts.mono _ _ _
   | exact spec_DrawManifestChanges.mono _ _
   | exact spec_ManifestChanges.mono _ _ _
   | exact spec_MergeManifests.mono _ _ _
   | exact LeO.none _
   | refine LeO.ite ?_ ?_
   | refine LeO.bind ?_ (fun _ => ?_)
  ·intro y0
   unfold laws_FnManifestChanges.j3
   repeat' first
   | (with_reducible exact ih0 _ _ _ _ _ _ _)
   | (with_reducible exact ih1 _ _ _ _ _ _ _ _ _)
   | (with_reducible exact ih2 _ _ _ _ _ _ _)
   | (with_reducible exact ih3 _)
   | (with_reducible exact ih4 _ _ _ _ _)
   | (with_reducible exact impl_ManifestChanges.mono _ _ _)
   | (with_reducible exact impl_MergeManifests.mono _ _ _)
   | (with_reducible exact impl_PortCounts.mono _ _)
   | (with_reducible exact impl_SplitManifest.mono _ _ _)
   | (with_reducible exact laws_vList.mono _ _ _)
   | (with_reducible exact laws_vTexts.mono _ _ _)
   | (with_reducible exact spec_DrawManifestChanges.mono _ _)
   | (with_reducible exact spec_ManifestChanges.mono _ _ _)
   | (with_reducible exact spec_MergeManifests.mono _ _ _)
   | (with_reducible exact LeO.refl _)
   | (with_reducible exact LeO.none _)
   | (with_reducible refine LeO.ite ?_ ?_)
   | (with_reducible refine LeO.bind ?_ (fun _ => ?_))
   | exact ih0 _ _ _ _ _ _ _
   | exact ih1 _ _ _ _ _ _ _ _ _
   | exact ih2 _ _ _ _ _ _ _
   | exact ih3 _
   | exact ih4 _ _ _ _ _
   | exact impl_ManifestChanges.mono _ _ _
   | exact impl_MergeManifests.mono _ _ _
   | exact impl_PortCounts.mono _ _
   | exact impl_SplitManifest.mono _ _ _
   | exact laws_vList.mono _ _ _
   | exact laws_vTexts.mono _ _ _
   | exact spec_DrawManifestChanges.mono _ _
   | exact spec_ManifestChanges.mono _ _ _
   | exact spec_MergeManifests.mono _ _ _
   | exact LeO.none _
   | refine LeO.ite ?_ ?_
   | refine LeO.bind ?_ (fun _ => ?_)
  ·intro y0 y1 y2 y3 y4
   unfold laws_FnManifestChanges.l0
   repeat' first
   | (with_reducible exact ih0 _ _ _ _ _ _ _)
   | (with_reducible exact ih1 _ _ _ _ _ _ _ _ _)
   | (with_reducible exact ih2 _ _ _ _ _ _ _)
   | (with_reducible exact ih3 _)
   | (with_reducible exact ih4 _ _ _ _ _)
   | (with_reducible exact impl_ManifestChanges.mono _ _ _)
   | (with_reducible exact impl_MergeManifests.mono _ _ _)
   | (with_reducible exact impl_PortCounts.mono _ _)
   | (with_reducible exact impl_SplitManifest.mono _ _ _)
   | (with_reducible exact laws_vList.mono _ _ _)
   | (with_reducible exact laws_vTexts.mono _ _ _)
   | (with_reducible exact spec_DrawManifestChanges.mono _ _)
   | (with_reducible exact spec_ManifestChanges.mono _ _ _)
   | (with_reducible exact spec_MergeManifests.mono _ _ _)
   | (with_reducible exact LeO.refl _)
   | (with_reducible exact LeO.none _)
   | (with_reducible refine LeO.ite ?_ ?_)
   | (with_reducible refine LeO.bind ?_ (fun _ => ?_))
   | exact ih0 _ _ _ _ _ _ _
   | exact ih1 _ _ _ _ _ _ _ _ _
   | exact ih2 _ _ _ _ _ _ _
   | exact ih3 _
   | exact ih4 _ _ _ _ _
   | exact impl_ManifestChanges.mono _ _ _
   | exact impl_MergeManifests.mono _ _ _
   | exact impl_PortCounts.mono _ _
   | exact impl_SplitManifest.mono _ _ _
   | exact laws_vList.mono _ _ _
   | exact laws_vTexts.mono _ _ _
   | exact spec_DrawManifestChanges.mono _ _
   | exact spec_ManifestChanges.mono _ _ _
   | exact spec_MergeManifests.mono _ _ _
   | exact LeO.none _
   | refine LeO.ite ?_ ?_
   | refine LeO.bind ?_ (fun _ => ?_)
theorem laws_FnManifestChanges.mono : ∀ a0 k,LeO (laws_FnManifestChanges.f k a0) (laws_FnManifestChanges.f (k + 1) a0):=by
 intro a0 k
 obtain ⟨ih0,ih1,ih2,ih3,ih4⟩:=laws_FnManifestChanges.mono_l k
 unfold laws_FnManifestChanges.f
 repeat' first
   | (with_reducible exact ih0 _ _ _ _ _ _ _)
   | (with_reducible exact ih1 _ _ _ _ _ _ _ _ _)
   | (with_reducible exact ih2 _ _ _ _ _ _ _)
   | (with_reducible exact ih3 _)
   | (with_reducible exact ih4 _ _ _ _ _)
   | (with_reducible exact impl_ManifestChanges.mono _ _ _)
   | (with_reducible exact impl_MergeManifests.mono _ _ _)
   | (with_reducible exact impl_PortCounts.mono _ _)
   | (with_reducible exact impl_SplitManifest.mono _ _ _)
   | (with_reducible exact laws_vList.mono _ _ _)
   | (with_reducible exact laws_vTexts.mono _ _ _)
   | (with_reducible exact spec_DrawManifestChanges.mono _ _)
   | (with_reducible exact spec_ManifestChanges.mono _ _ _)
   | (with_reducible exact spec_MergeManifests.mono _ _ _)
   | (with_reducible exact LeO.refl _)
   | (with_reducible exact LeO.none _)
   | (with_reducible refine LeO.ite ?_ ?_)
   | (with_reducible refine LeO.bind ?_ (fun _ => ?_))
   | exact ih0 _ _ _ _ _ _ _
   | exact ih1 _ _ _ _ _ _ _ _ _
   | exact ih2 _ _ _ _ _ _ _
   | exact ih3 _
   | exact ih4 _ _ _ _ _
   | exact impl_ManifestChanges.mono _ _ _
   | exact impl_MergeManifests.mono _ _ _
   | exact impl_PortCounts.mono _ _
   | exact impl_SplitManifest.mono _ _ _
   | exact laws_vList.mono _ _ _
   | exact laws_vTexts.mono _ _ _
   | exact spec_DrawManifestChanges.mono _ _
   | exact spec_ManifestChanges.mono _ _ _
   | exact spec_MergeManifests.mono _ _ _
   | exact LeO.none _
   | refine LeO.ite ?_ ?_
   | refine LeO.bind ?_ (fun _ => ?_)
set_option maxHeartbeats 8000000 in
set_option maxRecDepth 100000 in
theorem laws_FnManifestChanges.calls (k : Nat) (A0 : Option Addr) (c0 : Nat) (l0 : List Int) (r : Bool) (w : World) (hr0 : Kd.C (Kd.int .u8) w A0 l0.length l0) (hc0 : l0.length ≤ c0) (h : laws_FnManifestChanges.f k l0 = some r) :
  Calls Try.prog 11 #[.slice A0 l0.length c0] w fun e w' => e = .returned (.bool r) ∧ Below w.heap.size w w':=by
 have HR0:=Aside0.mk hr0
 have HC0:=Aside0.mk hc0
 clear hr0 hc0
 have HB:=Aside0.mk (Below.refl w.heap.size w)
 have H : ((laws_vBig.f l0).bind fun t1527 => (if t1527 = true then (some true) else ((spec_DrawManifestChanges.f k l0).bind fun bt1528 => ((impl_ManifestChanges.f k bt1528.1 bt1528.2).bind fun bt1534 => ((spec_ManifestChanges.f k bt1528.1 bt1528.2).bind fun bt1544 => (if (bt1534.2.2.2 != bt1544.2.2.2) = true then (none) else ((laws_vTexts.f k bt1534.1 bt1544.1).bind fun t1554 => (if t1554 = true then ((laws_vTexts.f k bt1534.2.1 bt1544.2.1).bind fun t1555 => (if t1555 = true then ((laws_vTexts.f k bt1534.2.2.1 bt1544.2.2.1).bind fun t1556 => (laws_FnManifestChanges.j0 k bt1528.1 bt1528.2 bt1534.1 bt1534.2.1 bt1534.2.2.1 bt1534.2.2.2 (!t1556))) else (none))) else (none))))))))) = some r:=h
 clear h
 replace H:=Option.bind_eq_some_iff.mp H
 obtain ⟨t1527,A20,H⟩:=H
 replace H : (if t1527 = true then (some true) else ((spec_DrawManifestChanges.f k l0).bind fun bt1528 => ((impl_ManifestChanges.f k bt1528.1 bt1528.2).bind fun bt1534 => ((spec_ManifestChanges.f k bt1528.1 bt1528.2).bind fun bt1544 => (if (bt1534.2.2.2 != bt1544.2.2.2) = true then (none) else ((laws_vTexts.f k bt1534.1 bt1544.1).bind fun t1554 => (if t1554 = true then ((laws_vTexts.f k bt1534.2.1 bt1544.2.1).bind fun t1555 => (if t1555 = true then ((laws_vTexts.f k bt1534.2.2.1 bt1544.2.2.1).bind fun t1556 => (laws_FnManifestChanges.j0 k bt1528.1 bt1528.2 bt1534.1 bt1534.2.1 bt1534.2.2.1 bt1534.2.2.2 (!t1556))) else (none))) else (none)))))))) = some r:=H
 have A2:=Aside0.mk A20
 clear A20
 by_cases c3 : t1527 = true
 ·subst c3
  have H1 : (some true) = some r:=by rw [if_pos rfl] at H; exact H
  clear H
  have H:=H1
  clear H1
  obtain rfl:=Option.some.inj H
  go_enter Try.func11,Try.ntmps11
  go_wp2_with ((((with_reducible refine gate_callee (f:=35) rfl ?_); refine goesL_ (some 33) rfl rfl Try.func35 (by kernel_rfl) rfl #[.slice A0 l0.length c0] rfl (by (try simp only [List.map_toArray,List.map_cons,List.map_nil]); (rfl)) ?_; (with_reducible refine (laws_vBig.calls _ _ l0 true _ ?side1 ?side2 A2.out).mono ?_); (case side1 => repeat (exact HR0.out)); (case side2 => exact HC0.out); rintro e w' ⟨rfl,⟨nd,rfl⟩⟩; refine ⟨_,rfl,?_⟩)))
  go_ret
  exact ⟨by (rfl),by repeat (with_reducible first|exact HB.out|apply pw_below_drewN)⟩
 ·replace c3:=Bool.eq_false_iff.mpr c3
  subst c3
  have H1 : ((spec_DrawManifestChanges.f k l0).bind fun bt1528 => ((impl_ManifestChanges.f k bt1528.1 bt1528.2).bind fun bt1534 => ((spec_ManifestChanges.f k bt1528.1 bt1528.2).bind fun bt1544 => (if (bt1534.2.2.2 != bt1544.2.2.2) = true then (none) else ((laws_vTexts.f k bt1534.1 bt1544.1).bind fun t1554 => (if t1554 = true then ((laws_vTexts.f k bt1534.2.1 bt1544.2.1).bind fun t1555 => (if t1555 = true then ((laws_vTexts.f k bt1534.2.2.1 bt1544.2.2.1).bind fun t1556 => (laws_FnManifestChanges.j0 k bt1528.1 bt1528.2 bt1534.1 bt1534.2.1 bt1534.2.2.1 bt1534.2.2.2 (!t1556))) else (none))) else (none))))))) = some r:=by rw [if_neg (show ¬ (false = true) by decide)] at H; exact H
  clear H
  have H:=H1
  clear H1
  replace H:=Option.bind_eq_some_iff.mp H
  obtain ⟨⟨t1528,t1529⟩,A40,H⟩:=H
  replace H : ((impl_ManifestChanges.f k t1528 t1529).bind fun bt1534 => ((spec_ManifestChanges.f k t1528 t1529).bind fun bt1544 => (if (bt1534.2.2.2 != bt1544.2.2.2) = true then (none) else ((laws_vTexts.f k bt1534.1 bt1544.1).bind fun t1554 => (if t1554 = true then ((laws_vTexts.f k bt1534.2.1 bt1544.2.1).bind fun t1555 => (if t1555 = true then ((laws_vTexts.f k bt1534.2.2.1 bt1544.2.2.1).bind fun t1556 => (laws_FnManifestChanges.j0 k t1528 t1529 bt1534.1 bt1534.2.1 bt1534.2.2.1 bt1534.2.2.2 (!t1556))) else (none))) else (none)))))) = some r:=H
  have A4:=Aside0.mk A40
  clear A40
  replace H:=Option.bind_eq_some_iff.mp H
  obtain ⟨⟨t1534,t1535,t1536,t1537⟩,A50,H⟩:=H
  replace H : ((spec_ManifestChanges.f k t1528 t1529).bind fun bt1544 => (if (t1537 != bt1544.2.2.2) = true then (none) else ((laws_vTexts.f k t1534 bt1544.1).bind fun t1554 => (if t1554 = true then ((laws_vTexts.f k t1535 bt1544.2.1).bind fun t1555 => (if t1555 = true then ((laws_vTexts.f k t1536 bt1544.2.2.1).bind fun t1556 => (laws_FnManifestChanges.j0 k t1528 t1529 t1534 t1535 t1536 t1537 (!t1556))) else (none))) else (none))))) = some r:=H
  have A5:=Aside0.mk A50
  clear A50
  replace H:=Option.bind_eq_some_iff.mp H
  obtain ⟨⟨t1544,t1545,t1546,t1547⟩,A60,H⟩:=H
  replace H : (if (t1537 != t1547) = true then (none) else ((laws_vTexts.f k t1534 t1544).bind fun t1554 => (if t1554 = true then ((laws_vTexts.f k t1535 t1545).bind fun t1555 => (if t1555 = true then ((laws_vTexts.f k t1536 t1546).bind fun t1556 => (laws_FnManifestChanges.j0 k t1528 t1529 t1534 t1535 t1536 t1537 (!t1556))) else (none))) else (none)))) = some r:=H
  have A6:=Aside0.mk A60
  clear A60
  have HC7:=Aside0.mk H
  clear H
  go_enter Try.func11,Try.ntmps11
  go_upto_region 6 with (first|((with_reducible refine gate_callee (f:=35) rfl ?_); refine goesL_ (some 33) rfl rfl Try.func35 (by kernel_rfl) rfl #[.slice A0 l0.length c0] rfl (by (try simp only [List.map_toArray,List.map_cons,List.map_nil]); (rfl)) ?_; (with_reducible refine (laws_vBig.calls _ _ l0 false _ ?side1 ?side2 A2.out).mono ?_); (case side1 => repeat (exact HR0.out)); (case side2 => exact HC0.out); rintro e w' ⟨rfl,⟨nd,rfl⟩⟩; refine ⟨_,rfl,?_⟩)|((with_reducible refine gate_callee (f:=78) rfl ?_); refine goesL_ (some 36) rfl rfl Try.func78 (by kernel_rfl) rfl #[.slice A0 l0.length c0] rfl (by (try simp only [List.map_toArray,List.map_cons,List.map_nil]); (rfl)) ?_; (with_reducible refine (spec_DrawManifestChanges.calls k _ _ l0 t1528 t1529 _ ?side1 ?side2 A4.out).mono ?_); (case side1 => repeat (exact HR0.out)); (case side2 => exact HC0.out); rintro e w8 ⟨v1530,v1532,rfl,ho0,ho1,hb⟩; refine ⟨_,rfl,?_⟩; have n0_:=Aside0.mk (Kd.R_lower ho0 (below_size (by repeat (with_reducible first|exact HB.out|apply pw_below_drewN)))); have n1_:=Aside0.mk (Kd.R_lower ho1 (below_size (by repeat (with_reducible first|exact HB.out|apply pw_below_drewN)))); have n2_:=Aside0.mk (below_step (by repeat (with_reducible first|exact HB.out|apply pw_below_drewN)) hb); clear HB; have HO1531:=n0_; have HO1533:=n1_; have HB:=n2_; clear n0_ n1_ n2_; (try clear hb); (try clear hb2); (try clear hk); (try clear hi); (try clear ho0); (try clear ho1); obtain ⟨Ao9,co9,eo9⟩:=Kd.R_slice HO1531.out; subst eo9; obtain ⟨Ao10,co10,eo10⟩:=Kd.R_slice HO1533.out; subst eo10)|((with_reducible refine gate_callee (f:=79) rfl ?_); refine goesL_ (some 42) rfl rfl Try.func79 (by kernel_rfl) rfl #[.slice Ao9 t1528.length co9,.slice Ao10 t1529.length co10] rfl (by (try simp only [List.map_toArray,List.map_cons,List.map_nil]); (rfl)) ?_; (with_reducible refine (impl_ManifestChanges.calls k _ _ t1528 _ _ t1529 t1534 t1535 t1536 t1537 _ ?side1 ?side2 ?side3 ?side4 A5.out).mono ?_); (case side1 => repeat ((exact (Kd.R_reads' HO1531.out).2.2))); (case side2 => exact (Kd.R_reads' HO1531.out).2.1); (case side3 => repeat ((exact (Kd.R_reads' HO1533.out).2.2))); (case side4 => exact (Kd.R_reads' HO1533.out).2.1); rintro e w11 ⟨v1538,v1540,v1542,rfl,ho0,ho1,ho2,hb⟩; refine ⟨_,rfl,?_⟩; have n0_:=Aside0.mk (Kd.R_below (by exact HO1531.out) hb); have n1_:=Aside0.mk (Kd.R_below (by exact HO1533.out) hb); have n2_:=Aside0.mk (Kd.R_lower ho0 (below_size (by repeat (((with_reducible (exact HB.out))))))); have n3_:=Aside0.mk (Kd.R_lower ho1 (below_size (by repeat (((with_reducible (exact HB.out))))))); have n4_:=Aside0.mk (Kd.R_lower ho2 (below_size (by repeat (((with_reducible (exact HB.out))))))); have n5_:=Aside0.mk (below_step (by repeat (((with_reducible (exact HB.out))))) hb); clear HO1531; clear HO1533; clear HB; have HO1531:=n0_; have HO1533:=n1_; have HO1539:=n2_; have HO1541:=n3_; have HO1543:=n4_; have HB:=n5_; clear n0_ n1_ n2_ n3_ n4_ n5_; (try clear hb); (try clear hb2); (try clear hk); (try clear hi); (try clear ho0); (try clear ho1); (try clear ho2))|((with_reducible refine gate_callee (f:=80) rfl ?_); refine goesL_ (some 50) rfl rfl Try.func80 (by kernel_rfl) rfl #[.slice Ao9 t1528.length co9,.slice Ao10 t1529.length co10] rfl (by (try simp only [List.map_toArray,List.map_cons,List.map_nil]); (rfl)) ?_; (with_reducible refine (spec_ManifestChanges.calls k _ _ t1528 _ _ t1529 t1544 t1545 t1546 t1547 _ ?side1 ?side2 ?side3 ?side4 A6.out).mono ?_); (case side1 => repeat ((exact (Kd.R_reads' HO1531.out).2.2))); (case side2 => exact (Kd.R_reads' HO1531.out).2.1); (case side3 => repeat ((exact (Kd.R_reads' HO1533.out).2.2))); (case side4 => exact (Kd.R_reads' HO1533.out).2.1); rintro e w12 ⟨v1548,v1550,v1552,rfl,ho0,ho1,ho2,hb⟩; refine ⟨_,rfl,?_⟩; have n0_:=Aside0.mk (Kd.R_below (by exact HO1531.out) hb); have n1_:=Aside0.mk (Kd.R_below (by exact HO1533.out) hb); have n2_:=Aside0.mk (Kd.R_mono (Kd.R_told (Kd.R_told (Kd.R_told (Kd.R_old (by exact HO1539.out) hb) (Kd.R_base ho0)) (Kd.R_base ho1)) (Kd.R_base ho2)) (fun _ h_ => h_.1)); have n3_:=Aside0.mk (Kd.R_mono (Kd.R_told (Kd.R_told (Kd.R_told (Kd.R_old (by exact HO1541.out) hb) (Kd.R_base ho0)) (Kd.R_base ho1)) (Kd.R_base ho2)) (fun _ h_ => h_.1)); have n4_:=Aside0.mk (Kd.R_mono (Kd.R_told (Kd.R_told (Kd.R_told (Kd.R_old (by exact HO1543.out) hb) (Kd.R_base ho0)) (Kd.R_base ho1)) (Kd.R_base ho2)) (fun _ h_ => h_.1)); have n5_:=Aside0.mk (Kd.R_lower (Kd.R_new' (Kd.R_new' (Kd.R_new' ho0 (Kd.R_lt (by exact HO1539.out))) (Kd.R_lt (by exact HO1541.out))) (Kd.R_lt (by exact HO1543.out))) (below_size (by repeat (((with_reducible (exact HB.out))))))); have n6_:=Aside0.mk (Kd.R_lower (Kd.R_new' (Kd.R_new' (Kd.R_new' ho1 (Kd.R_lt (by exact HO1539.out))) (Kd.R_lt (by exact HO1541.out))) (Kd.R_lt (by exact HO1543.out))) (below_size (by repeat (((with_reducible (exact HB.out))))))); have n7_:=Aside0.mk (Kd.R_lower (Kd.R_new' (Kd.R_new' (Kd.R_new' ho2 (Kd.R_lt (by exact HO1539.out))) (Kd.R_lt (by exact HO1541.out))) (Kd.R_lt (by exact HO1543.out))) (below_size (by repeat (((with_reducible (exact HB.out))))))); have n8_:=Aside0.mk (below_step (by repeat (((with_reducible (exact HB.out))))) hb); clear HO1531; clear HO1533; clear HO1539; clear HO1541; clear HO1543; clear HB; have HO1531:=n0_; have HO1533:=n1_; have HO1539:=n2_; have HO1541:=n3_; have HO1543:=n4_; have HO1549:=n5_; have HO1551:=n6_; have HO1553:=n7_; have HB:=n8_; clear n0_ n1_ n2_ n3_ n4_ n5_ n6_ n7_ n8_; (try clear hb); (try clear hb2); (try clear hk); (try clear hi); (try clear ho0); (try clear ho1); (try clear ho2)))
  (try simp only [Act.put,List.setIfInBounds_toArray,List.set_cons_zero,List.set_cons_succ])
  go_cut [75] (fun v75 wc => ∃ (kq : Nat) (x75_6 : Bool),v75 = .bool x75_6 ∧ Aside0 (laws_FnManifestChanges.j0 kq t1528 t1529 t1534 t1535 t1536 t1537 x75_6 = some r) ∧ Aside0 (kq ≤ k) ∧ Aside0 (Kd.R k89 89 wc w.heap.size (fun k_ => some k_ ≠ ((.slice Ao10 t1529.length co10) : Value).ownBlock) (.slice Ao9 t1528.length co9) t1528) ∧ Aside0 (Kd.R k89 89 wc w.heap.size (fun k_ => some k_ ≠ ((.slice Ao9 t1528.length co9) : Value).ownBlock) (.slice Ao10 t1529.length co10) t1529) ∧ Aside0 (Kd.R Kd.string 9 wc w.heap.size (fun k_ => some k_ ≠ (v1540 : Value).ownBlock ∧ some k_ ≠ (v1542 : Value).ownBlock) v1538 t1534) ∧ Aside0 (Kd.R Kd.string 9 wc w.heap.size (fun k_ => some k_ ≠ (v1538 : Value).ownBlock ∧ some k_ ≠ (v1542 : Value).ownBlock) v1540 t1535) ∧ Aside0 (Kd.R Kd.string 9 wc w.heap.size (fun k_ => some k_ ≠ (v1538 : Value).ownBlock ∧ some k_ ≠ (v1540 : Value).ownBlock) v1542 t1536) ∧ Aside0 (Below w.heap.size w wc))
  case first =>
   have H:=HC7.out
   clear HC7
   by_cases c13 : (t1537 != t1547) = true
   ·rw [if_pos c13] at H
    have c13b0 : (t1537 != t1547) = true:=c13
    (try (have c13b1 : decide (t1537 = t1547) = false:=by simpa using c13))
    (try (have c13b2 : (t1537 == t1547) = false:=by simpa using c13))
    (try (have c13b3 : ¬ (t1537 = t1547):=by simpa using c13))
    clear c13
    (skip)
    exact absurd H (by simp)
   ·rw [if_neg c13] at H
    have c13b0 : (t1537 != t1547) = false:=by simpa using c13
    (try (have c13b1 : decide (t1537 = t1547) = true:=by simpa using c13))
    (try (have c13b2 : (t1537 == t1547) = true:=by simpa using c13))
    clear c13
    (skip)
    replace H:=Option.bind_eq_some_iff.mp H
    obtain ⟨t1554,A140,H⟩:=H
    replace H : (if t1554 = true then ((laws_vTexts.f k t1535 t1545).bind fun t1555 => (if t1555 = true then ((laws_vTexts.f k t1536 t1546).bind fun t1556 => (laws_FnManifestChanges.j0 k t1528 t1529 t1534 t1535 t1536 t1537 (!t1556))) else (none))) else (none)) = some r:=H
    have A14:=Aside0.mk A140
    clear A140
    by_cases c15 : t1554 = true
    ·subst c15
     have H1 : ((laws_vTexts.f k t1535 t1545).bind fun t1555 => (if t1555 = true then ((laws_vTexts.f k t1536 t1546).bind fun t1556 => (laws_FnManifestChanges.j0 k t1528 t1529 t1534 t1535 t1536 t1537 (!t1556))) else (none))) = some r:=by rw [if_pos rfl] at H; exact H
     clear H
     have H:=H1
     clear H1
     replace H:=Option.bind_eq_some_iff.mp H
     obtain ⟨t1555,A160,H⟩:=H
     replace H : (if t1555 = true then ((laws_vTexts.f k t1536 t1546).bind fun t1556 => (laws_FnManifestChanges.j0 k t1528 t1529 t1534 t1535 t1536 t1537 (!t1556))) else (none)) = some r:=H
     have A16:=Aside0.mk A160
     clear A160
     by_cases c17 : t1555 = true
     ·subst c17
      have H1 : ((laws_vTexts.f k t1536 t1546).bind fun t1556 => (laws_FnManifestChanges.j0 k t1528 t1529 t1534 t1535 t1536 t1537 (!t1556))) = some r:=by rw [if_pos rfl] at H; exact H
      clear H
      have H:=H1
      clear H1
      replace H:=Option.bind_eq_some_iff.mp H
      obtain ⟨t1556,A180,H⟩:=H
      replace H : (laws_FnManifestChanges.j0 k t1528 t1529 t1534 t1535 t1536 t1537 (!t1556)) = some r:=H
      have A18:=Aside0.mk A180
      clear A180
      have H':=Aside0.mk H
      clear H
      obtain ⟨Ao19,co19,eo19⟩:=Kd.R_slice HO1539.out
      subst eo19
      obtain ⟨Ao20,co20,eo20⟩:=Kd.R_slice HO1549.out
      subst eo20
      go_wp2_with (first|(go_at_call 81; (with_reducible refine (laws_vTexts.calls k _ _ t1534 _ _ t1544 true _ ?side1 ?side2 ?side3 ?side4 A14.out).mono ?_); (case side1 => repeat ((exact (Kd.R_reads' HO1539.out).2.2))); (case side2 => exact (Kd.R_reads' HO1539.out).2.1); (case side3 => repeat ((exact (Kd.R_reads' HO1549.out).2.2))); (case side4 => exact (Kd.R_reads' HO1549.out).2.1); rintro e w' ⟨rfl,⟨nd,rfl⟩⟩; obtain ⟨Ao21,co21,eo21⟩:=Kd.R_slice HO1541.out; subst eo21; obtain ⟨Ao22,co22,eo22⟩:=Kd.R_slice HO1551.out; subst eo22)|(go_at_call 81; (with_reducible refine (laws_vTexts.calls k _ _ t1535 _ _ t1545 true _ ?side1 ?side2 ?side3 ?side4 A16.out).mono ?_); (case side1 => repeat ((exact (Kd.R_reads' HO1541.out).2.2))); (case side2 => exact (Kd.R_reads' HO1541.out).2.1); (case side3 => repeat ((exact (Kd.R_reads' HO1551.out).2.2))); (case side4 => exact (Kd.R_reads' HO1551.out).2.1); rintro e w' ⟨rfl,⟨nd,rfl⟩⟩; obtain ⟨Ao23,co23,eo23⟩:=Kd.R_slice HO1543.out; subst eo23; obtain ⟨Ao24,co24,eo24⟩:=Kd.R_slice HO1553.out; subst eo24)|(go_at_call 81; (with_reducible refine (laws_vTexts.calls k _ _ t1536 _ _ t1546 t1556 _ ?side1 ?side2 ?side3 ?side4 A18.out).mono ?_); (case side1 => repeat ((exact (Kd.R_reads' HO1543.out).2.2))); (case side2 => exact (Kd.R_reads' HO1543.out).2.1); (case side3 => repeat ((exact (Kd.R_reads' HO1553.out).2.2))); (case side4 => exact (Kd.R_reads' HO1553.out).2.1); rintro e w' ⟨rfl,⟨nd,rfl⟩⟩))
      go_meet
      case rel => exact ⟨_,(!t1556),(by (rfl)),H',⟨by (omega)⟩,⟨by (with_reducible repeat (apply Kd.R_drewN)); exact HO1531.out⟩,⟨by (with_reducible repeat (apply Kd.R_drewN)); exact HO1533.out⟩,⟨by (with_reducible repeat (apply Kd.R_drewN)); exact Kd.R_mono HO1539.out (fun _ hk => ⟨hk.1.1.1.1,hk.1.1.1.2⟩)⟩,⟨by (with_reducible repeat (apply Kd.R_drewN)); exact Kd.R_mono HO1541.out (fun _ hk => ⟨hk.1.1.1.1,hk.1.1.1.2⟩)⟩,⟨by (with_reducible repeat (apply Kd.R_drewN)); exact Kd.R_mono HO1543.out (fun _ hk => ⟨hk.1.1.1.1,hk.1.1.1.2⟩)⟩,⟨by repeat (with_reducible first|exact HB.out|apply pw_below_drewN)⟩⟩
     ·replace c17:=Bool.eq_false_iff.mpr c17
      subst c17
      have H1 : (none) = some r:=by rw [if_neg (show ¬ (false = true) by decide)] at H; exact H
      clear H
      have H:=H1
      clear H1
      exact absurd H (by simp)
    ·replace c15:=Bool.eq_false_iff.mpr c15
     subst c15
     have H1 : (none) = some r:=by rw [if_neg (show ¬ (false = true) by decide)] at H; exact H
     clear H
     have H:=H1
     clear H1
     exact absurd H (by simp)
  case rest =>
   clear HC7
   try clear c1
   try clear p2
   try clear c3
   try clear c7
   try clear c8
   try clear c11
   try clear c13
   try clear c13b0
   try clear c13b1
   try clear c13b2
   try clear c15
   try clear c17
   obtain ⟨kq,x75_6,rfl,HA,HJ6,HO_3,HO_4,HO_5,HO_6,HO_7,HB⟩:=hcut
   cases kq with
   | zero => exact absurd HA.out (by simp [laws_FnManifestChanges.j0])
   | succ kj6 =>
    have H:=HA.out
    clear HA
    simp only [laws_FnManifestChanges.j0] at H
    by_cases c31 : x75_6 = true
    ·subst c31
     have H1 : (none) = some r:=by rw [if_pos rfl] at H; exact H
     clear H
     have H:=H1
     clear H1
     exact absurd H (by simp)
    ·replace c31:=Bool.eq_false_iff.mpr c31
     subst c31
     have H1 : ((impl_MergeManifests.f kj6 t1528 t1529).bind fun bt1557 => ((spec_MergeManifests.f kj6 t1528 t1529).bind fun bt1561 => (if (bt1557.2 != bt1561.2) = true then (none) else ((laws_vList.f kj6 bt1557.1 bt1561.1).bind fun t1565 => (laws_FnManifestChanges.j1 kj6 t1528 t1529 t1534 t1535 t1536 t1537 bt1557.1 bt1557.2 (!t1565)))))) = some r:=by rw [if_neg (show ¬ (false = true) by decide)] at H; exact H
     clear H
     have H:=H1
     clear H1
     replace H:=Option.bind_eq_some_iff.mp H
     obtain ⟨⟨t1557,t1558⟩,A320,H⟩:=H
     replace H : ((spec_MergeManifests.f kj6 t1528 t1529).bind fun bt1561 => (if (t1558 != bt1561.2) = true then (none) else ((laws_vList.f kj6 t1557 bt1561.1).bind fun t1565 => (laws_FnManifestChanges.j1 kj6 t1528 t1529 t1534 t1535 t1536 t1537 t1557 t1558 (!t1565))))) = some r:=H
     have A32:=Aside0.mk A320
     clear A320
     replace H:=Option.bind_eq_some_iff.mp H
     obtain ⟨⟨t1561,t1562⟩,A330,H⟩:=H
     replace H : (if (t1558 != t1562) = true then (none) else ((laws_vList.f kj6 t1557 t1561).bind fun t1565 => (laws_FnManifestChanges.j1 kj6 t1528 t1529 t1534 t1535 t1536 t1537 t1557 t1558 (!t1565)))) = some r:=H
     have A33:=Aside0.mk A330
     clear A330
     have HC34:=Aside0.mk H
     clear H
     go_upto_region 10 with (first|((with_reducible refine gate_callee (f:=82) rfl ?_); refine goesL_ (some 79) rfl rfl Try.func82 (by kernel_rfl) rfl #[.slice Ao9 t1528.length co9,.slice Ao10 t1529.length co10] rfl (by (try simp only [List.map_toArray,List.map_cons,List.map_nil]); (rfl)) ?_; (with_reducible refine (impl_MergeManifests.calls kj6 _ _ t1528 _ _ t1529 t1557 t1558 _ ?side1 ?side2 ?side3 ?side4 A32.out).mono ?_); (case side1 => repeat ((exact (Kd.R_reads' HO_3.out).2.2))); (case side2 => exact (Kd.R_reads' HO_3.out).2.1); (case side3 => repeat ((exact (Kd.R_reads' HO_4.out).2.2))); (case side4 => exact (Kd.R_reads' HO_4.out).2.1); rintro e w35 ⟨v1559,rfl,ho0,hb⟩; refine ⟨_,rfl,?_⟩; have n0_:=Aside0.mk (Kd.R_elder' (by exact HO_3.out) (Kd.R_base ho0) hb); have n1_:=Aside0.mk (Kd.R_elder' (by exact HO_4.out) (Kd.R_base ho0) hb); have n2_:=Aside0.mk (Kd.R_below (by exact HO_5.out) hb); have n3_:=Aside0.mk (Kd.R_below (by exact HO_6.out) hb); have n4_:=Aside0.mk (Kd.R_below (by exact HO_7.out) hb); have n5_:=Aside0.mk (Kd.R_lower (Kd.R_new' (Kd.R_new' ho0 (Kd.R_lt (by exact HO_3.out))) (Kd.R_lt (by exact HO_4.out))) (below_size (by repeat (((with_reducible (exact HB.out))))))); have n6_:=Aside0.mk (below_step (by repeat (((with_reducible (exact HB.out))))) hb); clear HO_3; clear HO_4; clear HO_5; clear HO_6; clear HO_7; clear HB; have HO_3:=n0_; have HO_4:=n1_; have HO_5:=n2_; have HO_6:=n3_; have HO_7:=n4_; have HO1560:=n5_; have HB:=n6_; clear n0_ n1_ n2_ n3_ n4_ n5_ n6_; (try clear hb); (try clear hb2); (try clear hk); (try clear hi); (try clear ho0))|((with_reducible refine gate_callee (f:=83) rfl ?_); refine goesL_ (some 85) rfl rfl Try.func83 (by kernel_rfl) rfl #[.slice Ao9 t1528.length co9,.slice Ao10 t1529.length co10] rfl (by (try simp only [List.map_toArray,List.map_cons,List.map_nil]); (rfl)) ?_; (with_reducible refine (spec_MergeManifests.calls kj6 _ _ t1528 _ _ t1529 t1561 t1562 _ ?side1 ?side2 ?side3 ?side4 A33.out).mono ?_); (case side1 => repeat ((exact (Kd.R_reads' HO_3.out).2.2))); (case side2 => exact (Kd.R_reads' HO_3.out).2.1); (case side3 => repeat ((exact (Kd.R_reads' HO_4.out).2.2))); (case side4 => exact (Kd.R_reads' HO_4.out).2.1); rintro e w36 ⟨v1563,rfl,ho0,hb⟩; refine ⟨_,rfl,?_⟩; have n0_:=Aside0.mk (Kd.R_elder' (by exact HO_3.out) (Kd.R_base ho0) hb); have n1_:=Aside0.mk (Kd.R_elder' (by exact HO_4.out) (Kd.R_base ho0) hb); have n2_:=Aside0.mk (Kd.R_below (by exact HO_5.out) hb); have n3_:=Aside0.mk (Kd.R_below (by exact HO_6.out) hb); have n4_:=Aside0.mk (Kd.R_below (by exact HO_7.out) hb); have n5_:=Aside0.mk (Kd.R_elder' (by exact HO1560.out) (Kd.R_base ho0) hb); have n6_:=Aside0.mk (Kd.R_lower (Kd.R_new' (Kd.R_new' (Kd.R_new' ho0 (Kd.R_lt (by exact HO_3.out))) (Kd.R_lt (by exact HO_4.out))) (Kd.R_lt (by exact HO1560.out))) (below_size (by repeat (((with_reducible (exact HB.out))))))); have n7_:=Aside0.mk (below_step (by repeat (((with_reducible (exact HB.out))))) hb); clear HO_3; clear HO_4; clear HO_5; clear HO_6; clear HO_7; clear HO1560; clear HB; have HO_3:=n0_; have HO_4:=n1_; have HO_5:=n2_; have HO_6:=n3_; have HO_7:=n4_; have HO1560:=n5_; have HO1564:=n6_; have HB:=n7_; clear n0_ n1_ n2_ n3_ n4_ n5_ n6_ n7_; (try clear hb); (try clear hb2); (try clear hk); (try clear hi); (try clear ho0)))
     (try simp only [Act.put,List.setIfInBounds_toArray,List.set_cons_zero,List.set_cons_succ])
     go_cut [96] (fun v96 wc => ∃ (kq : Nat) (x96_33 : Bool),v96 = .bool x96_33 ∧ Aside0 (laws_FnManifestChanges.j1 kq t1528 t1529 t1534 t1535 t1536 t1537 t1557 t1558 x96_33 = some r) ∧ Aside0 (kq ≤ kj6) ∧ Aside0 (Kd.R k89 89 wc w.heap.size (fun k_ => some k_ ≠ ((.slice Ao10 t1529.length co10) : Value).ownBlock ∧ some k_ ≠ (v1559 : Value).ownBlock) (.slice Ao9 t1528.length co9) t1528) ∧ Aside0 (Kd.R k89 89 wc w.heap.size (fun k_ => some k_ ≠ ((.slice Ao9 t1528.length co9) : Value).ownBlock ∧ some k_ ≠ (v1559 : Value).ownBlock) (.slice Ao10 t1529.length co10) t1529) ∧ Aside0 (Kd.R Kd.string 9 wc w.heap.size (fun k_ => some k_ ≠ (v1540 : Value).ownBlock ∧ some k_ ≠ (v1542 : Value).ownBlock) v1538 t1534) ∧ Aside0 (Kd.R Kd.string 9 wc w.heap.size (fun k_ => some k_ ≠ (v1538 : Value).ownBlock ∧ some k_ ≠ (v1542 : Value).ownBlock) v1540 t1535) ∧ Aside0 (Kd.R Kd.string 9 wc w.heap.size (fun k_ => some k_ ≠ (v1538 : Value).ownBlock ∧ some k_ ≠ (v1540 : Value).ownBlock) v1542 t1536) ∧ Aside0 (Kd.R k89 89 wc w.heap.size (fun k_ => some k_ ≠ ((.slice Ao9 t1528.length co9) : Value).ownBlock ∧ some k_ ≠ ((.slice Ao10 t1529.length co10) : Value).ownBlock) v1559 t1557) ∧ Aside0 (Below w.heap.size w wc))
     case first =>
      have H:=HC34.out
      clear HC34
      by_cases c37 : (t1558 != t1562) = true
      ·rw [if_pos c37] at H
       have c37b0 : (t1558 != t1562) = true:=c37
       (try (have c37b1 : decide (t1558 = t1562) = false:=by simpa using c37))
       (try (have c37b2 : (t1558 == t1562) = false:=by simpa using c37))
       (try (have c37b3 : ¬ (t1558 = t1562):=by simpa using c37))
       clear c37
       (skip)
       exact absurd H (by simp)
      ·rw [if_neg c37] at H
       have c37b0 : (t1558 != t1562) = false:=by simpa using c37
       (try (have c37b1 : decide (t1558 = t1562) = true:=by simpa using c37))
       (try (have c37b2 : (t1558 == t1562) = true:=by simpa using c37))
       clear c37
       (skip)
       replace H:=Option.bind_eq_some_iff.mp H
       obtain ⟨t1565,A380,H⟩:=H
       replace H : (laws_FnManifestChanges.j1 kj6 t1528 t1529 t1534 t1535 t1536 t1537 t1557 t1558 (!t1565)) = some r:=H
       have A38:=Aside0.mk A380
       clear A380
       have H':=Aside0.mk H
       clear H
       obtain ⟨Ao39,co39,eo39⟩:=Kd.R_slice HO1560.out
       subst eo39
       obtain ⟨Ao40,co40,eo40⟩:=Kd.R_slice HO1564.out
       subst eo40
       go_wp2_with (((go_at_call 84; (with_reducible refine (laws_vList.calls kj6 _ _ t1557 _ _ t1561 t1565 _ ?side1 ?side2 ?side3 ?side4 A38.out).mono ?_); (case side1 => repeat ((exact (Kd.R_reads' HO1560.out).2.2))); (case side2 => exact (Kd.R_reads' HO1560.out).2.1); (case side3 => repeat ((exact (Kd.R_reads' HO1564.out).2.2))); (case side4 => exact (Kd.R_reads' HO1564.out).2.1); rintro e w' ⟨rfl,⟨nd,rfl⟩⟩)))
       go_meet
       case rel => exact ⟨_,(!t1565),(by (rfl)),H',⟨by have:=HJ6.out; (omega)⟩,⟨by (with_reducible repeat (apply Kd.R_drewN)); exact Kd.R_mono HO_3.out (fun _ hk => ⟨hk.1.1,hk.1.2⟩)⟩,⟨by (with_reducible repeat (apply Kd.R_drewN)); exact Kd.R_mono HO_4.out (fun _ hk => ⟨hk.1.1,hk.1.2⟩)⟩,⟨by (with_reducible repeat (apply Kd.R_drewN)); exact HO_5.out⟩,⟨by (with_reducible repeat (apply Kd.R_drewN)); exact HO_6.out⟩,⟨by (with_reducible repeat (apply Kd.R_drewN)); exact HO_7.out⟩,⟨by (with_reducible repeat (apply Kd.R_drewN)); exact Kd.R_mono HO1560.out (fun _ hk => ⟨hk.1.1.2,hk.1.2⟩)⟩,⟨by repeat (with_reducible first|exact HB.out|apply pw_below_drewN)⟩⟩
     case rest =>
      clear HC34
      try clear c1
      try clear p2
      try clear c3
      try clear c7
      try clear c8
      try clear c11
      try clear c13
      try clear c13b0
      try clear c13b1
      try clear c13b2
      try clear c15
      try clear c17
      try clear c31
      try clear c35
      try clear c37
      try clear c37b0
      try clear c37b1
      try clear c37b2
      try clear p2
      obtain ⟨kq,x96_33,rfl,HA,HJ33,HO_3,HO_4,HO_5,HO_6,HO_7,HO_13,HB⟩:=hcut
      cases kq with
      | zero => exact absurd HA.out (by simp [laws_FnManifestChanges.j1])
      | succ kj33 =>
       have H:=HA.out
       clear HA
       simp only [laws_FnManifestChanges.j1] at H
       by_cases c41 : x96_33 = true
       ·subst c41
        have H1 : (none) = some r:=by rw [if_pos rfl] at H; exact H
        clear H
        have H:=H1
        clear H1
        exact absurd H (by simp)
       ·replace c41:=Bool.eq_false_iff.mpr c41
        subst c41
        have H1 : (if t1537 = true then ((impl_ManifestChanges.f kj33 t1529 t1528).bind fun bt1566 => (if bt1566.2.2.2 = true then ((laws_vTexts.f kj33 bt1566.1 t1535).bind fun t1576 => (if t1576 = true then ((laws_vTexts.f kj33 bt1566.2.1 t1534).bind fun t1577 => (if t1577 = true then ((laws_vTexts.f kj33 bt1566.2.2.1 t1536).bind fun t1578 => (laws_FnManifestChanges.j2 kj33 t1528 t1529 t1534 t1535 t1557 t1558 (!t1578))) else (none))) else (none))) else (none))) else (some (!t1558))) = some r:=by rw [if_neg (show ¬ (false = true) by decide)] at H; exact H
        clear H
        have H:=H1
        clear H1
        by_cases c42 : t1537 = true
        ·subst c42
         have H1 : ((impl_ManifestChanges.f kj33 t1529 t1528).bind fun bt1566 => (if bt1566.2.2.2 = true then ((laws_vTexts.f kj33 bt1566.1 t1535).bind fun t1576 => (if t1576 = true then ((laws_vTexts.f kj33 bt1566.2.1 t1534).bind fun t1577 => (if t1577 = true then ((laws_vTexts.f kj33 bt1566.2.2.1 t1536).bind fun t1578 => (laws_FnManifestChanges.j2 kj33 t1528 t1529 t1534 t1535 t1557 t1558 (!t1578))) else (none))) else (none))) else (none))) = some r:=by rw [if_pos rfl] at H; exact H
         clear H
         have H:=H1
         clear H1
         replace H:=Option.bind_eq_some_iff.mp H
         obtain ⟨⟨t1566,t1567,t1568,t1569⟩,A430,H⟩:=H
         replace H : (if t1569 = true then ((laws_vTexts.f kj33 t1566 t1535).bind fun t1576 => (if t1576 = true then ((laws_vTexts.f kj33 t1567 t1534).bind fun t1577 => (if t1577 = true then ((laws_vTexts.f kj33 t1568 t1536).bind fun t1578 => (laws_FnManifestChanges.j2 kj33 t1528 t1529 t1534 t1535 t1557 t1558 (!t1578))) else (none))) else (none))) else (none)) = some r:=H
         have A43:=Aside0.mk A430
         clear A430
         have HC44:=Aside0.mk H
         clear H
         go_upto_region 15 with ((((with_reducible refine gate_callee (f:=79) rfl ?_); refine goesL_ (some 104) rfl rfl Try.func79 (by kernel_rfl) rfl #[.slice Ao10 t1529.length co10,.slice Ao9 t1528.length co9] rfl (by (try simp only [List.map_toArray,List.map_cons,List.map_nil]); (rfl)) ?_; (with_reducible refine (impl_ManifestChanges.calls kj33 _ _ t1529 _ _ t1528 t1566 t1567 t1568 t1569 _ ?side1 ?side2 ?side3 ?side4 A43.out).mono ?_); (case side1 => repeat ((exact (Kd.R_reads' HO_4.out).2.2))); (case side2 => exact (Kd.R_reads' HO_4.out).2.1); (case side3 => repeat ((exact (Kd.R_reads' HO_3.out).2.2))); (case side4 => exact (Kd.R_reads' HO_3.out).2.1); rintro e w45 ⟨v1570,v1572,v1574,rfl,ho0,ho1,ho2,hb⟩; refine ⟨_,rfl,?_⟩; have n0_:=Aside0.mk (Kd.R_below (by exact HO_3.out) hb); have n1_:=Aside0.mk (Kd.R_below (by exact HO_4.out) hb); have n2_:=Aside0.mk (Kd.R_mono (Kd.R_told (Kd.R_told (Kd.R_told (Kd.R_old (by exact HO_5.out) hb) (Kd.R_base ho0)) (Kd.R_base ho1)) (Kd.R_base ho2)) (fun _ h_ => h_.1)); have n3_:=Aside0.mk (Kd.R_mono (Kd.R_told (Kd.R_told (Kd.R_told (Kd.R_old (by exact HO_6.out) hb) (Kd.R_base ho0)) (Kd.R_base ho1)) (Kd.R_base ho2)) (fun _ h_ => h_.1)); have n4_:=Aside0.mk (Kd.R_mono (Kd.R_told (Kd.R_told (Kd.R_told (Kd.R_old (by exact HO_7.out) hb) (Kd.R_base ho0)) (Kd.R_base ho1)) (Kd.R_base ho2)) (fun _ h_ => h_.1)); have n5_:=Aside0.mk (Kd.R_below (by exact HO_13.out) hb); have n6_:=Aside0.mk (Kd.R_lower (Kd.R_new' (Kd.R_new' (Kd.R_new' ho0 (Kd.R_lt (by exact HO_5.out))) (Kd.R_lt (by exact HO_6.out))) (Kd.R_lt (by exact HO_7.out))) (below_size (by repeat (((with_reducible (exact HB.out))))))); have n7_:=Aside0.mk (Kd.R_lower (Kd.R_new' (Kd.R_new' (Kd.R_new' ho1 (Kd.R_lt (by exact HO_5.out))) (Kd.R_lt (by exact HO_6.out))) (Kd.R_lt (by exact HO_7.out))) (below_size (by repeat (((with_reducible (exact HB.out))))))); have n8_:=Aside0.mk (Kd.R_lower (Kd.R_new' (Kd.R_new' (Kd.R_new' ho2 (Kd.R_lt (by exact HO_5.out))) (Kd.R_lt (by exact HO_6.out))) (Kd.R_lt (by exact HO_7.out))) (below_size (by repeat (((with_reducible (exact HB.out))))))); have n9_:=Aside0.mk (below_step (by repeat (((with_reducible (exact HB.out))))) hb); clear HO_3; clear HO_4; clear HO_5; clear HO_6; clear HO_7; clear HO_13; clear HB; have HO_3:=n0_; have HO_4:=n1_; have HO_5:=n2_; have HO_6:=n3_; have HO_7:=n4_; have HO_13:=n5_; have HO1571:=n6_; have HO1573:=n7_; have HO1575:=n8_; have HB:=n9_; clear n0_ n1_ n2_ n3_ n4_ n5_ n6_ n7_ n8_ n9_; (try clear hb); (try clear hb2); (try clear hk); (try clear hi); (try clear ho0); (try clear ho1); (try clear ho2))))
         (try simp only [Act.put,List.setIfInBounds_toArray,List.set_cons_zero,List.set_cons_succ])
         go_cut [128] (fun v128 wc => ∃ (kq : Nat) (x128_43 : Bool),v128 = .bool x128_43 ∧ Aside0 (laws_FnManifestChanges.j2 kq t1528 t1529 t1534 t1535 t1557 t1558 x128_43 = some r) ∧ Aside0 (kq ≤ kj33) ∧ Aside0 (Kd.R k89 89 wc w.heap.size (fun k_ => some k_ ≠ ((.slice Ao10 t1529.length co10) : Value).ownBlock ∧ some k_ ≠ (v1559 : Value).ownBlock) (.slice Ao9 t1528.length co9) t1528) ∧ Aside0 (Kd.R k89 89 wc w.heap.size (fun k_ => some k_ ≠ ((.slice Ao9 t1528.length co9) : Value).ownBlock ∧ some k_ ≠ (v1559 : Value).ownBlock) (.slice Ao10 t1529.length co10) t1529) ∧ Aside0 (Kd.R Kd.string 9 wc w.heap.size (fun k_ => some k_ ≠ (v1540 : Value).ownBlock) v1538 t1534) ∧ Aside0 (Kd.R Kd.string 9 wc w.heap.size (fun k_ => some k_ ≠ (v1538 : Value).ownBlock) v1540 t1535) ∧ Aside0 (Kd.R k89 89 wc w.heap.size (fun k_ => some k_ ≠ ((.slice Ao9 t1528.length co9) : Value).ownBlock ∧ some k_ ≠ ((.slice Ao10 t1529.length co10) : Value).ownBlock) v1559 t1557) ∧ Aside0 (Below w.heap.size w wc))
         case first =>
          have H:=HC44.out
          clear HC44
          by_cases c46 : t1569 = true
          ·subst c46
           have H1 : ((laws_vTexts.f kj33 t1566 t1535).bind fun t1576 => (if t1576 = true then ((laws_vTexts.f kj33 t1567 t1534).bind fun t1577 => (if t1577 = true then ((laws_vTexts.f kj33 t1568 t1536).bind fun t1578 => (laws_FnManifestChanges.j2 kj33 t1528 t1529 t1534 t1535 t1557 t1558 (!t1578))) else (none))) else (none))) = some r:=by rw [if_pos rfl] at H; exact H
           clear H
           have H:=H1
           clear H1
           replace H:=Option.bind_eq_some_iff.mp H
           obtain ⟨t1576,A470,H⟩:=H
           replace H : (if t1576 = true then ((laws_vTexts.f kj33 t1567 t1534).bind fun t1577 => (if t1577 = true then ((laws_vTexts.f kj33 t1568 t1536).bind fun t1578 => (laws_FnManifestChanges.j2 kj33 t1528 t1529 t1534 t1535 t1557 t1558 (!t1578))) else (none))) else (none)) = some r:=H
           have A47:=Aside0.mk A470
           clear A470
           by_cases c48 : t1576 = true
           ·subst c48
            have H1 : ((laws_vTexts.f kj33 t1567 t1534).bind fun t1577 => (if t1577 = true then ((laws_vTexts.f kj33 t1568 t1536).bind fun t1578 => (laws_FnManifestChanges.j2 kj33 t1528 t1529 t1534 t1535 t1557 t1558 (!t1578))) else (none))) = some r:=by rw [if_pos rfl] at H; exact H
            clear H
            have H:=H1
            clear H1
            replace H:=Option.bind_eq_some_iff.mp H
            obtain ⟨t1577,A490,H⟩:=H
            replace H : (if t1577 = true then ((laws_vTexts.f kj33 t1568 t1536).bind fun t1578 => (laws_FnManifestChanges.j2 kj33 t1528 t1529 t1534 t1535 t1557 t1558 (!t1578))) else (none)) = some r:=H
            have A49:=Aside0.mk A490
            clear A490
            by_cases c50 : t1577 = true
            ·subst c50
             have H1 : ((laws_vTexts.f kj33 t1568 t1536).bind fun t1578 => (laws_FnManifestChanges.j2 kj33 t1528 t1529 t1534 t1535 t1557 t1558 (!t1578))) = some r:=by rw [if_pos rfl] at H; exact H
             clear H
             have H:=H1
             clear H1
             replace H:=Option.bind_eq_some_iff.mp H
             obtain ⟨t1578,A510,H⟩:=H
             replace H : (laws_FnManifestChanges.j2 kj33 t1528 t1529 t1534 t1535 t1557 t1558 (!t1578)) = some r:=H
             have A51:=Aside0.mk A510
             clear A510
             have H':=Aside0.mk H
             clear H
             obtain ⟨Ao52,co52,eo52⟩:=Kd.R_slice HO1571.out
             subst eo52
             obtain ⟨Ao53,co53,eo53⟩:=Kd.R_slice HO_6.out
             subst eo53
             go_wp2_with (first|(go_at_call 81; (with_reducible refine (laws_vTexts.calls kj33 _ _ t1566 _ _ t1535 true _ ?side1 ?side2 ?side3 ?side4 A47.out).mono ?_); (case side1 => repeat ((exact (Kd.R_reads' HO1571.out).2.2))); (case side2 => exact (Kd.R_reads' HO1571.out).2.1); (case side3 => repeat ((exact (Kd.R_reads' HO_6.out).2.2))); (case side4 => exact (Kd.R_reads' HO_6.out).2.1); rintro e w' ⟨rfl,⟨nd,rfl⟩⟩; obtain ⟨Ao54,co54,eo54⟩:=Kd.R_slice HO1573.out; subst eo54; obtain ⟨Ao55,co55,eo55⟩:=Kd.R_slice HO_5.out; subst eo55)|(go_at_call 81; (with_reducible refine (laws_vTexts.calls kj33 _ _ t1567 _ _ t1534 true _ ?side1 ?side2 ?side3 ?side4 A49.out).mono ?_); (case side1 => repeat ((exact (Kd.R_reads' HO1573.out).2.2))); (case side2 => exact (Kd.R_reads' HO1573.out).2.1); (case side3 => repeat ((exact (Kd.R_reads' HO_5.out).2.2))); (case side4 => exact (Kd.R_reads' HO_5.out).2.1); rintro e w' ⟨rfl,⟨nd,rfl⟩⟩; obtain ⟨Ao56,co56,eo56⟩:=Kd.R_slice HO1575.out; subst eo56; obtain ⟨Ao57,co57,eo57⟩:=Kd.R_slice HO_7.out; subst eo57)|(go_at_call 81; (with_reducible refine (laws_vTexts.calls kj33 _ _ t1568 _ _ t1536 t1578 _ ?side1 ?side2 ?side3 ?side4 A51.out).mono ?_); (case side1 => repeat ((exact (Kd.R_reads' HO1575.out).2.2))); (case side2 => exact (Kd.R_reads' HO1575.out).2.1); (case side3 => repeat ((exact (Kd.R_reads' HO_7.out).2.2))); (case side4 => exact (Kd.R_reads' HO_7.out).2.1); rintro e w' ⟨rfl,⟨nd,rfl⟩⟩))
             go_meet
             case rel => exact ⟨_,(!t1578),(by (rfl)),H',⟨by have:=HJ6.out; have:=HJ33.out; (omega)⟩,⟨by (with_reducible repeat (apply Kd.R_drewN)); exact HO_3.out⟩,⟨by (with_reducible repeat (apply Kd.R_drewN)); exact HO_4.out⟩,⟨by (with_reducible repeat (apply Kd.R_drewN)); exact Kd.R_mono HO_5.out (fun _ hk => hk.1.1.1.1)⟩,⟨by (with_reducible repeat (apply Kd.R_drewN)); exact Kd.R_mono HO_6.out (fun _ hk => hk.1.1.1.1)⟩,⟨by (with_reducible repeat (apply Kd.R_drewN)); exact HO_13.out⟩,⟨by repeat (with_reducible first|exact HB.out|apply pw_below_drewN)⟩⟩
            ·replace c50:=Bool.eq_false_iff.mpr c50
             subst c50
             have H1 : (none) = some r:=by rw [if_neg (show ¬ (false = true) by decide)] at H; exact H
             clear H
             have H:=H1
             clear H1
             exact absurd H (by simp)
           ·replace c48:=Bool.eq_false_iff.mpr c48
            subst c48
            have H1 : (none) = some r:=by rw [if_neg (show ¬ (false = true) by decide)] at H; exact H
            clear H
            have H:=H1
            clear H1
            exact absurd H (by simp)
          ·replace c46:=Bool.eq_false_iff.mpr c46
           subst c46
           have H1 : (none) = some r:=by rw [if_neg (show ¬ (false = true) by decide)] at H; exact H
           clear H
           have H:=H1
           clear H1
           exact absurd H (by simp)
         case rest =>
          clear HC44
          try clear c1
          try clear p2
          try clear c3
          try clear c4
          try clear c5
          try clear c7
          try clear c8
          try clear c11
          try clear c13
          try clear c13b0
          try clear c13b1
          try clear c13b2
          try clear c15
          try clear c17
          try clear c31
          try clear c35
          try clear c37
          try clear c37b0
          try clear c37b1
          try clear c37b2
          try clear c41
          try clear c42
          try clear c46
          try clear c48
          try clear c50
          try clear p2
          obtain ⟨kq,x128_43,rfl,HA,HJ43,HO_3,HO_4,HO_5,HO_6,HO_13,HB⟩:=hcut
          cases kq with
          | zero => exact absurd HA.out (by simp [laws_FnManifestChanges.j2])
          | succ kj43 =>
           have H:=HA.out
           clear HA
           simp only [laws_FnManifestChanges.j2] at H
           by_cases c64 : x128_43 = true
           ·subst c64
            have H1 : (none) = some r:=by rw [if_pos rfl] at H; exact H
            clear H
            have H:=H1
            clear H1
            exact absurd H (by simp)
           ·replace c64:=Bool.eq_false_iff.mpr c64
            subst c64
            have H1 : (if t1558 = true then ((impl_ManifestChanges.f kj43 t1529 t1557).bind fun bt1579 => (if bt1579.2.2.2 = true then ((laws_vTexts.f kj43 bt1579.1 t1535).bind fun t1589 => (if t1589 = true then (if (bt1579.2.1.length : Int) > 0 then (none) else (if (bt1579.2.2.1.length : Int) > 0 then (none) else (if (t1557.length : Int) = (wrap64 ((t1528.length : Int) + (t1534.length : Int))) then (laws_FnManifestChanges.j3 kj43 t1529) else (none)))) else (none))) else (none))) else (laws_FnManifestChanges.j3 kj43 t1529)) = some r:=by rw [if_neg (show ¬ (false = true) by decide)] at H; exact H
            clear H
            have H:=H1
            clear H1
            have HC65:=Aside0.mk H
            clear H
            go_upto_if 129 with (fail)
            go_cut [] (fun wc => ∃ (kq : Nat),Aside0 (laws_FnManifestChanges.j3 kq t1529 = some r) ∧ Aside0 (kq ≤ kj43) ∧ Aside0 (Kd.R k89 89 wc w.heap.size (fun _ => True) (.slice Ao10 t1529.length co10) t1529) ∧ Aside0 (Below w.heap.size w wc))
            case first =>
             have H:=HC65.out
             clear HC65
             by_cases c66 : t1558 = true
             ·subst c66
              have H1 : ((impl_ManifestChanges.f kj43 t1529 t1557).bind fun bt1579 => (if bt1579.2.2.2 = true then ((laws_vTexts.f kj43 bt1579.1 t1535).bind fun t1589 => (if t1589 = true then (if (bt1579.2.1.length : Int) > 0 then (none) else (if (bt1579.2.2.1.length : Int) > 0 then (none) else (if (t1557.length : Int) = (wrap64 ((t1528.length : Int) + (t1534.length : Int))) then (laws_FnManifestChanges.j3 kj43 t1529) else (none)))) else (none))) else (none))) = some r:=by rw [if_pos rfl] at H; exact H
              clear H
              have H:=H1
              clear H1
              replace H:=Option.bind_eq_some_iff.mp H
              obtain ⟨⟨t1579,t1580,t1581,t1582⟩,A670,H⟩:=H
              replace H : (if t1582 = true then ((laws_vTexts.f kj43 t1579 t1535).bind fun t1589 => (if t1589 = true then (if (t1580.length : Int) > 0 then (none) else (if (t1581.length : Int) > 0 then (none) else (if (t1557.length : Int) = (wrap64 ((t1528.length : Int) + (t1534.length : Int))) then (laws_FnManifestChanges.j3 kj43 t1529) else (none)))) else (none))) else (none)) = some r:=H
              have A67:=Aside0.mk A670
              clear A670
              by_cases c68 : t1582 = true
              ·subst c68
               have H1 : ((laws_vTexts.f kj43 t1579 t1535).bind fun t1589 => (if t1589 = true then (if (t1580.length : Int) > 0 then (none) else (if (t1581.length : Int) > 0 then (none) else (if (t1557.length : Int) = (wrap64 ((t1528.length : Int) + (t1534.length : Int))) then (laws_FnManifestChanges.j3 kj43 t1529) else (none)))) else (none))) = some r:=by rw [if_pos rfl] at H; exact H
               clear H
               have H:=H1
               clear H1
               replace H:=Option.bind_eq_some_iff.mp H
               obtain ⟨t1589,A690,H⟩:=H
               replace H : (if t1589 = true then (if (t1580.length : Int) > 0 then (none) else (if (t1581.length : Int) > 0 then (none) else (if (t1557.length : Int) = (wrap64 ((t1528.length : Int) + (t1534.length : Int))) then (laws_FnManifestChanges.j3 kj43 t1529) else (none)))) else (none)) = some r:=H
               have A69:=Aside0.mk A690
               clear A690
               by_cases c70 : t1589 = true
               ·subst c70
                have H1 : (if (t1580.length : Int) > 0 then (none) else (if (t1581.length : Int) > 0 then (none) else (if (t1557.length : Int) = (wrap64 ((t1528.length : Int) + (t1534.length : Int))) then (laws_FnManifestChanges.j3 kj43 t1529) else (none)))) = some r:=by rw [if_pos rfl] at H; exact H
                clear H
                have H:=H1
                clear H1
                by_cases c71 : (t1580.length : Int) > 0
                ·rw [if_pos c71] at H
                 have c71b0 : decide (0 < (t1580.length : Int)) = true:=decide_eq_true c71
                 have c71b1 : decide (0 < t1580.length) = true:=decide_eq_true (by omega)
                 clear c71
                 (skip)
                 exact absurd H (by simp)
                ·rw [if_neg c71] at H
                 have c71b0 : decide (0 < (t1580.length : Int)) = false:=decide_eq_false c71
                 have c71b1 : decide (0 < t1580.length) = false:=decide_eq_false (by omega)
                 clear c71
                 (skip)
                 by_cases c77 : (t1581.length : Int) > 0
                 ·rw [if_pos c77] at H
                  have c77b0 : decide (0 < (t1581.length : Int)) = true:=decide_eq_true c77
                  have c77b1 : decide (0 < t1581.length) = true:=decide_eq_true (by omega)
                  clear c77
                  exact absurd H (by simp)
                 ·rw [if_neg c77] at H
                  have c77b0 : decide (0 < (t1581.length : Int)) = false:=decide_eq_false c77
                  have c77b1 : decide (0 < t1581.length) = false:=decide_eq_false (by omega)
                  clear c77
                  by_cases c84 : (t1557.length : Int) = (wrap64 ((t1528.length : Int) + (t1534.length : Int)))
                  ·rw [if_pos c84] at H
                   have c84b0 : ((t1557.length : Int) == (wrap64 ((t1528.length : Int) + (t1534.length : Int)))) = true:=beq_iff_eq.mpr c84
                   have c84b1 : ((t1557.length : Int) != (wrap64 ((t1528.length : Int) + (t1534.length : Int)))) = false:=bne_eq_false_iff_eq.mpr c84
                   clear c84
                   have H':=Aside0.mk H
                   clear H
                   obtain ⟨Ao85,co85,eo85⟩:=Kd.R_slice HO_13.out
                   subst eo85
                   go_wp2_with (first|((with_reducible refine gate_callee (f:=79) rfl ?_); refine goesL_ (some 133) rfl rfl Try.func79 (by kernel_rfl) rfl #[.slice Ao10 t1529.length co10,.slice Ao85 t1557.length co85] rfl (by (try simp only [List.map_toArray,List.map_cons,List.map_nil]); (rfl)) ?_; (with_reducible refine (impl_ManifestChanges.calls kj43 _ _ t1529 _ _ t1557 t1579 t1580 t1581 true _ ?side1 ?side2 ?side3 ?side4 A67.out).mono ?_); (case side1 => repeat ((exact (Kd.R_reads' HO_4.out).2.2))); (case side2 => exact (Kd.R_reads' HO_4.out).2.1); (case side3 => repeat ((exact (Kd.R_reads' HO_13.out).2.2))); (case side4 => exact (Kd.R_reads' HO_13.out).2.1); rintro e w86 ⟨v1583,v1585,v1587,rfl,ho0,ho1,ho2,hb⟩; refine ⟨_,rfl,?_⟩; have n0_:=Aside0.mk (Kd.R_below (by exact HO_3.out) hb); have n1_:=Aside0.mk (Kd.R_below (by exact HO_4.out) hb); have n2_:=Aside0.mk (Kd.R_mono (Kd.R_told (Kd.R_told (Kd.R_told (Kd.R_old (by exact HO_5.out) hb) (Kd.R_base ho0)) (Kd.R_base ho1)) (Kd.R_base ho2)) (fun _ h_ => h_.1)); have n3_:=Aside0.mk (Kd.R_mono (Kd.R_told (Kd.R_told (Kd.R_told (Kd.R_old (by exact HO_6.out) hb) (Kd.R_base ho0)) (Kd.R_base ho1)) (Kd.R_base ho2)) (fun _ h_ => h_.1)); have n4_:=Aside0.mk (Kd.R_below (by exact HO_13.out) hb); have n5_:=Aside0.mk (Kd.R_lower (Kd.R_new' (Kd.R_new' ho0 (Kd.R_lt (by exact HO_5.out))) (Kd.R_lt (by exact HO_6.out))) (below_size (by repeat (((with_reducible (exact HB.out))))))); have n6_:=Aside0.mk (Kd.R_lower (Kd.R_new' (Kd.R_new' ho1 (Kd.R_lt (by exact HO_5.out))) (Kd.R_lt (by exact HO_6.out))) (below_size (by repeat (((with_reducible (exact HB.out))))))); have n7_:=Aside0.mk (Kd.R_lower (Kd.R_new' (Kd.R_new' ho2 (Kd.R_lt (by exact HO_5.out))) (Kd.R_lt (by exact HO_6.out))) (below_size (by repeat (((with_reducible (exact HB.out))))))); have n8_:=Aside0.mk (below_step (by repeat (((with_reducible (exact HB.out))))) hb); clear HO_3; clear HO_4; clear HO_5; clear HO_6; clear HO_13; clear HB; have HO_3:=n0_; have HO_4:=n1_; have HO_5:=n2_; have HO_6:=n3_; have HO_13:=n4_; have HO1584:=n5_; have HO1586:=n6_; have HO1588:=n7_; have HB:=n8_; clear n0_ n1_ n2_ n3_ n4_ n5_ n6_ n7_ n8_; (try clear hb); (try clear hb2); (try clear hk); (try clear hi); (try clear ho0); (try clear ho1); (try clear ho2); obtain ⟨Ao87,co87,eo87⟩:=Kd.R_slice HO1584.out; subst eo87; obtain ⟨Ao88,co88,eo88⟩:=Kd.R_slice HO_6.out; subst eo88)|(go_at_call 81; (with_reducible refine (laws_vTexts.calls kj43 _ _ t1579 _ _ t1535 true _ ?side1 ?side2 ?side3 ?side4 A69.out).mono ?_); (case side1 => repeat ((exact (Kd.R_reads' HO1584.out).2.2))); (case side2 => exact (Kd.R_reads' HO1584.out).2.1); (case side3 => repeat ((exact (Kd.R_reads' HO_6.out).2.2))); (case side4 => exact (Kd.R_reads' HO_6.out).2.1); rintro e w' ⟨rfl,⟨nd,rfl⟩⟩; obtain ⟨Ao89,co89,eo89⟩:=Kd.R_slice HO1586.out; subst eo89; obtain ⟨Ao90,co90,eo90⟩:=Kd.R_slice HO1588.out; subst eo90; obtain ⟨Ao91,co91,eo91⟩:=Kd.R_slice HO_5.out; subst eo91))
                   go_meet
                   case rel => exact ⟨_,H',⟨by have:=HJ6.out; have:=HJ33.out; have:=HJ43.out; (omega)⟩,⟨by (with_reducible repeat (apply Kd.R_drewN)); exact Kd.R_mono HO_4.out (fun _ hk => trivial)⟩,⟨by repeat (with_reducible first|exact HB.out|apply pw_below_drewN)⟩⟩
                  ·rw [if_neg c84] at H
                   have c84b0 : ((t1557.length : Int) == (wrap64 ((t1528.length : Int) + (t1534.length : Int)))) = false:=beq_eq_false_iff_ne.mpr c84
                   have c84b1 : ((t1557.length : Int) != (wrap64 ((t1528.length : Int) + (t1534.length : Int)))) = true:=bne_iff_ne.mpr c84
                   exact absurd H (by simp)
               ·replace c70:=Bool.eq_false_iff.mpr c70
                subst c70
                have H1 : (none) = some r:=by rw [if_neg (show ¬ (false = true) by decide)] at H; exact H
                clear H
                have H:=H1
                clear H1
                exact absurd H (by simp)
              ·replace c68:=Bool.eq_false_iff.mpr c68
               subst c68
               have H1 : (none) = some r:=by rw [if_neg (show ¬ (false = true) by decide)] at H; exact H
               clear H
               have H:=H1
               clear H1
               exact absurd H (by simp)
             ·replace c66:=Bool.eq_false_iff.mpr c66
              subst c66
              have H1 : (laws_FnManifestChanges.j3 kj43 t1529) = some r:=by rw [if_neg (show ¬ (false = true) by decide)] at H; exact H
              clear H
              have H:=H1
              clear H1
              have H':=Aside0.mk H
              clear H
              go_wp2
              go_meet
              case rel => exact ⟨_,H',⟨by have:=HJ6.out; have:=HJ33.out; have:=HJ43.out; (omega)⟩,⟨by exact Kd.R_mono HO_4.out (fun _ hk => trivial)⟩,⟨by repeat (((with_reducible (exact HB.out))))⟩⟩
            case rest =>
             clear HC65
             try clear c1
             try clear p2
             try clear c3
             try clear c4
             try clear c5
             try clear c6
             try clear p6
             try clear c7
             try clear c8
             try clear c11
             try clear c13
             try clear c13b0
             try clear c13b1
             try clear c13b2
             try clear c15
             try clear c17
             try clear c31
             try clear c35
             try clear c37
             try clear c37b0
             try clear c37b1
             try clear c37b2
             try clear c41
             try clear c42
             try clear c46
             try clear c48
             try clear c50
             try clear c64
             try clear p64
             try clear c66
             try clear c68
             try clear c70
             try clear c71
             try clear c71b0
             try clear c71b1
             try clear c77
             try clear c77b0
             try clear c77b1
             try clear c78
             try clear c79
             try clear c80
             try clear c82
             try clear c83
             try clear c84
             try clear c84b0
             try clear c84b1
             try clear p2
             obtain ⟨kq,HA,HJ64,HO_4,HB⟩:=hcut
             cases kq with
             | zero => exact absurd HA.out (by simp [laws_FnManifestChanges.j3])
             | succ kj64 =>
              have H:=HA.out
              clear HA
              simp only [laws_FnManifestChanges.j3] at H
              replace H:=Option.bind_eq_some_iff.mp H
              obtain ⟨⟨t1590,t1591⟩,A1050,H⟩:=H
              replace H : (laws_FnManifestChanges.l0 kj64 t1529 t1590 t1591 0 0) = some r:=H
              have A105:=Aside0.mk A1050
              clear A1050
              have H':=Aside0.mk H
              clear H
              go_wp2_with ((((with_reducible refine gate_callee (f:=58) rfl ?_); refine goesL_ (some 168) rfl rfl Try.func58 (by kernel_rfl) rfl #[.slice Ao10 t1529.length co10] rfl (by (try simp only [List.map_toArray,List.map_cons,List.map_nil]); (rfl)) ?_; (with_reducible refine (impl_PortCounts.calls kj64 _ _ t1529 t1590 t1591 _ ?side1 ?side2 A105.out).mono ?_); (case side1 => repeat ((exact (Kd.R_reads' HO_4.out).2.2))); (case side2 => exact (Kd.R_reads' HO_4.out).2.1); rintro e w106 ⟨v1592,rfl,ho0,hb⟩; refine ⟨_,rfl,?_⟩; have n0_:=Aside0.mk (Kd.R_below (by exact HO_4.out) hb); have n1_:=Aside0.mk (Kd.R_lower ho0 (below_size (by repeat (((with_reducible (exact HB.out))))))); have n2_:=Aside0.mk (below_step (by repeat (((with_reducible (exact HB.out))))) hb); clear HO_4; clear HB; have HO_4:=n0_; have HO1593:=n1_; have HB:=n2_; clear n0_ n1_ n2_; (try clear hb); (try clear hb2); (try clear hk); (try clear hi); (try clear ho0))))
              go_loopg [27,28] kj64 (fun kq v27 v28 w' => ∃ (x27_5 : Int) (x28_5 : Int),v27 = .int .i64 x27_5 ∧ v28 = .int .i64 x28_5 ∧ Aside0 (laws_FnManifestChanges.l0 kq t1529 t1590 t1591 x27_5 x28_5 = some r) ∧ Aside0 (kq ≤ kj64) ∧ Aside0 (Kd.R k89 89 w' w.heap.size (fun _ => True) (.slice Ao10 t1529.length co10) t1529) ∧ Aside0 (Kd.R k104 104 w' w.heap.size (fun _ => True) v1592 t1590) ∧ Aside0 (Below w.heap.size w w'))
              case atStart => exact ⟨(0),(0),(by (rfl)),(by (rfl)),H',⟨Nat.le_refl _⟩,⟨by exact HO_4.out⟩,⟨by exact HO1593.out⟩,⟨by repeat (((with_reducible (exact HB.out))))⟩⟩
              case round =>
               clear H'
               try clear c1
               try clear p2
               try clear c3
               try clear c4
               try clear c5
               try clear c6
               try clear p6
               try clear c7
               try clear c8
               try clear c11
               try clear c13
               try clear c13b0
               try clear c13b1
               try clear c13b2
               try clear c15
               try clear c17
               try clear c31
               try clear c35
               try clear c37
               try clear c37b0
               try clear c37b1
               try clear c37b2
               try clear c41
               try clear c42
               try clear c46
               try clear c48
               try clear c50
               try clear c58
               try clear c64
               try clear p64
               try clear c66
               try clear c68
               try clear c70
               try clear c71
               try clear c71b0
               try clear c71b1
               try clear c77
               try clear c77b0
               try clear c77b1
               try clear c78
               try clear c79
               try clear c80
               try clear c82
               try clear c83
               try clear c84
               try clear c84b0
               try clear c84b1
               try clear p2
               try clear p6
               try clear p64
               obtain ⟨x27_5,x28_5,rfl,rfl,HA,HK5,HO_4,HO_25,HB⟩:=hrel
               cases gk with
               | zero => exact absurd HA.out (by simp [laws_FnManifestChanges.l0])
               | succ k5 =>
                have H:=HA.out
                clear HA
                simp only [laws_FnManifestChanges.l0] at H
                by_cases c107 : x28_5 < (t1590.length : Int)
                ·rw [if_pos c107] at H
                 have c107b0 : decide (x28_5 < (t1590.length : Int)) = true:=decide_eq_true c107
                 clear c107
                 by_cases c108 : 0 ≤ x28_5
                 ·rw [if_pos c108] at H
                  have c108b0 : decide (0 ≤ x28_5) = true:=decide_eq_true c108
                  clear c108
                  replace H:=Option.bind_eq_some_iff.mp H
                  obtain ⟨⟨t1595,t1596,t1597⟩,A1090,H⟩:=H
                  replace H : (if t1597 = true then (if (t1595.length : Int) = ((rd_T104 t1590 x28_5).f1) then (if (wrap64 ((t1595.length : Int) + (t1596.length : Int))) = (t1529.length : Int) then (laws_FnManifestChanges.l0 k5 t1529 t1590 t1591 (wrap64 (x27_5 + ((rd_T104 t1590 x28_5).f1))) (wrap64 (x28_5 + 1))) else (none)) else (none)) else (none)) = some r:=H
                  have A109:=Aside0.mk A1090
                  clear A1090
                  by_cases c110 : t1597 = true
                  ·subst c110
                   have H1 : (if (t1595.length : Int) = ((rd_T104 t1590 x28_5).f1) then (if (wrap64 ((t1595.length : Int) + (t1596.length : Int))) = (t1529.length : Int) then (laws_FnManifestChanges.l0 k5 t1529 t1590 t1591 (wrap64 (x27_5 + ((rd_T104 t1590 x28_5).f1))) (wrap64 (x28_5 + 1))) else (none)) else (none)) = some r:=by rw [if_pos rfl] at H; exact H
                   clear H
                   have H:=H1
                   clear H1
                   by_cases c111 : (t1595.length : Int) = ((rd_T104 t1590 x28_5).f1)
                   ·rw [if_pos c111] at H
                    have c111b0 : ((t1595.length : Int) == ((rd_T104 t1590 x28_5).f1)) = true:=beq_iff_eq.mpr c111
                    have c111b1 : ((t1595.length : Int) != ((rd_T104 t1590 x28_5).f1)) = false:=bne_eq_false_iff_eq.mpr c111
                    clear c111
                    by_cases c112 : (wrap64 ((t1595.length : Int) + (t1596.length : Int))) = (t1529.length : Int)
                    ·rw [if_pos c112] at H
                     have c112b0 : ((wrap64 ((t1595.length : Int) + (t1596.length : Int))) == (t1529.length : Int)) = true:=beq_iff_eq.mpr c112
                     have c112b1 : ((wrap64 ((t1595.length : Int) + (t1596.length : Int))) != (t1529.length : Int)) = false:=bne_eq_false_iff_eq.mpr c112
                     clear c112
                     have H':=Aside0.mk H
                     clear H
                     obtain ⟨Ao113,co113,eo113⟩:=Kd.R_slice HO_25.out
                     subst eo113
                     have p1594 : 0 ≤ (x28_5 : Int):=of_decide_eq_true (by (with_reducible assumption))
                     have q1594 : x28_5 < (t1590.length : Int):=of_decide_eq_true (by (with_reducible assumption))
                     obtain ⟨ad1594,e1594,hx1594_0,hx1594_1⟩:=at_T104 (Kd.R_reads' HO_25.out).2.2 x28_5 p1594 q1594
                     cases e1594
                     replace p1594:=eq_true p1594
                     replace q1594:=eq_true q1594
                     go_wp2_with ((((with_reducible refine gate_callee (f:=85) rfl ?_); refine goesL_ (some 184) rfl rfl Try.func85 (by kernel_rfl) rfl #[.slice Ao10 t1529.length co10,.int .i64 ((rd_T104 t1590 x28_5).f0)] rfl (by (try simp only [List.map_toArray,List.map_cons,List.map_nil]); (rfl)) ?_; (with_reducible refine (impl_SplitManifest.calls k5 _ _ t1529 ((rd_T104 t1590 x28_5).f0) t1595 t1596 true _ ?side1 ?side2 A109.out).mono ?_); (case side1 => repeat ((exact (Kd.R_reads' HO_4.out).2.2))); (case side2 => exact (Kd.R_reads' HO_4.out).2.1); rintro e w114 ⟨v1598,v1600,rfl,ho0,ho1,hb⟩; refine ⟨_,rfl,?_⟩; have n0_:=Aside0.mk (Kd.R_mono (Kd.R_told (Kd.R_told (Kd.R_old (by exact HO_4.out) hb) (Kd.R_base ho0)) (Kd.R_base ho1)) (fun _ h_ => h_.1)); have n1_:=Aside0.mk (Kd.R_below (by exact HO_25.out) hb); have n2_:=Aside0.mk (Kd.R_lower (Kd.R_new' ho0 (Kd.R_lt (by exact HO_4.out))) (below_size (by repeat (((with_reducible (exact HB.out))))))); have n3_:=Aside0.mk (Kd.R_lower (Kd.R_new' ho1 (Kd.R_lt (by exact HO_4.out))) (below_size (by repeat (((with_reducible (exact HB.out))))))); have n4_:=Aside0.mk (below_step (by repeat (((with_reducible (exact HB.out))))) hb); clear HO_4; clear HO_25; clear HB; have HO_4:=n0_; have HO_25:=n1_; have HO1599:=n2_; have HO1601:=n3_; have HB:=n4_; clear n0_ n1_ n2_ n3_ n4_; (try clear hb); (try clear hb2); (try clear hk); (try clear hi); (try clear ho0); (try clear ho1); obtain ⟨Ao115,co115,eo115⟩:=Kd.R_slice HO1599.out; subst eo115; have p1602 : 0 ≤ (x28_5 : Int):=of_decide_eq_true (by (with_reducible assumption)); have q1602 : x28_5 < (t1590.length : Int):=of_decide_eq_true (by (with_reducible assumption)); obtain ⟨ad1602,e1602,hx1602_0,hx1602_1⟩:=at_T104 (Kd.R_reads' HO_25.out).2.2 x28_5 p1602 q1602; obtain rfl : ad1594 = ad1602:=(by injection e1602); replace p1602:=eq_true p1602; replace q1602:=eq_true q1602; obtain ⟨Ao116,co116,eo116⟩:=Kd.R_slice HO1601.out; subst eo116; have p1603 : 0 ≤ (x28_5 : Int):=of_decide_eq_true (by (with_reducible assumption)); have q1603 : x28_5 < (t1590.length : Int):=of_decide_eq_true (by (with_reducible assumption)); obtain ⟨ad1603,e1603,hx1603_0,hx1603_1⟩:=at_T104 (Kd.R_reads' HO_25.out).2.2 x28_5 p1603 q1603; obtain rfl : ad1594 = ad1603:=(by injection e1603); replace p1603:=eq_true p1603; replace q1603:=eq_true q1603)))
                     go_roundg k5
                     case measure => have:=HJ6.out; have:=HJ33.out; have:=HJ43.out; have:=HJ64.out; have:=HK5.out; omega
                     case rel => exact ⟨(wrap64 (x27_5 + ((rd_T104 t1590 x28_5).f1))),(wrap64 (x28_5 + 1)),(by (rfl)),(by (rfl)),H',⟨by have:=HJ6.out; have:=HJ33.out; have:=HJ43.out; have:=HJ64.out; have:=HK5.out; omega⟩,⟨by exact Kd.R_mono HO_4.out (fun _ hk => trivial)⟩,⟨by exact HO_25.out⟩,⟨by repeat (((with_reducible (exact HB.out))))⟩⟩
                    ·rw [if_neg c112] at H
                     have c112b0 : ((wrap64 ((t1595.length : Int) + (t1596.length : Int))) == (t1529.length : Int)) = false:=beq_eq_false_iff_ne.mpr c112
                     have c112b1 : ((wrap64 ((t1595.length : Int) + (t1596.length : Int))) != (t1529.length : Int)) = true:=bne_iff_ne.mpr c112
                     exact absurd H (by simp)
                   ·rw [if_neg c111] at H
                    have c111b0 : ((t1595.length : Int) == ((rd_T104 t1590 x28_5).f1)) = false:=beq_eq_false_iff_ne.mpr c111
                    have c111b1 : ((t1595.length : Int) != ((rd_T104 t1590 x28_5).f1)) = true:=bne_iff_ne.mpr c111
                    exact absurd H (by simp)
                  ·replace c110:=Bool.eq_false_iff.mpr c110
                   subst c110
                   have H1 : (none) = some r:=by rw [if_neg (show ¬ (false = true) by decide)] at H; exact H
                   clear H
                   have H:=H1
                   clear H1
                   exact absurd H (by simp)
                 ·rw [if_neg c108] at H
                  exact absurd H (by simp)
                ·rw [if_neg c107] at H
                 have c107b0 : decide (x28_5 < (t1590.length : Int)) = false:=decide_eq_false c107
                 clear c107
                 by_cases c126 : t1591 = true
                 ·subst c126
                  have H1 : (some (x27_5 == (t1529.length : Int))) = some r:=by rw [if_pos rfl] at H; exact H
                  clear H
                  have H:=H1
                  clear H1
                  obtain rfl:=Option.some.inj H
                  obtain ⟨Ao127,co127,eo127⟩:=Kd.R_slice HO_25.out
                  subst eo127
                  go_wp2
                  go_ret
                  exact ⟨by (rfl),by repeat (((with_reducible (exact HB.out))))⟩
                 ·replace c126:=Bool.eq_false_iff.mpr c126
                  subst c126
                  have H1 : (none) = some r:=by rw [if_neg (show ¬ (false = true) by decide)] at H; exact H
                  clear H
                  have H:=H1
                  clear H1
                  exact absurd H (by simp)
        ·replace c42:=Bool.eq_false_iff.mpr c42
         subst c42
         have H1 : (some (!t1558)) = some r:=by rw [if_neg (show ¬ (false = true) by decide)] at H; exact H
         clear H
         have H:=H1
         clear H1
         obtain rfl:=Option.some.inj H
         go_wp2
         go_ret
         exact ⟨by (rfl),by repeat (((with_reducible (exact HB.out))))⟩

end Go.Proofs.Ytlldonokjgoajaa.X
