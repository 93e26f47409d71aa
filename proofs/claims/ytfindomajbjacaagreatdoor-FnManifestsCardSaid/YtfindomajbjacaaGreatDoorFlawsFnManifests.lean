-- Written by a program of ours (wip/bin/xprint.py,over the kit's print.py) out of the translation. Not trusted: Lean checks it.
import Derived.Test.YtfindomajbjacaaGreatDoorX0
import Derived.Test.YtfindomajbjacaaGreatDoorXE0
import Derived.Test.YtfindomajbjacaaGreatDoorLaidA
import Derived.Test.YtfindomajbjacaaGreatDoorFbMan
import Derived.Test.YtfindomajbjacaaGreatDoorFbV
import Derived.Test.YtfindomajbjacaaGreatDoorFimplContainerText
import Derived.Test.YtfindomajbjacaaGreatDoorFimplManifestText
import Derived.Test.YtfindomajbjacaaGreatDoorFimplParseContainer
import Derived.Test.YtfindomajbjacaaGreatDoorFimplParseManifest
import Derived.Test.YtfindomajbjacaaGreatDoorFspecDrawManifestText
import Derived.Test.YtfindomajbjacaaGreatDoorFspecDrawParseContainer
import Derived.Test.YtfindomajbjacaaGreatDoorFspecDrawParseManifest
import Derived.Test.YtfindomajbjacaaGreatDoorFspecParseContainer
namespace Go.Proofs.YtfindomajbjacaaGreatDoor.X
open Go.RowKit Go.Proofs.YtfindomajbjacaaGreatDoorW.PrintWords Go.Proofs.YtfindomajbjacaaGreatDoorW.PrintLast Go.Proofs.YtfindomajbjacaaGreatDoorW.PrintMore
attribute [local go_sem] max2_int min2_int max_two min_two max_three min_three max_four min_four   -- for this text's walks alone
set_option linter.unusedVariables false
set_option linter.unusedSimpArgs false

attribute [local go_sem high] eqA50
/-! ### laws_FnManifests: function 4 -/
mutual
def laws_FnManifests.j0 : Nat → List Int → Bool → Option (Bool)
 | 0,_,_ => none
 | k + 1,x0,x61 => if x61 = true then (none) else ((spec_DrawParseManifest.f k x0).bind fun t957 => ((impl_ParseManifest.f k t957).bind fun bt958 => ((impl_ManifestText.f k bt958.1).bind fun bt962 => (if bt958.2 = true then (if bt962.2 = true then (laws_FnManifests.j1 k x0 (bt962.1.toList != t957.toList)) else (none)) else (laws_FnManifests.j1 k x0 false)))))
def laws_FnManifests.j1 : Nat → List Int → Bool → Option (Bool)
 | 0,_,_ => none
 | k + 1,x0,x83 => if x83 = true then (none) else ((spec_DrawParseContainer.f k x0).bind fun t964 => ((impl_ParseContainer.f k t964).bind fun bt965 => ((impl_ContainerText.f k bt965.1 bt965.2.1 bt965.2.2.1 bt965.2.2.2.1 bt965.2.2.2.2.1).bind fun bt972 => ((spec_ParseContainer.f k t964).bind fun bt974 => (if (bt965.1.toList == bt974.1.toList && (bt965.2.1 == bt974.2.1 && (bt965.2.2.1 == bt974.2.2.1 && (bt965.2.2.2.1 == bt974.2.2.2.1 && (bt965.2.2.2.2.1 == bt974.2.2.2.2.1))))) = true then (if (bt965.2.2.2.2.2 == bt974.2.2.2.2.2) = true then (if bt965.2.2.2.2.2 = true then (if bt972.2 = true then (some (bt972.1.toList == t964.toList)) else (none)) else (some true)) else (none)) else (none))))))
end
def laws_FnManifests.f (k : Nat) (l0 : List Int) : Option (Bool):=(laws_vBig.f l0).bind fun t944 => (if t944 = true then (some true) else ((spec_DrawManifestText.f k l0).bind fun t945 => ((impl_ManifestText.f k t945).bind fun bt948 => ((impl_ParseManifest.f k bt948.1).bind fun bt950 => ((spec_ManifestText.f k t945).bind fun bt954 => (if bt948.1.toList = bt954.1.toList then (if (bt948.2 != bt954.2) = true then (none) else (if bt948.2 = true then (if bt950.2 = true then ((laws_vList.f k bt950.1 t945).bind fun t956 => (laws_FnManifests.j0 k l0 (!t956))) else (none)) else (laws_FnManifests.j0 k l0 false))) else (none)))))))
theorem laws_FnManifests.mono_l : ∀ k,(∀ y0 y1,LeO (laws_FnManifests.j0 k y0 y1) (laws_FnManifests.j0 (k + 1) y0 y1)) ∧ (∀ y0 y1,LeO (laws_FnManifests.j1 k y0 y1) (laws_FnManifests.j1 (k + 1) y0 y1))
 | 0 => ⟨fun _ _ r h => by simp [laws_FnManifests.j0] at h,fun _ _ r h => by simp [laws_FnManifests.j1] at h⟩
 | k + 1 => by
  obtain ⟨ih0,ih1⟩:=laws_FnManifests.mono_l k
  refine ⟨?_,?_⟩
  ·intro y0 y1
   unfold laws_FnManifests.j0
   repeat' first
   | (with_reducible exact ih0 _ _)
   | (with_reducible exact ih1 _ _)
   | (with_reducible exact impl_ContainerText.mono _ _ _ _ _ _)
   | (with_reducible exact impl_ManifestText.mono _ _)
   | (with_reducible exact impl_ParseContainer.mono _ _)
   | (with_reducible exact impl_ParseManifest.mono _ _)
   | (with_reducible exact laws_vList.mono _ _ _)
   | (with_reducible exact spec_DrawManifestText.mono _ _)
   | (with_reducible exact spec_DrawParseContainer.mono _ _)
   | (with_reducible exact spec_DrawParseManifest.mono _ _)
   | (with_reducible exact spec_ManifestText.mono _ _)
   | (with_reducible exact spec_ParseContainer.mono _ _)
   | (with_reducible exact LeO.refl _)
   | (with_reducible exact LeO.none _)
   | (with_reducible refine LeO.ite ?_ ?_)
   | (with_reducible refine LeO.bind ?_ (fun _ => ?_))
   | exact ih0 _ _
   | exact ih1 _ _
   | exact impl_ContainerText.mono _ _ _ _ _ _
   | exact impl_ManifestText.mono _ _
   | exact impl_ParseContainer.mono _ _
   | exact impl_ParseManifest.mono _ _
   | exact laws_vList.mono _ _ _
   | exact spec_DrawManifestText.mono _ _
   | exact spec_DrawParseContainer.mono _ _
   | exact spec_DrawParseManifest.mono _ _
   | exact spec_ManifestText.mono _ _
   | exact spec_ParseContainer.mono _ _
   | exact LeO.none _
   | refine LeO.ite ?_ ?_
   | refine LeO.bind ?_ (fun _ => ?_)
  ·intro y0 y1
   unfold laws_FnManifests.j1
   repeat' first
   | (with_reducible exact ih0 _ _)
   | (with_reducible exact ih1 _ _)
   | (with_reducible exact impl_ContainerText.mono _ _ _ _ _ _)
   | (with_reducible exact impl_ManifestText.mono _ _)
   | (with_reducible exact impl_ParseContainer.mono _ _)
   | (with_reducible exact impl_ParseManifest.mono _ _)
   | (with_reducible exact laws_vList.mono _ _ _)
   | (with_reducible exact spec_DrawManifestText.mono _ _)
   | (with_reducible exact spec_DrawParseContainer.mono _ _)
   | (with_reducible exact spec_DrawParseManifest.mono _ _)
   | (with_reducible exact spec_ManifestText.mono _ _)
   | (with_reducible exact spec_ParseContainer.mono _ _)
   | (with_reducible exact LeO.refl _)
   | (with_reducible exact LeO.none _)
   | (with_reducible refine LeO.ite ?_ ?_)
   | (with_reducible refine LeO.bind ?_ (fun _ => ?_))
   | exact ih0 _ _
   | exact ih1 _ _
   | exact impl_ContainerText.mono _ _ _ _ _ _
   | exact impl_ManifestText.mono _ _
   | exact impl_ParseContainer.mono _ _
   | exact impl_ParseManifest.mono _ _
   | exact laws_vList.mono _ _ _
   | exact spec_DrawManifestText.mono _ _
   | exact spec_DrawParseContainer.mono _ _
   | exact spec_DrawParseManifest.mono _ _
   | exact spec_ManifestText.mono _ _
   | exact spec_ParseContainer.mono _ _
   | exact LeO.none _
   | refine LeO.ite ?_ ?_
   | refine LeO.bind ?_ (fun _ => ?_)
theorem laws_FnManifests.mono : ∀ a0 k,LeO (laws_FnManifests.f k a0) (laws_FnManifests.f (k + 1) a0):=by
 intro a0 k
 obtain ⟨ih0,ih1⟩:=laws_FnManifests.mono_l k
 unfold laws_FnManifests.f
 repeat' first
   | (with_reducible exact ih0 _ _)
   | (with_reducible exact ih1 _ _)
   | (with_reducible exact impl_ContainerText.mono _ _ _ _ _ _)
   | (with_reducible exact impl_ManifestText.mono _ _)
   | (with_reducible exact impl_ParseContainer.mono _ _)
   | (with_reducible exact impl_ParseManifest.mono _ _)
   | (with_reducible exact laws_vList.mono _ _ _)
   | (with_reducible exact spec_DrawManifestText.mono _ _)
   | (with_reducible exact spec_DrawParseContainer.mono _ _)
   | (with_reducible exact spec_DrawParseManifest.mono _ _)
   | (with_reducible exact spec_ManifestText.mono _ _)
   | (with_reducible exact spec_ParseContainer.mono _ _)
   | (with_reducible exact LeO.refl _)
   | (with_reducible exact LeO.none _)
   | (with_reducible refine LeO.ite ?_ ?_)
   | (with_reducible refine LeO.bind ?_ (fun _ => ?_))
   | exact ih0 _ _
   | exact ih1 _ _
   | exact impl_ContainerText.mono _ _ _ _ _ _
   | exact impl_ManifestText.mono _ _
   | exact impl_ParseContainer.mono _ _
   | exact impl_ParseManifest.mono _ _
   | exact laws_vList.mono _ _ _
   | exact spec_DrawManifestText.mono _ _
   | exact spec_DrawParseContainer.mono _ _
   | exact spec_DrawParseManifest.mono _ _
   | exact spec_ManifestText.mono _ _
   | exact spec_ParseContainer.mono _ _
   | exact LeO.none _
   | refine LeO.ite ?_ ?_
   | refine LeO.bind ?_ (fun _ => ?_)
set_option maxHeartbeats 8000000 in
set_option maxRecDepth 100000 in
theorem laws_FnManifests.calls (k : Nat) (A0 : Option Addr) (c0 : Nat) (l0 : List Int) (r : Bool) (w : World) (hr0 : Kd.C (Kd.int .u8) w A0 l0.length l0) (hc0 : l0.length ≤ c0) (hL : LaidA w) (h : laws_FnManifests.f k l0 = some r) :
  Calls Tryz.prog 4 #[.slice A0 l0.length c0] w fun e w' => e = .returned (.bool r) ∧ Below w.heap.size w w':=by
 have HL:=Aside0.mk hL
 clear hL
 have hu50:=Tryz.underlying50
 have HR0:=Aside0.mk hr0
 have HC0:=Aside0.mk hc0
 clear hr0 hc0
 have HB:=Aside0.mk (Below.refl w.heap.size w)
 have H : ((laws_vBig.f l0).bind fun t944 => (if t944 = true then (some true) else ((spec_DrawManifestText.f k l0).bind fun t945 => ((impl_ManifestText.f k t945).bind fun bt948 => ((impl_ParseManifest.f k bt948.1).bind fun bt950 => ((spec_ManifestText.f k t945).bind fun bt954 => (if bt948.1.toList = bt954.1.toList then (if (bt948.2 != bt954.2) = true then (none) else (if bt948.2 = true then (if bt950.2 = true then ((laws_vList.f k bt950.1 t945).bind fun t956 => (laws_FnManifests.j0 k l0 (!t956))) else (none)) else (laws_FnManifests.j0 k l0 false))) else (none)))))))) = some r:=h
 clear h
 replace H:=Option.bind_eq_some_iff.mp H
 obtain ⟨t944,A20,H⟩:=H
 replace H : (if t944 = true then (some true) else ((spec_DrawManifestText.f k l0).bind fun t945 => ((impl_ManifestText.f k t945).bind fun bt948 => ((impl_ParseManifest.f k bt948.1).bind fun bt950 => ((spec_ManifestText.f k t945).bind fun bt954 => (if bt948.1.toList = bt954.1.toList then (if (bt948.2 != bt954.2) = true then (none) else (if bt948.2 = true then (if bt950.2 = true then ((laws_vList.f k bt950.1 t945).bind fun t956 => (laws_FnManifests.j0 k l0 (!t956))) else (none)) else (laws_FnManifests.j0 k l0 false))) else (none))))))) = some r:=H
 have A2:=Aside0.mk A20
 clear A20
 by_cases c3 : t944 = true
 ·subst c3
  have H1 : (some true) = some r:=by rw [if_pos rfl] at H; exact H
  clear H
  have H:=H1
  clear H1
  obtain rfl:=Option.some.inj H
  go_enter Tryz.func4,Tryz.ntmps4
  go_wp2_with ((((with_reducible refine gate_callee (f:=20) rfl ?_); refine goesL_ (some 23) rfl rfl Tryz.func20 (by kernel_rfl) rfl #[.slice A0 l0.length c0] rfl (by (try simp only [List.map_toArray,List.map_cons,List.map_nil]); (rfl)) ?_; (with_reducible refine (laws_vBig.calls _ _ l0 true _ ?side1 ?side2 A2.out).mono ?_); (case side1 => repeat (exact HR0.out)); (case side2 => exact HC0.out); rintro e w' ⟨rfl,⟨nd,rfl⟩⟩; refine ⟨_,rfl,?_⟩)))
  go_ret
  exact ⟨by (rfl),by repeat (with_reducible first|exact HB.out|apply pw_below_drewN)⟩
 ·replace c3:=Bool.eq_false_iff.mpr c3
  subst c3
  have H1 : ((spec_DrawManifestText.f k l0).bind fun t945 => ((impl_ManifestText.f k t945).bind fun bt948 => ((impl_ParseManifest.f k bt948.1).bind fun bt950 => ((spec_ManifestText.f k t945).bind fun bt954 => (if bt948.1.toList = bt954.1.toList then (if (bt948.2 != bt954.2) = true then (none) else (if bt948.2 = true then (if bt950.2 = true then ((laws_vList.f k bt950.1 t945).bind fun t956 => (laws_FnManifests.j0 k l0 (!t956))) else (none)) else (laws_FnManifests.j0 k l0 false))) else (none)))))) = some r:=by rw [if_neg (show ¬ (false = true) by decide)] at H; exact H
  clear H
  have H:=H1
  clear H1
  replace H:=Option.bind_eq_some_iff.mp H
  obtain ⟨t945,A40,H⟩:=H
  replace H : ((impl_ManifestText.f k t945).bind fun bt948 => ((impl_ParseManifest.f k bt948.1).bind fun bt950 => ((spec_ManifestText.f k t945).bind fun bt954 => (if bt948.1.toList = bt954.1.toList then (if (bt948.2 != bt954.2) = true then (none) else (if bt948.2 = true then (if bt950.2 = true then ((laws_vList.f k bt950.1 t945).bind fun t956 => (laws_FnManifests.j0 k l0 (!t956))) else (none)) else (laws_FnManifests.j0 k l0 false))) else (none))))) = some r:=H
  have A4:=Aside0.mk A40
  clear A40
  replace H:=Option.bind_eq_some_iff.mp H
  obtain ⟨⟨t948,t949⟩,A50,H⟩:=H
  replace H : ((impl_ParseManifest.f k t948).bind fun bt950 => ((spec_ManifestText.f k t945).bind fun bt954 => (if t948.toList = bt954.1.toList then (if (t949 != bt954.2) = true then (none) else (if t949 = true then (if bt950.2 = true then ((laws_vList.f k bt950.1 t945).bind fun t956 => (laws_FnManifests.j0 k l0 (!t956))) else (none)) else (laws_FnManifests.j0 k l0 false))) else (none)))) = some r:=H
  have A5:=Aside0.mk A50
  clear A50
  replace H:=Option.bind_eq_some_iff.mp H
  obtain ⟨⟨t950,t951⟩,A60,H⟩:=H
  replace H : ((spec_ManifestText.f k t945).bind fun bt954 => (if t948.toList = bt954.1.toList then (if (t949 != bt954.2) = true then (none) else (if t949 = true then (if t951 = true then ((laws_vList.f k t950 t945).bind fun t956 => (laws_FnManifests.j0 k l0 (!t956))) else (none)) else (laws_FnManifests.j0 k l0 false))) else (none))) = some r:=H
  have A6:=Aside0.mk A60
  clear A60
  replace H:=Option.bind_eq_some_iff.mp H
  obtain ⟨⟨t954,t955⟩,A70,H⟩:=H
  replace H : (if t948.toList = t954.toList then (if (t949 != t955) = true then (none) else (if t949 = true then (if t951 = true then ((laws_vList.f k t950 t945).bind fun t956 => (laws_FnManifests.j0 k l0 (!t956))) else (none)) else (laws_FnManifests.j0 k l0 false))) else (none)) = some r:=H
  have A7:=Aside0.mk A70
  clear A70
  have HC8:=Aside0.mk H
  clear H
  go_enter Tryz.func4,Tryz.ntmps4
  go_upto_region 7 with (first|((with_reducible refine gate_callee (f:=20) rfl ?_); refine goesL_ (some 23) rfl rfl Tryz.func20 (by kernel_rfl) rfl #[.slice A0 l0.length c0] rfl (by (try simp only [List.map_toArray,List.map_cons,List.map_nil]); (rfl)) ?_; (with_reducible refine (laws_vBig.calls _ _ l0 false _ ?side1 ?side2 A2.out).mono ?_); (case side1 => repeat (exact HR0.out)); (case side2 => exact HC0.out); rintro e w' ⟨rfl,⟨nd,rfl⟩⟩; refine ⟨_,rfl,?_⟩)|((with_reducible refine gate_callee (f:=21) rfl ?_); refine goesL_ (some 25) rfl rfl Tryz.func21 (by kernel_rfl) rfl #[.slice A0 l0.length c0] rfl (by (try simp only [List.map_toArray,List.map_cons,List.map_nil]); (rfl)) ?_; (with_reducible refine (spec_DrawManifestText.calls k _ _ l0 t945 _ ?side1 ?side2 A4.out).mono ?_); (case side1 => repeat (exact HR0.out)); (case side2 => exact HC0.out); rintro e w9 ⟨v946,rfl,ho0,hb⟩; refine ⟨_,rfl,?_⟩; have n0_:=Aside0.mk (Kd.R_lower ho0 (below_size (by repeat (with_reducible first|exact HB.out|apply pw_below_drewN)))); have n1_:=Aside0.mk (below_step (by repeat (with_reducible first|exact HB.out|apply pw_below_drewN)) hb); clear HB; have HO947:=n0_; have HB:=n1_; clear n0_ n1_; (try clear hb); (try clear hb2); (try clear hk); (try clear hi); (try clear ho0); obtain ⟨Ao10,co10,eo10⟩:=Kd.R_slice HO947.out; subst eo10)|((with_reducible refine gate_callee (f:=22) rfl ?_); refine goesL_ (some 28) rfl rfl Tryz.func22 (by kernel_rfl) rfl #[.slice Ao10 t945.length co10] rfl (by (try simp only [List.map_toArray,List.map_cons,List.map_nil]); (rfl)) ?_; (with_reducible refine (impl_ManifestText.calls k _ _ t945 t948 t949 _ ?side1 ?side2 ?sideL A5.out).mono ?_); (case sideL => refine LaidA.to_Laid ?_; (with_reducible exact LaidA.below HL.out HB.out)); (case side1 => repeat ((exact (Kd.R_reads' HO947.out).2.2))); (case side2 => exact (Kd.R_reads' HO947.out).2.1); rintro e w11 ⟨rfl,hb⟩; refine ⟨_,rfl,?_⟩; have n0_:=Aside0.mk (Kd.R_below (by exact HO947.out) hb); have n1_:=Aside0.mk (below_step (by repeat (((with_reducible (exact HB.out))))) hb); clear HO947; clear HB; have HO947:=n0_; have HB:=n1_; clear n0_ n1_; (try clear hb); (try clear hb2); (try clear hk); (try clear hi))|((with_reducible refine gate_callee (f:=23) rfl ?_); refine goesL_ (some 33) rfl rfl Tryz.func23 (by kernel_rfl) rfl #[.string t948] rfl (by (try simp only [List.map_toArray,List.map_cons,List.map_nil]); (rfl)) ?_; (with_reducible refine (impl_ParseManifest.calls k t948 t950 t951 _ ?sideL A6.out).mono ?_); (case sideL => (with_reducible exact LaidA.below HL.out HB.out)); rintro e w12 ⟨v952,rfl,ho0,hb⟩; refine ⟨_,rfl,?_⟩; have n0_:=Aside0.mk (Kd.R_elder' (by exact HO947.out) (Kd.R_base ho0) hb); have n1_:=Aside0.mk (Kd.R_lower (Kd.R_new' ho0 (Kd.R_lt (by exact HO947.out))) (below_size (by repeat (((with_reducible (exact HB.out))))))); have n2_:=Aside0.mk (below_step (by repeat (((with_reducible (exact HB.out))))) hb); clear HO947; clear HB; have HO947:=n0_; have HO953:=n1_; have HB:=n2_; clear n0_ n1_ n2_; (try clear hb); (try clear hb2); (try clear hk); (try clear hi); (try clear ho0))|((with_reducible refine gate_callee (f:=24) rfl ?_); refine goesL_ (some 38) rfl rfl Tryz.func24 (by kernel_rfl) rfl #[.slice Ao10 t945.length co10] rfl (by (try simp only [List.map_toArray,List.map_cons,List.map_nil]); (rfl)) ?_; (with_reducible refine (spec_ManifestText.calls k _ _ t945 t954 t955 _ ?side1 ?side2 A7.out).mono ?_); (case side1 => repeat ((exact (Kd.R_reads' HO947.out).2.2))); (case side2 => exact (Kd.R_reads' HO947.out).2.1); rintro e w13 ⟨rfl,hb⟩; refine ⟨_,rfl,?_⟩; have n0_:=Aside0.mk (Kd.R_below (by exact HO947.out) hb); have n1_:=Aside0.mk (Kd.R_below (by exact HO953.out) hb); have n2_:=Aside0.mk (below_step (by repeat (((with_reducible (exact HB.out))))) hb); clear HO947; clear HO953; clear HB; have HO947:=n0_; have HO953:=n1_; have HB:=n2_; clear n0_ n1_ n2_; (try clear hb); (try clear hb2); (try clear hk); (try clear hi)))
  (try simp only [Act.put,List.setIfInBounds_toArray,List.set_cons_zero,List.set_cons_succ])
  go_cut [61] (fun v61 wc => ∃ (kq : Nat) (x61_7 : Bool),v61 = .bool x61_7 ∧ Aside0 (laws_FnManifests.j0 kq l0 x61_7 = some r) ∧ Aside0 (kq ≤ k) ∧ Aside0 (Below w.heap.size w wc))
  case first =>
   have H:=HC8.out
   clear HC8
   by_cases c14 : t948.toList = t954.toList
   ·rw [if_pos c14] at H
    have c14b0 : (t948.toList == t954.toList) = true:=beq_iff_eq.mpr c14
    have c14b1 : (t948.toList != t954.toList) = false:=bne_eq_false_iff_eq.mpr c14
    clear c14
    (skip)
    by_cases c15 : (t949 != t955) = true
    ·rw [if_pos c15] at H
     have c15b0 : (t949 != t955) = true:=c15
     (try (have c15b1 : decide (t949 = t955) = false:=by simpa using c15))
     (try (have c15b2 : (t949 == t955) = false:=by simpa using c15))
     (try (have c15b3 : ¬ (t949 = t955):=by simpa using c15))
     clear c15
     exact absurd H (by simp)
    ·rw [if_neg c15] at H
     have c15b0 : (t949 != t955) = false:=by simpa using c15
     (try (have c15b1 : decide (t949 = t955) = true:=by simpa using c15))
     (try (have c15b2 : (t949 == t955) = true:=by simpa using c15))
     clear c15
     by_cases c16 : t949 = true
     ·subst c16
      have H1 : (if t951 = true then ((laws_vList.f k t950 t945).bind fun t956 => (laws_FnManifests.j0 k l0 (!t956))) else (none)) = some r:=by rw [if_pos rfl] at H; exact H
      clear H
      have H:=H1
      clear H1
      by_cases c17 : t951 = true
      ·subst c17
       have H1 : ((laws_vList.f k t950 t945).bind fun t956 => (laws_FnManifests.j0 k l0 (!t956))) = some r:=by rw [if_pos rfl] at H; exact H
       clear H
       have H:=H1
       clear H1
       replace H:=Option.bind_eq_some_iff.mp H
       obtain ⟨t956,A180,H⟩:=H
       replace H : (laws_FnManifests.j0 k l0 (!t956)) = some r:=H
       have A18:=Aside0.mk A180
       clear A180
       have H':=Aside0.mk H
       clear H
       obtain ⟨Ao19,co19,eo19⟩:=Kd.R_slice HO953.out
       subst eo19
       go_wp2_with (((go_at_call 25; (with_reducible refine (laws_vList.calls k _ _ t950 _ _ t945 t956 _ ?side1 ?side2 ?side3 ?side4 A18.out).mono ?_); (case side1 => repeat ((exact (Kd.R_reads' HO953.out).2.2))); (case side2 => exact (Kd.R_reads' HO953.out).2.1); (case side3 => repeat ((exact (Kd.R_reads' HO947.out).2.2))); (case side4 => exact (Kd.R_reads' HO947.out).2.1); rintro e w' ⟨rfl,⟨nd,rfl⟩⟩)))
       go_meet
       case rel => exact ⟨_,(!t956),(by (rfl)),H',⟨by (omega)⟩,⟨by repeat (with_reducible first|exact HB.out|apply pw_below_drewN)⟩⟩
      ·replace c17:=Bool.eq_false_iff.mpr c17
       subst c17
       have H1 : (none) = some r:=by rw [if_neg (show ¬ (false = true) by decide)] at H; exact H
       clear H
       have H:=H1
       clear H1
       exact absurd H (by simp)
     ·replace c16:=Bool.eq_false_iff.mpr c16
      subst c16
      have H1 : (laws_FnManifests.j0 k l0 false) = some r:=by rw [if_neg (show ¬ (false = true) by decide)] at H; exact H
      clear H
      have H:=H1
      clear H1
      have H':=Aside0.mk H
      clear H
      go_wp2
      go_meet
      case rel => exact ⟨_,(false),(by (rfl)),H',⟨by (omega)⟩,⟨by repeat (((with_reducible (exact HB.out))))⟩⟩
   ·rw [if_neg c14] at H
    have c14b0 : (t948.toList == t954.toList) = false:=beq_eq_false_iff_ne.mpr c14
    have c14b1 : (t948.toList != t954.toList) = true:=bne_iff_ne.mpr c14
    (skip)
    exact absurd H (by simp)
  case rest =>
   clear HC8
   try clear c1
   try clear c2
   try clear p2
   try clear c3
   try clear c4
   try clear c14
   try clear c14b0
   try clear c14b1
   try clear c15
   try clear c15b0
   try clear c15b1
   try clear c15b2
   try clear c16
   try clear c17
   obtain ⟨kq,x61_7,rfl,HA,HJ7,HB⟩:=hcut
   cases kq with
   | zero => exact absurd HA.out (by simp [laws_FnManifests.j0])
   | succ kj7 =>
    have H:=HA.out
    clear HA
    simp only [laws_FnManifests.j0] at H
    by_cases c20 : x61_7 = true
    ·subst c20
     have H1 : (none) = some r:=by rw [if_pos rfl] at H; exact H
     clear H
     have H:=H1
     clear H1
     exact absurd H (by simp)
    ·replace c20:=Bool.eq_false_iff.mpr c20
     subst c20
     have H1 : ((spec_DrawParseManifest.f kj7 l0).bind fun t957 => ((impl_ParseManifest.f kj7 t957).bind fun bt958 => ((impl_ManifestText.f kj7 bt958.1).bind fun bt962 => (if bt958.2 = true then (if bt962.2 = true then (laws_FnManifests.j1 kj7 l0 (bt962.1.toList != t957.toList)) else (none)) else (laws_FnManifests.j1 kj7 l0 false))))) = some r:=by rw [if_neg (show ¬ (false = true) by decide)] at H; exact H
     clear H
     have H:=H1
     clear H1
     replace H:=Option.bind_eq_some_iff.mp H
     obtain ⟨t957,A210,H⟩:=H
     replace H : ((impl_ParseManifest.f kj7 t957).bind fun bt958 => ((impl_ManifestText.f kj7 bt958.1).bind fun bt962 => (if bt958.2 = true then (if bt962.2 = true then (laws_FnManifests.j1 kj7 l0 (bt962.1.toList != t957.toList)) else (none)) else (laws_FnManifests.j1 kj7 l0 false)))) = some r:=H
     have A21:=Aside0.mk A210
     clear A210
     replace H:=Option.bind_eq_some_iff.mp H
     obtain ⟨⟨t958,t959⟩,A220,H⟩:=H
     replace H : ((impl_ManifestText.f kj7 t958).bind fun bt962 => (if t959 = true then (if bt962.2 = true then (laws_FnManifests.j1 kj7 l0 (bt962.1.toList != t957.toList)) else (none)) else (laws_FnManifests.j1 kj7 l0 false))) = some r:=H
     have A22:=Aside0.mk A220
     clear A220
     replace H:=Option.bind_eq_some_iff.mp H
     obtain ⟨⟨t962,t963⟩,A230,H⟩:=H
     replace H : (if t959 = true then (if t963 = true then (laws_FnManifests.j1 kj7 l0 (t962.toList != t957.toList)) else (none)) else (laws_FnManifests.j1 kj7 l0 false)) = some r:=H
     have A23:=Aside0.mk A230
     clear A230
     have HC24:=Aside0.mk H
     clear H
     go_upto_region 12 with (first|((with_reducible refine gate_callee (f:=26) rfl ?_); refine goesL_ (some 63) rfl rfl Tryz.func26 (by kernel_rfl) rfl #[.slice A0 l0.length c0] rfl (by (try simp only [List.map_toArray,List.map_cons,List.map_nil]); (rfl)) ?_; (with_reducible refine (spec_DrawParseManifest.calls kj7 _ _ l0 t957 _ ?side1 ?side2 A21.out).mono ?_); (case side1 => repeat ((exact (Kd.C_below HR0.out HB.out)))); (case side2 => exact HC0.out); rintro e w25 ⟨rfl,hb⟩; refine ⟨_,rfl,?_⟩; have n0_:=Aside0.mk (below_step (by repeat (((with_reducible (exact HB.out))))) hb); clear HB; have HB:=n0_; clear n0_; (try clear hb); (try clear hb2); (try clear hk); (try clear hi))|((with_reducible refine gate_callee (f:=23) rfl ?_); refine goesL_ (some 66) rfl rfl Tryz.func23 (by kernel_rfl) rfl #[.string t957] rfl (by (try simp only [List.map_toArray,List.map_cons,List.map_nil]); (rfl)) ?_; (with_reducible refine (impl_ParseManifest.calls kj7 t957 t958 t959 _ ?sideL A22.out).mono ?_); (case sideL => (with_reducible exact LaidA.below HL.out HB.out)); rintro e w26 ⟨v960,rfl,ho0,hb⟩; refine ⟨_,rfl,?_⟩; have n0_:=Aside0.mk (Kd.R_lower ho0 (below_size (by repeat (((with_reducible (exact HB.out))))))); have n1_:=Aside0.mk (below_step (by repeat (((with_reducible (exact HB.out))))) hb); clear HB; have HO961:=n0_; have HB:=n1_; clear n0_ n1_; (try clear hb); (try clear hb2); (try clear hk); (try clear hi); (try clear ho0); obtain ⟨Ao27,co27,eo27⟩:=Kd.R_slice HO961.out; subst eo27)|((with_reducible refine gate_callee (f:=22) rfl ?_); refine goesL_ (some 71) rfl rfl Tryz.func22 (by kernel_rfl) rfl #[.slice Ao27 t958.length co27] rfl (by (try simp only [List.map_toArray,List.map_cons,List.map_nil]); (rfl)) ?_; (with_reducible refine (impl_ManifestText.calls kj7 _ _ t958 t962 t963 _ ?side1 ?side2 ?sideL A23.out).mono ?_); (case sideL => refine LaidA.to_Laid ?_; (with_reducible exact LaidA.below HL.out HB.out)); (case side1 => repeat ((exact (Kd.R_reads' HO961.out).2.2))); (case side2 => exact (Kd.R_reads' HO961.out).2.1); rintro e w28 ⟨rfl,hb⟩; refine ⟨_,rfl,?_⟩; have n0_:=Aside0.mk (Kd.R_below (by exact HO961.out) hb); have n1_:=Aside0.mk (below_step (by repeat (((with_reducible (exact HB.out))))) hb); clear HO961; clear HB; have HO961:=n0_; have HB:=n1_; clear n0_ n1_; (try clear hb); (try clear hb2); (try clear hk); (try clear hi)))
     (try simp only [Act.put,List.setIfInBounds_toArray,List.set_cons_zero,List.set_cons_succ])
     go_cut [83] (fun v83 wc => ∃ (kq : Nat) (x83_23 : Bool),v83 = .bool x83_23 ∧ Aside0 (laws_FnManifests.j1 kq l0 x83_23 = some r) ∧ Aside0 (kq ≤ kj7) ∧ Aside0 (Below w.heap.size w wc))
     case first =>
      have H:=HC24.out
      clear HC24
      by_cases c29 : t959 = true
      ·subst c29
       have H1 : (if t963 = true then (laws_FnManifests.j1 kj7 l0 (t962.toList != t957.toList)) else (none)) = some r:=by rw [if_pos rfl] at H; exact H
       clear H
       have H:=H1
       clear H1
       by_cases c30 : t963 = true
       ·subst c30
        have H1 : (laws_FnManifests.j1 kj7 l0 (t962.toList != t957.toList)) = some r:=by rw [if_pos rfl] at H; exact H
        clear H
        have H:=H1
        clear H1
        have H':=Aside0.mk H
        clear H
        go_wp2
        go_meet
        case rel => exact ⟨_,(t962.toList != t957.toList),(by (rfl)),H',⟨by have:=HJ7.out; (omega)⟩,⟨by repeat (((with_reducible (exact HB.out))))⟩⟩
       ·replace c30:=Bool.eq_false_iff.mpr c30
        subst c30
        have H1 : (none) = some r:=by rw [if_neg (show ¬ (false = true) by decide)] at H; exact H
        clear H
        have H:=H1
        clear H1
        exact absurd H (by simp)
      ·replace c29:=Bool.eq_false_iff.mpr c29
       subst c29
       have H1 : (laws_FnManifests.j1 kj7 l0 false) = some r:=by rw [if_neg (show ¬ (false = true) by decide)] at H; exact H
       clear H
       have H:=H1
       clear H1
       have H':=Aside0.mk H
       clear H
       go_wp2
       go_meet
       case rel => exact ⟨_,(false),(by (rfl)),H',⟨by have:=HJ7.out; (omega)⟩,⟨by repeat (((with_reducible (exact HB.out))))⟩⟩
     case rest =>
      clear HC24
      try clear c1
      try clear c2
      try clear p2
      try clear c3
      try clear c4
      try clear c14
      try clear c14b0
      try clear c14b1
      try clear c15
      try clear c15b0
      try clear c15b1
      try clear c15b2
      try clear c16
      try clear c17
      try clear c20
      try clear c21
      try clear c22
      try clear c23
      try clear c24
      try clear c26
      try clear c29
      try clear c30
      try clear p2
      obtain ⟨kq,x83_23,rfl,HA,HJ23,HB⟩:=hcut
      cases kq with
      | zero => exact absurd HA.out (by simp [laws_FnManifests.j1])
      | succ kj23 =>
       have H:=HA.out
       clear HA
       simp only [laws_FnManifests.j1] at H
       by_cases c31 : x83_23 = true
       ·subst c31
        have H1 : (none) = some r:=by rw [if_pos rfl] at H; exact H
        clear H
        have H:=H1
        clear H1
        exact absurd H (by simp)
       ·replace c31:=Bool.eq_false_iff.mpr c31
        subst c31
        have H1 : ((spec_DrawParseContainer.f kj23 l0).bind fun t964 => ((impl_ParseContainer.f kj23 t964).bind fun bt965 => ((impl_ContainerText.f kj23 bt965.1 bt965.2.1 bt965.2.2.1 bt965.2.2.2.1 bt965.2.2.2.2.1).bind fun bt972 => ((spec_ParseContainer.f kj23 t964).bind fun bt974 => (if (bt965.1.toList == bt974.1.toList && (bt965.2.1 == bt974.2.1 && (bt965.2.2.1 == bt974.2.2.1 && (bt965.2.2.2.1 == bt974.2.2.2.1 && (bt965.2.2.2.2.1 == bt974.2.2.2.2.1))))) = true then (if (bt965.2.2.2.2.2 == bt974.2.2.2.2.2) = true then (if bt965.2.2.2.2.2 = true then (if bt972.2 = true then (some (bt972.1.toList == t964.toList)) else (none)) else (some true)) else (none)) else (none)))))) = some r:=by rw [if_neg (show ¬ (false = true) by decide)] at H; exact H
        clear H
        have H:=H1
        clear H1
        replace H:=Option.bind_eq_some_iff.mp H
        obtain ⟨t964,A320,H⟩:=H
        replace H : ((impl_ParseContainer.f kj23 t964).bind fun bt965 => ((impl_ContainerText.f kj23 bt965.1 bt965.2.1 bt965.2.2.1 bt965.2.2.2.1 bt965.2.2.2.2.1).bind fun bt972 => ((spec_ParseContainer.f kj23 t964).bind fun bt974 => (if (bt965.1.toList == bt974.1.toList && (bt965.2.1 == bt974.2.1 && (bt965.2.2.1 == bt974.2.2.1 && (bt965.2.2.2.1 == bt974.2.2.2.1 && (bt965.2.2.2.2.1 == bt974.2.2.2.2.1))))) = true then (if (bt965.2.2.2.2.2 == bt974.2.2.2.2.2) = true then (if bt965.2.2.2.2.2 = true then (if bt972.2 = true then (some (bt972.1.toList == t964.toList)) else (none)) else (some true)) else (none)) else (none))))) = some r:=H
        have A32:=Aside0.mk A320
        clear A320
        replace H:=Option.bind_eq_some_iff.mp H
        obtain ⟨⟨t965,t966,t967,t968,t969,t970⟩,A330,H⟩:=H
        replace H : ((impl_ContainerText.f kj23 t965 t966 t967 t968 t969).bind fun bt972 => ((spec_ParseContainer.f kj23 t964).bind fun bt974 => (if (t965.toList == bt974.1.toList && (t966 == bt974.2.1 && (t967 == bt974.2.2.1 && (t968 == bt974.2.2.2.1 && (t969 == bt974.2.2.2.2.1))))) = true then (if (t970 == bt974.2.2.2.2.2) = true then (if t970 = true then (if bt972.2 = true then (some (bt972.1.toList == t964.toList)) else (none)) else (some true)) else (none)) else (none)))) = some r:=H
        have A33:=Aside0.mk A330
        clear A330
        replace H:=Option.bind_eq_some_iff.mp H
        obtain ⟨⟨t972,t973⟩,A340,H⟩:=H
        replace H : ((spec_ParseContainer.f kj23 t964).bind fun bt974 => (if (t965.toList == bt974.1.toList && (t966 == bt974.2.1 && (t967 == bt974.2.2.1 && (t968 == bt974.2.2.2.1 && (t969 == bt974.2.2.2.2.1))))) = true then (if (t970 == bt974.2.2.2.2.2) = true then (if t970 = true then (if t973 = true then (some (t972.toList == t964.toList)) else (none)) else (some true)) else (none)) else (none))) = some r:=H
        have A34:=Aside0.mk A340
        clear A340
        replace H:=Option.bind_eq_some_iff.mp H
        obtain ⟨⟨t974,t975,t976,t977,t978,t979⟩,A350,H⟩:=H
        replace H : (if (t965.toList == t974.toList && (t966 == t975 && (t967 == t976 && (t968 == t977 && (t969 == t978))))) = true then (if (t970 == t979) = true then (if t970 = true then (if t973 = true then (some (t972.toList == t964.toList)) else (none)) else (some true)) else (none)) else (none)) = some r:=H
        have A35:=Aside0.mk A350
        clear A350
        by_cases c36 : (t965.toList == t974.toList && (t966 == t975 && (t967 == t976 && (t968 == t977 && (t969 == t978))))) = true
        ·rw [if_pos c36] at H
         have c36b0 : (t965.toList == t974.toList && (t966 == t975 && (t967 == t976 && (t968 == t977 && (t969 == t978))))) = true:=c36
         (try (have c36b1 : decide (t965.toList = t974.toList && (t966 == t975 && (t967 == t976 && (t968 == t977 && (t969 == t978))))) = true:=by simpa using c36))
         (try (have c36b2 : (t965.toList == t974.toList && (t966 == t975 && (t967 == t976 && (t968 == t977 && (t969 == t978))))) = true:=by simpa using c36))
         clear c36
         by_cases c37 : (t970 == t979) = true
         ·rw [if_pos c37] at H
          have c37b0 : (t970 == t979) = true:=c37
          (try (have c37b1 : decide (t970 = t979) = true:=by simpa using c37))
          (try (have c37b2 : (t970 == t979) = true:=by simpa using c37))
          clear c37
          by_cases c38 : t970 = true
          ·subst c38
           have H1 : (if t973 = true then (some (t972.toList == t964.toList)) else (none)) = some r:=by rw [if_pos rfl] at H; exact H
           clear H
           have H:=H1
           clear H1
           by_cases c39 : t973 = true
           ·subst c39
            have H1 : (some (t972.toList == t964.toList)) = some r:=by rw [if_pos rfl] at H; exact H
            clear H
            have H:=H1
            clear H1
            obtain rfl:=Option.some.inj H
            go_wp2_with (first|((with_reducible refine gate_callee (f:=27) rfl ?_); refine goesL_ (some 85) rfl rfl Tryz.func27 (by kernel_rfl) rfl #[.slice A0 l0.length c0] rfl (by (try simp only [List.map_toArray,List.map_cons,List.map_nil]); (rfl)) ?_; (with_reducible refine (spec_DrawParseContainer.calls kj23 _ _ l0 t964 _ ?side1 ?side2 A32.out).mono ?_); (case side1 => repeat ((exact (Kd.C_below HR0.out HB.out)))); (case side2 => exact HC0.out); rintro e w40 ⟨rfl,hb⟩; refine ⟨_,rfl,?_⟩; have n0_:=Aside0.mk (below_step (by repeat (((with_reducible (exact HB.out))))) hb); clear HB; have HB:=n0_; clear n0_; (try clear hb); (try clear hb2); (try clear hk); (try clear hi))|((with_reducible refine gate_callee (f:=28) rfl ?_); refine goesL_ (some 88) rfl rfl Tryz.func28 (by kernel_rfl) rfl #[.string t964] rfl (by (try simp only [List.map_toArray,List.map_cons,List.map_nil]); (rfl)) ?_; (with_reducible refine (impl_ParseContainer.calls kj23 t964 t965 t966 t967 t968 t969 true _ ?sideL A33.out).mono ?_); (case sideL => (with_reducible exact LaidA.below HL.out HB.out)); rintro e w41 ⟨rfl,hb⟩; refine ⟨_,rfl,?_⟩; have n0_:=Aside0.mk (below_step (by repeat (((with_reducible (exact HB.out))))) hb); clear HB; have HB:=n0_; clear n0_; (try clear hb); (try clear hb2); (try clear hk); (try clear hi))|((with_reducible refine gate_dst (N:=16) rfl ?_); refine box_event ?hg (N:=16) ?hd (cs:=#[.string (⟨#[]⟩ : ByteArray),.int .i64 0,.int .i64 0,.int .i64 0,.int .i64 0]) (t:=50) ?hr ?_; (case hd => rfl); (case hg => rfl); (case hr => (go_simp; done)); intro gb971 hg w42 hbox hb; have n0_:=Aside0.mk (below_step (by repeat (((with_reducible (exact HB.out))))) hb); have n1_:=Aside0.mk (hbox); have n2_:=Aside0.mk ((by rw [hg]; exact (below_size (by repeat (((with_reducible (exact HB.out)))))) : w.heap.size ≤ gb971)); have n3_:=Aside0.mk ((by rw [hg]; exact (below_size (by repeat (((with_reducible (exact HB.out)))))) : w.heap.size ≤ gb971)); clear HB; have HB:=n0_; have BK971:=n1_; have GW971:=n2_; have GE971:=n3_; clear n0_ n1_ n2_ n3_; clear hb hbox hg; have hcz43_0 : w42.cell? ⟨gb971,0,none⟩ = some (.string (⟨#[]⟩ : ByteArray)):=(blk_cell BK971.out 0).trans rfl; have hcz43_1 : w42.cell? ⟨gb971,1,none⟩ = some (.int .i64 0):=(blk_cell BK971.out 1).trans rfl; have hcz43_2 : w42.cell? ⟨gb971,2,none⟩ = some (.int .i64 0):=(blk_cell BK971.out 2).trans rfl; have hcz43_3 : w42.cell? ⟨gb971,3,none⟩ = some (.int .i64 0):=(blk_cell BK971.out 3).trans rfl; have hcz43_4 : w42.cell? ⟨gb971,4,none⟩ = some (.int .i64 0):=(blk_cell BK971.out 4).trans rfl; have hfz43_0:=blk_frozen BK971.out 0; have hfz43_1:=blk_frozen BK971.out 1; have hfz43_2:=blk_frozen BK971.out 2; have hfz43_3:=blk_frozen BK971.out 3; have hfz43_4:=blk_frozen BK971.out 4)|((with_reducible refine gate_callee (f:=29) rfl ?_); refine goesL_ (some 93) rfl rfl Tryz.func29 (by kernel_rfl) rfl #[.agg #[.string t965,.int .i64 t966,.int .i64 t967,.int .i64 t968,.int .i64 t969]] rfl (by (try simp only [List.map_toArray,List.map_cons,List.map_nil]); (rfl)) ?_; (with_reducible refine (impl_ContainerText.calls kj23 t965 t966 t967 t968 t969 t972 true _ ?sideL A34.out).mono ?_); (case sideL => refine LaidA.to_Laid ?_; ((exact LaidA.below HL.out (by repeat (with_reducible first|exact HB.out|refine below_set ?_ GE971.out))))); rintro e w44 ⟨rfl,hb⟩; refine ⟨_,rfl,?_⟩; have n0_:=Aside0.mk (blk_below (g:=gb971) (o:=.cells #[.string t965,.int .i64 t966,.int .i64 t967,.int .i64 t968,.int .i64 t969] 50 (0,0)) (by refine blk_put (cs:=#[.string t965,.int .i64 t966,.int .i64 t967,.int .i64 t968,.int .i64 0]) ?_ 4 _ rfl; refine blk_put (cs:=#[.string t965,.int .i64 t966,.int .i64 t967,.int .i64 0,.int .i64 0]) ?_ 3 _ rfl; refine blk_put (cs:=#[.string t965,.int .i64 t966,.int .i64 0,.int .i64 0,.int .i64 0]) ?_ 2 _ rfl; refine blk_put (cs:=#[.string t965,.int .i64 0,.int .i64 0,.int .i64 0,.int .i64 0]) ?_ 1 _ rfl; refine blk_put (cs:=#[.string (⟨#[]⟩ : ByteArray),.int .i64 0,.int .i64 0,.int .i64 0,.int .i64 0]) ?_ 0 _ rfl; exact BK971.out) hb); have n1_:=Aside0.mk (below_step (by repeat (with_reducible first|exact HB.out|refine below_set ?_ GE971.out)) hb); clear BK971; clear HB; have BK971:=n0_; have HB:=n1_; clear n0_ n1_; (try clear hb); (try clear hb2); (try clear hk); (try clear hi))|((with_reducible refine gate_callee (f:=30) rfl ?_); refine goesL_ (some 98) rfl rfl Tryz.func30 (by kernel_rfl) rfl #[.string t964] rfl (by (try simp only [List.map_toArray,List.map_cons,List.map_nil]); (rfl)) ?_; (with_reducible refine (spec_ParseContainer.calls kj23 t964 t974 t975 t976 t977 t978 t979 _ A35.out).mono ?_); rintro e w45 ⟨rfl,hb⟩; refine ⟨_,rfl,?_⟩; have n0_:=Aside0.mk (blk_below (g:=gb971) (o:=.cells #[.string t965,.int .i64 t966,.int .i64 t967,.int .i64 t968,.int .i64 t969] 50 (0,0)) (by exact BK971.out) hb); have n1_:=Aside0.mk (below_step (by repeat (((with_reducible (exact HB.out))))) hb); clear BK971; clear HB; have BK971:=n0_; have HB:=n1_; clear n0_ n1_; (try clear hb); (try clear hb2); (try clear hk); (try clear hi))|((with_reducible refine gate_dst (N:=20) rfl ?_); refine box_event ?hg (N:=20) ?hd (cs:=#[.string (⟨#[]⟩ : ByteArray),.int .i64 0,.int .i64 0,.int .i64 0,.int .i64 0]) (t:=50) ?hr ?_; (case hd => rfl); (case hg => rfl); (case hr => (go_simp; done)); intro gb980 hg w46 hbox hb; have n0_:=Aside0.mk (blk_below (g:=gb971) (o:=.cells #[.string t965,.int .i64 t966,.int .i64 t967,.int .i64 t968,.int .i64 t969] 50 (0,0)) (by exact BK971.out) hb); have n1_:=Aside0.mk (below_step (by repeat (((with_reducible (exact HB.out))))) hb); have n2_:=Aside0.mk (hbox); have n3_:=Aside0.mk ((by rw [hg]; exact (below_size (by repeat (((with_reducible (exact HB.out)))))) : w.heap.size ≤ gb980)); have n4_:=Aside0.mk ((by rw [hg]; exact (below_size (by repeat (((with_reducible (exact HB.out)))))) : w.heap.size ≤ gb980)); have n5_:=Aside0.mk ((by rw [hg]; exact Nat.ne_of_lt (blk_lt (g:=gb971) (o:=.cells #[.string t965,.int .i64 t966,.int .i64 t967,.int .i64 t968,.int .i64 t969] 50 (0,0)) (by exact BK971.out)) : gb971 ≠ gb980)); have n6_:=Aside0.mk ((by rw [hg]; exact Nat.ne_of_gt (blk_lt (g:=gb971) (o:=.cells #[.string t965,.int .i64 t966,.int .i64 t967,.int .i64 t968,.int .i64 t969] 50 (0,0)) (by exact BK971.out)) : gb980 ≠ gb971)); clear BK971; clear HB; have BK971:=n0_; have HB:=n1_; have BK980:=n2_; have GW980:=n3_; have GE980:=n4_; have NB971_980:=n5_; have NB980_971:=n6_; clear n0_ n1_ n2_ n3_ n4_ n5_ n6_; clear hb hbox hg; have hnb47:=NB980_971.out; have hnc47:=NB971_980.out; have hcz48_0 : w46.cell? ⟨gb980,0,none⟩ = some (.string (⟨#[]⟩ : ByteArray)):=(blk_cell BK980.out 0).trans rfl; have hcz48_1 : w46.cell? ⟨gb980,1,none⟩ = some (.int .i64 0):=(blk_cell BK980.out 1).trans rfl; have hcz48_2 : w46.cell? ⟨gb980,2,none⟩ = some (.int .i64 0):=(blk_cell BK980.out 2).trans rfl; have hcz48_3 : w46.cell? ⟨gb980,3,none⟩ = some (.int .i64 0):=(blk_cell BK980.out 3).trans rfl; have hcz48_4 : w46.cell? ⟨gb980,4,none⟩ = some (.int .i64 0):=(blk_cell BK980.out 4).trans rfl; have hfz48_0:=blk_frozen BK980.out 0; have hfz48_1:=blk_frozen BK980.out 1; have hfz48_2:=blk_frozen BK980.out 2; have hfz48_3:=blk_frozen BK980.out 3; have hfz48_4:=blk_frozen BK980.out 4; have hcz49_0 : w46.cell? ⟨gb971,0,none⟩ = some (.string t965):=(blk_cell BK971.out 0).trans rfl; have hcz49_1 : w46.cell? ⟨gb971,1,none⟩ = some (.int .i64 t966):=(blk_cell BK971.out 1).trans rfl; have hcz49_2 : w46.cell? ⟨gb971,2,none⟩ = some (.int .i64 t967):=(blk_cell BK971.out 2).trans rfl; have hcz49_3 : w46.cell? ⟨gb971,3,none⟩ = some (.int .i64 t968):=(blk_cell BK971.out 3).trans rfl; have hcz49_4 : w46.cell? ⟨gb971,4,none⟩ = some (.int .i64 t969):=(blk_cell BK971.out 4).trans rfl; have hfz49_0:=blk_frozen BK971.out 0; have hfz49_1:=blk_frozen BK971.out 1; have hfz49_2:=blk_frozen BK971.out 2; have hfz49_3:=blk_frozen BK971.out 3; have hfz49_4:=blk_frozen BK971.out 4))
            go_ret
            exact ⟨by (rfl),by repeat (with_reducible first|exact HB.out|refine below_set ?_ GE980.out)⟩
           ·replace c39:=Bool.eq_false_iff.mpr c39
            subst c39
            have H1 : (none) = some r:=by rw [if_neg (show ¬ (false = true) by decide)] at H; exact H
            clear H
            have H:=H1
            clear H1
            exact absurd H (by simp)
          ·replace c38:=Bool.eq_false_iff.mpr c38
           subst c38
           have H1 : (some true) = some r:=by rw [if_neg (show ¬ (false = true) by decide)] at H; exact H
           clear H
           have H:=H1
           clear H1
           obtain rfl:=Option.some.inj H
           go_wp2_with (first|((with_reducible refine gate_callee (f:=27) rfl ?_); refine goesL_ (some 85) rfl rfl Tryz.func27 (by kernel_rfl) rfl #[.slice A0 l0.length c0] rfl (by (try simp only [List.map_toArray,List.map_cons,List.map_nil]); (rfl)) ?_; (with_reducible refine (spec_DrawParseContainer.calls kj23 _ _ l0 t964 _ ?side1 ?side2 A32.out).mono ?_); (case side1 => repeat ((exact (Kd.C_below HR0.out HB.out)))); (case side2 => exact HC0.out); rintro e w60 ⟨rfl,hb⟩; refine ⟨_,rfl,?_⟩; have n0_:=Aside0.mk (below_step (by repeat (((with_reducible (exact HB.out))))) hb); clear HB; have HB:=n0_; clear n0_; (try clear hb); (try clear hb2); (try clear hk); (try clear hi))|((with_reducible refine gate_callee (f:=28) rfl ?_); refine goesL_ (some 88) rfl rfl Tryz.func28 (by kernel_rfl) rfl #[.string t964] rfl (by (try simp only [List.map_toArray,List.map_cons,List.map_nil]); (rfl)) ?_; (with_reducible refine (impl_ParseContainer.calls kj23 t964 t965 t966 t967 t968 t969 false _ ?sideL A33.out).mono ?_); (case sideL => (with_reducible exact LaidA.below HL.out HB.out)); rintro e w61 ⟨rfl,hb⟩; refine ⟨_,rfl,?_⟩; have n0_:=Aside0.mk (below_step (by repeat (((with_reducible (exact HB.out))))) hb); clear HB; have HB:=n0_; clear n0_; (try clear hb); (try clear hb2); (try clear hk); (try clear hi))|((with_reducible refine gate_dst (N:=16) rfl ?_); refine box_event ?hg (N:=16) ?hd (cs:=#[.string (⟨#[]⟩ : ByteArray),.int .i64 0,.int .i64 0,.int .i64 0,.int .i64 0]) (t:=50) ?hr ?_; (case hd => rfl); (case hg => rfl); (case hr => (go_simp; done)); intro gb971 hg w62 hbox hb; have n0_:=Aside0.mk (below_step (by repeat (((with_reducible (exact HB.out))))) hb); have n1_:=Aside0.mk (hbox); have n2_:=Aside0.mk ((by rw [hg]; exact (below_size (by repeat (((with_reducible (exact HB.out)))))) : w.heap.size ≤ gb971)); have n3_:=Aside0.mk ((by rw [hg]; exact (below_size (by repeat (((with_reducible (exact HB.out)))))) : w.heap.size ≤ gb971)); clear HB; have HB:=n0_; have BK971:=n1_; have GW971:=n2_; have GE971:=n3_; clear n0_ n1_ n2_ n3_; clear hb hbox hg; have hcz63_0 : w62.cell? ⟨gb971,0,none⟩ = some (.string (⟨#[]⟩ : ByteArray)):=(blk_cell BK971.out 0).trans rfl; have hcz63_1 : w62.cell? ⟨gb971,1,none⟩ = some (.int .i64 0):=(blk_cell BK971.out 1).trans rfl; have hcz63_2 : w62.cell? ⟨gb971,2,none⟩ = some (.int .i64 0):=(blk_cell BK971.out 2).trans rfl; have hcz63_3 : w62.cell? ⟨gb971,3,none⟩ = some (.int .i64 0):=(blk_cell BK971.out 3).trans rfl; have hcz63_4 : w62.cell? ⟨gb971,4,none⟩ = some (.int .i64 0):=(blk_cell BK971.out 4).trans rfl; have hfz63_0:=blk_frozen BK971.out 0; have hfz63_1:=blk_frozen BK971.out 1; have hfz63_2:=blk_frozen BK971.out 2; have hfz63_3:=blk_frozen BK971.out 3; have hfz63_4:=blk_frozen BK971.out 4)|((with_reducible refine gate_callee (f:=29) rfl ?_); refine goesL_ (some 93) rfl rfl Tryz.func29 (by kernel_rfl) rfl #[.agg #[.string t965,.int .i64 t966,.int .i64 t967,.int .i64 t968,.int .i64 t969]] rfl (by (try simp only [List.map_toArray,List.map_cons,List.map_nil]); (rfl)) ?_; (with_reducible refine (impl_ContainerText.calls kj23 t965 t966 t967 t968 t969 t972 t973 _ ?sideL A34.out).mono ?_); (case sideL => refine LaidA.to_Laid ?_; ((exact LaidA.below HL.out (by repeat (with_reducible first|exact HB.out|refine below_set ?_ GE971.out))))); rintro e w64 ⟨rfl,hb⟩; refine ⟨_,rfl,?_⟩; have n0_:=Aside0.mk (blk_below (g:=gb971) (o:=.cells #[.string t965,.int .i64 t966,.int .i64 t967,.int .i64 t968,.int .i64 t969] 50 (0,0)) (by refine blk_put (cs:=#[.string t965,.int .i64 t966,.int .i64 t967,.int .i64 t968,.int .i64 0]) ?_ 4 _ rfl; refine blk_put (cs:=#[.string t965,.int .i64 t966,.int .i64 t967,.int .i64 0,.int .i64 0]) ?_ 3 _ rfl; refine blk_put (cs:=#[.string t965,.int .i64 t966,.int .i64 0,.int .i64 0,.int .i64 0]) ?_ 2 _ rfl; refine blk_put (cs:=#[.string t965,.int .i64 0,.int .i64 0,.int .i64 0,.int .i64 0]) ?_ 1 _ rfl; refine blk_put (cs:=#[.string (⟨#[]⟩ : ByteArray),.int .i64 0,.int .i64 0,.int .i64 0,.int .i64 0]) ?_ 0 _ rfl; exact BK971.out) hb); have n1_:=Aside0.mk (below_step (by repeat (with_reducible first|exact HB.out|refine below_set ?_ GE971.out)) hb); clear BK971; clear HB; have BK971:=n0_; have HB:=n1_; clear n0_ n1_; (try clear hb); (try clear hb2); (try clear hk); (try clear hi))|((with_reducible refine gate_callee (f:=30) rfl ?_); refine goesL_ (some 98) rfl rfl Tryz.func30 (by kernel_rfl) rfl #[.string t964] rfl (by (try simp only [List.map_toArray,List.map_cons,List.map_nil]); (rfl)) ?_; (with_reducible refine (spec_ParseContainer.calls kj23 t964 t974 t975 t976 t977 t978 t979 _ A35.out).mono ?_); rintro e w65 ⟨rfl,hb⟩; refine ⟨_,rfl,?_⟩; have n0_:=Aside0.mk (blk_below (g:=gb971) (o:=.cells #[.string t965,.int .i64 t966,.int .i64 t967,.int .i64 t968,.int .i64 t969] 50 (0,0)) (by exact BK971.out) hb); have n1_:=Aside0.mk (below_step (by repeat (((with_reducible (exact HB.out))))) hb); clear BK971; clear HB; have BK971:=n0_; have HB:=n1_; clear n0_ n1_; (try clear hb); (try clear hb2); (try clear hk); (try clear hi))|((with_reducible refine gate_dst (N:=20) rfl ?_); refine box_event ?hg (N:=20) ?hd (cs:=#[.string (⟨#[]⟩ : ByteArray),.int .i64 0,.int .i64 0,.int .i64 0,.int .i64 0]) (t:=50) ?hr ?_; (case hd => rfl); (case hg => rfl); (case hr => (go_simp; done)); intro gb980 hg w66 hbox hb; have n0_:=Aside0.mk (blk_below (g:=gb971) (o:=.cells #[.string t965,.int .i64 t966,.int .i64 t967,.int .i64 t968,.int .i64 t969] 50 (0,0)) (by exact BK971.out) hb); have n1_:=Aside0.mk (below_step (by repeat (((with_reducible (exact HB.out))))) hb); have n2_:=Aside0.mk (hbox); have n3_:=Aside0.mk ((by rw [hg]; exact (below_size (by repeat (((with_reducible (exact HB.out)))))) : w.heap.size ≤ gb980)); have n4_:=Aside0.mk ((by rw [hg]; exact (below_size (by repeat (((with_reducible (exact HB.out)))))) : w.heap.size ≤ gb980)); have n5_:=Aside0.mk ((by rw [hg]; exact Nat.ne_of_lt (blk_lt (g:=gb971) (o:=.cells #[.string t965,.int .i64 t966,.int .i64 t967,.int .i64 t968,.int .i64 t969] 50 (0,0)) (by exact BK971.out)) : gb971 ≠ gb980)); have n6_:=Aside0.mk ((by rw [hg]; exact Nat.ne_of_gt (blk_lt (g:=gb971) (o:=.cells #[.string t965,.int .i64 t966,.int .i64 t967,.int .i64 t968,.int .i64 t969] 50 (0,0)) (by exact BK971.out)) : gb980 ≠ gb971)); clear BK971; clear HB; have BK971:=n0_; have HB:=n1_; have BK980:=n2_; have GW980:=n3_; have GE980:=n4_; have NB971_980:=n5_; have NB980_971:=n6_; clear n0_ n1_ n2_ n3_ n4_ n5_ n6_; clear hb hbox hg; have hnb67:=NB980_971.out; have hnc67:=NB971_980.out; have hcz68_0 : w66.cell? ⟨gb980,0,none⟩ = some (.string (⟨#[]⟩ : ByteArray)):=(blk_cell BK980.out 0).trans rfl; have hcz68_1 : w66.cell? ⟨gb980,1,none⟩ = some (.int .i64 0):=(blk_cell BK980.out 1).trans rfl; have hcz68_2 : w66.cell? ⟨gb980,2,none⟩ = some (.int .i64 0):=(blk_cell BK980.out 2).trans rfl; have hcz68_3 : w66.cell? ⟨gb980,3,none⟩ = some (.int .i64 0):=(blk_cell BK980.out 3).trans rfl; have hcz68_4 : w66.cell? ⟨gb980,4,none⟩ = some (.int .i64 0):=(blk_cell BK980.out 4).trans rfl; have hfz68_0:=blk_frozen BK980.out 0; have hfz68_1:=blk_frozen BK980.out 1; have hfz68_2:=blk_frozen BK980.out 2; have hfz68_3:=blk_frozen BK980.out 3; have hfz68_4:=blk_frozen BK980.out 4; have hcz69_0 : w66.cell? ⟨gb971,0,none⟩ = some (.string t965):=(blk_cell BK971.out 0).trans rfl; have hcz69_1 : w66.cell? ⟨gb971,1,none⟩ = some (.int .i64 t966):=(blk_cell BK971.out 1).trans rfl; have hcz69_2 : w66.cell? ⟨gb971,2,none⟩ = some (.int .i64 t967):=(blk_cell BK971.out 2).trans rfl; have hcz69_3 : w66.cell? ⟨gb971,3,none⟩ = some (.int .i64 t968):=(blk_cell BK971.out 3).trans rfl; have hcz69_4 : w66.cell? ⟨gb971,4,none⟩ = some (.int .i64 t969):=(blk_cell BK971.out 4).trans rfl; have hfz69_0:=blk_frozen BK971.out 0; have hfz69_1:=blk_frozen BK971.out 1; have hfz69_2:=blk_frozen BK971.out 2; have hfz69_3:=blk_frozen BK971.out 3; have hfz69_4:=blk_frozen BK971.out 4))
           go_ret
           exact ⟨by (rfl),by repeat (with_reducible first|exact HB.out|refine below_set ?_ GE980.out)⟩
         ·rw [if_neg c37] at H
          have c37b0 : (t970 == t979) = false:=by simpa using c37
          (try (have c37b1 : decide (t970 = t979) = false:=by simpa using c37))
          (try (have c37b2 : (t970 == t979) = false:=by simpa using c37))
          (try (have c37b3 : ¬ (t970 = t979):=by simpa using c37))
          clear c37
          exact absurd H (by simp)
        ·rw [if_neg c36] at H
         have c36b0 : (t965.toList == t974.toList && (t966 == t975 && (t967 == t976 && (t968 == t977 && (t969 == t978))))) = false:=by simpa using c36
         (try (have c36b1 : decide (t965.toList = t974.toList && (t966 == t975 && (t967 == t976 && (t968 == t977 && (t969 == t978))))) = false:=by simpa using c36))
         (try (have c36b2 : (t965.toList == t974.toList && (t966 == t975 && (t967 == t976 && (t968 == t977 && (t969 == t978))))) = false:=by simpa using c36))
         (try (have c36b3 : ¬ (t965.toList = t974.toList && (t966 == t975 && (t967 == t976 && (t968 == t977 && (t969 == t978))))):=by simpa using c36))
         clear c36
         exact absurd H (by simp)

end Go.Proofs.YtfindomajbjacaaGreatDoor.X
