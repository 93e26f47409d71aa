-- Written by a program of ours (wip/bin/xprint.py,over the kit's print.py) out of the translation. Not trusted: Lean checks it.
import Derived.Test.YtfindomajbjacaaGreatDoorX0
import Derived.Test.YtfindomajbjacaaGreatDoorFbCur
import Derived.Test.YtfindomajbjacaaGreatDoorFspecRotationText
import Derived.Test.YtfindomajbjacaaGreatDoorFspecl1Currotation
import Derived.Test.YtfindomajbjacaaGreatDoorGspoilt
namespace Go.Proofs.YtfindomajbjacaaGreatDoor.X
open Go.RowKit Go.Proofs.YtfindomajbjacaaGreatDoorW.PrintWords Go.Proofs.YtfindomajbjacaaGreatDoorW.PrintLast Go.Proofs.YtfindomajbjacaaGreatDoorW.PrintMore
attribute [local go_sem] max2_int min2_int max_two min_two max_three min_three max_four min_four   -- for this text's walks alone
set_option linter.unusedVariables false
set_option linter.unusedSimpArgs false

/-! ### spec_DrawParseRotation: function 18 -/
def spec_DrawParseRotation.f (k : Nat) (l0 : List Int) : Option (ByteArray):=(spec_l1Cur_rotation.f k l0 0 0).bind fun bt478 => ((spec_RotationText.f k bt478.1 bt478.2.1).bind fun bt486 => ((spec_l1Cur_one.f l0 bt478.2.2.1 bt478.2.2.2 4).bind fun bt488 => (if bt488.1 = true then ((spec_l1Cur_spoilt.f l0 bt488.2.1 bt488.2.2 bt486.1 (⟨#[58,32,49,48]⟩ : ByteArray)).bind fun bt491 => (some bt491.1)) else (some bt486.1))))
theorem spec_DrawParseRotation.mono : ∀ a0 k,LeO (spec_DrawParseRotation.f k a0) (spec_DrawParseRotation.f (k + 1) a0):=by
 intro a0 k
 unfold spec_DrawParseRotation.f
 repeat' first
   | (with_reducible exact spec_RotationText.mono _ _ _)
   | (with_reducible exact spec_l1Cur_rotation.mono _ _ _ _)
   | (with_reducible exact LeO.refl _)
   | (with_reducible exact LeO.none _)
   | (with_reducible refine LeO.ite ?_ ?_)
   | (with_reducible refine LeO.bind ?_ (fun _ => ?_))
   | exact spec_RotationText.mono _ _ _
   | exact spec_l1Cur_rotation.mono _ _ _ _
   | exact LeO.none _
   | refine LeO.ite ?_ ?_
   | refine LeO.bind ?_ (fun _ => ?_)
set_option maxHeartbeats 8000000 in
set_option maxRecDepth 100000 in
theorem spec_DrawParseRotation.calls (k : Nat) (A0 : Option Addr) (c0 : Nat) (l0 : List Int) (r : ByteArray) (w : World) (hr0 : Kd.C (Kd.int .u8) w A0 l0.length l0) (hc0 : l0.length ≤ c0) (h : spec_DrawParseRotation.f k l0 = some r) :
  Calls Tryz.prog 18 #[.slice A0 l0.length c0] w fun e w' => e = .returned (.string r) ∧ Below w.heap.size w w':=by
 have hu69:=Tryz.underlying69
 have HR0:=Aside0.mk hr0
 have HC0:=Aside0.mk hc0
 clear hr0 hc0
 have HB:=Aside0.mk (Below.refl w.heap.size w)
 have H : ((spec_l1Cur_rotation.f k l0 0 0).bind fun bt478 => ((spec_RotationText.f k bt478.1 bt478.2.1).bind fun bt486 => ((spec_l1Cur_one.f l0 bt478.2.2.1 bt478.2.2.2 4).bind fun bt488 => (if bt488.1 = true then ((spec_l1Cur_spoilt.f l0 bt488.2.1 bt488.2.2 bt486.1 (⟨#[58,32,49,48]⟩ : ByteArray)).bind fun bt491 => (some bt491.1)) else (some bt486.1))))) = some r:=h
 clear h
 replace H:=Option.bind_eq_some_iff.mp H
 obtain ⟨⟨t478,t481,t484,t485⟩,A20,H⟩:=H
 replace H : ((spec_RotationText.f k t478 t481).bind fun bt486 => ((spec_l1Cur_one.f l0 t484 t485 4).bind fun bt488 => (if bt488.1 = true then ((spec_l1Cur_spoilt.f l0 bt488.2.1 bt488.2.2 bt486.1 (⟨#[58,32,49,48]⟩ : ByteArray)).bind fun bt491 => (some bt491.1)) else (some bt486.1)))) = some r:=H
 have A2:=Aside0.mk A20
 clear A20
 replace H:=Option.bind_eq_some_iff.mp H
 obtain ⟨⟨t486,t487⟩,A30,H⟩:=H
 replace H : ((spec_l1Cur_one.f l0 t484 t485 4).bind fun bt488 => (if bt488.1 = true then ((spec_l1Cur_spoilt.f l0 bt488.2.1 bt488.2.2 t486 (⟨#[58,32,49,48]⟩ : ByteArray)).bind fun bt491 => (some bt491.1)) else (some t486))) = some r:=H
 have A3:=Aside0.mk A30
 clear A30
 replace H:=Option.bind_eq_some_iff.mp H
 obtain ⟨⟨t488,t489,t490⟩,A40,H⟩:=H
 replace H : (if t488 = true then ((spec_l1Cur_spoilt.f l0 t489 t490 t486 (⟨#[58,32,49,48]⟩ : ByteArray)).bind fun bt491 => (some bt491.1)) else (some t486)) = some r:=H
 have A4:=Aside0.mk A40
 clear A40
 by_cases c5 : t488 = true
 ·subst c5
  have H1 : ((spec_l1Cur_spoilt.f l0 t489 t490 t486 (⟨#[58,32,49,48]⟩ : ByteArray)).bind fun bt491 => (some bt491.1)) = some r:=by rw [if_pos rfl] at H; exact H
  clear H
  have H:=H1
  clear H1
  replace H:=Option.bind_eq_some_iff.mp H
  obtain ⟨⟨t491,t492,t493⟩,A60,H⟩:=H
  replace H : (some t491) = some r:=H
  have A6:=Aside0.mk A60
  clear A60
  obtain rfl:=Option.some.inj H
  go_enter Tryz.func18,Tryz.ntmps18
  go_wp2_with (first|((with_reducible refine gate_dst (N:=8) rfl ?_); refine box_event ?hg (N:=8) ?hd (cs:=#[.slice A0 l0.length c0,.int .i64 0,.int .u64 0]) (t:=69) ?hr ?_; (case hd => rfl); (case hg => rfl); (case hr => (go_simp; done)); intro gb477 hg w7 hbox hb; have n0_:=Aside0.mk (below_step (by repeat (((with_reducible (exact HB.out))))) hb); have n1_:=Aside0.mk ((show IsS69 w w7 gb477 l0 0 0 from ⟨_,_,hbox,(by rw [hg]; exact (below_size (by repeat (((with_reducible (exact HB.out))))))),HR0.out⟩)); clear HB; have HB:=n0_; have HI477:=n1_; clear n0_ n1_; clear hb hbox hg)|((with_reducible refine gate_callee (f:=50) rfl ?_); refine goesL_ (some 11) rfl rfl Tryz.func50 (by kernel_rfl) rfl #[.pointer (some ⟨gb477,0,none⟩)] rfl (by (try simp only [List.map_toArray,List.map_cons,List.map_nil]); (rfl)) ?_; (with_reducible refine (spec_l1Cur_rotation.calls k gb477 l0 0 0 t478 t481 t484 t485 w _ ?side1 ?side2 A2.out).mono ?_); (case side1 => repeat (((with_reducible (exact HI477.out))))); (case side2 => repeat (((with_reducible (exact HB.out))))); rintro e w8 ⟨v479,v482,rfl,ho0,ho1,hi,hb,hk⟩; refine ⟨_,rfl,?_⟩; have n0_:=Aside0.mk (Kd.R_lower ho0 (below_size (by repeat (((with_reducible (exact HB.out))))))); have n1_:=Aside0.mk (Kd.R_lower ho1 (below_size (by repeat (((with_reducible (exact HB.out))))))); have n2_:=Aside0.mk (hb); have n3_:=Aside0.mk (hi); clear HB; clear HI477; have HO480:=n0_; have HO483:=n1_; have HB:=n2_; have HI477:=n3_; clear n0_ n1_ n2_ n3_; (try clear hb); (try clear hb2); (try clear hk); (try clear hi); (try clear ho0); (try clear ho1); obtain ⟨Ao9,co9,eo9⟩:=Kd.R_slice HO480.out; subst eo9; obtain ⟨Ao10,co10,eo10⟩:=Kd.R_slice HO483.out; subst eo10)|((with_reducible refine gate_callee (f:=8) rfl ?_); refine goesL_ (some 12) rfl rfl Tryz.func8 (by kernel_rfl) rfl #[.agg #[.slice Ao9 t478.length co9,.slice Ao10 t481.length co10]] rfl (by (try simp only [List.map_toArray,List.map_cons,List.map_nil]); (rfl)) ?_; (with_reducible refine (spec_RotationText.calls k _ _ t478 _ _ t481 t486 t487 _ ?side1 ?side2 ?side3 ?side4 A3.out).mono ?_); (case side1 => repeat ((exact (Kd.R_reads' HO480.out).2.2))); (case side2 => exact (Kd.R_reads' HO480.out).2.1); (case side3 => repeat ((exact (Kd.R_reads' HO483.out).2.2))); (case side4 => exact (Kd.R_reads' HO483.out).2.1); rintro e w11 ⟨rfl,hb⟩; refine ⟨_,rfl,?_⟩; have n0_:=Aside0.mk (Kd.R_below (by exact HO480.out) hb); have n1_:=Aside0.mk (Kd.R_below (by exact HO483.out) hb); have n2_:=Aside0.mk (IsS69.below (by repeat (((with_reducible (exact HI477.out))))) hb); have n3_:=Aside0.mk (below_step (by repeat (((with_reducible (exact HB.out))))) hb); clear HO480; clear HO483; clear HI477; clear HB; have HO480:=n0_; have HO483:=n1_; have HI477:=n2_; have HB:=n3_; clear n0_ n1_ n2_ n3_; (try clear hb); (try clear hb2); (try clear hk); (try clear hi))|((with_reducible refine gate_callee (f:=46) rfl ?_); refine goesL_ (some 16) rfl rfl Tryz.func46 (by kernel_rfl) rfl #[.pointer (some ⟨gb477,0,none⟩),.int .i64 4] rfl (by (try simp only [List.map_toArray,List.map_cons,List.map_nil]); (rfl)) ?_; (with_reducible refine (spec_l1Cur_one.calls gb477 l0 t484 t485 4 true t489 t490 w _ ?side1 ?side2 A4.out).mono ?_); (case side1 => repeat (((with_reducible (exact HI477.out))))); (case side2 => repeat (((with_reducible (exact HB.out))))); rintro e w12 ⟨rfl,hi,hb,hk⟩; refine ⟨_,rfl,?_⟩; have n0_:=Aside0.mk (Kd.R_mono (Kd.R_keep (IsS69.apart (show IsS69 w _ gb477 l0 t484 t485 from by repeat (((with_reducible (exact HI477.out))))) (by exact HO480.out) (by decide)) hk (fun _ h => h.2)) (fun _ h => h.1)); have n1_:=Aside0.mk (Kd.R_mono (Kd.R_keep (IsS69.apart (show IsS69 w _ gb477 l0 t484 t485 from by repeat (((with_reducible (exact HI477.out))))) (by exact HO483.out) (by decide)) hk (fun _ h => h.2)) (fun _ h => h.1)); have n2_:=Aside0.mk (hb); have n3_:=Aside0.mk (hi); clear HO480; clear HO483; clear HB; clear HI477; have HO480:=n0_; have HO483:=n1_; have HB:=n2_; have HI477:=n3_; clear n0_ n1_ n2_ n3_; (try clear hb); (try clear hb2); (try clear hk); (try clear hi))|((with_reducible refine gate_callee (f:=51) rfl ?_); refine goesL_ (some 19) rfl rfl Tryz.func51 (by kernel_rfl) rfl #[.pointer (some ⟨gb477,0,none⟩),.string t486,.string (⟨#[58,32,49,48]⟩ : ByteArray)] rfl (by (try simp only [List.map_toArray,List.map_cons,List.map_nil]); (rfl)) ?_; (with_reducible refine (spec_l1Cur_spoilt.calls gb477 l0 t489 t490 t486 (⟨#[58,32,49,48]⟩ : ByteArray) t491 t492 t493 w _ ?side1 ?side2 A6.out).mono ?_); (case side1 => repeat (((with_reducible (exact HI477.out))))); (case side2 => repeat (((with_reducible (exact HB.out))))); rintro e w13 ⟨rfl,hi,hb,hk⟩; refine ⟨_,rfl,?_⟩; have n0_:=Aside0.mk (Kd.R_mono (Kd.R_keep (IsS69.apart (show IsS69 w _ gb477 l0 t489 t490 from by repeat (((with_reducible (exact HI477.out))))) (by exact HO480.out) (by decide)) hk (fun _ h => h.2)) (fun _ h => h.1)); have n1_:=Aside0.mk (Kd.R_mono (Kd.R_keep (IsS69.apart (show IsS69 w _ gb477 l0 t489 t490 from by repeat (((with_reducible (exact HI477.out))))) (by exact HO483.out) (by decide)) hk (fun _ h => h.2)) (fun _ h => h.1)); have n2_:=Aside0.mk (hb); have n3_:=Aside0.mk (hi); clear HO480; clear HO483; clear HB; clear HI477; have HO480:=n0_; have HO483:=n1_; have HB:=n2_; have HI477:=n3_; clear n0_ n1_ n2_ n3_; (try clear hb); (try clear hb2); (try clear hk); (try clear hi)))
  go_ret
  exact ⟨by (rfl),by repeat (((with_reducible (exact HB.out))))⟩
 ·replace c5:=Bool.eq_false_iff.mpr c5
  subst c5
  have H1 : (some t486) = some r:=by rw [if_neg (show ¬ (false = true) by decide)] at H; exact H
  clear H
  have H:=H1
  clear H1
  obtain rfl:=Option.some.inj H
  go_enter Tryz.func18,Tryz.ntmps18
  go_wp2_with (first|((with_reducible refine gate_dst (N:=8) rfl ?_); refine box_event ?hg (N:=8) ?hd (cs:=#[.slice A0 l0.length c0,.int .i64 0,.int .u64 0]) (t:=69) ?hr ?_; (case hd => rfl); (case hg => rfl); (case hr => (go_simp; done)); intro gb477 hg w14 hbox hb; have n0_:=Aside0.mk (below_step (by repeat (((with_reducible (exact HB.out))))) hb); have n1_:=Aside0.mk ((show IsS69 w w14 gb477 l0 0 0 from ⟨_,_,hbox,(by rw [hg]; exact (below_size (by repeat (((with_reducible (exact HB.out))))))),HR0.out⟩)); clear HB; have HB:=n0_; have HI477:=n1_; clear n0_ n1_; clear hb hbox hg)|((with_reducible refine gate_callee (f:=50) rfl ?_); refine goesL_ (some 11) rfl rfl Tryz.func50 (by kernel_rfl) rfl #[.pointer (some ⟨gb477,0,none⟩)] rfl (by (try simp only [List.map_toArray,List.map_cons,List.map_nil]); (rfl)) ?_; (with_reducible refine (spec_l1Cur_rotation.calls k gb477 l0 0 0 t478 t481 t484 t485 w _ ?side1 ?side2 A2.out).mono ?_); (case side1 => repeat (((with_reducible (exact HI477.out))))); (case side2 => repeat (((with_reducible (exact HB.out))))); rintro e w15 ⟨v479,v482,rfl,ho0,ho1,hi,hb,hk⟩; refine ⟨_,rfl,?_⟩; have n0_:=Aside0.mk (Kd.R_lower ho0 (below_size (by repeat (((with_reducible (exact HB.out))))))); have n1_:=Aside0.mk (Kd.R_lower ho1 (below_size (by repeat (((with_reducible (exact HB.out))))))); have n2_:=Aside0.mk (hb); have n3_:=Aside0.mk (hi); clear HB; clear HI477; have HO480:=n0_; have HO483:=n1_; have HB:=n2_; have HI477:=n3_; clear n0_ n1_ n2_ n3_; (try clear hb); (try clear hb2); (try clear hk); (try clear hi); (try clear ho0); (try clear ho1); obtain ⟨Ao16,co16,eo16⟩:=Kd.R_slice HO480.out; subst eo16; obtain ⟨Ao17,co17,eo17⟩:=Kd.R_slice HO483.out; subst eo17)|((with_reducible refine gate_callee (f:=8) rfl ?_); refine goesL_ (some 12) rfl rfl Tryz.func8 (by kernel_rfl) rfl #[.agg #[.slice Ao16 t478.length co16,.slice Ao17 t481.length co17]] rfl (by (try simp only [List.map_toArray,List.map_cons,List.map_nil]); (rfl)) ?_; (with_reducible refine (spec_RotationText.calls k _ _ t478 _ _ t481 t486 t487 _ ?side1 ?side2 ?side3 ?side4 A3.out).mono ?_); (case side1 => repeat ((exact (Kd.R_reads' HO480.out).2.2))); (case side2 => exact (Kd.R_reads' HO480.out).2.1); (case side3 => repeat ((exact (Kd.R_reads' HO483.out).2.2))); (case side4 => exact (Kd.R_reads' HO483.out).2.1); rintro e w18 ⟨rfl,hb⟩; refine ⟨_,rfl,?_⟩; have n0_:=Aside0.mk (Kd.R_below (by exact HO480.out) hb); have n1_:=Aside0.mk (Kd.R_below (by exact HO483.out) hb); have n2_:=Aside0.mk (IsS69.below (by repeat (((with_reducible (exact HI477.out))))) hb); have n3_:=Aside0.mk (below_step (by repeat (((with_reducible (exact HB.out))))) hb); clear HO480; clear HO483; clear HI477; clear HB; have HO480:=n0_; have HO483:=n1_; have HI477:=n2_; have HB:=n3_; clear n0_ n1_ n2_ n3_; (try clear hb); (try clear hb2); (try clear hk); (try clear hi))|((with_reducible refine gate_callee (f:=46) rfl ?_); refine goesL_ (some 16) rfl rfl Tryz.func46 (by kernel_rfl) rfl #[.pointer (some ⟨gb477,0,none⟩),.int .i64 4] rfl (by (try simp only [List.map_toArray,List.map_cons,List.map_nil]); (rfl)) ?_; (with_reducible refine (spec_l1Cur_one.calls gb477 l0 t484 t485 4 false t489 t490 w _ ?side1 ?side2 A4.out).mono ?_); (case side1 => repeat (((with_reducible (exact HI477.out))))); (case side2 => repeat (((with_reducible (exact HB.out))))); rintro e w19 ⟨rfl,hi,hb,hk⟩; refine ⟨_,rfl,?_⟩; have n0_:=Aside0.mk (Kd.R_mono (Kd.R_keep (IsS69.apart (show IsS69 w _ gb477 l0 t484 t485 from by repeat (((with_reducible (exact HI477.out))))) (by exact HO480.out) (by decide)) hk (fun _ h => h.2)) (fun _ h => h.1)); have n1_:=Aside0.mk (Kd.R_mono (Kd.R_keep (IsS69.apart (show IsS69 w _ gb477 l0 t484 t485 from by repeat (((with_reducible (exact HI477.out))))) (by exact HO483.out) (by decide)) hk (fun _ h => h.2)) (fun _ h => h.1)); have n2_:=Aside0.mk (hb); have n3_:=Aside0.mk (hi); clear HO480; clear HO483; clear HB; clear HI477; have HO480:=n0_; have HO483:=n1_; have HB:=n2_; have HI477:=n3_; clear n0_ n1_ n2_ n3_; (try clear hb); (try clear hb2); (try clear hk); (try clear hi)))
  go_ret
  exact ⟨by (rfl),by repeat (((with_reducible (exact HB.out))))⟩

end Go.Proofs.YtfindomajbjacaaGreatDoor.X
