-- Written by a program of ours (wip/bin/xprint.py,over the kit's print.py) out of the translation. Not trusted: Lean checks it.
import Derived.Test.YtfindomajbjacaaGreatDoorX0
import Derived.Test.YtfindomajbjacaaGreatDoorFbCur
import Derived.Test.YtfindomajbjacaaGreatDoorFspecl1Curcontainer
import Derived.Test.YtfindomajbjacaaGreatDoorFspecl4Text
import Derived.Test.YtfindomajbjacaaGreatDoorGspoilt
namespace Go.Proofs.YtfindomajbjacaaGreatDoor.X
open Go.RowKit Go.Proofs.YtfindomajbjacaaGreatDoorW.PrintWords Go.Proofs.YtfindomajbjacaaGreatDoorW.PrintLast Go.Proofs.YtfindomajbjacaaGreatDoorW.PrintMore
attribute [local go_sem] max2_int min2_int max_two min_two max_three min_three max_four min_four   -- for this text's walks alone
set_option linter.unusedVariables false
set_option linter.unusedSimpArgs false

/-! ### spec_DrawParseContainer: function 27 -/
def spec_DrawParseContainer.f (k : Nat) (l0 : List Int) : Option (ByteArray):=(spec_l1Cur_container.f k l0 0 0).bind fun bt894 => ((spec_l4Text.f k bt894.1 bt894.2.1 bt894.2.2.1 bt894.2.2.2.1 bt894.2.2.2.2.1).bind fun t901 => ((spec_l1Cur_one.f l0 bt894.2.2.2.2.2.1 bt894.2.2.2.2.2.2 4).bind fun bt902 => (if bt902.1 = true then ((spec_l1Cur_spoilt.f l0 bt902.2.1 bt902.2.2 t901 (⟨#[49,32,112,65]⟩ : ByteArray)).bind fun bt905 => (some bt905.1)) else (some t901))))
theorem spec_DrawParseContainer.mono : ∀ a0 k,LeO (spec_DrawParseContainer.f k a0) (spec_DrawParseContainer.f (k + 1) a0):=by
 intro a0 k
 unfold spec_DrawParseContainer.f
 repeat' first
   | (with_reducible exact spec_l1Cur_container.mono _ _ _ _)
   | (with_reducible exact spec_l4Text.mono _ _ _ _ _ _)
   | (with_reducible exact LeO.refl _)
   | (with_reducible exact LeO.none _)
   | (with_reducible refine LeO.ite ?_ ?_)
   | (with_reducible refine LeO.bind ?_ (fun _ => ?_))
   | exact spec_l1Cur_container.mono _ _ _ _
   | exact spec_l4Text.mono _ _ _ _ _ _
   | exact LeO.none _
   | refine LeO.ite ?_ ?_
   | refine LeO.bind ?_ (fun _ => ?_)
set_option maxHeartbeats 8000000 in
set_option maxRecDepth 100000 in
theorem spec_DrawParseContainer.calls (k : Nat) (A0 : Option Addr) (c0 : Nat) (l0 : List Int) (r : ByteArray) (w : World) (hr0 : Kd.C (Kd.int .u8) w A0 l0.length l0) (hc0 : l0.length ≤ c0) (h : spec_DrawParseContainer.f k l0 = some r) :
  Calls Tryz.prog 27 #[.slice A0 l0.length c0] w fun e w' => e = .returned (.string r) ∧ Below w.heap.size w w':=by
 have hu69:=Tryz.underlying69
 have HR0:=Aside0.mk hr0
 have HC0:=Aside0.mk hc0
 clear hr0 hc0
 have HB:=Aside0.mk (Below.refl w.heap.size w)
 have H : ((spec_l1Cur_container.f k l0 0 0).bind fun bt894 => ((spec_l4Text.f k bt894.1 bt894.2.1 bt894.2.2.1 bt894.2.2.2.1 bt894.2.2.2.2.1).bind fun t901 => ((spec_l1Cur_one.f l0 bt894.2.2.2.2.2.1 bt894.2.2.2.2.2.2 4).bind fun bt902 => (if bt902.1 = true then ((spec_l1Cur_spoilt.f l0 bt902.2.1 bt902.2.2 t901 (⟨#[49,32,112,65]⟩ : ByteArray)).bind fun bt905 => (some bt905.1)) else (some t901))))) = some r:=h
 clear h
 replace H:=Option.bind_eq_some_iff.mp H
 obtain ⟨⟨t894,t895,t896,t897,t898,t899,t900⟩,A20,H⟩:=H
 replace H : ((spec_l4Text.f k t894 t895 t896 t897 t898).bind fun t901 => ((spec_l1Cur_one.f l0 t899 t900 4).bind fun bt902 => (if bt902.1 = true then ((spec_l1Cur_spoilt.f l0 bt902.2.1 bt902.2.2 t901 (⟨#[49,32,112,65]⟩ : ByteArray)).bind fun bt905 => (some bt905.1)) else (some t901)))) = some r:=H
 have A2:=Aside0.mk A20
 clear A20
 replace H:=Option.bind_eq_some_iff.mp H
 obtain ⟨t901,A30,H⟩:=H
 replace H : ((spec_l1Cur_one.f l0 t899 t900 4).bind fun bt902 => (if bt902.1 = true then ((spec_l1Cur_spoilt.f l0 bt902.2.1 bt902.2.2 t901 (⟨#[49,32,112,65]⟩ : ByteArray)).bind fun bt905 => (some bt905.1)) else (some t901))) = some r:=H
 have A3:=Aside0.mk A30
 clear A30
 replace H:=Option.bind_eq_some_iff.mp H
 obtain ⟨⟨t902,t903,t904⟩,A40,H⟩:=H
 replace H : (if t902 = true then ((spec_l1Cur_spoilt.f l0 t903 t904 t901 (⟨#[49,32,112,65]⟩ : ByteArray)).bind fun bt905 => (some bt905.1)) else (some t901)) = some r:=H
 have A4:=Aside0.mk A40
 clear A40
 by_cases c5 : t902 = true
 ·subst c5
  have H1 : ((spec_l1Cur_spoilt.f l0 t903 t904 t901 (⟨#[49,32,112,65]⟩ : ByteArray)).bind fun bt905 => (some bt905.1)) = some r:=by rw [if_pos rfl] at H; exact H
  clear H
  have H:=H1
  clear H1
  replace H:=Option.bind_eq_some_iff.mp H
  obtain ⟨⟨t905,t906,t907⟩,A60,H⟩:=H
  replace H : (some t905) = some r:=H
  have A6:=Aside0.mk A60
  clear A60
  obtain rfl:=Option.some.inj H
  go_enter Tryz.func27,Tryz.ntmps27
  go_wp2_with (first|((with_reducible refine gate_dst (N:=7) rfl ?_); refine box_event ?hg (N:=7) ?hd (cs:=#[.slice A0 l0.length c0,.int .i64 0,.int .u64 0]) (t:=69) ?hr ?_; (case hd => rfl); (case hg => rfl); (case hr => (go_simp; done)); intro gb893 hg w7 hbox hb; have n0_:=Aside0.mk (below_step (by repeat (((with_reducible (exact HB.out))))) hb); have n1_:=Aside0.mk ((show IsS69 w w7 gb893 l0 0 0 from ⟨_,_,hbox,(by rw [hg]; exact (below_size (by repeat (((with_reducible (exact HB.out))))))),HR0.out⟩)); clear HB; have HB:=n0_; have HI893:=n1_; clear n0_ n1_; clear hb hbox hg)|((with_reducible refine gate_callee (f:=61) rfl ?_); refine goesL_ (some 9) rfl rfl Tryz.func61 (by kernel_rfl) rfl #[.pointer (some ⟨gb893,0,none⟩)] rfl (by (try simp only [List.map_toArray,List.map_cons,List.map_nil]); (rfl)) ?_; (with_reducible refine (spec_l1Cur_container.calls k gb893 l0 0 0 t894 t895 t896 t897 t898 t899 t900 w _ ?side1 ?side2 A2.out).mono ?_); (case side1 => repeat (((with_reducible (exact HI893.out))))); (case side2 => repeat (((with_reducible (exact HB.out))))); rintro e w8 ⟨rfl,hi,hb,hk⟩; refine ⟨_,rfl,?_⟩; have n0_:=Aside0.mk (hb); have n1_:=Aside0.mk (hi); clear HB; clear HI893; have HB:=n0_; have HI893:=n1_; clear n0_ n1_; (try clear hb); (try clear hb2); (try clear hk); (try clear hi))|((with_reducible refine gate_callee (f:=60) rfl ?_); refine goesL_ (some 10) rfl rfl Tryz.func60 (by kernel_rfl) rfl #[.agg #[.string t894,.int .i64 t895,.int .i64 t896,.int .i64 t897,.int .i64 t898]] rfl (by (try simp only [List.map_toArray,List.map_cons,List.map_nil]); (rfl)) ?_; (with_reducible refine (spec_l4Text.calls k t894 t895 t896 t897 t898 t901 _ A3.out).mono ?_); rintro e w9 ⟨rfl,hb⟩; refine ⟨_,rfl,?_⟩; have n0_:=Aside0.mk (IsS69.below (by repeat (((with_reducible (exact HI893.out))))) hb); have n1_:=Aside0.mk (below_step (by repeat (((with_reducible (exact HB.out))))) hb); clear HI893; clear HB; have HI893:=n0_; have HB:=n1_; clear n0_ n1_; (try clear hb); (try clear hb2); (try clear hk); (try clear hi))|((with_reducible refine gate_callee (f:=46) rfl ?_); refine goesL_ (some 12) rfl rfl Tryz.func46 (by kernel_rfl) rfl #[.pointer (some ⟨gb893,0,none⟩),.int .i64 4] rfl (by (try simp only [List.map_toArray,List.map_cons,List.map_nil]); (rfl)) ?_; (with_reducible refine (spec_l1Cur_one.calls gb893 l0 t899 t900 4 true t903 t904 w _ ?side1 ?side2 A4.out).mono ?_); (case side1 => repeat (((with_reducible (exact HI893.out))))); (case side2 => repeat (((with_reducible (exact HB.out))))); rintro e w10 ⟨rfl,hi,hb,hk⟩; refine ⟨_,rfl,?_⟩; have n0_:=Aside0.mk (hb); have n1_:=Aside0.mk (hi); clear HB; clear HI893; have HB:=n0_; have HI893:=n1_; clear n0_ n1_; (try clear hb); (try clear hb2); (try clear hk); (try clear hi))|((with_reducible refine gate_callee (f:=51) rfl ?_); refine goesL_ (some 15) rfl rfl Tryz.func51 (by kernel_rfl) rfl #[.pointer (some ⟨gb893,0,none⟩),.string t901,.string (⟨#[49,32,112,65]⟩ : ByteArray)] rfl (by (try simp only [List.map_toArray,List.map_cons,List.map_nil]); (rfl)) ?_; (with_reducible refine (spec_l1Cur_spoilt.calls gb893 l0 t903 t904 t901 (⟨#[49,32,112,65]⟩ : ByteArray) t905 t906 t907 w _ ?side1 ?side2 A6.out).mono ?_); (case side1 => repeat (((with_reducible (exact HI893.out))))); (case side2 => repeat (((with_reducible (exact HB.out))))); rintro e w11 ⟨rfl,hi,hb,hk⟩; refine ⟨_,rfl,?_⟩; have n0_:=Aside0.mk (hb); have n1_:=Aside0.mk (hi); clear HB; clear HI893; have HB:=n0_; have HI893:=n1_; clear n0_ n1_; (try clear hb); (try clear hb2); (try clear hk); (try clear hi)))
  go_ret
  exact ⟨by (rfl),by repeat (((with_reducible (exact HB.out))))⟩
 ·replace c5:=Bool.eq_false_iff.mpr c5
  subst c5
  have H1 : (some t901) = some r:=by rw [if_neg (show ¬ (false = true) by decide)] at H; exact H
  clear H
  have H:=H1
  clear H1
  obtain rfl:=Option.some.inj H
  go_enter Tryz.func27,Tryz.ntmps27
  go_wp2_with (first|((with_reducible refine gate_dst (N:=7) rfl ?_); refine box_event ?hg (N:=7) ?hd (cs:=#[.slice A0 l0.length c0,.int .i64 0,.int .u64 0]) (t:=69) ?hr ?_; (case hd => rfl); (case hg => rfl); (case hr => (go_simp; done)); intro gb893 hg w12 hbox hb; have n0_:=Aside0.mk (below_step (by repeat (((with_reducible (exact HB.out))))) hb); have n1_:=Aside0.mk ((show IsS69 w w12 gb893 l0 0 0 from ⟨_,_,hbox,(by rw [hg]; exact (below_size (by repeat (((with_reducible (exact HB.out))))))),HR0.out⟩)); clear HB; have HB:=n0_; have HI893:=n1_; clear n0_ n1_; clear hb hbox hg)|((with_reducible refine gate_callee (f:=61) rfl ?_); refine goesL_ (some 9) rfl rfl Tryz.func61 (by kernel_rfl) rfl #[.pointer (some ⟨gb893,0,none⟩)] rfl (by (try simp only [List.map_toArray,List.map_cons,List.map_nil]); (rfl)) ?_; (with_reducible refine (spec_l1Cur_container.calls k gb893 l0 0 0 t894 t895 t896 t897 t898 t899 t900 w _ ?side1 ?side2 A2.out).mono ?_); (case side1 => repeat (((with_reducible (exact HI893.out))))); (case side2 => repeat (((with_reducible (exact HB.out))))); rintro e w13 ⟨rfl,hi,hb,hk⟩; refine ⟨_,rfl,?_⟩; have n0_:=Aside0.mk (hb); have n1_:=Aside0.mk (hi); clear HB; clear HI893; have HB:=n0_; have HI893:=n1_; clear n0_ n1_; (try clear hb); (try clear hb2); (try clear hk); (try clear hi))|((with_reducible refine gate_callee (f:=60) rfl ?_); refine goesL_ (some 10) rfl rfl Tryz.func60 (by kernel_rfl) rfl #[.agg #[.string t894,.int .i64 t895,.int .i64 t896,.int .i64 t897,.int .i64 t898]] rfl (by (try simp only [List.map_toArray,List.map_cons,List.map_nil]); (rfl)) ?_; (with_reducible refine (spec_l4Text.calls k t894 t895 t896 t897 t898 t901 _ A3.out).mono ?_); rintro e w14 ⟨rfl,hb⟩; refine ⟨_,rfl,?_⟩; have n0_:=Aside0.mk (IsS69.below (by repeat (((with_reducible (exact HI893.out))))) hb); have n1_:=Aside0.mk (below_step (by repeat (((with_reducible (exact HB.out))))) hb); clear HI893; clear HB; have HI893:=n0_; have HB:=n1_; clear n0_ n1_; (try clear hb); (try clear hb2); (try clear hk); (try clear hi))|((with_reducible refine gate_callee (f:=46) rfl ?_); refine goesL_ (some 12) rfl rfl Tryz.func46 (by kernel_rfl) rfl #[.pointer (some ⟨gb893,0,none⟩),.int .i64 4] rfl (by (try simp only [List.map_toArray,List.map_cons,List.map_nil]); (rfl)) ?_; (with_reducible refine (spec_l1Cur_one.calls gb893 l0 t899 t900 4 false t903 t904 w _ ?side1 ?side2 A4.out).mono ?_); (case side1 => repeat (((with_reducible (exact HI893.out))))); (case side2 => repeat (((with_reducible (exact HB.out))))); rintro e w15 ⟨rfl,hi,hb,hk⟩; refine ⟨_,rfl,?_⟩; have n0_:=Aside0.mk (hb); have n1_:=Aside0.mk (hi); clear HB; clear HI893; have HB:=n0_; have HI893:=n1_; clear n0_ n1_; (try clear hb); (try clear hb2); (try clear hk); (try clear hi)))
  go_ret
  exact ⟨by (rfl),by repeat (((with_reducible (exact HB.out))))⟩

end Go.Proofs.YtfindomajbjacaaGreatDoor.X
