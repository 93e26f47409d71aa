-- Written by a program of ours (wip/bin/xprint.py,over the kit's print.py) out of the translation. Not trusted: Lean checks it.
import Derived.Test.YtfindomajbjacaaGreatDoorX0
import Derived.Test.YtfindomajbjacaaGreatDoorFbCur
import Derived.Test.YtfindomajbjacaaGreatDoorFspecl2Number
namespace Go.Proofs.YtfindomajbjacaaGreatDoor.X
open Go.RowKit Go.Proofs.YtfindomajbjacaaGreatDoorW.PrintWords Go.Proofs.YtfindomajbjacaaGreatDoorW.PrintLast Go.Proofs.YtfindomajbjacaaGreatDoorW.PrintMore
attribute [local go_sem] max2_int min2_int max_two min_two max_three min_three max_four min_four   -- for this text's walks alone
set_option linter.unusedVariables false
set_option linter.unusedSimpArgs false

/-! ### spec_l1Cur_id: function 85 -/
def spec_l1Cur_id.f (k : Nat) (s0_0 : List Int) (s0_1 : Int) (s0_2 : Int) : Option (ByteArray × Int × Int):=(spec_l1Cur_of.f s0_0 s0_1 s0_2 (([(⟨#[65,66,67]⟩ : ByteArray),(⟨#[88,89,90]⟩ : ByteArray),(⟨#[83,69,65]⟩ : ByteArray),(⟨#[90,90,90]⟩ : ByteArray)] : List ByteArray))).bind fun bt621 => ((spec_l1Cur_pick.f s0_0 bt621.2.1 bt621.2.2 200).bind fun bt624 => ((spec_l1Cur_among.f s0_0 bt624.2.1 bt624.2.2 ([1,7,50] : List Int)).bind fun bt630 => ((spec_l2Number.f k bt621.1 (wrap64 (bt624.1 * bt630.1))).bind fun t633 => (some (t633,bt630.2.1,bt630.2.2)))))
theorem spec_l1Cur_id.mono : ∀ a0 a1 a2 k,LeO (spec_l1Cur_id.f k a0 a1 a2) (spec_l1Cur_id.f (k + 1) a0 a1 a2):=by
 intro a0 a1 a2 k
 unfold spec_l1Cur_id.f
 repeat' first
   | (with_reducible exact spec_l2Number.mono _ _ _)
   | (with_reducible exact LeO.refl _)
   | (with_reducible exact LeO.none _)
   | (with_reducible refine LeO.ite ?_ ?_)
   | (with_reducible refine LeO.bind ?_ (fun _ => ?_))
   | exact spec_l2Number.mono _ _ _
   | exact LeO.none _
   | refine LeO.ite ?_ ?_
   | refine LeO.bind ?_ (fun _ => ?_)
set_option maxHeartbeats 8000000 in
set_option maxRecDepth 100000 in
theorem spec_l1Cur_id.calls (k : Nat) (g : Nat) (s0_0 : List Int) (s0_1 : Int) (s0_2 : Int) (r1 : ByteArray) (r2 : Int) (r3 : Int) (w0 w : World) (hI : IsS69 w0 w g s0_0 s0_1 s0_2) (hB : Below w0.heap.size w0 w) (h : spec_l1Cur_id.f k s0_0 s0_1 s0_2 = some (r1,r2,r3)) :
  Calls Tryz.prog 85 #[.pointer (some ⟨g,0,none⟩)] w fun e w' => e = .returned (.string r1) ∧ IsS69 w0 w' g s0_0 r2 r3 ∧ Below w0.heap.size w0 w' ∧ KeepBut w w' g none:=by
 have HI0:=Aside0.mk hI
 have HK:=Aside0.mk (KeepBut.refl w g none)
 have HL:=Aside0.mk hB.size
 clear hI
 have HW0:=Aside0.mk hB.size
 have HB:=Aside0.mk hB
 clear hB
 have H : ((spec_l1Cur_of.f s0_0 s0_1 s0_2 (([(⟨#[65,66,67]⟩ : ByteArray),(⟨#[88,89,90]⟩ : ByteArray),(⟨#[83,69,65]⟩ : ByteArray),(⟨#[90,90,90]⟩ : ByteArray)] : List ByteArray))).bind fun bt621 => ((spec_l1Cur_pick.f s0_0 bt621.2.1 bt621.2.2 200).bind fun bt624 => ((spec_l1Cur_among.f s0_0 bt624.2.1 bt624.2.2 ([1,7,50] : List Int)).bind fun bt630 => ((spec_l2Number.f k bt621.1 (wrap64 (bt624.1 * bt630.1))).bind fun t633 => (some (t633,bt630.2.1,bt630.2.2)))))) = some (r1,r2,r3):=h
 clear h
 obtain ⟨y618,hy618⟩ : ∃ y_ : List ByteArray,y_ = (([(⟨#[65,66,67]⟩ : ByteArray),(⟨#[88,89,90]⟩ : ByteArray),(⟨#[83,69,65]⟩ : ByteArray),(⟨#[90,90,90]⟩ : ByteArray)] : List ByteArray)):=⟨_,rfl⟩
 replace H : ((spec_l1Cur_of.f s0_0 s0_1 s0_2 y618).bind fun bt621 => ((spec_l1Cur_pick.f s0_0 bt621.2.1 bt621.2.2 200).bind fun bt624 => ((spec_l1Cur_among.f s0_0 bt624.2.1 bt624.2.2 ([1,7,50] : List Int)).bind fun bt630 => ((spec_l2Number.f k bt621.1 (wrap64 (bt624.1 * bt630.1))).bind fun t633 => (some (t633,bt630.2.1,bt630.2.2)))))) = some (r1,r2,r3):=by (rw [hy618]; with_reducible exact H)
 have Ny618:=Aside0.mk hy618
 clear hy618
 replace H:=Option.bind_eq_some_iff.mp H
 obtain ⟨⟨t621,t622,t623⟩,A20,H⟩:=H
 replace H : ((spec_l1Cur_pick.f s0_0 t622 t623 200).bind fun bt624 => ((spec_l1Cur_among.f s0_0 bt624.2.1 bt624.2.2 ([1,7,50] : List Int)).bind fun bt630 => ((spec_l2Number.f k t621 (wrap64 (bt624.1 * bt630.1))).bind fun t633 => (some (t633,bt630.2.1,bt630.2.2))))) = some (r1,r2,r3):=H
 have A2:=Aside0.mk A20
 clear A20
 replace H:=Option.bind_eq_some_iff.mp H
 obtain ⟨⟨t624,t625,t626⟩,A30,H⟩:=H
 replace H : ((spec_l1Cur_among.f s0_0 t625 t626 ([1,7,50] : List Int)).bind fun bt630 => ((spec_l2Number.f k t621 (wrap64 (t624 * bt630.1))).bind fun t633 => (some (t633,bt630.2.1,bt630.2.2)))) = some (r1,r2,r3):=H
 have A3:=Aside0.mk A30
 clear A30
 obtain ⟨y627,hy627⟩ : ∃ y_ : List Int,y_ = ([1,7,50] : List Int):=⟨_,rfl⟩
 replace H : ((spec_l1Cur_among.f s0_0 t625 t626 y627).bind fun bt630 => ((spec_l2Number.f k t621 (wrap64 (t624 * bt630.1))).bind fun t633 => (some (t633,bt630.2.1,bt630.2.2)))) = some (r1,r2,r3):=by (rw [hy627]; with_reducible exact H)
 have Ny627:=Aside0.mk hy627
 clear hy627
 replace H:=Option.bind_eq_some_iff.mp H
 obtain ⟨⟨t630,t631,t632⟩,A40,H⟩:=H
 replace H : ((spec_l2Number.f k t621 (wrap64 (t624 * t630))).bind fun t633 => (some (t633,t631,t632))) = some (r1,r2,r3):=H
 have A4:=Aside0.mk A40
 clear A40
 replace H:=Option.bind_eq_some_iff.mp H
 obtain ⟨t633,A50,H⟩:=H
 replace H : (some (t633,t631,t632)) = some (r1,r2,r3):=H
 have A5:=Aside0.mk A50
 clear A50
 simp only [Option.some.injEq,Prod.mk.injEq] at H
 obtain ⟨rfl,rfl,rfl⟩:=H
 go_enter Tryz.func85,Tryz.ntmps85
 go_wp2_with (first|((with_reducible refine gate_dst (N:=4) rfl ?_); refine Kd.R_lit Kd.string _ 9 ?hg (N:=4) ?hd (xs:=([(⟨#[65,66,67]⟩ : ByteArray),(⟨#[88,89,90]⟩ : ByteArray),(⟨#[83,69,65]⟩ : ByteArray),(⟨#[90,90,90]⟩ : ByteArray)] : List ByteArray)) (inner:=[.string (⟨#[65,66,67]⟩ : ByteArray),.string (⟨#[88,89,90]⟩ : ByteArray),.string (⟨#[83,69,65]⟩ : ByteArray),.string (⟨#[90,90,90]⟩ : ByteArray)]) (ok:=fun _ => True) (okp:=fun _ => True) ?hr ?hp (fun _ hk => hk) trivial (Below.refl _ _) (Nat.le_refl _) (by simp) ?_; (case hd => rfl); (case hg => rfl); (case hr => (go_simp; done)); (case hp => exact (Reps.one (show Kd.M Kd.string _ _ _ (⟨#[65,66,67]⟩ : ByteArray) [.string (⟨#[65,66,67]⟩ : ByteArray)] from rfl) (Reps.one (show Kd.M Kd.string _ _ _ (⟨#[88,89,90]⟩ : ByteArray) [.string (⟨#[88,89,90]⟩ : ByteArray)] from rfl) (Reps.one (show Kd.M Kd.string _ _ _ (⟨#[83,69,65]⟩ : ByteArray) [.string (⟨#[83,69,65]⟩ : ByteArray)] from rfl) (Reps.one (show Kd.M Kd.string _ _ _ (⟨#[90,90,90]⟩ : ByteArray) [.string (⟨#[90,90,90]⟩ : ByteArray)] from rfl) (Reps.none _ _)))))); intro v619 w6 ho7 hb hg_ hnew_; clear hg_ hnew_; (rw [← Ny618.out] at ho7); have n0_:=Aside0.mk (Kd.R_lower ho7 (keep_size (w:=w) (g:=g) (row:=none) (by repeat (((with_reducible (exact HK.out))))))); have n1_:=Aside0.mk (IsS69.below (by repeat (((with_reducible (exact HI0.out))))) hb); have n2_:=Aside0.mk (KeepBut.trans (by repeat (((with_reducible (exact HK.out))))) (KeepBut.of_below hb g none) (.inl rfl)); have n3_:=Aside0.mk (below_step (by repeat (((with_reducible (exact HB.out))))) hb); clear HI0; clear HK; clear HB; have HO620:=n0_; have HI0:=n1_; have HK:=n2_; have HB:=n3_; clear n0_ n1_ n2_ n3_; clear hb ho7; obtain ⟨Ao8,co8,eo8⟩:=Kd.R_slice HO620.out; subst eo8)|((with_reducible refine gate_callee (f:=104) rfl ?_); refine goesL_ (some 5) rfl rfl Tryz.func104 (by kernel_rfl) rfl #[.pointer (some ⟨g,0,none⟩),.slice Ao8 y618.length co8] rfl (by (try simp only [List.map_toArray,List.map_cons,List.map_nil]); (rfl)) ?_; (with_reducible refine (spec_l1Cur_of.calls g s0_0 s0_1 s0_2 _ _ y618 t621 t622 t623 w0 _ ?side1 ?side2 ?side3 ?side4 ?side5 A2.out).mono ?_); (case side1 => repeat (((with_reducible (exact HI0.out))))); (case side2 => repeat (((with_reducible (exact HB.out))))); (case side3 => repeat ((exact (Kd.R_reads' HO620.out).2.2))); (case side4 => exact (Kd.R_reads' HO620.out).2.1); (case side5 => exact far_slice (IsS69.own_ne HI0.out HO620.out (by decide))); rintro e w9 ⟨rfl,hi,hb,hk⟩; refine ⟨_,rfl,?_⟩; have n0_:=Aside0.mk (Kd.R_mono (Kd.R_keep (IsS69.apart (show IsS69 w0 _ g s0_0 s0_1 s0_2 from by repeat (((with_reducible (exact HI0.out))))) (by exact HO620.out) (by decide)) hk (fun _ h => h.2)) (fun _ h => h.1)); have n1_:=Aside0.mk (KeepBut.trans (by repeat (((with_reducible (exact HK.out))))) hk (.inl rfl)); have n2_:=Aside0.mk (hb); have n3_:=Aside0.mk (hi); clear HO620; clear HK; clear HB; clear HI0; have HO620:=n0_; have HK:=n1_; have HB:=n2_; have HI0:=n3_; clear n0_ n1_ n2_ n3_; (try clear hb); (try clear hb2); (try clear hk); (try clear hi))|((with_reducible refine gate_callee (f:=47) rfl ?_); refine goesL_ (some 7) rfl rfl Tryz.func47 (by kernel_rfl) rfl #[.pointer (some ⟨g,0,none⟩),.int .i64 200] rfl (by (try simp only [List.map_toArray,List.map_cons,List.map_nil]); (rfl)) ?_; (with_reducible refine (spec_l1Cur_pick.calls g s0_0 t622 t623 200 t624 t625 t626 w0 _ ?side1 ?side2 A3.out).mono ?_); (case side1 => repeat (((with_reducible (exact HI0.out))))); (case side2 => repeat (((with_reducible (exact HB.out))))); rintro e w10 ⟨rfl,hi,hb,hk⟩; refine ⟨_,rfl,?_⟩; have n0_:=Aside0.mk (Kd.R_mono (Kd.R_keep (IsS69.apart (show IsS69 w0 _ g s0_0 t622 t623 from by repeat (((with_reducible (exact HI0.out))))) (by exact HO620.out) (by decide)) hk (fun _ h => h.2)) (fun _ h => h.1)); have n1_:=Aside0.mk (KeepBut.trans (by repeat (((with_reducible (exact HK.out))))) hk (.inl rfl)); have n2_:=Aside0.mk (hb); have n3_:=Aside0.mk (hi); clear HO620; clear HK; clear HB; clear HI0; have HO620:=n0_; have HK:=n1_; have HB:=n2_; have HI0:=n3_; clear n0_ n1_ n2_ n3_; (try clear hb); (try clear hb2); (try clear hk); (try clear hi))|((with_reducible refine gate_dst (N:=9) rfl ?_); refine Kd.R_lit (Kd.int .i64) _ 3 ?hg (N:=9) ?hd (xs:=([1,7,50] : List Int)) (inner:=[.int .i64 1,.int .i64 7,.int .i64 50]) (ok:=fun _ => True) (okp:=fun _ => True) ?hr ?hp (fun _ hk => hk) trivial (Below.refl _ _) (Nat.le_refl _) (by simp) ?_; (case hd => rfl); (case hg => rfl); (case hr => (go_simp; done)); (case hp => exact (Reps.one (show Kd.M (Kd.int .i64) _ _ _ 1 [.int .i64 1] from rfl) (Reps.one (show Kd.M (Kd.int .i64) _ _ _ 7 [.int .i64 7] from rfl) (Reps.one (show Kd.M (Kd.int .i64) _ _ _ 50 [.int .i64 50] from rfl) (Reps.none _ _))))); intro v628 w11 ho12 hb hg_ hnew_; clear hg_ hnew_; (rw [← Ny627.out] at ho12); have n0_:=Aside0.mk (Kd.R_below (by exact HO620.out) hb); have n1_:=Aside0.mk (Kd.R_lower ho12 (keep_size (w:=w) (g:=g) (row:=none) (by repeat (((with_reducible (exact HK.out))))))); have n2_:=Aside0.mk (IsS69.below (by repeat (((with_reducible (exact HI0.out))))) hb); have n3_:=Aside0.mk (KeepBut.trans (by repeat (((with_reducible (exact HK.out))))) (KeepBut.of_below hb g none) (.inl rfl)); have n4_:=Aside0.mk (below_step (by repeat (((with_reducible (exact HB.out))))) hb); clear HO620; clear HI0; clear HK; clear HB; have HO620:=n0_; have HO629:=n1_; have HI0:=n2_; have HK:=n3_; have HB:=n4_; clear n0_ n1_ n2_ n3_ n4_; clear hb ho12; obtain ⟨Ao13,co13,eo13⟩:=Kd.R_slice HO629.out; subst eo13)|((with_reducible refine gate_callee (f:=48) rfl ?_); refine goesL_ (some 10) rfl rfl Tryz.func48 (by kernel_rfl) rfl #[.pointer (some ⟨g,0,none⟩),.slice Ao13 y627.length co13] rfl (by (try simp only [List.map_toArray,List.map_cons,List.map_nil]); (rfl)) ?_; (with_reducible refine (spec_l1Cur_among.calls g s0_0 t625 t626 _ _ y627 t630 t631 t632 w0 _ ?side1 ?side2 ?side3 ?side4 ?side5 A4.out).mono ?_); (case side1 => repeat (((with_reducible (exact HI0.out))))); (case side2 => repeat (((with_reducible (exact HB.out))))); (case side3 => repeat ((exact (Kd.R_reads' HO629.out).2.2))); (case side4 => exact (Kd.R_reads' HO629.out).2.1); (case side5 => exact far_slice (IsS69.own_ne HI0.out HO629.out (by decide))); rintro e w14 ⟨rfl,hi,hb,hk⟩; refine ⟨_,rfl,?_⟩; have n0_:=Aside0.mk (Kd.R_mono (Kd.R_keep (IsS69.apart (show IsS69 w0 _ g s0_0 t625 t626 from by repeat (((with_reducible (exact HI0.out))))) (by exact HO620.out) (by decide)) hk (fun _ h => h.2)) (fun _ h => h.1)); have n1_:=Aside0.mk (Kd.R_mono (Kd.R_keep (IsS69.apart (show IsS69 w0 _ g s0_0 t625 t626 from by repeat (((with_reducible (exact HI0.out))))) (by exact HO629.out) (by decide)) hk (fun _ h => h.2)) (fun _ h => h.1)); have n2_:=Aside0.mk (KeepBut.trans (by repeat (((with_reducible (exact HK.out))))) hk (.inl rfl)); have n3_:=Aside0.mk (hb); have n4_:=Aside0.mk (hi); clear HO620; clear HO629; clear HK; clear HB; clear HI0; have HO620:=n0_; have HO629:=n1_; have HK:=n2_; have HB:=n3_; have HI0:=n4_; clear n0_ n1_ n2_ n3_ n4_; (try clear hb); (try clear hb2); (try clear hk); (try clear hi))|((with_reducible refine gate_callee (f:=99) rfl ?_); refine goesL_ (some 12) rfl rfl Tryz.func99 (by kernel_rfl) rfl #[.string t621,.int .i64 (wrap64 (t624 * t630))] rfl (by (try simp only [List.map_toArray,List.map_cons,List.map_nil]); (rfl)) ?_; (with_reducible refine (spec_l2Number.calls k t621 (wrap64 (t624 * t630)) t633 _ A5.out).mono ?_); rintro e w15 ⟨rfl,hb⟩; refine ⟨_,rfl,?_⟩; have n0_:=Aside0.mk (Kd.R_below (by exact HO620.out) hb); have n1_:=Aside0.mk (Kd.R_below (by exact HO629.out) hb); have n2_:=Aside0.mk (IsS69.below (by repeat (((with_reducible (exact HI0.out))))) hb); have n3_:=Aside0.mk (KeepBut.trans (by repeat (((with_reducible (exact HK.out))))) (KeepBut.of_below hb g none) (.inl rfl)); have n4_:=Aside0.mk (below_step (by repeat (((with_reducible (exact HB.out))))) hb); clear HO620; clear HO629; clear HI0; clear HK; clear HB; have HO620:=n0_; have HO629:=n1_; have HI0:=n2_; have HK:=n3_; have HB:=n4_; clear n0_ n1_ n2_ n3_ n4_; (try clear hb); (try clear hb2); (try clear hk); (try clear hi)))
 go_ret
 exact ⟨by (rfl),by repeat (((with_reducible (exact HI0.out)))),by repeat (((with_reducible (exact HB.out)))),by repeat (((with_reducible (exact HK.out))))⟩

end Go.Proofs.YtfindomajbjacaaGreatDoor.X
