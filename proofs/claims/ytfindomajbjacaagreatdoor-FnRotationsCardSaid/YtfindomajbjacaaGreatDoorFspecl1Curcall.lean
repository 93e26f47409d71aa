-- Written by a program of ours (wip/bin/xprint.py,over the kit's print.py) out of the translation. Not trusted: Lean checks it.
import Derived.Test.YtfindomajbjacaaGreatDoorX0
import Derived.Test.YtfindomajbjacaaGreatDoorFbCur
import Derived.Test.YtfindomajbjacaaGreatDoorFspecl1Most
namespace Go.Proofs.YtfindomajbjacaaGreatDoor.X
open Go.RowKit Go.Proofs.YtfindomajbjacaaGreatDoorW.PrintWords Go.Proofs.YtfindomajbjacaaGreatDoorW.PrintLast Go.Proofs.YtfindomajbjacaaGreatDoorW.PrintMore
attribute [local go_sem] max2_int min2_int max_two min_two max_three min_three max_four min_four   -- for this text's walks alone
set_option linter.unusedVariables false
set_option linter.unusedSimpArgs false

/-! ### spec_l1Cur_call: function 68 -/
def spec_l1Cur_call.f (s0_0 : List Int) (s0_1 : Int) (s0_2 : Int) (l1_0 : List Int) (l1_1 : List Int) : Option (Int × Int × Int):=(spec_l1Cur_one.f s0_0 s0_1 s0_2 16).bind fun bt244 => (if bt244.1 = true then ((spec_l1Cur_among.f s0_0 bt244.2.1 bt244.2.2 (([(-1),(l1_0.length : Int)] : List Int))).bind fun bt250 => (some (bt250.1,bt250.2.1,bt250.2.2))) else ((spec_l1Most.f (l1_0.length : Int) 1).bind fun t253 => ((spec_l1Cur_pick.f s0_0 bt244.2.1 bt244.2.2 t253).bind fun bt254 => (some (bt254.1,bt254.2.1,bt254.2.2)))))
set_option maxHeartbeats 8000000 in
set_option maxRecDepth 100000 in
theorem spec_l1Cur_call.calls (g : Nat) (s0_0 : List Int) (s0_1 : Int) (s0_2 : Int) (A1_0 : Option Addr) (c1_0 : Nat) (l1_0 : List Int) (A1_1 : Option Addr) (c1_1 : Nat) (l1_1 : List Int) (r1 : Int) (r2 : Int) (r3 : Int) (w0 w : World) (hI : IsS69 w0 w g s0_0 s0_1 s0_2) (hB : Below w0.heap.size w0 w) (hr1_0 : Kd.C (Kd.int .i64) w A1_0 l1_0.length l1_0) (hc1_0 : l1_0.length ≤ c1_0) (hf1_0 : ∀ ad,A1_0 = some ad → 0 < l1_0.length → ad.block ≠ g) (hr1_1 : Kd.C (Kd.int .i64) w A1_1 l1_1.length l1_1) (hc1_1 : l1_1.length ≤ c1_1) (hf1_1 : ∀ ad,A1_1 = some ad → 0 < l1_1.length → ad.block ≠ g) (h : spec_l1Cur_call.f s0_0 s0_1 s0_2 l1_0 l1_1 = some (r1,r2,r3)) :
  Calls Tryz.prog 68 #[.pointer (some ⟨g,0,none⟩),.agg #[.slice A1_0 l1_0.length c1_0,.slice A1_1 l1_1.length c1_1]] w fun e w' => e = .returned (.int .i64 r1) ∧ IsS69 w0 w' g s0_0 r2 r3 ∧ Below w0.heap.size w0 w' ∧ KeepBut w w' g none:=by
 have hu26:=Tryz.underlying26
 have HR1_0:=Aside0.mk hr1_0
 have HC1_0:=Aside0.mk hc1_0
 clear hr1_0 hc1_0
 have HR1_1:=Aside0.mk hr1_1
 have HC1_1:=Aside0.mk hc1_1
 clear hr1_1 hc1_1
 have HI0:=Aside0.mk hI
 have HK:=Aside0.mk (KeepBut.refl w g none)
 have HL:=Aside0.mk hB.size
 clear hI
 have HW0:=Aside0.mk hB.size
 have HB:=Aside0.mk hB
 clear hB
 have H : ((spec_l1Cur_one.f s0_0 s0_1 s0_2 16).bind fun bt244 => (if bt244.1 = true then ((spec_l1Cur_among.f s0_0 bt244.2.1 bt244.2.2 (([(-1),(l1_0.length : Int)] : List Int))).bind fun bt250 => (some (bt250.1,bt250.2.1,bt250.2.2))) else ((spec_l1Most.f (l1_0.length : Int) 1).bind fun t253 => ((spec_l1Cur_pick.f s0_0 bt244.2.1 bt244.2.2 t253).bind fun bt254 => (some (bt254.1,bt254.2.1,bt254.2.2)))))) = some (r1,r2,r3):=h
 clear h
 replace H:=Option.bind_eq_some_iff.mp H
 obtain ⟨⟨t244,t245,t246⟩,A30,H⟩:=H
 replace H : (if t244 = true then ((spec_l1Cur_among.f s0_0 t245 t246 (([(-1),(l1_0.length : Int)] : List Int))).bind fun bt250 => (some (bt250.1,bt250.2.1,bt250.2.2))) else ((spec_l1Most.f (l1_0.length : Int) 1).bind fun t253 => ((spec_l1Cur_pick.f s0_0 t245 t246 t253).bind fun bt254 => (some (bt254.1,bt254.2.1,bt254.2.2))))) = some (r1,r2,r3):=H
 have A3:=Aside0.mk A30
 clear A30
 by_cases c4 : t244 = true
 ·subst c4
  have H1 : ((spec_l1Cur_among.f s0_0 t245 t246 (([(-1),(l1_0.length : Int)] : List Int))).bind fun bt250 => (some (bt250.1,bt250.2.1,bt250.2.2))) = some (r1,r2,r3):=by rw [if_pos rfl] at H; exact H
  clear H
  have H:=H1
  clear H1
  obtain ⟨y247,hy247⟩ : ∃ y_ : List Int,y_ = (([(-1),(l1_0.length : Int)] : List Int)):=⟨_,rfl⟩
  replace H : ((spec_l1Cur_among.f s0_0 t245 t246 y247).bind fun bt250 => (some (bt250.1,bt250.2.1,bt250.2.2))) = some (r1,r2,r3):=by (rw [hy247]; with_reducible exact H)
  have Ny247:=Aside0.mk hy247
  clear hy247
  replace H:=Option.bind_eq_some_iff.mp H
  obtain ⟨⟨t250,t251,t252⟩,A50,H⟩:=H
  replace H : (some (t250,t251,t252)) = some (r1,r2,r3):=H
  have A5:=Aside0.mk A50
  clear A50
  simp only [Option.some.injEq,Prod.mk.injEq] at H
  obtain ⟨rfl,rfl,rfl⟩:=H
  go_enter Tryz.func68,Tryz.ntmps68
  go_wp2_with (first|((with_reducible refine gate_dst (N:=3) rfl ?_); refine box_event ?hg (N:=3) ?hd (cs:=#[.slice A1_0 l1_0.length c1_0,.slice A1_1 l1_1.length c1_1]) (t:=26) ?hr ?_; (case hd => rfl); (case hg => rfl); (case hr => (go_simp; done)); intro gb243 hg w6 hbox hb; have n0_:=Aside0.mk (IsS69.below (by repeat (((with_reducible (exact HI0.out))))) hb); have n1_:=Aside0.mk (KeepBut.trans (by repeat (((with_reducible (exact HK.out))))) (KeepBut.of_below hb g none) (.inl rfl)); have n2_:=Aside0.mk (below_step (by repeat (((with_reducible (exact HB.out))))) hb); have n3_:=Aside0.mk (hbox); have n4_:=Aside0.mk ((by rw [hg]; exact (keep_size (w:=w) (g:=g) (row:=none) (by repeat (((with_reducible (exact HK.out)))))) : w.heap.size ≤ gb243)); have n5_:=Aside0.mk ((Nat.le_trans HW0.out (by rw [hg]; exact (keep_size (w:=w) (g:=g) (row:=none) (by repeat (((with_reducible (exact HK.out)))))) : w.heap.size ≤ gb243) : w0.heap.size ≤ gb243)); have n6_:=Aside0.mk ((by rw [hg]; exact Nat.ne_of_lt (IsS69.lt (show IsS69 w0 _ g s0_0 s0_1 s0_2 from by repeat (((with_reducible (exact HI0.out)))))) : g ≠ gb243)); have n7_:=Aside0.mk ((by rw [hg]; exact Nat.ne_of_gt (IsS69.lt (show IsS69 w0 _ g s0_0 s0_1 s0_2 from by repeat (((with_reducible (exact HI0.out)))))) : gb243 ≠ g)); clear HI0; clear HK; clear HB; have HI0:=n0_; have HK:=n1_; have HB:=n2_; have BK243:=n3_; have GW243:=n4_; have GE243:=n5_; have NB0_243:=n6_; have NB243_0:=n7_; clear n0_ n1_ n2_ n3_ n4_ n5_ n6_ n7_; clear hb hbox hg)|((with_reducible refine gate_callee (f:=46) rfl ?_); refine goesL_ (some 6) rfl rfl Tryz.func46 (by kernel_rfl) rfl #[.pointer (some ⟨g,0,none⟩),.int .i64 16] rfl (by (try simp only [List.map_toArray,List.map_cons,List.map_nil]); (rfl)) ?_; (with_reducible refine (spec_l1Cur_one.calls g s0_0 s0_1 s0_2 16 true t245 t246 w0 _ ?side1 ?side2 A3.out).mono ?_); (case side1 => repeat (((with_reducible (exact HI0.out))))); (case side2 => repeat (((with_reducible (exact HB.out))))); rintro e w7 ⟨rfl,hi,hb,hk⟩; refine ⟨_,rfl,?_⟩; have n0_:=Aside0.mk (KeepBut.blk hk (g':=gb243) (o:=.cells #[.slice A1_0 l1_0.length c1_0,.slice A1_1 l1_1.length c1_1] 26 (0,0)) (by exact BK243.out) NB243_0.out (by simp)); have n1_:=Aside0.mk (KeepBut.trans (by repeat (((with_reducible (exact HK.out))))) hk (.inl rfl)); have n2_:=Aside0.mk (hb); have n3_:=Aside0.mk (hi); clear BK243; clear HK; clear HB; clear HI0; have BK243:=n0_; have HK:=n1_; have HB:=n2_; have HI0:=n3_; clear n0_ n1_ n2_ n3_; (try clear hb); (try clear hb2); (try clear hk); (try clear hi); have hnb8:=NB243_0.out; have hnc8:=NB0_243.out; have hcz9_0 : w7.cell? ⟨gb243,0,none⟩ = some (.slice A1_0 l1_0.length c1_0):=(blk_cell BK243.out 0).trans rfl; have hcz9_1 : w7.cell? ⟨gb243,1,none⟩ = some (.slice A1_1 l1_1.length c1_1):=(blk_cell BK243.out 1).trans rfl; have hfz9_0:=blk_frozen BK243.out 0; have hfz9_1:=blk_frozen BK243.out 1)|((with_reducible refine gate_dst (N:=11) rfl ?_); refine Kd.R_lit (Kd.int .i64) _ 3 ?hg (N:=11) ?hd (xs:=([(-1),(l1_0.length : Int)] : List Int)) (inner:=[.int .i64 (-1),.int .i64 (l1_0.length : Int)]) (ok:=fun _ => True) (okp:=fun _ => True) ?hr ?hp (fun _ hk => hk) trivial (Below.refl _ _) (Nat.le_refl _) (by simp) ?_; (case hd => rfl); (case hg => rfl); (case hr => (go_simp; done)); (case hp => exact (Reps.one (show Kd.M (Kd.int .i64) _ _ _ (-1) [.int .i64 (-1)] from rfl) (Reps.one (show Kd.M (Kd.int .i64) _ _ _ (l1_0.length : Int) [.int .i64 (l1_0.length : Int)] from rfl) (Reps.none _ _)))); intro v248 w10 ho11 hb hg_ hnew_; clear hg_ hnew_; (rw [← Ny247.out] at ho11); have n0_:=Aside0.mk (Kd.R_lower ho11 (keep_size (w:=w) (g:=g) (row:=none) (by repeat (((with_reducible (exact HK.out))))))); have n1_:=Aside0.mk (IsS69.below (by repeat (((with_reducible (exact HI0.out))))) hb); have n2_:=Aside0.mk (blk_below (g:=gb243) (o:=.cells #[.slice A1_0 l1_0.length c1_0,.slice A1_1 l1_1.length c1_1] 26 (0,0)) (by exact BK243.out) hb); have n3_:=Aside0.mk (KeepBut.trans (by repeat (((with_reducible (exact HK.out))))) (KeepBut.of_below hb g none) (.inl rfl)); have n4_:=Aside0.mk (below_step (by repeat (((with_reducible (exact HB.out))))) hb); clear HI0; clear BK243; clear HK; clear HB; have HO249:=n0_; have HI0:=n1_; have BK243:=n2_; have HK:=n3_; have HB:=n4_; clear n0_ n1_ n2_ n3_ n4_; clear hb ho11; obtain ⟨Ao12,co12,eo12⟩:=Kd.R_slice HO249.out; subst eo12)|((with_reducible refine gate_callee (f:=48) rfl ?_); refine goesL_ (some 12) rfl rfl Tryz.func48 (by kernel_rfl) rfl #[.pointer (some ⟨g,0,none⟩),.slice Ao12 y247.length co12] rfl (by (try simp only [List.map_toArray,List.map_cons,List.map_nil]); (rfl)) ?_; (with_reducible refine (spec_l1Cur_among.calls g s0_0 t245 t246 _ _ y247 t250 t251 t252 w0 _ ?side1 ?side2 ?side3 ?side4 ?side5 A5.out).mono ?_); (case side1 => repeat (((with_reducible (exact HI0.out))))); (case side2 => repeat (((with_reducible (exact HB.out))))); (case side3 => repeat ((exact (Kd.R_reads' HO249.out).2.2))); (case side4 => exact (Kd.R_reads' HO249.out).2.1); (case side5 => exact far_slice (IsS69.own_ne HI0.out HO249.out (by decide))); rintro e w13 ⟨rfl,hi,hb,hk⟩; refine ⟨_,rfl,?_⟩; have n0_:=Aside0.mk (KeepBut.blk hk (g':=gb243) (o:=.cells #[.slice A1_0 l1_0.length c1_0,.slice A1_1 l1_1.length c1_1] 26 (0,0)) (by exact BK243.out) NB243_0.out (by simp)); have n1_:=Aside0.mk (Kd.R_mono (Kd.R_keep (IsS69.apart (show IsS69 w0 _ g s0_0 t245 t246 from by repeat (((with_reducible (exact HI0.out))))) (by exact HO249.out) (by decide)) hk (fun _ h => h.2)) (fun _ h => h.1)); have n2_:=Aside0.mk (KeepBut.trans (by repeat (((with_reducible (exact HK.out))))) hk (.inl rfl)); have n3_:=Aside0.mk (hb); have n4_:=Aside0.mk (hi); clear BK243; clear HO249; clear HK; clear HB; clear HI0; have BK243:=n0_; have HO249:=n1_; have HK:=n2_; have HB:=n3_; have HI0:=n4_; clear n0_ n1_ n2_ n3_ n4_; (try clear hb); (try clear hb2); (try clear hk); (try clear hi)))
  go_ret
  exact ⟨by (rfl),by repeat (((with_reducible (exact HI0.out)))),by repeat (((with_reducible (exact HB.out)))),by repeat (((with_reducible (exact HK.out))))⟩
 ·replace c4:=Bool.eq_false_iff.mpr c4
  subst c4
  have H1 : ((spec_l1Most.f (l1_0.length : Int) 1).bind fun t253 => ((spec_l1Cur_pick.f s0_0 t245 t246 t253).bind fun bt254 => (some (bt254.1,bt254.2.1,bt254.2.2)))) = some (r1,r2,r3):=by rw [if_neg (show ¬ (false = true) by decide)] at H; exact H
  clear H
  have H:=H1
  clear H1
  replace H:=Option.bind_eq_some_iff.mp H
  obtain ⟨t253,A140,H⟩:=H
  replace H : ((spec_l1Cur_pick.f s0_0 t245 t246 t253).bind fun bt254 => (some (bt254.1,bt254.2.1,bt254.2.2))) = some (r1,r2,r3):=H
  have A14:=Aside0.mk A140
  clear A140
  replace H:=Option.bind_eq_some_iff.mp H
  obtain ⟨⟨t254,t255,t256⟩,A150,H⟩:=H
  replace H : (some (t254,t255,t256)) = some (r1,r2,r3):=H
  have A15:=Aside0.mk A150
  clear A150
  simp only [Option.some.injEq,Prod.mk.injEq] at H
  obtain ⟨rfl,rfl,rfl⟩:=H
  go_enter Tryz.func68,Tryz.ntmps68
  go_wp2_with (first|((with_reducible refine gate_dst (N:=3) rfl ?_); refine box_event ?hg (N:=3) ?hd (cs:=#[.slice A1_0 l1_0.length c1_0,.slice A1_1 l1_1.length c1_1]) (t:=26) ?hr ?_; (case hd => rfl); (case hg => rfl); (case hr => (go_simp; done)); intro gb243 hg w16 hbox hb; have n0_:=Aside0.mk (IsS69.below (by repeat (((with_reducible (exact HI0.out))))) hb); have n1_:=Aside0.mk (KeepBut.trans (by repeat (((with_reducible (exact HK.out))))) (KeepBut.of_below hb g none) (.inl rfl)); have n2_:=Aside0.mk (below_step (by repeat (((with_reducible (exact HB.out))))) hb); have n3_:=Aside0.mk (hbox); have n4_:=Aside0.mk ((by rw [hg]; exact (keep_size (w:=w) (g:=g) (row:=none) (by repeat (((with_reducible (exact HK.out)))))) : w.heap.size ≤ gb243)); have n5_:=Aside0.mk ((Nat.le_trans HW0.out (by rw [hg]; exact (keep_size (w:=w) (g:=g) (row:=none) (by repeat (((with_reducible (exact HK.out)))))) : w.heap.size ≤ gb243) : w0.heap.size ≤ gb243)); have n6_:=Aside0.mk ((by rw [hg]; exact Nat.ne_of_lt (IsS69.lt (show IsS69 w0 _ g s0_0 s0_1 s0_2 from by repeat (((with_reducible (exact HI0.out)))))) : g ≠ gb243)); have n7_:=Aside0.mk ((by rw [hg]; exact Nat.ne_of_gt (IsS69.lt (show IsS69 w0 _ g s0_0 s0_1 s0_2 from by repeat (((with_reducible (exact HI0.out)))))) : gb243 ≠ g)); clear HI0; clear HK; clear HB; have HI0:=n0_; have HK:=n1_; have HB:=n2_; have BK243:=n3_; have GW243:=n4_; have GE243:=n5_; have NB0_243:=n6_; have NB243_0:=n7_; clear n0_ n1_ n2_ n3_ n4_ n5_ n6_ n7_; clear hb hbox hg)|((with_reducible refine gate_callee (f:=46) rfl ?_); refine goesL_ (some 6) rfl rfl Tryz.func46 (by kernel_rfl) rfl #[.pointer (some ⟨g,0,none⟩),.int .i64 16] rfl (by (try simp only [List.map_toArray,List.map_cons,List.map_nil]); (rfl)) ?_; (with_reducible refine (spec_l1Cur_one.calls g s0_0 s0_1 s0_2 16 false t245 t246 w0 _ ?side1 ?side2 A3.out).mono ?_); (case side1 => repeat (((with_reducible (exact HI0.out))))); (case side2 => repeat (((with_reducible (exact HB.out))))); rintro e w17 ⟨rfl,hi,hb,hk⟩; refine ⟨_,rfl,?_⟩; have n0_:=Aside0.mk (KeepBut.blk hk (g':=gb243) (o:=.cells #[.slice A1_0 l1_0.length c1_0,.slice A1_1 l1_1.length c1_1] 26 (0,0)) (by exact BK243.out) NB243_0.out (by simp)); have n1_:=Aside0.mk (KeepBut.trans (by repeat (((with_reducible (exact HK.out))))) hk (.inl rfl)); have n2_:=Aside0.mk (hb); have n3_:=Aside0.mk (hi); clear BK243; clear HK; clear HB; clear HI0; have BK243:=n0_; have HK:=n1_; have HB:=n2_; have HI0:=n3_; clear n0_ n1_ n2_ n3_; (try clear hb); (try clear hb2); (try clear hk); (try clear hi); have hnb18:=NB243_0.out; have hnc18:=NB0_243.out; have hcz19_0 : w17.cell? ⟨gb243,0,none⟩ = some (.slice A1_0 l1_0.length c1_0):=(blk_cell BK243.out 0).trans rfl; have hcz19_1 : w17.cell? ⟨gb243,1,none⟩ = some (.slice A1_1 l1_1.length c1_1):=(blk_cell BK243.out 1).trans rfl; have hfz19_0:=blk_frozen BK243.out 0; have hfz19_1:=blk_frozen BK243.out 1)|((with_reducible refine gate_callee (f:=88) rfl ?_); refine goesL_ (some 17) rfl rfl Tryz.func88 (by kernel_rfl) rfl #[.int .i64 (l1_0.length : Int),.int .i64 1] rfl (by (try simp only [List.map_toArray,List.map_cons,List.map_nil]); (rfl)) ?_; (with_reducible refine (spec_l1Most.calls (l1_0.length : Int) 1 t253 _ A14.out).mono ?_); rintro e w' ⟨rfl,⟨nd,rfl⟩⟩; refine ⟨_,rfl,?_⟩)|((with_reducible refine gate_callee (f:=47) rfl ?_); refine goesL_ (some 18) rfl rfl Tryz.func47 (by kernel_rfl) rfl #[.pointer (some ⟨g,0,none⟩),.int .i64 t253] rfl (by (try simp only [List.map_toArray,List.map_cons,List.map_nil]); (rfl)) ?_; (with_reducible refine (spec_l1Cur_pick.calls g s0_0 t245 t246 t253 t254 t255 t256 w0 _ ?side1 ?side2 A15.out).mono ?_); (case side1 => repeat (with_reducible first|exact HI0.out|apply IsS69.drewN)); (case side2 => repeat (with_reducible first|exact HB.out|apply pw_below_drewN)); rintro e w20 ⟨rfl,hi,hb,hk⟩; refine ⟨_,rfl,?_⟩; have n0_:=Aside0.mk (KeepBut.blk hk (g':=gb243) (o:=.cells #[.slice A1_0 l1_0.length c1_0,.slice A1_1 l1_1.length c1_1] 26 (0,0)) (by (with_reducible repeat (refine blk_drewN ?_ _)); exact BK243.out) NB243_0.out (by simp)); have n1_:=Aside0.mk (KeepBut.trans (by repeat (with_reducible first|exact HK.out|apply keep_drewN)) hk (.inl rfl)); have n2_:=Aside0.mk (hb); have n3_:=Aside0.mk (hi); clear BK243; clear HK; clear HB; clear HI0; have BK243:=n0_; have HK:=n1_; have HB:=n2_; have HI0:=n3_; clear n0_ n1_ n2_ n3_; (try clear hb); (try clear hb2); (try clear hk); (try clear hi)))
  go_ret
  exact ⟨by (rfl),by repeat (((with_reducible (exact HI0.out)))),by repeat (((with_reducible (exact HB.out)))),by repeat (((with_reducible (exact HK.out))))⟩

end Go.Proofs.YtfindomajbjacaaGreatDoor.X
