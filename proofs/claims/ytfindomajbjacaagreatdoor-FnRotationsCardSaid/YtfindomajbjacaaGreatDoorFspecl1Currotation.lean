-- Written by a program of ours (wip/bin/xprint.py,over the kit's print.py) out of the translation. Not trusted: Lean checks it.
import Derived.Test.YtfindomajbjacaaGreatDoorX0
import Derived.Test.YtfindomajbjacaaGreatDoorFbCur
namespace Go.Proofs.YtfindomajbjacaaGreatDoor.X
open Go.RowKit Go.Proofs.YtfindomajbjacaaGreatDoorW.PrintWords Go.Proofs.YtfindomajbjacaaGreatDoorW.PrintLast Go.Proofs.YtfindomajbjacaaGreatDoorW.PrintMore
attribute [local go_sem] max2_int min2_int max_two min_two max_three min_three max_four min_four   -- for this text's walks alone
set_option linter.unusedVariables false
set_option linter.unusedSimpArgs false

/-! ### spec_l1Cur_rotation: function 50 -/
mutual
def spec_l1Cur_rotation.j0 : Nat → Int → List Int → Int → Int → Option (List Int × List Int × Int × Int)
 | 0,_,_,_,_ => none
 | k + 1,x4,x1000,x1001,x1002 => spec_l1Cur_rotation.l0 k x4 0 x1000 x1001 x1002 ([] : List Int) ([] : List Int)
def spec_l1Cur_rotation.l0 : Nat → Int → Int → List Int → Int → Int → List Int → List Int → Option (List Int × List Int × Int × Int)
 | 0,_,_,_,_,_,_,_ => none
 | k + 1,x4,x5,x1000,x1001,x1002,x117000,x117001 => if x5 < x4 then ((spec_l1Cur_pick.f x1000 x1001 x1002 5).bind fun bt123 => (if x5 > 0 then (if 0 ≤ (wrap64 (x5 - 1)) then (if (wrap64 (x5 - 1)) < (x117000.length : Int) then (if (wrap64 (1 + bt123.1)) = (rd x117000 (wrap64 (x5 - 1))) then (spec_l1Cur_rotation.j2 k x4 x5 (wrap64 (1 + bt123.1)) true x1000 bt123.2.1 bt123.2.2 x117000 x117001) else (if x5 = (wrap64 (x4 - 1)) then (if 0 < (x117000.length : Int) then (spec_l1Cur_rotation.j2 k x4 x5 (wrap64 (1 + bt123.1)) ((wrap64 (1 + bt123.1)) == (rd x117000 0)) x1000 bt123.2.1 bt123.2.2 x117000 x117001) else (none)) else (spec_l1Cur_rotation.j2 k x4 x5 (wrap64 (1 + bt123.1)) false x1000 bt123.2.1 bt123.2.2 x117000 x117001))) else (none)) else (none)) else (if x5 = (wrap64 (x4 - 1)) then (spec_l1Cur_rotation.j2 k x4 x5 (wrap64 (1 + bt123.1)) false x1000 bt123.2.1 bt123.2.2 x117000 x117001) else (spec_l1Cur_rotation.j2 k x4 x5 (wrap64 (1 + bt123.1)) false x1000 bt123.2.1 bt123.2.2 x117000 x117001)))) else (some (x117000,x117001,x1001,x1002))
def spec_l1Cur_rotation.j2 : Nat → Int → Int → Int → Bool → List Int → Int → Int → List Int → List Int → Option (List Int × List Int × Int × Int)
 | 0,_,_,_,_,_,_,_,_,_ => none
 | k + 1,x4,x5,x6,x50,x1000,x1001,x1002,x117000,x117001 => if x50 = true then (spec_l1Cur_rotation.j3 k x4 x5 (wrap64 (6 + (Int.tmod x5 3))) x1000 x1001 x1002 x117000 x117001) else (spec_l1Cur_rotation.j3 k x4 x5 x6 x1000 x1001 x1002 x117000 x117001)
def spec_l1Cur_rotation.j3 : Nat → Int → Int → Int → List Int → Int → Int → List Int → List Int → Option (List Int × List Int × Int × Int)
 | 0,_,_,_,_,_,_,_,_ => none
 | k + 1,x4,x5,x6,x1000,x1001,x1002,x117000,x117001 => if x117000.length < 17592186044416 then ((spec_l1Cur_among.f x1000 x1001 x1002 ([1,2,3,5,10,40] : List Int)).bind fun bt134 => (if x117001.length < 17592186044416 then (spec_l1Cur_rotation.l0 k x4 (wrap64 (x5 + 1)) x1000 bt134.2.1 bt134.2.2 (x117000 ++ [x6]) (x117001 ++ [bt134.1])) else (none))) else (none)
end
def spec_l1Cur_rotation.f (k : Nat) (s0_0 : List Int) (s0_1 : Int) (s0_2 : Int) : Option (List Int × List Int × Int × Int):=(spec_l1Cur_pick.f s0_0 s0_1 s0_2 7).bind fun bt117 => ((spec_l1Cur_one.f s0_0 bt117.2.1 bt117.2.2 12).bind fun bt120 => (if bt120.1 = true then (spec_l1Cur_rotation.j0 k 12 s0_0 bt120.2.1 bt120.2.2) else (spec_l1Cur_rotation.j0 k (wrap64 (1 + bt117.1)) s0_0 bt120.2.1 bt120.2.2)))
theorem spec_l1Cur_rotation.mono_l : ∀ k,(∀ y0 y1 y2 y3,LeO (spec_l1Cur_rotation.j0 k y0 y1 y2 y3) (spec_l1Cur_rotation.j0 (k + 1) y0 y1 y2 y3)) ∧ (∀ y0 y1 y2 y3 y4 y5 y6,LeO (spec_l1Cur_rotation.l0 k y0 y1 y2 y3 y4 y5 y6) (spec_l1Cur_rotation.l0 (k + 1) y0 y1 y2 y3 y4 y5 y6)) ∧ (∀ y0 y1 y2 y3 y4 y5 y6 y7 y8,LeO (spec_l1Cur_rotation.j2 k y0 y1 y2 y3 y4 y5 y6 y7 y8) (spec_l1Cur_rotation.j2 (k + 1) y0 y1 y2 y3 y4 y5 y6 y7 y8)) ∧ (∀ y0 y1 y2 y3 y4 y5 y6 y7,LeO (spec_l1Cur_rotation.j3 k y0 y1 y2 y3 y4 y5 y6 y7) (spec_l1Cur_rotation.j3 (k + 1) y0 y1 y2 y3 y4 y5 y6 y7))
 | 0 => ⟨fun _ _ _ _ r h => by simp [spec_l1Cur_rotation.j0] at h,fun _ _ _ _ _ _ _ r h => by simp [spec_l1Cur_rotation.l0] at h,fun _ _ _ _ _ _ _ _ _ r h => by simp [spec_l1Cur_rotation.j2] at h,fun _ _ _ _ _ _ _ _ r h => by simp [spec_l1Cur_rotation.j3] at h⟩
 | k + 1 => by
  obtain ⟨ih0,ih1,ih2,ih3⟩:=spec_l1Cur_rotation.mono_l k
  refine ⟨?_,?_,?_,?_⟩ <;> intros <;> first | unfold spec_l1Cur_rotation.j0 | unfold spec_l1Cur_rotation.l0 | unfold spec_l1Cur_rotation.j2 | unfold spec_l1Cur_rotation.j3
  all_goals repeat' first | (with_reducible exact ih0 _ _ _ _) | (with_reducible exact ih1 _ _ _ _ _ _ _) | (with_reducible exact ih2 _ _ _ _ _ _ _ _ _) | (with_reducible exact ih3 _ _ _ _ _ _ _ _) | (with_reducible exact LeO.refl _) | (with_reducible exact LeO.none _) | (with_reducible refine LeO.ite ?_ ?_) | (with_reducible refine LeO.bind ?_ (fun _ => ?_)) | exact ih0 _ _ _ _ | exact ih1 _ _ _ _ _ _ _ | exact ih2 _ _ _ _ _ _ _ _ _ | exact ih3 _ _ _ _ _ _ _ _ | refine LeO.ite ?_ ?_ | refine LeO.bind ?_ (fun _ => ?_)
theorem spec_l1Cur_rotation.mono : ∀ a0 a1 a2 k,LeO (spec_l1Cur_rotation.f k a0 a1 a2) (spec_l1Cur_rotation.f (k + 1) a0 a1 a2):=by
 intro a0 a1 a2 k
 obtain ⟨ih0,ih1,ih2,ih3⟩:=spec_l1Cur_rotation.mono_l k
 unfold spec_l1Cur_rotation.f
 repeat' first
   | (with_reducible exact ih0 _ _ _ _)
   | (with_reducible exact ih1 _ _ _ _ _ _ _)
   | (with_reducible exact ih2 _ _ _ _ _ _ _ _ _)
   | (with_reducible exact ih3 _ _ _ _ _ _ _ _)
   | (with_reducible exact LeO.refl _)
   | (with_reducible exact LeO.none _)
   | (with_reducible refine LeO.ite ?_ ?_)
   | (with_reducible refine LeO.bind ?_ (fun _ => ?_))
   | exact ih0 _ _ _ _
   | exact ih1 _ _ _ _ _ _ _
   | exact ih2 _ _ _ _ _ _ _ _ _
   | exact ih3 _ _ _ _ _ _ _ _
   | exact LeO.none _
   | refine LeO.ite ?_ ?_
   | refine LeO.bind ?_ (fun _ => ?_)
def spec_l1Cur_rotation.T12 : Bool × List (List Nat × List Nat):=(true,[([],[]),([0],[0]),([],[]),([],[]),([2,3],[2,3]),([4],[4]),([1,5,4],[1,5]),([0,1,2,3,4,5,6],[]),([7,6,6,0,1,2,3,4,5,6],[6,7])])
def spec_l1Cur_rotation.B12 : List Nat:=[0,1,0,0,12,28,63,127,255]
theorem spec_l1Cur_rotation.tab12 : rtab .any (opsOf Tryz.f50 12) = spec_l1Cur_rotation.T12:=by kernel_rfl
theorem spec_l1Cur_rotation.bits12 : waitsOk spec_l1Cur_rotation.T12.2 spec_l1Cur_rotation.B12 = true:=by kernel_rfl
set_option maxHeartbeats 8000000 in
set_option maxRecDepth 100000 in
theorem spec_l1Cur_rotation.calls (k : Nat) (g : Nat) (s0_0 : List Int) (s0_1 : Int) (s0_2 : Int) (r1 : List Int) (r2 : List Int) (r3 : Int) (r4 : Int) (w0 w : World) (hI : IsS69 w0 w g s0_0 s0_1 s0_2) (hB : Below w0.heap.size w0 w) (h : spec_l1Cur_rotation.f k s0_0 s0_1 s0_2 = some (r1,r2,r3,r4)) :
  Calls Tryz.prog 50 #[.pointer (some ⟨g,0,none⟩)] w fun e w' => ∃ v0_ v1_ : Value,e = .returned (.agg #[v0_,v1_]) ∧ Kd.R (Kd.int .i64) 3 w' w.heap.size (fun k_ => some k_ ≠ (v1_ : Value).ownBlock) v0_ r1 ∧ Kd.R (Kd.int .i64) 3 w' w.heap.size (fun k_ => some k_ ≠ (v0_ : Value).ownBlock) v1_ r2 ∧ IsS69 w0 w' g s0_0 r3 r4 ∧ Below w0.heap.size w0 w' ∧ KeepBut w w' g none:=by
 have hu26:=Tryz.underlying26
 have HI0:=Aside0.mk hI
 have HK:=Aside0.mk (KeepBut.refl w g none)
 have HL:=Aside0.mk hB.size
 clear hI
 have HW0:=Aside0.mk hB.size
 have HB:=Aside0.mk hB
 clear hB
 have H : ((spec_l1Cur_pick.f s0_0 s0_1 s0_2 7).bind fun bt117 => ((spec_l1Cur_one.f s0_0 bt117.2.1 bt117.2.2 12).bind fun bt120 => (if bt120.1 = true then (spec_l1Cur_rotation.j0 k 12 s0_0 bt120.2.1 bt120.2.2) else (spec_l1Cur_rotation.j0 k (wrap64 (1 + bt117.1)) s0_0 bt120.2.1 bt120.2.2)))) = some (r1,r2,r3,r4):=h
 clear h
 replace H:=Option.bind_eq_some_iff.mp H
 obtain ⟨⟨t117,t118,t119⟩,A20,H⟩:=H
 replace H : ((spec_l1Cur_one.f s0_0 t118 t119 12).bind fun bt120 => (if bt120.1 = true then (spec_l1Cur_rotation.j0 k 12 s0_0 bt120.2.1 bt120.2.2) else (spec_l1Cur_rotation.j0 k (wrap64 (1 + t117)) s0_0 bt120.2.1 bt120.2.2))) = some (r1,r2,r3,r4):=H
 have A2:=Aside0.mk A20
 clear A20
 replace H:=Option.bind_eq_some_iff.mp H
 obtain ⟨⟨t120,t121,t122⟩,A30,H⟩:=H
 replace H : (if t120 = true then (spec_l1Cur_rotation.j0 k 12 s0_0 t121 t122) else (spec_l1Cur_rotation.j0 k (wrap64 (1 + t117)) s0_0 t121 t122)) = some (r1,r2,r3,r4):=H
 have A3:=Aside0.mk A30
 clear A30
 have HC4:=Aside0.mk H
 clear H
 go_enter Tryz.func50,Tryz.ntmps50
 go_upto_if 12 with (first|((with_reducible refine gate_dst (N:=2) rfl ?_); refine box_event ?hg (N:=2) ?hd (cs:=#[.slice none 0 0,.slice none 0 0]) (t:=26) ?hr ?_; (case hd => rfl); (case hg => rfl); (case hr => (go_simp; done)); intro gb115 hg w5 hbox hb; have n0_:=Aside0.mk (IsS69.below (by repeat (((with_reducible (exact HI0.out))))) hb); have n1_:=Aside0.mk (KeepBut.trans (by repeat (((with_reducible (exact HK.out))))) (KeepBut.of_below hb g none) (.inl rfl)); have n2_:=Aside0.mk (below_step (by repeat (((with_reducible (exact HB.out))))) hb); have n3_:=Aside0.mk (hbox); have n4_:=Aside0.mk ((by rw [hg]; exact (keep_size (w:=w) (g:=g) (row:=none) (by repeat (((with_reducible (exact HK.out)))))) : w.heap.size ≤ gb115)); have n5_:=Aside0.mk ((Nat.le_trans HW0.out (by rw [hg]; exact (keep_size (w:=w) (g:=g) (row:=none) (by repeat (((with_reducible (exact HK.out)))))) : w.heap.size ≤ gb115) : w0.heap.size ≤ gb115)); have n6_:=Aside0.mk ((by rw [hg]; exact Nat.ne_of_lt (IsS69.lt (show IsS69 w0 _ g s0_0 s0_1 s0_2 from by repeat (((with_reducible (exact HI0.out)))))) : g ≠ gb115)); have n7_:=Aside0.mk ((by rw [hg]; exact Nat.ne_of_gt (IsS69.lt (show IsS69 w0 _ g s0_0 s0_1 s0_2 from by repeat (((with_reducible (exact HI0.out)))))) : gb115 ≠ g)); clear HI0; clear HK; clear HB; have HI0:=n0_; have HK:=n1_; have HB:=n2_; have BK115:=n3_; have GW115:=n4_; have GE115:=n5_; have NB0_115:=n6_; have NB115_0:=n7_; clear n0_ n1_ n2_ n3_ n4_ n5_ n6_ n7_; clear hb hbox hg)|((with_reducible refine gate_dst (N:=3) rfl ?_); refine box_event ?hg (N:=3) ?hd (cs:=#[.slice none 0 0,.slice none 0 0]) (t:=26) ?hr ?_; (case hd => rfl); (case hg => rfl); (case hr => (go_simp; done)); intro gb116 hg w6 hbox hb; have n0_:=Aside0.mk (IsS69.below (by repeat (((with_reducible (exact HI0.out))))) hb); have n1_:=Aside0.mk (blk_below (g:=gb115) (o:=.cells #[.slice none 0 0,.slice none 0 0] 26 (0,0)) (by exact BK115.out) hb); have n2_:=Aside0.mk (KeepBut.trans (by repeat (((with_reducible (exact HK.out))))) (KeepBut.of_below hb g none) (.inl rfl)); have n3_:=Aside0.mk (below_step (by repeat (((with_reducible (exact HB.out))))) hb); have n4_:=Aside0.mk (hbox); have n5_:=Aside0.mk ((by rw [hg]; exact (keep_size (w:=w) (g:=g) (row:=none) (by repeat (((with_reducible (exact HK.out)))))) : w.heap.size ≤ gb116)); have n6_:=Aside0.mk ((Nat.le_trans HW0.out (by rw [hg]; exact (keep_size (w:=w) (g:=g) (row:=none) (by repeat (((with_reducible (exact HK.out)))))) : w.heap.size ≤ gb116) : w0.heap.size ≤ gb116)); have n7_:=Aside0.mk ((by rw [hg]; exact Nat.ne_of_lt (blk_lt (g:=gb115) (o:=.cells #[.slice none 0 0,.slice none 0 0] 26 (0,0)) (by exact BK115.out)) : gb115 ≠ gb116)); have n8_:=Aside0.mk ((by rw [hg]; exact Nat.ne_of_gt (blk_lt (g:=gb115) (o:=.cells #[.slice none 0 0,.slice none 0 0] 26 (0,0)) (by exact BK115.out)) : gb116 ≠ gb115)); have n9_:=Aside0.mk ((by rw [hg]; exact Nat.ne_of_lt (IsS69.lt (show IsS69 w0 _ g s0_0 s0_1 s0_2 from by repeat (((with_reducible (exact HI0.out)))))) : g ≠ gb116)); have n10_:=Aside0.mk ((by rw [hg]; exact Nat.ne_of_gt (IsS69.lt (show IsS69 w0 _ g s0_0 s0_1 s0_2 from by repeat (((with_reducible (exact HI0.out)))))) : gb116 ≠ g)); clear HI0; clear BK115; clear HK; clear HB; have HI0:=n0_; have BK115:=n1_; have HK:=n2_; have HB:=n3_; have BK116:=n4_; have GW116:=n5_; have GE116:=n6_; have NB115_116:=n7_; have NB116_115:=n8_; have NB0_116:=n9_; have NB116_0:=n10_; clear n0_ n1_ n2_ n3_ n4_ n5_ n6_ n7_ n8_ n9_ n10_; clear hb hbox hg; have hnb7:=NB116_115.out; have hnc7:=NB115_116.out; have hnb8:=NB116_0.out; have hnc8:=NB0_116.out; have hcz9_0 : w6.cell? ⟨gb116,0,none⟩ = some (.slice none 0 0):=(blk_cell BK116.out 0).trans rfl; have hcz9_1 : w6.cell? ⟨gb116,1,none⟩ = some (.slice none 0 0):=(blk_cell BK116.out 1).trans rfl; have hfz9_0:=blk_frozen BK116.out 0; have hfz9_1:=blk_frozen BK116.out 1)|((with_reducible refine gate_callee (f:=47) rfl ?_); refine goesL_ (some 9) rfl rfl Tryz.func47 (by kernel_rfl) rfl #[.pointer (some ⟨g,0,none⟩),.int .i64 7] rfl (by (try simp only [List.map_toArray,List.map_cons,List.map_nil]); (rfl)) ?_; (with_reducible refine (spec_l1Cur_pick.calls g s0_0 s0_1 s0_2 7 t117 t118 t119 w0 _ ?side1 ?side2 A2.out).mono ?_); (case side1 => repeat (with_reducible first|exact HI0.out|refine IsS69.far ?_ NB0_116.out _)); (case side2 => repeat (with_reducible first|exact HB.out|refine below_set ?_ GE116.out)); rintro e w10 ⟨rfl,hi,hb,hk⟩; refine ⟨_,rfl,?_⟩; have n0_:=Aside0.mk (KeepBut.blk hk (g':=gb115) (o:=.cells #[.slice none 0 0,.slice none 0 0] 26 (0,0)) (by refine blk_far ?_ NB115_116.out _; refine blk_far ?_ NB115_116.out _; exact BK115.out) NB115_0.out (by simp)); have n1_:=Aside0.mk (KeepBut.blk hk (g':=gb116) (o:=.cells #[.slice none 0 0,.slice none 0 0] 26 (0,0)) (by refine blk_put (cs:=#[.slice none 0 0,.slice none 0 0]) ?_ 1 _ rfl; refine blk_put (cs:=#[.slice none 0 0,.slice none 0 0]) ?_ 0 _ rfl; exact BK116.out) NB116_0.out (by simp)); have n2_:=Aside0.mk (KeepBut.trans (by repeat (with_reducible first|exact HK.out|refine keep_far ?_ GW116.out _)) hk (.inl rfl)); have n3_:=Aside0.mk (hb); have n4_:=Aside0.mk (hi); clear BK115; clear BK116; clear HK; clear HB; clear HI0; have BK115:=n0_; have BK116:=n1_; have HK:=n2_; have HB:=n3_; have HI0:=n4_; clear n0_ n1_ n2_ n3_ n4_; (try clear hb); (try clear hb2); (try clear hk); (try clear hi))|((with_reducible refine gate_callee (f:=46) rfl ?_); refine goesL_ (some 12) rfl rfl Tryz.func46 (by kernel_rfl) rfl #[.pointer (some ⟨g,0,none⟩),.int .i64 12] rfl (by (try simp only [List.map_toArray,List.map_cons,List.map_nil]); (rfl)) ?_; (with_reducible refine (spec_l1Cur_one.calls g s0_0 t118 t119 12 t120 t121 t122 w0 _ ?side1 ?side2 A3.out).mono ?_); (case side1 => repeat (((with_reducible (exact HI0.out))))); (case side2 => repeat (((with_reducible (exact HB.out))))); rintro e w11 ⟨rfl,hi,hb,hk⟩; refine ⟨_,rfl,?_⟩; have n0_:=Aside0.mk (KeepBut.blk hk (g':=gb115) (o:=.cells #[.slice none 0 0,.slice none 0 0] 26 (0,0)) (by exact BK115.out) NB115_0.out (by simp)); have n1_:=Aside0.mk (KeepBut.blk hk (g':=gb116) (o:=.cells #[.slice none 0 0,.slice none 0 0] 26 (0,0)) (by exact BK116.out) NB116_0.out (by simp)); have n2_:=Aside0.mk (KeepBut.trans (by repeat (((with_reducible (exact HK.out))))) hk (.inl rfl)); have n3_:=Aside0.mk (hb); have n4_:=Aside0.mk (hi); clear BK115; clear BK116; clear HK; clear HB; clear HI0; have BK115:=n0_; have BK116:=n1_; have HK:=n2_; have HB:=n3_; have HI0:=n4_; clear n0_ n1_ n2_ n3_ n4_; (try clear hb); (try clear hb2); (try clear hk); (try clear hi)))
 (try simp only [Act.put,List.setIfInBounds_toArray,List.set_cons_zero,List.set_cons_succ])
 go_cut [4] (fun v4 wc => ∃ (kq : Nat) (x4_3 : Int),v4 = .int .i64 x4_3 ∧ Aside0 (spec_l1Cur_rotation.j0 kq x4_3 s0_0 t121 t122 = some (r1,r2,r3,r4)) ∧ Aside0 (kq ≤ k) ∧ Aside0 (wc.heap[gb115]? = some (.cells #[(.slice none 0 0),(.slice none 0 0)] 26 (0,0))) ∧ Aside0 (wc.heap[gb116]? = some (.cells #[(.slice none 0 0),(.slice none 0 0)] 26 (0,0))) ∧ Aside0 (IsS69 w0 wc g s0_0 t121 t122) ∧ Aside0 (KeepBut w wc g none) ∧ Aside0 (Below w0.heap.size w0 wc))
 case first =>
  have H:=HC4.out
  clear HC4
  by_cases c12 : t120 = true
  ·subst c12
   have H1 : (spec_l1Cur_rotation.j0 k 12 s0_0 t121 t122) = some (r1,r2,r3,r4):=by rw [if_pos rfl] at H; exact H
   clear H
   have H:=H1
   clear H1
   have H':=Aside0.mk H
   clear H
   go_wp2
   go_meet
   case rel => exact ⟨_,(12),(by (rfl)),H',⟨by (omega)⟩,⟨by exact BK115.out⟩,⟨by exact BK116.out⟩,⟨by repeat (((with_reducible (exact HI0.out))))⟩,⟨by repeat (((with_reducible (exact HK.out))))⟩,⟨by repeat (((with_reducible (exact HB.out))))⟩⟩
  ·replace c12:=Bool.eq_false_iff.mpr c12
   subst c12
   have H1 : (spec_l1Cur_rotation.j0 k (wrap64 (1 + t117)) s0_0 t121 t122) = some (r1,r2,r3,r4):=by rw [if_neg (show ¬ (false = true) by decide)] at H; exact H
   clear H
   have H:=H1
   clear H1
   have H':=Aside0.mk H
   clear H
   go_wp2
   go_meet
   case rel => exact ⟨_,(wrap64 (1 + t117)),(by (rfl)),H',⟨by (omega)⟩,⟨by exact BK115.out⟩,⟨by exact BK116.out⟩,⟨by repeat (((with_reducible (exact HI0.out))))⟩,⟨by repeat (((with_reducible (exact HK.out))))⟩,⟨by repeat (((with_reducible (exact HB.out))))⟩⟩
 case rest =>
  clear HC4
  try clear c1
  try clear p2
  try clear c4
  try clear c5
  try clear p6
  try clear c7
  try clear c8
  try clear c12
  try clear hcz9_0
  try clear hcz9_1
  try clear hfz9_0
  try clear hfz9_1
  obtain ⟨kq,x4_3,rfl,HA,HJ3,BK115,BK116,HI0,HK,HB⟩:=hcut
  cases kq with
  | zero => exact absurd HA.out (by simp [spec_l1Cur_rotation.j0])
  | succ kj3 =>
   have H:=HA.out
   clear HA
   simp only [spec_l1Cur_rotation.j0] at H
   have H':=Aside0.mk H
   clear H
   go_wp2
   go_loopg [5] kj3 (fun kq v5 w' => ∃ (x5_2 : Int) (x1001_2 : Int) (x1002_2 : Int) (x117000_2 : List Int) (x117001_2 : List Int) (u117000 : Value) (u117001 : Value),v5 = .int .i64 x5_2 ∧ Aside0 (spec_l1Cur_rotation.l0 kq x4_3 x5_2 s0_0 x1001_2 x1002_2 x117000_2 x117001_2 = some (r1,r2,r3,r4)) ∧ Aside0 (kq ≤ kj3) ∧ Aside0 (Kd.R (Kd.int .i64) 3 w' w.heap.size (fun k_ => some k_ ≠ (u117001 : Value).ownBlock) u117000 x117000_2) ∧ Aside0 (Kd.R (Kd.int .i64) 3 w' w.heap.size (fun k_ => some k_ ≠ (u117000 : Value).ownBlock) u117001 x117001_2) ∧ Aside0 (w'.heap[gb115]? = some (.cells #[(.slice none 0 0),(.slice none 0 0)] 26 (0,0))) ∧ Aside0 (w'.heap[gb116]? = some (.cells #[u117000,u117001] 26 (0,0))) ∧ Aside0 (IsS69 w0 w' g s0_0 x1001_2 x1002_2) ∧ Aside0 (KeepBut w w' g none) ∧ Aside0 (Below w0.heap.size w0 w'))
   case atStart => exact ⟨(0),(t121),(t122),([] : List Int),([] : List Int),(.slice none 0 0),(.slice none 0 0),(by (rfl)),H',⟨Nat.le_refl _⟩,⟨by (exact Kd.R_nil _ _ _ _ _)⟩,⟨by (exact Kd.R_nil _ _ _ _ _)⟩,⟨by exact BK115.out⟩,⟨by exact BK116.out⟩,⟨by repeat (((with_reducible (exact HI0.out))))⟩,⟨by repeat (((with_reducible (exact HK.out))))⟩,⟨by repeat (((with_reducible (exact HB.out))))⟩⟩
   case round =>
    clear H'
    try clear c1
    try clear p2
    try clear c4
    try clear c5
    try clear p6
    try clear c7
    try clear c8
    try clear c12
    try clear hcz9_0
    try clear hcz9_1
    try clear hfz9_0
    try clear hfz9_1
    try clear p2
    try clear p6
    obtain ⟨x5_2,x1001_2,x1002_2,x117000_2,x117001_2,u117000,u117001,rfl,HA,HK2,HO_117000,HO_117001,BK115,BK116,HI0,HK,HB⟩:=hrel
    cases gk with
    | zero => exact absurd HA.out (by simp [spec_l1Cur_rotation.l0])
    | succ k2 =>
     have H:=HA.out
     clear HA
     simp only [spec_l1Cur_rotation.l0] at H
     by_cases c13 : x5_2 < x4_3
     ·rw [if_pos c13] at H
      have c13b0 : decide (x5_2 < x4_3) = true:=decide_eq_true c13
      clear c13
      replace H:=Option.bind_eq_some_iff.mp H
      obtain ⟨⟨t123,t124,t125⟩,A140,H⟩:=H
      replace H : (if x5_2 > 0 then (if 0 ≤ (wrap64 (x5_2 - 1)) then (if (wrap64 (x5_2 - 1)) < (x117000_2.length : Int) then (if (wrap64 (1 + t123)) = (rd x117000_2 (wrap64 (x5_2 - 1))) then (spec_l1Cur_rotation.j2 k2 x4_3 x5_2 (wrap64 (1 + t123)) true s0_0 t124 t125 x117000_2 x117001_2) else (if x5_2 = (wrap64 (x4_3 - 1)) then (if 0 < (x117000_2.length : Int) then (spec_l1Cur_rotation.j2 k2 x4_3 x5_2 (wrap64 (1 + t123)) ((wrap64 (1 + t123)) == (rd x117000_2 0)) s0_0 t124 t125 x117000_2 x117001_2) else (none)) else (spec_l1Cur_rotation.j2 k2 x4_3 x5_2 (wrap64 (1 + t123)) false s0_0 t124 t125 x117000_2 x117001_2))) else (none)) else (none)) else (if x5_2 = (wrap64 (x4_3 - 1)) then (spec_l1Cur_rotation.j2 k2 x4_3 x5_2 (wrap64 (1 + t123)) false s0_0 t124 t125 x117000_2 x117001_2) else (spec_l1Cur_rotation.j2 k2 x4_3 x5_2 (wrap64 (1 + t123)) false s0_0 t124 t125 x117000_2 x117001_2))) = some (r1,r2,r3,r4):=H
      have A14:=Aside0.mk A140
      clear A140
      have HC15:=Aside0.mk H
      clear H
      go_upto_region 9 with ((((with_reducible refine gate_callee (f:=47) rfl ?_); refine goesL_ (some 19) rfl rfl Tryz.func47 (by kernel_rfl) rfl #[.pointer (some ⟨g,0,none⟩),.int .i64 5] rfl (by (try simp only [List.map_toArray,List.map_cons,List.map_nil]); (rfl)) ?_; (with_reducible refine (spec_l1Cur_pick.calls g s0_0 x1001_2 x1002_2 5 t123 t124 t125 w0 _ ?side1 ?side2 A14.out).mono ?_); (case side1 => repeat (((with_reducible (exact HI0.out))))); (case side2 => repeat (((with_reducible (exact HB.out))))); rintro e w16 ⟨rfl,hi,hb,hk⟩; refine ⟨_,rfl,?_⟩; have n0_:=Aside0.mk (Kd.R_mono (Kd.R_keep (IsS69.apart (show IsS69 w0 _ g s0_0 x1001_2 x1002_2 from by repeat (((with_reducible (exact HI0.out))))) (by exact HO_117000.out) (by decide)) hk (fun _ h => h.2)) (fun _ h => h.1)); have n1_:=Aside0.mk (Kd.R_mono (Kd.R_keep (IsS69.apart (show IsS69 w0 _ g s0_0 x1001_2 x1002_2 from by repeat (((with_reducible (exact HI0.out))))) (by exact HO_117001.out) (by decide)) hk (fun _ h => h.2)) (fun _ h => h.1)); have n2_:=Aside0.mk (KeepBut.blk hk (g':=gb115) (o:=.cells #[.slice none 0 0,.slice none 0 0] 26 (0,0)) (by exact BK115.out) NB115_0.out (by simp)); have n3_:=Aside0.mk (KeepBut.blk hk (g':=gb116) (o:=.cells #[u117000,u117001] 26 (0,0)) (by exact BK116.out) NB116_0.out (by simp)); have n4_:=Aside0.mk (KeepBut.trans (by repeat (((with_reducible (exact HK.out))))) hk (.inl rfl)); have n5_:=Aside0.mk (hb); have n6_:=Aside0.mk (hi); clear HO_117000; clear HO_117001; clear BK115; clear BK116; clear HK; clear HB; clear HI0; have HO_117000:=n0_; have HO_117001:=n1_; have BK115:=n2_; have BK116:=n3_; have HK:=n4_; have HB:=n5_; have HI0:=n6_; clear n0_ n1_ n2_ n3_ n4_ n5_ n6_; (try clear hb); (try clear hb2); (try clear hk); (try clear hi))))
      (try simp only [Act.put,List.setIfInBounds_toArray,List.set_cons_zero,List.set_cons_succ])
      go_cut [50] (fun v50 wc => ∃ (kq : Nat) (x50_14 : Bool),v50 = .bool x50_14 ∧ Aside0 (spec_l1Cur_rotation.j2 kq x4_3 x5_2 (wrap64 (1 + t123)) x50_14 s0_0 t124 t125 x117000_2 x117001_2 = some (r1,r2,r3,r4)) ∧ Aside0 (kq ≤ k2) ∧ Aside0 (Kd.R (Kd.int .i64) 3 wc w.heap.size (fun k_ => some k_ ≠ (u117001 : Value).ownBlock) u117000 x117000_2) ∧ Aside0 (Kd.R (Kd.int .i64) 3 wc w.heap.size (fun k_ => some k_ ≠ (u117000 : Value).ownBlock) u117001 x117001_2) ∧ Aside0 (wc.heap[gb115]? = some (.cells #[(.slice none 0 0),(.slice none 0 0)] 26 (0,0))) ∧ Aside0 (wc.heap[gb116]? = some (.cells #[u117000,u117001] 26 (0,0))) ∧ Aside0 (IsS69 w0 wc g s0_0 t124 t125) ∧ Aside0 (KeepBut w wc g none) ∧ Aside0 (Below w0.heap.size w0 wc))
      case first =>
       have H:=HC15.out
       clear HC15
       by_cases c17 : x5_2 > 0
       ·rw [if_pos c17] at H
        have c17b0 : decide (0 < x5_2) = true:=decide_eq_true c17
        clear c17
        (skip)
        obtain ⟨ji18,hji18⟩ : ∃ j_ : Int,(wrap64 (x5_2 - 1)) = j_:=⟨_,rfl⟩
        replace H : (if 0 ≤ (ji18) then (if (ji18) < (x117000_2.length : Int) then (if (wrap64 (1 + t123)) = (rd x117000_2 (ji18)) then (spec_l1Cur_rotation.j2 k2 x4_3 x5_2 (wrap64 (1 + t123)) true s0_0 t124 t125 x117000_2 x117001_2) else (if x5_2 = (wrap64 (x4_3 - 1)) then (if 0 < (x117000_2.length : Int) then (spec_l1Cur_rotation.j2 k2 x4_3 x5_2 (wrap64 (1 + t123)) ((wrap64 (1 + t123)) == (rd x117000_2 0)) s0_0 t124 t125 x117000_2 x117001_2) else (none)) else (spec_l1Cur_rotation.j2 k2 x4_3 x5_2 (wrap64 (1 + t123)) false s0_0 t124 t125 x117000_2 x117001_2))) else (none)) else (none)) = some (r1,r2,r3,r4):=by (rw [hji18] at H; exact H)
        have hji18w : (IntKind.i64.wrap (x5_2 - 1)) = ji18:=(i64_w _).trans hji18
        by_cases c19 : 0 ≤ (ji18)
        ·rw [if_pos c19] at H
         have c19b0 : decide (0 ≤ (ji18)) = true:=decide_eq_true c19
         clear c19
         by_cases c20 : (ji18) < (x117000_2.length : Int)
         ·rw [if_pos c20] at H
          have c20b0 : decide ((ji18) < (x117000_2.length : Int)) = true:=decide_eq_true c20
          clear c20
          by_cases c21 : (wrap64 (1 + t123)) = (rd x117000_2 (ji18))
          ·rw [if_pos c21] at H
           have c21b0 : ((wrap64 (1 + t123)) == (rd x117000_2 (ji18))) = true:=beq_iff_eq.mpr c21
           have c21b1 : ((wrap64 (1 + t123)) != (rd x117000_2 (ji18))) = false:=bne_eq_false_iff_eq.mpr c21
           clear c21
           have H':=Aside0.mk H
           clear H
           have hnb22:=NB116_115.out
           have hnc22:=NB115_116.out
           have hnb23:=NB116_0.out
           have hnc23:=NB0_116.out
           have hcz24_0 : w16.cell? ⟨gb116,0,none⟩ = some (u117000):=(blk_cell BK116.out 0).trans rfl
           have hcz24_1 : w16.cell? ⟨gb116,1,none⟩ = some (u117001):=(blk_cell BK116.out 1).trans rfl
           have hfz24_0:=blk_frozen BK116.out 0
           have hfz24_1:=blk_frozen BK116.out 1
           obtain ⟨Ao25,co25,eo25⟩:=Kd.R_slice HO_117000.out
           subst eo25
           have p126 : 0 ≤ ((ji18) : Int):=of_decide_eq_true (by (with_reducible assumption))
           have q126 : (ji18) < (x117000_2.length : Int):=of_decide_eq_true (by (with_reducible assumption))
           obtain ⟨ad126,e126,hx126_0⟩:=Kd.at_int (Kd.R_reads' HO_117000.out).2.2 (ji18) p126 q126
           cases e126
           replace p126:=eq_true p126
           replace q126:=eq_true q126
           go_wp2
           go_meet
           case rel => exact ⟨_,(true),(by (rfl)),H',⟨by have:=HJ3.out; have:=HK2.out; (omega)⟩,⟨by exact HO_117000.out⟩,⟨by exact HO_117001.out⟩,⟨by exact BK115.out⟩,⟨by exact BK116.out⟩,⟨by repeat (((with_reducible (exact HI0.out))))⟩,⟨by repeat (((with_reducible (exact HK.out))))⟩,⟨by repeat (((with_reducible (exact HB.out))))⟩⟩
          ·rw [if_neg c21] at H
           have c21b0 : ((wrap64 (1 + t123)) == (rd x117000_2 (ji18))) = false:=beq_eq_false_iff_ne.mpr c21
           have c21b1 : ((wrap64 (1 + t123)) != (rd x117000_2 (ji18))) = true:=bne_iff_ne.mpr c21
           by_cases c26 : x5_2 = (wrap64 (x4_3 - 1))
           ·rw [if_pos c26] at H
            have c26b0 : (x5_2 == (wrap64 (x4_3 - 1))) = true:=beq_iff_eq.mpr c26
            have c26b1 : (x5_2 != (wrap64 (x4_3 - 1))) = false:=bne_eq_false_iff_eq.mpr c26
            clear c26
            by_cases c27 : 0 < (x117000_2.length : Int)
            ·rw [if_pos c27] at H
             have c27b0 : decide (0 < (x117000_2.length : Int)) = true:=decide_eq_true c27
             have c27b1 : decide (0 < x117000_2.length) = true:=decide_eq_true (by omega)
             clear c27
             have H':=Aside0.mk H
             clear H
             have hnb28:=NB116_115.out
             have hnc28:=NB115_116.out
             have hnb29:=NB116_0.out
             have hnc29:=NB0_116.out
             have hcz30_0 : w16.cell? ⟨gb116,0,none⟩ = some (u117000):=(blk_cell BK116.out 0).trans rfl
             have hcz30_1 : w16.cell? ⟨gb116,1,none⟩ = some (u117001):=(blk_cell BK116.out 1).trans rfl
             have hfz30_0:=blk_frozen BK116.out 0
             have hfz30_1:=blk_frozen BK116.out 1
             obtain ⟨Ao31,co31,eo31⟩:=Kd.R_slice HO_117000.out
             subst eo31
             have p126 : 0 ≤ ((ji18) : Int):=of_decide_eq_true (by (with_reducible assumption))
             have q126 : (ji18) < (x117000_2.length : Int):=of_decide_eq_true (by (with_reducible assumption))
             obtain ⟨ad126,e126,hx126_0⟩:=Kd.at_int (Kd.R_reads' HO_117000.out).2.2 (ji18) p126 q126
             cases e126
             replace p126:=eq_true p126
             replace q126:=eq_true q126
             have p127 : 0 ≤ (0 : Int):=(by omega)
             have q127 : 0 < (x117000_2.length : Int):=of_decide_eq_true (by (with_reducible assumption))
             obtain ⟨ad127,e127,hx127_0⟩:=Kd.at_int (Kd.R_reads' HO_117000.out).2.2 0 p127 q127
             obtain rfl : ad126 = ad127:=(by injection e127)
             have qi127 : (0 < x117000_2.length) = True:=eq_true (by omega)
             (try rw [show (0 : Int).toNat = 0 from rfl] at hx127_0)
             (try rw [Addr.add_zero'] at hx127_0)
             replace p127:=eq_true p127
             replace q127:=eq_true q127
             go_wp2
             go_meet
             case rel => exact ⟨_,(((wrap64 (1 + t123)) == (rd x117000_2 0))),(by (rfl)),H',⟨by have:=HJ3.out; have:=HK2.out; (omega)⟩,⟨by exact HO_117000.out⟩,⟨by exact HO_117001.out⟩,⟨by exact BK115.out⟩,⟨by exact BK116.out⟩,⟨by repeat (((with_reducible (exact HI0.out))))⟩,⟨by repeat (((with_reducible (exact HK.out))))⟩,⟨by repeat (((with_reducible (exact HB.out))))⟩⟩
            ·rw [if_neg c27] at H
             exact absurd H (by simp)
           ·rw [if_neg c26] at H
            have c26b0 : (x5_2 == (wrap64 (x4_3 - 1))) = false:=beq_eq_false_iff_ne.mpr c26
            have c26b1 : (x5_2 != (wrap64 (x4_3 - 1))) = true:=bne_iff_ne.mpr c26
            have H':=Aside0.mk H
            clear H
            have hnb32:=NB116_115.out
            have hnc32:=NB115_116.out
            have hnb33:=NB116_0.out
            have hnc33:=NB0_116.out
            have hcz34_0 : w16.cell? ⟨gb116,0,none⟩ = some (u117000):=(blk_cell BK116.out 0).trans rfl
            have hcz34_1 : w16.cell? ⟨gb116,1,none⟩ = some (u117001):=(blk_cell BK116.out 1).trans rfl
            have hfz34_0:=blk_frozen BK116.out 0
            have hfz34_1:=blk_frozen BK116.out 1
            obtain ⟨Ao35,co35,eo35⟩:=Kd.R_slice HO_117000.out
            subst eo35
            have p126 : 0 ≤ ((ji18) : Int):=of_decide_eq_true (by (with_reducible assumption))
            have q126 : (ji18) < (x117000_2.length : Int):=of_decide_eq_true (by (with_reducible assumption))
            obtain ⟨ad126,e126,hx126_0⟩:=Kd.at_int (Kd.R_reads' HO_117000.out).2.2 (ji18) p126 q126
            cases e126
            replace p126:=eq_true p126
            replace q126:=eq_true q126
            go_wp2
            go_meet
            case rel => exact ⟨_,(false),(by (rfl)),H',⟨by have:=HJ3.out; have:=HK2.out; (omega)⟩,⟨by exact HO_117000.out⟩,⟨by exact HO_117001.out⟩,⟨by exact BK115.out⟩,⟨by exact BK116.out⟩,⟨by repeat (((with_reducible (exact HI0.out))))⟩,⟨by repeat (((with_reducible (exact HK.out))))⟩,⟨by repeat (((with_reducible (exact HB.out))))⟩⟩
         ·rw [if_neg c20] at H
          exact absurd H (by simp)
        ·rw [if_neg c19] at H
         exact absurd H (by simp)
       ·rw [if_neg c17] at H
        have c17b0 : decide (0 < x5_2) = false:=decide_eq_false c17
        clear c17
        (skip)
        by_cases c36 : x5_2 = (wrap64 (x4_3 - 1))
        ·rw [if_pos c36] at H
         have c36b0 : (x5_2 == (wrap64 (x4_3 - 1))) = true:=beq_iff_eq.mpr c36
         have c36b1 : (x5_2 != (wrap64 (x4_3 - 1))) = false:=bne_eq_false_iff_eq.mpr c36
         clear c36
         have H':=Aside0.mk H
         clear H
         go_wp2
         go_meet
         case rel => exact ⟨_,(false),(by (rfl)),H',⟨by have:=HJ3.out; have:=HK2.out; (omega)⟩,⟨by exact HO_117000.out⟩,⟨by exact HO_117001.out⟩,⟨by exact BK115.out⟩,⟨by exact BK116.out⟩,⟨by repeat (((with_reducible (exact HI0.out))))⟩,⟨by repeat (((with_reducible (exact HK.out))))⟩,⟨by repeat (((with_reducible (exact HB.out))))⟩⟩
        ·rw [if_neg c36] at H
         have c36b0 : (x5_2 == (wrap64 (x4_3 - 1))) = false:=beq_eq_false_iff_ne.mpr c36
         have c36b1 : (x5_2 != (wrap64 (x4_3 - 1))) = true:=bne_iff_ne.mpr c36
         have H':=Aside0.mk H
         clear H
         go_wp2
         go_meet
         case rel => exact ⟨_,(false),(by (rfl)),H',⟨by have:=HJ3.out; have:=HK2.out; (omega)⟩,⟨by exact HO_117000.out⟩,⟨by exact HO_117001.out⟩,⟨by exact BK115.out⟩,⟨by exact BK116.out⟩,⟨by repeat (((with_reducible (exact HI0.out))))⟩,⟨by repeat (((with_reducible (exact HK.out))))⟩,⟨by repeat (((with_reducible (exact HB.out))))⟩⟩
      case rest =>
       clear HC15
       try clear c1
       try clear p1
       try clear q1
       try clear hx1
       try clear qi1
       try clear c2
       try clear p2
       try clear c3
       try clear c4
       try clear c5
       try clear p6
       try clear c7
       try clear c8
       try clear c12
       try clear p12
       try clear q12
       try clear hx12
       try clear qi12
       try clear c13
       try clear c13b0
       try clear c17
       try clear c17b0
       try clear c19
       try clear c19b0
       try clear c20
       try clear c20b0
       try clear c21
       try clear c21b0
       try clear c21b1
       try clear c22
       try clear c23
       try clear c26
       try clear c26b0
       try clear c26b1
       try clear c27
       try clear c27b0
       try clear c27b1
       try clear c28
       try clear c29
       try clear c32
       try clear c33
       try clear c36
       try clear c36b0
       try clear c36b1
       try clear hcz24_0
       try clear hcz24_1
       try clear hcz30_0
       try clear hcz30_1
       try clear hcz34_0
       try clear hcz34_1
       try clear hcz9_0
       try clear hcz9_1
       try clear hfz24_0
       try clear hfz24_1
       try clear hfz30_0
       try clear hfz30_1
       try clear hfz34_0
       try clear hfz34_1
       try clear hfz9_0
       try clear hfz9_1
       try clear hx126_0
       try clear hx127_0
       try clear p126
       try clear p127
       try clear p2
       try clear p6
       try clear q126
       try clear q127
       obtain ⟨kq,x50_14,rfl,HA,HJ14,HO_117000,HO_117001,BK115,BK116,HI0,HK,HB⟩:=hcut
       cases kq with
       | zero => exact absurd HA.out (by simp [spec_l1Cur_rotation.j2])
       | succ kj14 =>
        have H:=HA.out
        clear HA
        simp only [spec_l1Cur_rotation.j2] at H
        have HC37:=Aside0.mk H
        clear H
        go_upto_if 50 with (fail)
        go_cut [6] (fun v6 wc => ∃ (kq : Nat) (x6_36 : Int),v6 = .int .i64 x6_36 ∧ Aside0 (spec_l1Cur_rotation.j3 kq x4_3 x5_2 x6_36 s0_0 t124 t125 x117000_2 x117001_2 = some (r1,r2,r3,r4)) ∧ Aside0 (kq ≤ kj14) ∧ Aside0 (Kd.R (Kd.int .i64) 3 wc w.heap.size (fun k_ => some k_ ≠ (u117001 : Value).ownBlock) u117000 x117000_2) ∧ Aside0 (Kd.R (Kd.int .i64) 3 wc w.heap.size (fun k_ => some k_ ≠ (u117000 : Value).ownBlock) u117001 x117001_2) ∧ Aside0 (wc.heap[gb115]? = some (.cells #[(.slice none 0 0),(.slice none 0 0)] 26 (0,0))) ∧ Aside0 (wc.heap[gb116]? = some (.cells #[u117000,u117001] 26 (0,0))) ∧ Aside0 (IsS69 w0 wc g s0_0 t124 t125) ∧ Aside0 (KeepBut w wc g none) ∧ Aside0 (Below w0.heap.size w0 wc))
        case first =>
         have H:=HC37.out
         clear HC37
         by_cases c38 : x50_14 = true
         ·subst c38
          have H1 : (spec_l1Cur_rotation.j3 kj14 x4_3 x5_2 (wrap64 (6 + (Int.tmod x5_2 3))) s0_0 t124 t125 x117000_2 x117001_2) = some (r1,r2,r3,r4):=by rw [if_pos rfl] at H; exact H
          clear H
          have H:=H1
          clear H1
          have H':=Aside0.mk H
          clear H
          go_wp2
          go_meet
          case rel => exact ⟨_,(wrap64 (6 + (Int.tmod x5_2 3))),(by (rfl)),H',⟨by have:=HJ3.out; have:=HK2.out; have:=HJ14.out; (omega)⟩,⟨by exact HO_117000.out⟩,⟨by exact HO_117001.out⟩,⟨by exact BK115.out⟩,⟨by exact BK116.out⟩,⟨by repeat (((with_reducible (exact HI0.out))))⟩,⟨by repeat (((with_reducible (exact HK.out))))⟩,⟨by repeat (((with_reducible (exact HB.out))))⟩⟩
         ·replace c38:=Bool.eq_false_iff.mpr c38
          subst c38
          have H1 : (spec_l1Cur_rotation.j3 kj14 x4_3 x5_2 (wrap64 (1 + t123)) s0_0 t124 t125 x117000_2 x117001_2) = some (r1,r2,r3,r4):=by rw [if_neg (show ¬ (false = true) by decide)] at H; exact H
          clear H
          have H:=H1
          clear H1
          have H':=Aside0.mk H
          clear H
          go_wp2
          go_meet
          case rel => exact ⟨_,((wrap64 (1 + t123))),(by (rfl)),H',⟨by have:=HJ3.out; have:=HK2.out; have:=HJ14.out; (omega)⟩,⟨by exact HO_117000.out⟩,⟨by exact HO_117001.out⟩,⟨by exact BK115.out⟩,⟨by exact BK116.out⟩,⟨by repeat (((with_reducible (exact HI0.out))))⟩,⟨by repeat (((with_reducible (exact HK.out))))⟩,⟨by repeat (((with_reducible (exact HB.out))))⟩⟩
        case rest =>
         clear HC37
         try clear c1
         try clear p1
         try clear q1
         try clear hx1
         try clear qi1
         try clear c2
         try clear p2
         try clear c3
         try clear c4
         try clear c5
         try clear p6
         try clear c7
         try clear c8
         try clear c12
         try clear p12
         try clear q12
         try clear hx12
         try clear qi12
         try clear c13
         try clear c13b0
         try clear c17
         try clear c17b0
         try clear c19
         try clear c19b0
         try clear c20
         try clear c20b0
         try clear c21
         try clear c21b0
         try clear c21b1
         try clear c22
         try clear c23
         try clear c26
         try clear c26b0
         try clear c26b1
         try clear c27
         try clear c27b0
         try clear c27b1
         try clear c28
         try clear c29
         try clear c32
         try clear c33
         try clear c36
         try clear c36b0
         try clear c36b1
         try clear c38
         try clear hcz24_0
         try clear hcz24_1
         try clear hcz30_0
         try clear hcz30_1
         try clear hcz34_0
         try clear hcz34_1
         try clear hcz9_0
         try clear hcz9_1
         try clear hfz24_0
         try clear hfz24_1
         try clear hfz30_0
         try clear hfz30_1
         try clear hfz34_0
         try clear hfz34_1
         try clear hfz9_0
         try clear hfz9_1
         try clear hx126_0
         try clear hx127_0
         try clear p1
         try clear p12
         try clear p126
         try clear p127
         try clear p2
         try clear p6
         try clear q1
         try clear q12
         try clear q126
         try clear q127
         obtain ⟨kq,x6_36,rfl,HA,HJ36,HO_117000,HO_117001,BK115,BK116,HI0,HK,HB⟩:=hcut
         cases kq with
         | zero => exact absurd HA.out (by simp [spec_l1Cur_rotation.j3])
         | succ kj36 =>
          have H:=HA.out
          clear HA
          simp only [spec_l1Cur_rotation.j3] at H
          by_cases c39 : x117000_2.length < 17592186044416
          ·rw [if_pos c39] at H
           have LMc39:=Aside0.mk c39
           clear c39
           obtain ⟨y128,hy128⟩ : ∃ y_ : List Int,y_ = (x117000_2 ++ [x6_36]):=⟨_,rfl⟩
           replace H : ((spec_l1Cur_among.f s0_0 t124 t125 ([1,2,3,5,10,40] : List Int)).bind fun bt134 => (if x117001_2.length < 17592186044416 then (spec_l1Cur_rotation.l0 kj36 x4_3 (wrap64 (x5_2 + 1)) s0_0 bt134.2.1 bt134.2.2 y128 (x117001_2 ++ [bt134.1])) else (none))) = some (r1,r2,r3,r4):=by (rw [hy128]; with_reducible exact H)
           have Ny128:=Aside0.mk hy128
           clear hy128
           obtain ⟨y131,hy131⟩ : ∃ y_ : List Int,y_ = ([1,2,3,5,10,40] : List Int):=⟨_,rfl⟩
           replace H : ((spec_l1Cur_among.f s0_0 t124 t125 y131).bind fun bt134 => (if x117001_2.length < 17592186044416 then (spec_l1Cur_rotation.l0 kj36 x4_3 (wrap64 (x5_2 + 1)) s0_0 bt134.2.1 bt134.2.2 y128 (x117001_2 ++ [bt134.1])) else (none))) = some (r1,r2,r3,r4):=by (rw [hy131]; with_reducible exact H)
           have Ny131:=Aside0.mk hy131
           clear hy131
           replace H:=Option.bind_eq_some_iff.mp H
           obtain ⟨⟨t134,t135,t136⟩,A400,H⟩:=H
           replace H : (if x117001_2.length < 17592186044416 then (spec_l1Cur_rotation.l0 kj36 x4_3 (wrap64 (x5_2 + 1)) s0_0 t135 t136 y128 (x117001_2 ++ [t134])) else (none)) = some (r1,r2,r3,r4):=H
           have A40:=Aside0.mk A400
           clear A400
           by_cases c41 : x117001_2.length < 17592186044416
           ·rw [if_pos c41] at H
            have LMc41:=Aside0.mk c41
            clear c41
            obtain ⟨y137,hy137⟩ : ∃ y_ : List Int,y_ = (x117001_2 ++ [t134]):=⟨_,rfl⟩
            replace H : (spec_l1Cur_rotation.l0 kj36 x4_3 (wrap64 (x5_2 + 1)) s0_0 t135 t136 y128 y137) = some (r1,r2,r3,r4):=by (rw [hy137]; with_reducible exact H)
            have Ny137:=Aside0.mk hy137
            clear hy137
            have H':=Aside0.mk H
            clear H
            have hnb42:=NB116_115.out
            have hnc42:=NB115_116.out
            have hnb43:=NB116_0.out
            have hnc43:=NB0_116.out
            have hcz44_0 : wc.cell? ⟨gb116,0,none⟩ = some (u117000):=(blk_cell BK116.out 0).trans rfl
            have hcz44_1 : wc.cell? ⟨gb116,1,none⟩ = some (u117001):=(blk_cell BK116.out 1).trans rfl
            have hfz44_0:=blk_frozen BK116.out 0
            have hfz44_1:=blk_frozen BK116.out 1
            try go_wp2_with ((((with_reducible refine gate_builtin (b:=.append) (xs:=#[.tmp 55,.tmp 57]) rfl ?_); at_builtin; refine Kd.R_append (Kd.int .i64) w.heap.size rfl (.tmp 55) (.tmp 57) 24 3 (.int .i64 0) 8 rfl Tryz.underlying24 info3 rfl (by decide) (by omega) u117000 x117000_2 x6_36 [.int .i64 x6_36] (fun k_ => some k_ ≠ (u117001 : Value).ownBlock) (fun _ => False) rfl rfl ?aP (fun _ hk => hk.elim) ?aF ?aO (Below.refl _ _) ?aS ?aL ?_; (case aP => exact rfl); (case aF => exact (fun k_ hk => Kd.fresh' (Kd.R_lt (by exact HO_117001.out)) k_ hk)); (case aO => exact (by exact HO_117000.out)); (case aS => exact (keep_size (w:=w) (g:=g) (row:=none) (by repeat (((with_reducible (exact HK.out))))))); (case aL => have:=LMc39.out; omega); intro v129 w45 ho hb hg hat; rw [← Ny128.out] at ho; have n0_:=Aside0.mk (Kd.R_after (ok:=(fun _ => True)) (by exact Kd.R_mono HO_117001.out (fun _ hk => ⟨trivial,hk⟩)) hg hat); have n1_:=Aside0.mk (blk_grown (g:=gb115) (o:=.cells #[.slice none 0 0,.slice none 0 0] 26 (0,0)) (by exact BK115.out) hg (Kd.R_ne HO_117000.out BK115.out (by decide))); have n2_:=Aside0.mk (blk_grown (g:=gb116) (o:=.cells #[u117000,u117001] 26 (0,0)) (by exact BK116.out) hg (Kd.R_ne HO_117000.out BK116.out (by decide))); have n3_:=Aside0.mk (IsS69.grown (by repeat (((with_reducible (exact HI0.out))))) hg (IsS69.own_ne HI0.out HO_117000.out (by decide))); have n4_:=Aside0.mk (below_weaken (by repeat (((with_reducible (exact HB.out))))) HL.out hb); have n5_:=Aside0.mk (KeepBut.trans (by repeat (((with_reducible (exact HK.out))))) (KeepBut.of_grown hg g) (Kd.R_base2 HO_117000.out)); have n6_:=Aside0.mk (ho); clear HO_117001; clear BK115; clear BK116; clear HI0; clear HB; clear HK; clear HO_117000; have HO_117001:=n0_; have BK115:=n1_; have BK116:=n2_; have HI0:=n3_; have HB:=n4_; have HK:=n5_; have HO130:=n6_; clear n0_ n1_ n2_ n3_ n4_ n5_ n6_; clear ho hb hg hat; obtain ⟨Ao46,co46,eo46⟩:=Kd.R_slice HO130.out; subst eo46; have hcz47_0 : w45.cell? ⟨gb116,0,none⟩ = some (u117000):=(blk_cell BK116.out 0).trans rfl; have hcz47_1 : w45.cell? ⟨gb116,1,none⟩ = some (u117001):=(blk_cell BK116.out 1).trans rfl; have hfz47_0:=blk_frozen BK116.out 0; have hfz47_1:=blk_frozen BK116.out 1)))
            have n0_ : Aside0 (Kd.R (Kd.int .i64) 3 (w45.setCell ⟨gb116,0,none⟩ (.slice Ao46 y128.length co46)) w.heap.size (fun k_ => some k_ ≠ (.slice Ao46 y128.length co46 : Value).ownBlock) u117001 x117001_2):=⟨by exact Kd.R_mono (Kd.R_far (p:=⟨gb116,0,none⟩) (Kd.R_types HO_117001.out BK116.out (by decide)) (fun _ hk => hk.2) (.slice Ao46 y128.length co46)) (fun _ hk => hk.1.2)⟩
            have n1_ : Aside0 (Kd.R (Kd.int .i64) 3 (w45.setCell ⟨gb116,0,none⟩ (.slice Ao46 y128.length co46)) w.heap.size (fun k_ => some k_ ≠ (u117001 : Value).ownBlock) (.slice Ao46 y128.length co46) y128):=⟨by exact Kd.R_mono (Kd.R_far (p:=⟨gb116,0,none⟩) (Kd.R_types HO130.out BK116.out (by decide)) (fun _ hk => hk.2) (.slice Ao46 y128.length co46)) (fun _ hk => hk.1)⟩
            have n2_ : Aside0 ((w45.setCell ⟨gb116,0,none⟩ (.slice Ao46 y128.length co46)).heap[gb115]? = some (.cells #[.slice none 0 0,.slice none 0 0] 26 (0,0))):=⟨by refine blk_far ?_ NB115_116.out _; exact BK115.out⟩
            have n3_ : Aside0 ((w45.setCell ⟨gb116,0,none⟩ (.slice Ao46 y128.length co46)).heap[gb116]? = some (.cells #[.slice Ao46 y128.length co46,u117001] 26 (0,0))):=⟨by refine blk_put (cs:=#[u117000,u117001]) ?_ 0 _ rfl; exact BK116.out⟩
            have n4_ : Aside0 (IsS69 w0 (w45.setCell ⟨gb116,0,none⟩ (.slice Ao46 y128.length co46)) g s0_0 t124 t125):=⟨by repeat (with_reducible first|exact HI0.out|refine IsS69.far ?_ NB0_116.out _)⟩
            have n5_ : Aside0 (KeepBut w (w45.setCell ⟨gb116,0,none⟩ (.slice Ao46 y128.length co46)) g none):=⟨by repeat (with_reducible first|exact HK.out|refine keep_far ?_ GW116.out _)⟩
            have n6_ : Aside0 (Below w0.heap.size w0 (w45.setCell ⟨gb116,0,none⟩ (.slice Ao46 y128.length co46))):=⟨by repeat (with_reducible first|exact HB.out|refine below_set ?_ GE116.out)⟩
            (try clear HO_117001)
            (try clear HO130)
            (try clear BK115)
            (try clear BK116)
            (try clear HI0)
            (try clear HK)
            (try clear HB)
            generalize (w45.setCell ⟨gb116,0,none⟩ (.slice Ao46 y128.length co46)) = w48 at n0_ n1_ n2_ n3_ n4_ n5_ n6_ ⊢
            have HO_117001:=n0_
            have HO130:=n1_
            have BK115:=n2_
            have BK116:=n3_
            have HI0:=n4_
            have HK:=n5_
            have HB:=n6_
            clear n0_ n1_ n2_ n3_ n4_ n5_ n6_
            have n0_:=Aside0.mk (Kd.R_drew HO_117001.out)
            have n1_:=Aside0.mk (Kd.R_drew HO130.out)
            have n2_:=Aside0.mk (blk_drew BK115.out)
            have n3_:=Aside0.mk (blk_drew BK116.out)
            have n4_:=Aside0.mk (IsS69.drew HI0.out)
            have n5_:=Aside0.mk (keep_drew HK.out)
            have n6_:=Aside0.mk (below_drew1 HB.out)
            clear HO_117001
            clear HO130
            clear BK115
            clear BK116
            clear HI0
            clear HK
            clear HB
            have HO_117001:=n0_
            have HO130:=n1_
            have BK115:=n2_
            have BK116:=n3_
            have HI0:=n4_
            have HK:=n5_
            have HB:=n6_
            clear n0_ n1_ n2_ n3_ n4_ n5_ n6_
            refine start_ (n:=9) (S:=fun w' => w'.cell? ⟨gb116,0,none⟩ = some (.slice Ao46 y128.length co46) ∧ w'.cell? ⟨gb116,1,none⟩ = some (u117001)) (ds:=[8]) #[false,false,false,false,false,false,false,false,false] (by kernel_rfl) rfl rfl ⟨(blk_cell BK116.out 0).trans rfl,(blk_cell BK116.out 1).trans rfl⟩ (fun hHeld => ?_); refine with_tabW spec_l1Cur_rotation.tab12 spec_l1Cur_rotation.bits12 (fun HT_ HW_ => ?_)
            generalize w48.drew = w49 at HO_117001 HO130 BK115 BK116 HI0 HK HB hHeld ⊢
            refine pure_ (i:=0) (N:=some 60) (v:=?_) (a':=?_) #[true,false,false,false,false,false,false,false,false] rfl rfl (any_of HT_.out (by kernel_rfl)) (fun _ _ _ h => h) (Or.inl ⟨by rfl,?_⟩) ?_ ?_
            rotate_left
            ·intro w'
             go_simp
             with_reducible rfl
            rotate_left
            ·simp only [Act.put,List.setIfInBounds_toArray,List.set_cons_zero,List.set_cons_succ,i64_w,i32_w]
             rfl
            refine pure_ (i:=2) (N:=some 62) (v:=?_) (a':=?_) #[true,false,true,false,false,false,false,false,false] rfl rfl (any_of HT_.out (by kernel_rfl)) (fun _ _ _ h => h) (Or.inl ⟨by rfl,?_⟩) ?_ ?_
            rotate_left
            ·intro w'
             go_simp
             with_reducible rfl
            rotate_left
            ·simp only [Act.put,List.setIfInBounds_toArray,List.set_cons_zero,List.set_cons_succ,i64_w,i32_w]
             rfl
            refine take_ (i:=1) (N:=some 61) (v:=?_) (a':=?_) #[true,true,true,false,false,false,false,false,false] rfl rfl (take_ofW HT_.out HW_.out (by kernel_rfl)) (fun _ _ _ h => h) (Or.inl ⟨by rfl,?_⟩) hHeld ?_ ?_
            rotate_left
            ·rintro w' ⟨s0,s1⟩
             go_simp
             with_reducible rfl
            rotate_left
            ·simp only [Act.put,List.setIfInBounds_toArray,List.set_cons_zero,List.set_cons_succ,i64_w,i32_w]
             rfl
            refine one_ (i:=3) (N:=some 63) #[true,true,true,true,false,false,false,false,false] rfl rfl (one_of HT_.out (by kernel_rfl)) (by decide) (fun K hK => ?_)
            refine Kd.R_lit_step (Kd.int .i64) _ 3 ?hg (N:=63) ?hd (xs:=([1,2,3,5,10,40] : List Int)) (inner:=[.int .i64 1,.int .i64 2,.int .i64 3,.int .i64 5,.int .i64 10,.int .i64 40]) (ok:=fun _ => True) (okp:=fun _ => True) ?hr ?hp (fun _ hk => hk) trivial (Below.refl _ _) (Nat.le_refl _) (by simp) ?_; (case hd => rfl); (case hg => rfl); (case hr => (go_simp; done)); (case hp => exact (Reps.one (show Kd.M (Kd.int .i64) _ _ _ 1 [.int .i64 1] from rfl) (Reps.one (show Kd.M (Kd.int .i64) _ _ _ 2 [.int .i64 2] from rfl) (Reps.one (show Kd.M (Kd.int .i64) _ _ _ 3 [.int .i64 3] from rfl) (Reps.one (show Kd.M (Kd.int .i64) _ _ _ 5 [.int .i64 5] from rfl) (Reps.one (show Kd.M (Kd.int .i64) _ _ _ 10 [.int .i64 10] from rfl) (Reps.one (show Kd.M (Kd.int .i64) _ _ _ 40 [.int .i64 40] from rfl) (Reps.none _ _))))))))
            intro v132 w50 ho51 hb hg_ hnew_
            clear hg_ hnew_
            (rw [← Ny131.out] at ho51)
            have n0_:=Aside0.mk (Kd.R_elder' (by exact HO_117001.out) (Kd.R_base ho51) hb)
            have n1_:=Aside0.mk (Kd.R_elder' (by exact HO130.out) (Kd.R_base ho51) hb)
            have n2_:=Aside0.mk (Kd.R_lower (Kd.R_new' (Kd.R_new' ho51 (Kd.R_lt (by exact HO_117001.out))) (Kd.R_lt (by exact HO130.out))) (keep_size (w:=w) (g:=g) (row:=none) (by repeat (((with_reducible (exact HK.out)))))))
            have n3_:=Aside0.mk (blk_below (g:=gb115) (o:=.cells #[.slice none 0 0,.slice none 0 0] 26 (0,0)) (by exact BK115.out) hb)
            have n4_:=Aside0.mk (blk_below (g:=gb116) (o:=.cells #[.slice Ao46 y128.length co46,u117001] 26 (0,0)) (by exact BK116.out) hb)
            have n5_:=Aside0.mk (IsS69.below (by repeat (((with_reducible (exact HI0.out))))) hb)
            have n6_:=Aside0.mk (KeepBut.trans (by repeat (((with_reducible (exact HK.out))))) (KeepBut.of_below hb g none) (.inl rfl))
            have n7_:=Aside0.mk (below_step (by repeat (((with_reducible (exact HB.out))))) hb)
            clear HO_117001
            clear HO130
            clear BK115
            clear BK116
            clear HI0
            clear HK
            clear HB
            have HO_117001:=n0_
            have HO130:=n1_
            have HO133:=n2_
            have BK115:=n3_
            have BK116:=n4_
            have HI0:=n5_
            have HK:=n6_
            have HB:=n7_
            clear n0_ n1_ n2_ n3_ n4_ n5_ n6_ n7_
            clear hb ho51
            obtain ⟨Ao52,co52,eo52⟩:=Kd.R_slice HO133.out
            (subst eo52)
            refine hK.out _ _ ⟨(blk_cell BK116.out 0).trans rfl,(blk_cell BK116.out 1).trans rfl⟩ (fun hHeld => ?_)
            clear hK K
            refine norm_ (a':=?_) ?_ ?_
            rotate_left
            ·show Act.put _ (some 63) _ = _
             simp only [Act.put,List.setIfInBounds_toArray,List.set_cons_zero,List.set_cons_succ,i64_w,i32_w]
             rfl
            refine one_ (i:=4) (N:=some 64) #[true,true,true,true,true,false,false,false,false] rfl rfl (one_of HT_.out (by kernel_rfl)) (by decide) (fun K hK => ?_)
            refine goes_ Tryz.func48 (by kernel_rfl) rfl #[.pointer (some ⟨g,0,none⟩),.slice Ao52 y131.length co52] (by rfl) rfl rfl (by (try simp only [List.map_toArray,List.map_cons,List.map_nil]); (rfl)) ?_
            with_reducible refine (spec_l1Cur_among.calls g s0_0 t124 t125 _ _ y131 t134 t135 t136 w0 _ ?side1 ?side2 ?side3 ?side4 ?side5 A40.out).mono ?_
            (case side1 => repeat (((with_reducible (exact HI0.out)))))
            (case side2 => repeat (((with_reducible (exact HB.out)))))
            (case side3 => repeat ((exact (Kd.R_reads' HO133.out).2.2)))
            (case side4 => exact (Kd.R_reads' HO133.out).2.1)
            (case side5 => exact far_slice (IsS69.own_ne HI0.out HO133.out (by decide)))
            rintro e w53 ⟨rfl,hi,hb,hk⟩
            refine ⟨_,rfl,?_⟩
            have n0_:=Aside0.mk (Kd.R_mono (Kd.R_keep (IsS69.apart (show IsS69 w0 _ g s0_0 t124 t125 from by repeat (((with_reducible (exact HI0.out))))) (by exact HO_117001.out) (by decide)) hk (fun _ h => h.2)) (fun _ h => h.1))
            have n1_:=Aside0.mk (KeepBut.blk hk (g':=gb115) (o:=.cells #[.slice none 0 0,.slice none 0 0] 26 (0,0)) (by exact BK115.out) NB115_0.out (by simp))
            have n2_:=Aside0.mk (KeepBut.blk hk (g':=gb116) (o:=.cells #[.slice Ao46 y128.length co46,u117001] 26 (0,0)) (by exact BK116.out) NB116_0.out (by simp))
            have n3_:=Aside0.mk (Kd.R_mono (Kd.R_keep (IsS69.apart (show IsS69 w0 _ g s0_0 t124 t125 from by repeat (((with_reducible (exact HI0.out))))) (by exact HO130.out) (by decide)) hk (fun _ h => h.2)) (fun _ h => h.1))
            have n4_:=Aside0.mk (Kd.R_mono (Kd.R_keep (IsS69.apart (show IsS69 w0 _ g s0_0 t124 t125 from by repeat (((with_reducible (exact HI0.out))))) (by exact HO133.out) (by decide)) hk (fun _ h => h.2)) (fun _ h => h.1))
            have n5_:=Aside0.mk (KeepBut.trans (by repeat (((with_reducible (exact HK.out))))) hk (.inl rfl))
            have n6_:=Aside0.mk (hb)
            have n7_:=Aside0.mk (hi)
            clear HO_117001
            clear BK115
            clear BK116
            clear HO130
            clear HO133
            clear HK
            clear HB
            clear HI0
            have HO_117001:=n0_
            have BK115:=n1_
            have BK116:=n2_
            have HO130:=n3_
            have HO133:=n4_
            have HK:=n5_
            have HB:=n6_
            have HI0:=n7_
            clear n0_ n1_ n2_ n3_ n4_ n5_ n6_ n7_
            (try clear hb)
            (try clear hb2)
            (try clear hk)
            (try clear hi)
            refine hK.out _ _ ⟨(blk_cell BK116.out 0).trans rfl,(blk_cell BK116.out 1).trans rfl⟩ (fun hHeld => ?_)
            clear hK K
            refine norm_ (a':=?_) ?_ ?_
            rotate_left
            ·show Act.put _ (some 64) _ = _
             simp only [Act.put,List.setIfInBounds_toArray,List.set_cons_zero,List.set_cons_succ,i64_w,i32_w]
             rfl
            refine one_ (i:=5) (N:=some 65) #[true,true,true,true,true,true,false,false,false] rfl rfl (one_of HT_.out (by kernel_rfl)) (by decide) (fun K hK => ?_)
            refine value_ (w1:=?_) (v:=?_) (by rfl) rfl ?_ ?_
            rotate_left 2
            ·go_simp
             constructor
             ·rfl
             ·rfl
            refine hK.out _ _ ⟨(blk_cell (blk_alloc BK116.out _) 0).trans rfl,(blk_cell (blk_alloc BK116.out _) 1).trans rfl⟩ (fun hHeld => ?_)
            clear hK K
            refine norm_ (a':=?_) ?_ ?_
            rotate_left
            ·show Act.put _ (some 65) _ = _
             simp only [Act.put,List.setIfInBounds_toArray,List.set_cons_zero,List.set_cons_succ,i64_w,i32_w]
             rfl
            refine one_ (i:=6) (N:=some 66) #[true,true,true,true,true,true,true,false,false] rfl rfl (one_of HT_.out (by kernel_rfl)) (by decide) (fun K hK => ?_)
            refine Kd.R_append_step (Kd.int .i64) w.heap.size (by rfl) (.tmp 61) (.tmp 65) 24 3 (.int .i64 0) 8 rfl Tryz.underlying24 info3 rfl (by decide) (by omega) u117001 x117001_2 t134 [.int .i64 t134] (fun k_ => some k_ ≠ (.slice Ao46 y128.length co46 : Value).ownBlock ∧ some k_ ≠ (.slice Ao52 y131.length co52 : Value).ownBlock) (fun _ => False) rfl rfl ?aP (fun _ hk => hk.elim) ?aF ?aO (Below.refl _ _) ?aS ?aL ?_
            (case aP => exact rfl)
            (case aF => exact (fun k_ hk => ⟨Kd.fresh' (Kd.R_lt (by exact HO130.out)) k_ hk,Kd.fresh' (Kd.R_lt (by exact HO133.out)) k_ hk⟩))
            (case aO => exact (by exact HO_117001.out))
            (case aS => exact (keep_size (w:=w) (g:=g) (row:=none) (by repeat (((with_reducible (exact HK.out)))))))
            (case aL => have:=LMc41.out; omega)
            intro v138 w54 ho hb hg hat
            rw [← Ny137.out] at ho
            have n0_:=Aside0.mk (blk_grown (g:=gb115) (o:=.cells #[.slice none 0 0,.slice none 0 0] 26 (0,0)) (by exact BK115.out) hg (Kd.R_ne HO_117001.out BK115.out (by decide)))
            have n1_:=Aside0.mk (blk_grown (g:=gb116) (o:=.cells #[.slice Ao46 y128.length co46,u117001] 26 (0,0)) (by exact BK116.out) hg (Kd.R_ne HO_117001.out BK116.out (by decide)))
            have n2_:=Aside0.mk (IsS69.grown (by repeat (((with_reducible (exact HI0.out))))) hg (IsS69.own_ne HI0.out HO_117001.out (by decide)))
            have n3_:=Aside0.mk (Kd.R_after (ok:=(fun k_ => some k_ ≠ (.slice Ao52 y131.length co52 : Value).ownBlock)) (by exact Kd.R_mono HO130.out (fun _ hk => ⟨hk.2,hk.1⟩)) hg hat)
            have n4_:=Aside0.mk (Kd.R_after (ok:=(fun k_ => some k_ ≠ (.slice Ao46 y128.length co46 : Value).ownBlock)) (by exact Kd.R_mono HO133.out (fun _ hk => ⟨hk.2,hk.1.2⟩)) hg hat)
            have n5_:=Aside0.mk (below_weaken (by repeat (((with_reducible (exact HB.out))))) HL.out hb)
            have n6_:=Aside0.mk (KeepBut.trans (by repeat (((with_reducible (exact HK.out))))) (KeepBut.of_grown hg g) (Kd.R_base2 HO_117001.out))
            have n7_:=Aside0.mk (ho)
            clear BK115
            clear BK116
            clear HI0
            clear HO130
            clear HO133
            clear HB
            clear HK
            clear HO_117001
            have BK115:=n0_
            have BK116:=n1_
            have HI0:=n2_
            have HO130:=n3_
            have HO133:=n4_
            have HB:=n5_
            have HK:=n6_
            have HO139:=n7_
            clear n0_ n1_ n2_ n3_ n4_ n5_ n6_ n7_
            clear ho hb hg hat
            obtain ⟨Ao55,co55,eo55⟩:=Kd.R_slice HO139.out
            (subst eo55)
            refine hK.out _ _ ⟨(blk_cell BK116.out 0).trans rfl,(blk_cell BK116.out 1).trans rfl⟩ (fun hHeld => ?_)
            clear hK K
            refine norm_ (a':=?_) ?_ ?_
            rotate_left
            ·show Act.put _ (some 66) _ = _
             simp only [Act.put,List.setIfInBounds_toArray,List.set_cons_zero,List.set_cons_succ,i64_w,i32_w]
             rfl
            refine pure_ (i:=7) (N:=some 67) (v:=?_) (a':=?_) #[true,true,true,true,true,true,true,true,false] rfl rfl (any_of HT_.out (by kernel_rfl)) (fun _ _ _ h => h) (Or.inl ⟨by rfl,?_⟩) ?_ ?_
            rotate_left
            ·intro w'
             go_simp
             with_reducible rfl
            rotate_left
            ·simp only [Act.put,List.setIfInBounds_toArray,List.set_cons_zero,List.set_cons_succ,i64_w,i32_w]
             rfl
            refine last_ (i:=8) (N:=none) #[true,true,true,true,true,true,true,true,true] rfl rfl (one_of HT_.out (by kernel_rfl)) (by decide) (fun K hK => ?_)
            have hs56 : w54.cell? ⟨gb116,1,none⟩ = some (u117001):=(blk_cell BK116.out 1).trans rfl
            have hfs56:=blk_frozen BK116.out 1
            have hns56_0:=NB115_116.out
            have hms56_0:=NB116_115.out
            refine skip_ (w1:=?_) (by rfl) rfl ?_ ?_
            rotate_left
            ·go_simp
             rfl
            refine hK.out _ _ ?_
            clear hK K
            refine done_ (done_of HT_.out (by kernel_rfl)) ?_
            try go_wp2
            go_roundg kj36
            case measure => have:=HJ3.out; have:=HK2.out; have:=HJ14.out; have:=HJ36.out; omega
            case rel => exact ⟨(wrap64 (x5_2 + 1)),(t135),(t136),(y128),(y137),(.slice Ao46 y128.length co46),(.slice Ao55 y137.length co55),(by (rfl)),H',⟨by have:=HJ3.out; have:=HK2.out; have:=HJ14.out; have:=HJ36.out; omega⟩,⟨by exact Kd.R_mono (Kd.R_far (p:=⟨gb116,1,none⟩) (Kd.R_types HO130.out BK116.out (by decide)) (fun _ hk => hk.2) (.slice Ao55 y137.length co55)) (fun _ hk => hk.1.2)⟩,⟨by exact Kd.R_mono (Kd.R_far (p:=⟨gb116,1,none⟩) (Kd.R_types HO139.out BK116.out (by decide)) (fun _ hk => hk.2) (.slice Ao55 y137.length co55)) (fun _ hk => hk.1.1)⟩,⟨by refine blk_far ?_ NB115_116.out _; exact BK115.out⟩,⟨by refine blk_put (cs:=#[.slice Ao46 y128.length co46,u117001]) ?_ 1 _ rfl; exact BK116.out⟩,⟨by repeat (with_reducible first|exact HI0.out|refine IsS69.far ?_ NB0_116.out _)⟩,⟨by repeat (with_reducible first|exact HK.out|refine keep_far ?_ GW116.out _)⟩,⟨by repeat (with_reducible first|exact HB.out|refine below_set ?_ GE116.out)⟩⟩
           ·rw [if_neg c41] at H
            exact absurd H (by simp)
          ·rw [if_neg c39] at H
           exact absurd H (by simp)
     ·rw [if_neg c13] at H
      have c13b0 : decide (x5_2 < x4_3) = false:=decide_eq_false c13
      clear c13
      simp only [Option.some.injEq,Prod.mk.injEq] at H
      obtain ⟨rfl,rfl,rfl,rfl⟩:=H
      have hnb57:=NB116_115.out
      have hnc57:=NB115_116.out
      have hnb58:=NB116_0.out
      have hnc58:=NB0_116.out
      have hcz59_0 : wr.cell? ⟨gb116,0,none⟩ = some (u117000):=(blk_cell BK116.out 0).trans rfl
      have hcz59_1 : wr.cell? ⟨gb116,1,none⟩ = some (u117001):=(blk_cell BK116.out 1).trans rfl
      have hfz59_0:=blk_frozen BK116.out 0
      have hfz59_1:=blk_frozen BK116.out 1
      obtain ⟨Ao60,co60,eo60⟩:=Kd.R_slice HO_117000.out
      subst eo60
      have hnb61:=NB115_0.out
      have hnc61:=NB0_115.out
      have hcz62_0 : wr.cell? ⟨gb115,0,none⟩ = some (.slice none 0 0):=(blk_cell BK115.out 0).trans rfl
      have hcz62_1 : wr.cell? ⟨gb115,1,none⟩ = some (.slice none 0 0):=(blk_cell BK115.out 1).trans rfl
      have hfz62_0:=blk_frozen BK115.out 0
      have hfz62_1:=blk_frozen BK115.out 1
      obtain ⟨Ao63,co63,eo63⟩:=Kd.R_slice HO_117001.out
      subst eo63
      go_wp2
      refine bodyPost_ret (results_cell_row rfl _ _ gb115 26 #[.slice Ao60 x117000_2.length co60,.slice Ao63 x117001_2.length co63] (0,0) _ rfl (by refine blk_put (cs:=#[.slice Ao60 x117000_2.length co60,.slice none 0 0]) ?_ 1 _ rfl; refine blk_put (cs:=#[.slice none 0 0,.slice none 0 0]) ?_ 0 _ rfl; exact BK115.out) Tryz.underlying26 rfl (by kernel_rfl)) rfl ?_
      exact ⟨_,_,by (rfl),by exact Kd.R_mono (Kd.R_far (p:=⟨gb115,1,none⟩) (Kd.R_far (p:=⟨gb115,0,none⟩) (Kd.R_types HO_117000.out BK115.out (by decide)) (fun _ hk => hk.2) (.slice Ao60 x117000_2.length co60)) (fun _ hk => hk.2) (.slice Ao63 x117001_2.length co63)) (fun _ hk => hk.1),by exact Kd.R_mono (Kd.R_far (p:=⟨gb115,1,none⟩) (Kd.R_far (p:=⟨gb115,0,none⟩) (Kd.R_types HO_117001.out BK115.out (by decide)) (fun _ hk => hk.2) (.slice Ao60 x117000_2.length co60)) (fun _ hk => hk.2) (.slice Ao63 x117001_2.length co63)) (fun _ hk => hk.1),by repeat (with_reducible first|exact HI0.out|refine IsS69.far ?_ NB0_115.out _),by repeat (with_reducible first|exact HB.out|refine below_set ?_ GE115.out),by repeat (with_reducible first|exact HK.out|refine keep_far ?_ GW115.out _)⟩

end Go.Proofs.YtfindomajbjacaaGreatDoor.X
