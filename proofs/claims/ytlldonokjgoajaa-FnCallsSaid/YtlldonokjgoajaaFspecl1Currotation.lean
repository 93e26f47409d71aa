-- Written by a program of ours (wip/bin/xprint.py,over the kit's print.py) out of the translation. Not trusted: Lean checks it.
import Derived.Test.YtlldonokjgoajaaX0
import Derived.Test.YtlldonokjgoajaaFbCur
namespace Go.Proofs.Ytlldonokjgoajaa.X
open Go.RowKit Go.Proofs.YtlldonokjgoajaaW.PrintWords Go.Proofs.YtlldonokjgoajaaW.PrintLast Go.Proofs.YtlldonokjgoajaaW.PrintMore
attribute [local go_sem] max2_int min2_int max_two min_two max_three min_three max_four min_four   -- for this text's walks alone
set_option linter.unusedVariables false
set_option linter.unusedSimpArgs false

/-! ### spec_l1Cur_rotation: function 158 -/
mutual
def spec_l1Cur_rotation.j0 : Nat → Int → List Int → Int → Int → Option (List Int × List Int × Int × Int)
 | 0,_,_,_,_ => none
 | k + 1,x4,x1000,x1001,x1002 => spec_l1Cur_rotation.l0 k x4 0 x1000 x1001 x1002 ([] : List Int) ([] : List Int)
def spec_l1Cur_rotation.l0 : Nat → Int → Int → List Int → Int → Int → List Int → List Int → Option (List Int × List Int × Int × Int)
 | 0,_,_,_,_,_,_,_ => none
 | k + 1,x4,x5,x1000,x1001,x1002,x117000,x117001 => if x5 < x4 then ((spec_l1Cur_pick.f x1000 x1001 x1002 5).bind fun bt123 => (if x5 > 0 then (if 0 ≤ (wrap64 (x5 - 1)) then (if (wrap64 (x5 - 1)) < (x117000.length : Int) then (if (wrap64 (1 + bt123.1)) = (rd x117000 (wrap64 (x5 - 1))) then (if x117000.length < 17592186044416 then ((spec_l1Cur_among.f x1000 bt123.2.1 bt123.2.2 (([1,2,3,5,10,40] : List Int))).bind fun bt133 => (if x117001.length < 17592186044416 then (spec_l1Cur_rotation.l0 k x4 (wrap64 (x5 + 1)) x1000 bt133.2.1 bt133.2.2 (x117000 ++ [wrap64 (6 + (Int.tmod x5 3))]) (x117001 ++ [bt133.1])) else (none))) else (none)) else (if x5 = (wrap64 (x4 - 1)) then (if 0 < (x117000.length : Int) then (if (wrap64 (1 + bt123.1)) = (rd x117000 0) then (if x117000.length < 17592186044416 then ((spec_l1Cur_among.f x1000 bt123.2.1 bt123.2.2 (([1,2,3,5,10,40] : List Int))).bind fun bt146 => (if x117001.length < 17592186044416 then (spec_l1Cur_rotation.l0 k x4 (wrap64 (x5 + 1)) x1000 bt146.2.1 bt146.2.2 (x117000 ++ [wrap64 (6 + (Int.tmod x5 3))]) (x117001 ++ [bt146.1])) else (none))) else (none)) else (if x117000.length < 17592186044416 then ((spec_l1Cur_among.f x1000 bt123.2.1 bt123.2.2 (([1,2,3,5,10,40] : List Int))).bind fun bt158 => (if x117001.length < 17592186044416 then (spec_l1Cur_rotation.l0 k x4 (wrap64 (x5 + 1)) x1000 bt158.2.1 bt158.2.2 (x117000 ++ [wrap64 (1 + bt123.1)]) (x117001 ++ [bt158.1])) else (none))) else (none))) else (none)) else (if x117000.length < 17592186044416 then ((spec_l1Cur_among.f x1000 bt123.2.1 bt123.2.2 (([1,2,3,5,10,40] : List Int))).bind fun bt170 => (if x117001.length < 17592186044416 then (spec_l1Cur_rotation.l0 k x4 (wrap64 (x5 + 1)) x1000 bt170.2.1 bt170.2.2 (x117000 ++ [wrap64 (1 + bt123.1)]) (x117001 ++ [bt170.1])) else (none))) else (none)))) else (none)) else (none)) else (if x5 = (wrap64 (x4 - 1)) then (if x117000.length < 17592186044416 then ((spec_l1Cur_among.f x1000 bt123.2.1 bt123.2.2 (([1,2,3,5,10,40] : List Int))).bind fun bt182 => (if x117001.length < 17592186044416 then (spec_l1Cur_rotation.l0 k x4 (wrap64 (x5 + 1)) x1000 bt182.2.1 bt182.2.2 (x117000 ++ [wrap64 (1 + bt123.1)]) (x117001 ++ [bt182.1])) else (none))) else (none)) else (if x117000.length < 17592186044416 then ((spec_l1Cur_among.f x1000 bt123.2.1 bt123.2.2 (([1,2,3,5,10,40] : List Int))).bind fun bt194 => (if x117001.length < 17592186044416 then (spec_l1Cur_rotation.l0 k x4 (wrap64 (x5 + 1)) x1000 bt194.2.1 bt194.2.2 (x117000 ++ [wrap64 (1 + bt123.1)]) (x117001 ++ [bt194.1])) else (none))) else (none))))) else (some (x117000,x117001,x1001,x1002))
end
def spec_l1Cur_rotation.f (k : Nat) (s0_0 : List Int) (s0_1 : Int) (s0_2 : Int) : Option (List Int × List Int × Int × Int):=(spec_l1Cur_pick.f s0_0 s0_1 s0_2 7).bind fun bt117 => ((spec_l1Cur_one.f s0_0 bt117.2.1 bt117.2.2 12).bind fun bt120 => (if bt120.1 = true then (spec_l1Cur_rotation.j0 k 12 s0_0 bt120.2.1 bt120.2.2) else (spec_l1Cur_rotation.j0 k (wrap64 (1 + bt117.1)) s0_0 bt120.2.1 bt120.2.2)))
theorem spec_l1Cur_rotation.mono_l : ∀ k,(∀ y0 y1 y2 y3,LeO (spec_l1Cur_rotation.j0 k y0 y1 y2 y3) (spec_l1Cur_rotation.j0 (k + 1) y0 y1 y2 y3)) ∧ (∀ y0 y1 y2 y3 y4 y5 y6,LeO (spec_l1Cur_rotation.l0 k y0 y1 y2 y3 y4 y5 y6) (spec_l1Cur_rotation.l0 (k + 1) y0 y1 y2 y3 y4 y5 y6))
 | 0 => ⟨fun _ _ _ _ r h => by simp [spec_l1Cur_rotation.j0] at h,fun _ _ _ _ _ _ _ r h => by simp [spec_l1Cur_rotation.l0] at h⟩
 | k + 1 => by
  obtain ⟨ih0,ih1⟩:=spec_l1Cur_rotation.mono_l k
  refine ⟨?_,?_⟩
  ·intro y0 y1 y2 y3
   unfold spec_l1Cur_rotation.j0
   repeat' first
   | (with_reducible exact ih0 _ _ _ _)
   | (with_reducible exact ih1 _ _ _ _ _ _ _)
   | (with_reducible exact LeO.refl _)
   | (with_reducible exact LeO.none _)
   | (with_reducible refine LeO.ite ?_ ?_)
   | (with_reducible refine LeO.bind ?_ (fun _ => ?_))
   | exact ih0 _ _ _ _
   | exact ih1 _ _ _ _ _ _ _
   | exact LeO.none _
   | refine LeO.ite ?_ ?_
   | refine LeO.bind ?_ (fun _ => ?_)
  ·intro y0 y1 y2 y3 y4 y5 y6
   unfold spec_l1Cur_rotation.l0
   repeat' first
   | (with_reducible exact ih0 _ _ _ _)
   | (with_reducible exact ih1 _ _ _ _ _ _ _)
   | (with_reducible exact LeO.refl _)
   | (with_reducible exact LeO.none _)
   | (with_reducible refine LeO.ite ?_ ?_)
   | (with_reducible refine LeO.bind ?_ (fun _ => ?_))
   | exact ih0 _ _ _ _
   | exact ih1 _ _ _ _ _ _ _
   | exact LeO.none _
   | refine LeO.ite ?_ ?_
   | refine LeO.bind ?_ (fun _ => ?_)
theorem spec_l1Cur_rotation.mono : ∀ a0 a1 a2 k,LeO (spec_l1Cur_rotation.f k a0 a1 a2) (spec_l1Cur_rotation.f (k + 1) a0 a1 a2):=by
 intro a0 a1 a2 k
 obtain ⟨ih0,ih1⟩:=spec_l1Cur_rotation.mono_l k
 unfold spec_l1Cur_rotation.f
 repeat' first
   | (with_reducible exact ih0 _ _ _ _)
   | (with_reducible exact ih1 _ _ _ _ _ _ _)
   | (with_reducible exact LeO.refl _)
   | (with_reducible exact LeO.none _)
   | (with_reducible refine LeO.ite ?_ ?_)
   | (with_reducible refine LeO.bind ?_ (fun _ => ?_))
   | exact ih0 _ _ _ _
   | exact ih1 _ _ _ _ _ _ _
   | exact LeO.none _
   | refine LeO.ite ?_ ?_
   | refine LeO.bind ?_ (fun _ => ?_)
def spec_l1Cur_rotation.T12 : Bool × List (List Nat × List Nat):=(true,[([],[]),([0],[0]),([],[]),([],[]),([2,3],[2,3]),([4],[4]),([1,5,4],[1,5]),([0,1,2,3,4,5,6],[]),([7,6,6,0,1,2,3,4,5,6],[6,7])])
def spec_l1Cur_rotation.B12 : List Nat:=[0,1,0,0,12,28,63,127,255]
theorem spec_l1Cur_rotation.tab12 : rtab .any (opsOf Try.f158 12) = spec_l1Cur_rotation.T12:=by kernel_rfl
theorem spec_l1Cur_rotation.bits12 : waitsOk spec_l1Cur_rotation.T12.2 spec_l1Cur_rotation.B12 = true:=by kernel_rfl
set_option maxHeartbeats 8000000 in
set_option maxRecDepth 100000 in
theorem spec_l1Cur_rotation.calls (k : Nat) (g : Nat) (s0_0 : List Int) (s0_1 : Int) (s0_2 : Int) (r1 : List Int) (r2 : List Int) (r3 : Int) (r4 : Int) (w0 w : World) (hI : IsS112 w0 w g s0_0 s0_1 s0_2) (hB : Below w0.heap.size w0 w) (h : spec_l1Cur_rotation.f k s0_0 s0_1 s0_2 = some (r1,r2,r3,r4)) :
  Calls Try.prog 158 #[.pointer (some ⟨g,0,none⟩)] w fun e w' => ∃ v0_ v1_ : Value,e = .returned (.agg #[v0_,v1_]) ∧ Kd.R (Kd.int .i64) 3 w' w.heap.size (fun k_ => some k_ ≠ (v1_ : Value).ownBlock) v0_ r1 ∧ Kd.R (Kd.int .i64) 3 w' w.heap.size (fun k_ => some k_ ≠ (v0_ : Value).ownBlock) v1_ r2 ∧ IsS112 w0 w' g s0_0 r3 r4 ∧ Below w0.heap.size w0 w' ∧ KeepBut w w' g none:=by
 have hu26:=Try.underlying26
 have HI0:=Aside0.mk hI
 have HK:=Aside0.mk (KeepBut.refl w g none)
 have HL:=Aside0.mk hB.size
 clear hI
 have HW0:=Aside0.mk hB.size
 have HB:=Aside0.mk hB
 clear hB
 have H : ((spec_l1Cur_pick.f s0_0 s0_1 s0_2 7).bind fun bt117 => ((spec_l1Cur_one.f s0_0 bt117.2.1 bt117.2.2 12).bind fun bt120 => (if bt120.1 = true then (spec_l1Cur_rotation.j0 k 12 s0_0 bt120.2.1 bt120.2.2) else (spec_l1Cur_rotation.j0 k (wrap64 (1 + bt117.1)) s0_0 bt120.2.1 bt120.2.2)))) = some (r1,r2,r3,r4):=h
 clear h
 replace H:=Option.bind_eq_some_iff.mp H
 obtain ⟨⟨t117,t118,t119⟩,A20,H⟩:=H
 replace H : ((spec_l1Cur_one.f s0_0 t118 t119 12).bind fun bt120 => (if bt120.1 = true then (spec_l1Cur_rotation.j0 k 12 s0_0 bt120.2.1 bt120.2.2) else (spec_l1Cur_rotation.j0 k (wrap64 (1 + t117)) s0_0 bt120.2.1 bt120.2.2))) = some (r1,r2,r3,r4):=H
 have A2:=Aside0.mk A20
 clear A20
 replace H:=Option.bind_eq_some_iff.mp H
 obtain ⟨⟨t120,t121,t122⟩,A30,H⟩:=H
 replace H : (if t120 = true then (spec_l1Cur_rotation.j0 k 12 s0_0 t121 t122) else (spec_l1Cur_rotation.j0 k (wrap64 (1 + t117)) s0_0 t121 t122)) = some (r1,r2,r3,r4):=H
 have A3:=Aside0.mk A30
 clear A30
 have HC4:=Aside0.mk H
 clear H
 go_enter Try.func158,Try.ntmps158
 go_upto_if 12 with (first|((with_reducible refine gate_dst (N:=2) rfl ?_); refine box_event ?hg (N:=2) ?hd (cs:=#[.slice none 0 0,.slice none 0 0]) (t:=26) ?hr ?_; (case hd => rfl); (case hg => rfl); (case hr => first|(go_simp; done)|(go_simp; rfl)); intro gb115 hg w5 hbox hb; have n0_:=Aside0.mk (IsS112.below (by repeat (first|(with_reducible first|exact HI0.out|apply IsS112.alloc|apply IsS112.drewN|apply IsS112.drew|apply IsS112.set_1|apply IsS112.set_2)|exact HI0.out)) hb); have n1_:=Aside0.mk (KeepBut.trans (by repeat (first|(with_reducible first|exact HK.out|apply KeepBut.set_|apply keep_drewN|apply keep_drew|apply keep_alloc)|exact HK.out)) (KeepBut.of_below hb g none) (.inl rfl)); have n2_:=Aside0.mk (below_step (by repeat (first|(with_reducible first|exact HB.out|apply below_alloc|apply pw_below_drewN|apply below_drew1|refine below_set ?_ (IsS112.ge HI0.out))|exact HB.out)) hb); have n3_:=Aside0.mk (hbox); have n4_:=Aside0.mk ((by rw [hg]; exact (keep_size (w:=w) (g:=g) (row:=none) (by repeat (first|(with_reducible first|exact HK.out|apply KeepBut.set_|apply keep_drewN|apply keep_drew|apply keep_alloc)|exact HK.out))) : w.heap.size ≤ gb115)); have n5_:=Aside0.mk ((Nat.le_trans HW0.out (by rw [hg]; exact (keep_size (w:=w) (g:=g) (row:=none) (by repeat (first|(with_reducible first|exact HK.out|apply KeepBut.set_|apply keep_drewN|apply keep_drew|apply keep_alloc)|exact HK.out))) : w.heap.size ≤ gb115) : w0.heap.size ≤ gb115)); have n6_:=Aside0.mk ((by rw [hg]; exact Nat.ne_of_lt (IsS112.lt (show IsS112 w0 _ g s0_0 s0_1 s0_2 from by repeat (first|(with_reducible first|exact HI0.out|apply IsS112.alloc|apply IsS112.drewN|apply IsS112.drew|apply IsS112.set_1|apply IsS112.set_2)|exact HI0.out))) : g ≠ gb115)); have n7_:=Aside0.mk ((by rw [hg]; exact Nat.ne_of_gt (IsS112.lt (show IsS112 w0 _ g s0_0 s0_1 s0_2 from by repeat (first|(with_reducible first|exact HI0.out|apply IsS112.alloc|apply IsS112.drewN|apply IsS112.drew|apply IsS112.set_1|apply IsS112.set_2)|exact HI0.out))) : gb115 ≠ g)); clear HI0; clear HK; clear HB; have HI0:=n0_; have HK:=n1_; have HB:=n2_; have BK115:=n3_; have GW115:=n4_; have GE115:=n5_; have NB0_115:=n6_; have NB115_0:=n7_; clear n0_ n1_ n2_ n3_ n4_ n5_ n6_ n7_; clear hb hbox hg)|((with_reducible refine gate_dst (N:=3) rfl ?_); refine box_event ?hg (N:=3) ?hd (cs:=#[.slice none 0 0,.slice none 0 0]) (t:=26) ?hr ?_; (case hd => rfl); (case hg => rfl); (case hr => first|(go_simp; done)|(go_simp; rfl)); intro gb116 hg w6 hbox hb; have n0_:=Aside0.mk (IsS112.below (by repeat (first|(with_reducible first|exact HI0.out|apply IsS112.alloc|apply IsS112.drewN|apply IsS112.drew|apply IsS112.set_1|apply IsS112.set_2|refine IsS112.far ?_ NB0_115.out _)|exact HI0.out)) hb); have n1_:=Aside0.mk (blk_below (g:=gb115) (o:=.cells #[.slice none 0 0,.slice none 0 0] 26 (0,0)) (by (with_reducible repeat (first|refine blk_drewN ?_ _|refine blk_drew ?_|refine blk_alloc ?_ _)); exact BK115.out) hb); have n2_:=Aside0.mk (KeepBut.trans (by repeat (first|(with_reducible first|exact HK.out|apply KeepBut.set_|apply keep_drewN|apply keep_drew|apply keep_alloc|refine keep_far ?_ GW115.out _)|exact HK.out)) (KeepBut.of_below hb g none) (.inl rfl)); have n3_:=Aside0.mk (below_step (by repeat (first|(with_reducible first|exact HB.out|apply below_alloc|apply pw_below_drewN|apply below_drew1|refine below_set ?_ (IsS112.ge HI0.out)|refine below_set ?_ GE115.out)|exact HB.out)) hb); have n4_:=Aside0.mk (hbox); have n5_:=Aside0.mk ((by rw [hg]; exact (keep_size (w:=w) (g:=g) (row:=none) (by repeat (first|(with_reducible first|exact HK.out|apply KeepBut.set_|apply keep_drewN|apply keep_drew|apply keep_alloc|refine keep_far ?_ GW115.out _)|exact HK.out))) : w.heap.size ≤ gb116)); have n6_:=Aside0.mk ((Nat.le_trans HW0.out (by rw [hg]; exact (keep_size (w:=w) (g:=g) (row:=none) (by repeat (first|(with_reducible first|exact HK.out|apply KeepBut.set_|apply keep_drewN|apply keep_drew|apply keep_alloc|refine keep_far ?_ GW115.out _)|exact HK.out))) : w.heap.size ≤ gb116) : w0.heap.size ≤ gb116)); have n7_:=Aside0.mk ((by rw [hg]; exact Nat.ne_of_lt (blk_lt (g:=gb115) (o:=.cells #[.slice none 0 0,.slice none 0 0] 26 (0,0)) (by (with_reducible repeat (first|refine blk_drewN ?_ _|refine blk_drew ?_|refine blk_alloc ?_ _)); exact BK115.out)) : gb115 ≠ gb116)); have n8_:=Aside0.mk ((by rw [hg]; exact Nat.ne_of_gt (blk_lt (g:=gb115) (o:=.cells #[.slice none 0 0,.slice none 0 0] 26 (0,0)) (by (with_reducible repeat (first|refine blk_drewN ?_ _|refine blk_drew ?_|refine blk_alloc ?_ _)); exact BK115.out)) : gb116 ≠ gb115)); have n9_:=Aside0.mk ((by rw [hg]; exact Nat.ne_of_lt (IsS112.lt (show IsS112 w0 _ g s0_0 s0_1 s0_2 from by repeat (first|(with_reducible first|exact HI0.out|apply IsS112.alloc|apply IsS112.drewN|apply IsS112.drew|apply IsS112.set_1|apply IsS112.set_2|refine IsS112.far ?_ NB0_115.out _)|exact HI0.out))) : g ≠ gb116)); have n10_:=Aside0.mk ((by rw [hg]; exact Nat.ne_of_gt (IsS112.lt (show IsS112 w0 _ g s0_0 s0_1 s0_2 from by repeat (first|(with_reducible first|exact HI0.out|apply IsS112.alloc|apply IsS112.drewN|apply IsS112.drew|apply IsS112.set_1|apply IsS112.set_2|refine IsS112.far ?_ NB0_115.out _)|exact HI0.out))) : gb116 ≠ g)); clear HI0; clear BK115; clear HK; clear HB; have HI0:=n0_; have BK115:=n1_; have HK:=n2_; have HB:=n3_; have BK116:=n4_; have GW116:=n5_; have GE116:=n6_; have NB115_116:=n7_; have NB116_115:=n8_; have NB0_116:=n9_; have NB116_0:=n10_; clear n0_ n1_ n2_ n3_ n4_ n5_ n6_ n7_ n8_ n9_ n10_; clear hb hbox hg; have hnb7:=NB116_115.out; have hnc7:=NB115_116.out; have hnb8:=NB116_0.out; have hnc8:=NB0_116.out; have hcz9_0 : w6.cell? ⟨gb116,0,none⟩ = some (.slice none 0 0):=(blk_cell BK116.out 0).trans rfl; have hcz9_1 : w6.cell? ⟨gb116,1,none⟩ = some (.slice none 0 0):=(blk_cell BK116.out 1).trans rfl; have hfz9_0:=blk_frozen BK116.out 0; have hfz9_1:=blk_frozen BK116.out 1)|((with_reducible refine gate_callee (f:=97) rfl ?_); refine goesL_ (some 9) rfl rfl Try.func97 (by kernel_rfl) rfl #[.pointer (some ⟨g,0,none⟩),.int .i64 7] rfl (by (try simp only [List.map_toArray,List.map_cons,List.map_nil]); first|done|rfl|(simp only [List.length_drop,List.length_take]; rfl)) ?_; (with_reducible refine (spec_l1Cur_pick.calls g s0_0 s0_1 s0_2 7 t117 t118 t119 w0 _ ?side1 ?side2 A2.out).mono ?_); (case side1 => repeat (first|(with_reducible first|exact HI0.out|apply IsS112.alloc|apply IsS112.drewN|apply IsS112.drew|apply IsS112.set_1|apply IsS112.set_2|refine IsS112.far ?_ NB0_115.out _|refine IsS112.far ?_ NB0_116.out _)|exact HI0.out)); (case side2 => repeat (first|(with_reducible first|exact HB.out|apply below_alloc|apply pw_below_drewN|apply below_drew1|refine below_set ?_ (IsS112.ge HI0.out)|refine below_set ?_ GE115.out|refine below_set ?_ GE116.out)|exact HB.out)); rintro e w10 ⟨rfl,hi,hb,hk⟩; refine ⟨_,rfl,?_⟩; have n0_:=Aside0.mk (KeepBut.blk hk (g':=gb115) (o:=.cells #[.slice none 0 0,.slice none 0 0] 26 (0,0)) (by (with_reducible repeat (first|refine blk_drewN ?_ _|refine blk_drew ?_|refine blk_alloc ?_ _)); refine blk_far ?_ NB115_116.out _; (with_reducible repeat (first|refine blk_drewN ?_ _|refine blk_drew ?_|refine blk_alloc ?_ _)); refine blk_far ?_ NB115_116.out _; (with_reducible repeat (first|refine blk_drewN ?_ _|refine blk_drew ?_|refine blk_alloc ?_ _)); exact BK115.out) NB115_0.out (by simp)); have n1_:=Aside0.mk (KeepBut.blk hk (g':=gb116) (o:=.cells #[.slice none 0 0,.slice none 0 0] 26 (0,0)) (by (with_reducible repeat (first|refine blk_drewN ?_ _|refine blk_drew ?_|refine blk_alloc ?_ _)); refine blk_put (cs:=#[.slice none 0 0,.slice none 0 0]) ?_ 1 _ rfl; (with_reducible repeat (first|refine blk_drewN ?_ _|refine blk_drew ?_|refine blk_alloc ?_ _)); refine blk_put (cs:=#[.slice none 0 0,.slice none 0 0]) ?_ 0 _ rfl; (with_reducible repeat (first|refine blk_drewN ?_ _|refine blk_drew ?_|refine blk_alloc ?_ _)); exact BK116.out) NB116_0.out (by simp)); have n2_:=Aside0.mk (KeepBut.trans (by repeat (first|(with_reducible first|exact HK.out|apply KeepBut.set_|apply keep_drewN|apply keep_drew|apply keep_alloc|refine keep_far ?_ GW115.out _|refine keep_far ?_ GW116.out _)|exact HK.out)) hk (.inl rfl)); have n3_:=Aside0.mk (hb); have n4_:=Aside0.mk (hi); clear BK115; clear BK116; clear HK; clear HB; clear HI0; have BK115:=n0_; have BK116:=n1_; have HK:=n2_; have HB:=n3_; have HI0:=n4_; clear n0_ n1_ n2_ n3_ n4_; (try clear hb); (try clear hb2); (try clear hk); (try clear hi))|((with_reducible refine gate_callee (f:=151) rfl ?_); refine goesL_ (some 12) rfl rfl Try.func151 (by kernel_rfl) rfl #[.pointer (some ⟨g,0,none⟩),.int .i64 12] rfl (by (try simp only [List.map_toArray,List.map_cons,List.map_nil]); first|done|rfl|(simp only [List.length_drop,List.length_take]; rfl)) ?_; (with_reducible refine (spec_l1Cur_one.calls g s0_0 t118 t119 12 t120 t121 t122 w0 _ ?side1 ?side2 A3.out).mono ?_); (case side1 => repeat (first|(with_reducible first|exact HI0.out|apply IsS112.alloc|apply IsS112.drewN|apply IsS112.drew|apply IsS112.set_1|apply IsS112.set_2|refine IsS112.far ?_ NB0_115.out _|refine IsS112.far ?_ NB0_116.out _)|exact HI0.out)); (case side2 => repeat (first|(with_reducible first|exact HB.out|apply below_alloc|apply pw_below_drewN|apply below_drew1|refine below_set ?_ (IsS112.ge HI0.out)|refine below_set ?_ GE115.out|refine below_set ?_ GE116.out)|exact HB.out)); rintro e w11 ⟨rfl,hi,hb,hk⟩; refine ⟨_,rfl,?_⟩; have n0_:=Aside0.mk (KeepBut.blk hk (g':=gb115) (o:=.cells #[.slice none 0 0,.slice none 0 0] 26 (0,0)) (by (with_reducible repeat (first|refine blk_drewN ?_ _|refine blk_drew ?_|refine blk_alloc ?_ _)); exact BK115.out) NB115_0.out (by simp)); have n1_:=Aside0.mk (KeepBut.blk hk (g':=gb116) (o:=.cells #[.slice none 0 0,.slice none 0 0] 26 (0,0)) (by (with_reducible repeat (first|refine blk_drewN ?_ _|refine blk_drew ?_|refine blk_alloc ?_ _)); exact BK116.out) NB116_0.out (by simp)); have n2_:=Aside0.mk (KeepBut.trans (by repeat (first|(with_reducible first|exact HK.out|apply KeepBut.set_|apply keep_drewN|apply keep_drew|apply keep_alloc|refine keep_far ?_ GW115.out _|refine keep_far ?_ GW116.out _)|exact HK.out)) hk (.inl rfl)); have n3_:=Aside0.mk (hb); have n4_:=Aside0.mk (hi); clear BK115; clear BK116; clear HK; clear HB; clear HI0; have BK115:=n0_; have BK116:=n1_; have HK:=n2_; have HB:=n3_; have HI0:=n4_; clear n0_ n1_ n2_ n3_ n4_; (try clear hb); (try clear hb2); (try clear hk); (try clear hi)))
 (try simp only [Act.put,List.setIfInBounds_toArray,List.set_cons_zero,List.set_cons_succ])
 go_cut [4] (fun v4 wc => ∃ (kq : Nat) (x4_3 : Int),v4 = .int .i64 x4_3 ∧ Aside0 (spec_l1Cur_rotation.j0 kq x4_3 s0_0 t121 t122 = some (r1,r2,r3,r4)) ∧ Aside0 (kq ≤ k) ∧ Aside0 (wc.heap[gb115]? = some (.cells #[(.slice none 0 0),(.slice none 0 0)] 26 (0,0))) ∧ Aside0 (wc.heap[gb116]? = some (.cells #[(.slice none 0 0),(.slice none 0 0)] 26 (0,0))) ∧ Aside0 (IsS112 w0 wc g s0_0 t121 t122) ∧ Aside0 (KeepBut w wc g none) ∧ Aside0 (Below w0.heap.size w0 wc))
 case first =>
  have H:=HC4.out
  clear HC4
  by_cases c12 : t120 = true
  ·subst c12
   have H1 : (spec_l1Cur_rotation.j0 k 12 s0_0 t121 t122) = some (r1,r2,r3,r4):=by rw [if_pos rfl] at H; exact H
   clear H
   have H:=H1
   clear H1
   have H':=Aside0.mk H
   clear H
   go_wp2
   go_meet
   case rel => exact ⟨_,(12),(by first|rfl|(simp; done)|(simp [*]; done)),H',⟨by first|omega|exact Nat.le_refl _⟩,⟨by (with_reducible repeat (first|refine blk_drewN ?_ _|refine blk_drew ?_|refine blk_alloc ?_ _)); exact BK115.out⟩,⟨by (with_reducible repeat (first|refine blk_drewN ?_ _|refine blk_drew ?_|refine blk_alloc ?_ _)); exact BK116.out⟩,⟨by repeat (first|(with_reducible first|exact HI0.out|apply IsS112.alloc|apply IsS112.drewN|apply IsS112.drew|apply IsS112.set_1|apply IsS112.set_2|refine IsS112.far ?_ NB0_115.out _|refine IsS112.far ?_ NB0_116.out _)|exact HI0.out)⟩,⟨by repeat (first|(with_reducible first|exact HK.out|apply KeepBut.set_|apply keep_drewN|apply keep_drew|apply keep_alloc|refine keep_far ?_ GW115.out _|refine keep_far ?_ GW116.out _)|exact HK.out)⟩,⟨by repeat (first|(with_reducible first|exact HB.out|apply below_alloc|apply pw_below_drewN|apply below_drew1|refine below_set ?_ (IsS112.ge HI0.out)|refine below_set ?_ GE115.out|refine below_set ?_ GE116.out)|exact HB.out)⟩⟩
  ·replace c12:=Bool.eq_false_iff.mpr c12
   subst c12
   have H1 : (spec_l1Cur_rotation.j0 k (wrap64 (1 + t117)) s0_0 t121 t122) = some (r1,r2,r3,r4):=by rw [if_neg (show ¬ (false = true) by decide)] at H; exact H
   clear H
   have H:=H1
   clear H1
   have H':=Aside0.mk H
   clear H
   go_wp2
   go_meet
   case rel => exact ⟨_,(wrap64 (1 + t117)),(by first|rfl|(simp; done)|(simp [*]; done)),H',⟨by first|omega|exact Nat.le_refl _⟩,⟨by (with_reducible repeat (first|refine blk_drewN ?_ _|refine blk_drew ?_|refine blk_alloc ?_ _)); exact BK115.out⟩,⟨by (with_reducible repeat (first|refine blk_drewN ?_ _|refine blk_drew ?_|refine blk_alloc ?_ _)); exact BK116.out⟩,⟨by repeat (first|(with_reducible first|exact HI0.out|apply IsS112.alloc|apply IsS112.drewN|apply IsS112.drew|apply IsS112.set_1|apply IsS112.set_2|refine IsS112.far ?_ NB0_115.out _|refine IsS112.far ?_ NB0_116.out _)|exact HI0.out)⟩,⟨by repeat (first|(with_reducible first|exact HK.out|apply KeepBut.set_|apply keep_drewN|apply keep_drew|apply keep_alloc|refine keep_far ?_ GW115.out _|refine keep_far ?_ GW116.out _)|exact HK.out)⟩,⟨by repeat (first|(with_reducible first|exact HB.out|apply below_alloc|apply pw_below_drewN|apply below_drew1|refine below_set ?_ (IsS112.ge HI0.out)|refine below_set ?_ GE115.out|refine below_set ?_ GE116.out)|exact HB.out)⟩⟩
 case rest =>
  clear HC4
  try clear c1
  try clear p2
  try clear p6
  try clear c7
  try clear c8
  try clear c9
  try clear c12
  try clear hcz9_0
  try clear hcz9_1
  try clear hfz9_0
  try clear hfz9_1
  obtain ⟨kq,x4_3,rfl,HA,HJ3,BK115,BK116,HI0,HK,HB⟩:=hcut
  cases kq with
  | zero => exact absurd HA.out (by simp [spec_l1Cur_rotation.j0])
  | succ kj3 =>
   have H:=HA.out
   clear HA
   simp only [spec_l1Cur_rotation.j0] at H
   have H':=Aside0.mk H
   clear H
   go_wp2
   go_loopg [5] kj3 (fun kq v5 w' => ∃ (x5_2 : Int) (x1001_2 : Int) (x1002_2 : Int) (x117000_2 : List Int) (x117001_2 : List Int) (u117000 : Value) (u117001 : Value),v5 = .int .i64 x5_2 ∧ Aside0 (spec_l1Cur_rotation.l0 kq x4_3 x5_2 s0_0 x1001_2 x1002_2 x117000_2 x117001_2 = some (r1,r2,r3,r4)) ∧ Aside0 (kq ≤ kj3) ∧ Aside0 (Kd.R (Kd.int .i64) 3 w' w.heap.size (fun k_ => some k_ ≠ (u117001 : Value).ownBlock) u117000 x117000_2) ∧ Aside0 (Kd.R (Kd.int .i64) 3 w' w.heap.size (fun k_ => some k_ ≠ (u117000 : Value).ownBlock) u117001 x117001_2) ∧ Aside0 (w'.heap[gb115]? = some (.cells #[(.slice none 0 0),(.slice none 0 0)] 26 (0,0))) ∧ Aside0 (w'.heap[gb116]? = some (.cells #[u117000,u117001] 26 (0,0))) ∧ Aside0 (IsS112 w0 w' g s0_0 x1001_2 x1002_2) ∧ Aside0 (KeepBut w w' g none) ∧ Aside0 (Below w0.heap.size w0 w'))
   case atStart => exact ⟨(0),(t121),(t122),(([] : List Int)),(([] : List Int)),(.slice none 0 0),(.slice none 0 0),(by first|rfl|(simp; done)|(simp [*]; done)),H',⟨Nat.le_refl _⟩,⟨by first|exact Kd.R_nil _ _ _ _ _|exact Kd.N_nil _ _ _ _ _|exact Kd.V_nil _ _ _ _ _|exact Kd.Q_nil _ _ _ _ _|exact Kd.S_nil _ _ _ _ _⟩,⟨by first|exact Kd.R_nil _ _ _ _ _|exact Kd.N_nil _ _ _ _ _|exact Kd.V_nil _ _ _ _ _|exact Kd.Q_nil _ _ _ _ _|exact Kd.S_nil _ _ _ _ _⟩,⟨by (with_reducible repeat (first|refine blk_drewN ?_ _|refine blk_drew ?_|refine blk_alloc ?_ _)); exact BK115.out⟩,⟨by (with_reducible repeat (first|refine blk_drewN ?_ _|refine blk_drew ?_|refine blk_alloc ?_ _)); exact BK116.out⟩,⟨by repeat (first|(with_reducible first|exact HI0.out|apply IsS112.alloc|apply IsS112.drewN|apply IsS112.drew|apply IsS112.set_1|apply IsS112.set_2|refine IsS112.far ?_ NB0_115.out _|refine IsS112.far ?_ NB0_116.out _)|exact HI0.out)⟩,⟨by repeat (first|(with_reducible first|exact HK.out|apply KeepBut.set_|apply keep_drewN|apply keep_drew|apply keep_alloc|refine keep_far ?_ GW115.out _|refine keep_far ?_ GW116.out _)|exact HK.out)⟩,⟨by repeat (first|(with_reducible first|exact HB.out|apply below_alloc|apply pw_below_drewN|apply below_drew1|refine below_set ?_ (IsS112.ge HI0.out)|refine below_set ?_ GE115.out|refine below_set ?_ GE116.out)|exact HB.out)⟩⟩
   case round =>
    clear H'
    try clear c1
    try clear p2
    try clear p6
    try clear c7
    try clear c8
    try clear c9
    try clear c12
    try clear hcz9_0
    try clear hcz9_1
    try clear hfz9_0
    try clear hfz9_1
    try clear p2
    try clear p6
    obtain ⟨x5_2,x1001_2,x1002_2,x117000_2,x117001_2,u117000,u117001,rfl,HA,HK2,HO_117000,HO_117001,BK115,BK116,HI0,HK,HB⟩:=hrel
    cases gk with
    | zero => exact absurd HA.out (by simp [spec_l1Cur_rotation.l0])
    | succ k2 =>
     have H:=HA.out
     clear HA
     simp only [spec_l1Cur_rotation.l0] at H
     by_cases c13 : x5_2 < x4_3
     ·rw [if_pos c13] at H
      have c13b0 : decide (x5_2 < x4_3) = true:=decide_eq_true c13
      clear c13
      replace H:=Option.bind_eq_some_iff.mp H
      obtain ⟨⟨t123,t124,t125⟩,A140,H⟩:=H
      replace H : (if x5_2 > 0 then (if 0 ≤ (wrap64 (x5_2 - 1)) then (if (wrap64 (x5_2 - 1)) < (x117000_2.length : Int) then (if (wrap64 (1 + t123)) = (rd x117000_2 (wrap64 (x5_2 - 1))) then (if x117000_2.length < 17592186044416 then ((spec_l1Cur_among.f s0_0 t124 t125 (([1,2,3,5,10,40] : List Int))).bind fun bt133 => (if x117001_2.length < 17592186044416 then (spec_l1Cur_rotation.l0 k2 x4_3 (wrap64 (x5_2 + 1)) s0_0 bt133.2.1 bt133.2.2 (x117000_2 ++ [wrap64 (6 + (Int.tmod x5_2 3))]) (x117001_2 ++ [bt133.1])) else (none))) else (none)) else (if x5_2 = (wrap64 (x4_3 - 1)) then (if 0 < (x117000_2.length : Int) then (if (wrap64 (1 + t123)) = (rd x117000_2 0) then (if x117000_2.length < 17592186044416 then ((spec_l1Cur_among.f s0_0 t124 t125 (([1,2,3,5,10,40] : List Int))).bind fun bt146 => (if x117001_2.length < 17592186044416 then (spec_l1Cur_rotation.l0 k2 x4_3 (wrap64 (x5_2 + 1)) s0_0 bt146.2.1 bt146.2.2 (x117000_2 ++ [wrap64 (6 + (Int.tmod x5_2 3))]) (x117001_2 ++ [bt146.1])) else (none))) else (none)) else (if x117000_2.length < 17592186044416 then ((spec_l1Cur_among.f s0_0 t124 t125 (([1,2,3,5,10,40] : List Int))).bind fun bt158 => (if x117001_2.length < 17592186044416 then (spec_l1Cur_rotation.l0 k2 x4_3 (wrap64 (x5_2 + 1)) s0_0 bt158.2.1 bt158.2.2 (x117000_2 ++ [wrap64 (1 + t123)]) (x117001_2 ++ [bt158.1])) else (none))) else (none))) else (none)) else (if x117000_2.length < 17592186044416 then ((spec_l1Cur_among.f s0_0 t124 t125 (([1,2,3,5,10,40] : List Int))).bind fun bt170 => (if x117001_2.length < 17592186044416 then (spec_l1Cur_rotation.l0 k2 x4_3 (wrap64 (x5_2 + 1)) s0_0 bt170.2.1 bt170.2.2 (x117000_2 ++ [wrap64 (1 + t123)]) (x117001_2 ++ [bt170.1])) else (none))) else (none)))) else (none)) else (none)) else (if x5_2 = (wrap64 (x4_3 - 1)) then (if x117000_2.length < 17592186044416 then ((spec_l1Cur_among.f s0_0 t124 t125 (([1,2,3,5,10,40] : List Int))).bind fun bt182 => (if x117001_2.length < 17592186044416 then (spec_l1Cur_rotation.l0 k2 x4_3 (wrap64 (x5_2 + 1)) s0_0 bt182.2.1 bt182.2.2 (x117000_2 ++ [wrap64 (1 + t123)]) (x117001_2 ++ [bt182.1])) else (none))) else (none)) else (if x117000_2.length < 17592186044416 then ((spec_l1Cur_among.f s0_0 t124 t125 (([1,2,3,5,10,40] : List Int))).bind fun bt194 => (if x117001_2.length < 17592186044416 then (spec_l1Cur_rotation.l0 k2 x4_3 (wrap64 (x5_2 + 1)) s0_0 bt194.2.1 bt194.2.2 (x117000_2 ++ [wrap64 (1 + t123)]) (x117001_2 ++ [bt194.1])) else (none))) else (none)))) = some (r1,r2,r3,r4):=H
      have A14:=Aside0.mk A140
      clear A140
      by_cases c15 : x5_2 > 0
      ·rw [if_pos c15] at H
       have c15b0 : decide (0 < x5_2) = true:=decide_eq_true c15
       clear c15
       obtain ⟨ji16,hji16⟩ : ∃ j_ : Int,(wrap64 (x5_2 - 1)) = j_:=⟨_,rfl⟩
       replace H : (if 0 ≤ (ji16) then (if (ji16) < (x117000_2.length : Int) then (if (wrap64 (1 + t123)) = (rd x117000_2 (ji16)) then (if x117000_2.length < 17592186044416 then ((spec_l1Cur_among.f s0_0 t124 t125 (([1,2,3,5,10,40] : List Int))).bind fun bt133 => (if x117001_2.length < 17592186044416 then (spec_l1Cur_rotation.l0 k2 x4_3 (wrap64 (x5_2 + 1)) s0_0 bt133.2.1 bt133.2.2 (x117000_2 ++ [wrap64 (6 + (Int.tmod x5_2 3))]) (x117001_2 ++ [bt133.1])) else (none))) else (none)) else (if x5_2 = (wrap64 (x4_3 - 1)) then (if 0 < (x117000_2.length : Int) then (if (wrap64 (1 + t123)) = (rd x117000_2 0) then (if x117000_2.length < 17592186044416 then ((spec_l1Cur_among.f s0_0 t124 t125 (([1,2,3,5,10,40] : List Int))).bind fun bt146 => (if x117001_2.length < 17592186044416 then (spec_l1Cur_rotation.l0 k2 x4_3 (wrap64 (x5_2 + 1)) s0_0 bt146.2.1 bt146.2.2 (x117000_2 ++ [wrap64 (6 + (Int.tmod x5_2 3))]) (x117001_2 ++ [bt146.1])) else (none))) else (none)) else (if x117000_2.length < 17592186044416 then ((spec_l1Cur_among.f s0_0 t124 t125 (([1,2,3,5,10,40] : List Int))).bind fun bt158 => (if x117001_2.length < 17592186044416 then (spec_l1Cur_rotation.l0 k2 x4_3 (wrap64 (x5_2 + 1)) s0_0 bt158.2.1 bt158.2.2 (x117000_2 ++ [wrap64 (1 + t123)]) (x117001_2 ++ [bt158.1])) else (none))) else (none))) else (none)) else (if x117000_2.length < 17592186044416 then ((spec_l1Cur_among.f s0_0 t124 t125 (([1,2,3,5,10,40] : List Int))).bind fun bt170 => (if x117001_2.length < 17592186044416 then (spec_l1Cur_rotation.l0 k2 x4_3 (wrap64 (x5_2 + 1)) s0_0 bt170.2.1 bt170.2.2 (x117000_2 ++ [wrap64 (1 + t123)]) (x117001_2 ++ [bt170.1])) else (none))) else (none)))) else (none)) else (none)) = some (r1,r2,r3,r4):=by first|(rw [hji16] at H; exact H)|(simp only [hji16] at H ⊢; exact H)
       (try rw [hji16] at A14)
       have hji16w : (IntKind.i64.wrap (x5_2 - 1)) = ji16:=(i64_w _).trans hji16
       by_cases c17 : 0 ≤ (ji16)
       ·rw [if_pos c17] at H
        have c17b0 : decide (0 ≤ (ji16)) = true:=decide_eq_true c17
        clear c17
        by_cases c18 : (ji16) < (x117000_2.length : Int)
        ·rw [if_pos c18] at H
         have c18b0 : decide ((ji16) < (x117000_2.length : Int)) = true:=decide_eq_true c18
         clear c18
         by_cases c19 : (wrap64 (1 + t123)) = (rd x117000_2 (ji16))
         ·rw [if_pos c19] at H
          have c19b0 : ((wrap64 (1 + t123)) == (rd x117000_2 (ji16))) = true:=beq_iff_eq.mpr c19
          have c19b1 : ((wrap64 (1 + t123)) != (rd x117000_2 (ji16))) = false:=bne_eq_false_iff_eq.mpr c19
          clear c19
          by_cases c20 : x117000_2.length < 17592186044416
          ·rw [if_pos c20] at H
           have LMc20:=Aside0.mk c20
           clear c20
           obtain ⟨y127,hy127⟩ : ∃ y_ : List Int,y_ = (x117000_2 ++ [wrap64 (6 + (Int.tmod x5_2 3))]):=⟨_,rfl⟩
           replace H : ((spec_l1Cur_among.f s0_0 t124 t125 (([1,2,3,5,10,40] : List Int))).bind fun bt133 => (if x117001_2.length < 17592186044416 then (spec_l1Cur_rotation.l0 k2 x4_3 (wrap64 (x5_2 + 1)) s0_0 bt133.2.1 bt133.2.2 y127 (x117001_2 ++ [bt133.1])) else (none))) = some (r1,r2,r3,r4):=by first|(rw [hy127]; with_reducible exact H)|(have H2_:=(Option.bind_some _ _).symm.trans H; rw [hy127]; with_reducible exact H2_)|(have H2_:=(Option.bind_some _ _).symm.trans H; with_reducible exact H2_)|with_reducible exact H|(rw [hy127]; exact H)|exact H
           have Ny127:=Aside0.mk hy127
           clear hy127
           obtain ⟨y130,hy130⟩ : ∃ y_ : List Int,y_ = (([1,2,3,5,10,40] : List Int)):=⟨_,rfl⟩
           replace H : ((spec_l1Cur_among.f s0_0 t124 t125 y130).bind fun bt133 => (if x117001_2.length < 17592186044416 then (spec_l1Cur_rotation.l0 k2 x4_3 (wrap64 (x5_2 + 1)) s0_0 bt133.2.1 bt133.2.2 y127 (x117001_2 ++ [bt133.1])) else (none))) = some (r1,r2,r3,r4):=by first|(rw [hy130]; with_reducible exact H)|(have H2_:=(Option.bind_some _ _).symm.trans H; rw [hy130]; with_reducible exact H2_)|(have H2_:=(Option.bind_some _ _).symm.trans H; with_reducible exact H2_)|with_reducible exact H|(rw [hy130]; exact H)|exact H
           have Ny130:=Aside0.mk hy130
           clear hy130
           replace H:=Option.bind_eq_some_iff.mp H
           obtain ⟨⟨t133,t134,t135⟩,A210,H⟩:=H
           replace H : (if x117001_2.length < 17592186044416 then (spec_l1Cur_rotation.l0 k2 x4_3 (wrap64 (x5_2 + 1)) s0_0 t134 t135 y127 (x117001_2 ++ [t133])) else (none)) = some (r1,r2,r3,r4):=H
           have A21:=Aside0.mk A210
           clear A210
           by_cases c22 : x117001_2.length < 17592186044416
           ·rw [if_pos c22] at H
            have LMc22:=Aside0.mk c22
            clear c22
            obtain ⟨y136,hy136⟩ : ∃ y_ : List Int,y_ = (x117001_2 ++ [t133]):=⟨_,rfl⟩
            replace H : (spec_l1Cur_rotation.l0 k2 x4_3 (wrap64 (x5_2 + 1)) s0_0 t134 t135 y127 y136) = some (r1,r2,r3,r4):=by first|(rw [hy136]; with_reducible exact H)|(have H2_:=(Option.bind_some _ _).symm.trans H; rw [hy136]; with_reducible exact H2_)|(have H2_:=(Option.bind_some _ _).symm.trans H; with_reducible exact H2_)|with_reducible exact H|(rw [hy136]; exact H)|exact H
            have Ny136:=Aside0.mk hy136
            clear hy136
            have H':=Aside0.mk H
            clear H
            try go_wp2_with (first|((with_reducible refine gate_callee (f:=97) rfl ?_); refine goesL_ (some 19) rfl rfl Try.func97 (by kernel_rfl) rfl #[.pointer (some ⟨g,0,none⟩),.int .i64 5] rfl (by (try simp only [List.map_toArray,List.map_cons,List.map_nil]); first|done|rfl|(simp only [List.length_drop,List.length_take]; rfl)) ?_; (with_reducible refine (spec_l1Cur_pick.calls g s0_0 x1001_2 x1002_2 5 t123 t124 t125 w0 _ ?side1 ?side2 A14.out).mono ?_); (case side1 => repeat (first|(with_reducible first|exact HI0.out|apply IsS112.alloc|apply IsS112.drewN|apply IsS112.drew|apply IsS112.set_1|apply IsS112.set_2|refine IsS112.far ?_ NB0_115.out _|refine IsS112.far ?_ NB0_116.out _)|exact HI0.out)); (case side2 => repeat (first|(with_reducible first|exact HB.out|apply below_alloc|apply pw_below_drewN|apply below_drew1|refine below_set ?_ (IsS112.ge HI0.out)|refine below_set ?_ GE115.out|refine below_set ?_ GE116.out)|exact HB.out)); rintro e w23 ⟨rfl,hi,hb,hk⟩; refine ⟨_,rfl,?_⟩; have n0_:=Aside0.mk (Kd.R_mono (Kd.R_keep (IsS112.apart (show IsS112 w0 _ g s0_0 x1001_2 x1002_2 from by repeat (first|(with_reducible first|exact HI0.out|apply IsS112.alloc|apply IsS112.drewN|apply IsS112.drew|apply IsS112.set_1|apply IsS112.set_2|refine IsS112.far ?_ NB0_115.out _|refine IsS112.far ?_ NB0_116.out _)|exact HI0.out)) (by (with_reducible repeat (first|apply Kd.R_alloc|apply Kd.R_drewN|apply Kd.R_drew)); exact HO_117000.out) (by decide)) hk (fun _ h => h.2)) (fun _ h => h.1)); have n1_:=Aside0.mk (Kd.R_mono (Kd.R_keep (IsS112.apart (show IsS112 w0 _ g s0_0 x1001_2 x1002_2 from by repeat (first|(with_reducible first|exact HI0.out|apply IsS112.alloc|apply IsS112.drewN|apply IsS112.drew|apply IsS112.set_1|apply IsS112.set_2|refine IsS112.far ?_ NB0_115.out _|refine IsS112.far ?_ NB0_116.out _)|exact HI0.out)) (by (with_reducible repeat (first|apply Kd.R_alloc|apply Kd.R_drewN|apply Kd.R_drew)); exact HO_117001.out) (by decide)) hk (fun _ h => h.2)) (fun _ h => h.1)); have n2_:=Aside0.mk (KeepBut.blk hk (g':=gb115) (o:=.cells #[.slice none 0 0,.slice none 0 0] 26 (0,0)) (by (with_reducible repeat (first|refine blk_drewN ?_ _|refine blk_drew ?_|refine blk_alloc ?_ _)); exact BK115.out) NB115_0.out (by simp)); have n3_:=Aside0.mk (KeepBut.blk hk (g':=gb116) (o:=.cells #[u117000,u117001] 26 (0,0)) (by (with_reducible repeat (first|refine blk_drewN ?_ _|refine blk_drew ?_|refine blk_alloc ?_ _)); exact BK116.out) NB116_0.out (by simp)); have n4_:=Aside0.mk (KeepBut.trans (by repeat (first|(with_reducible first|exact HK.out|apply KeepBut.set_|apply keep_drewN|apply keep_drew|apply keep_alloc|refine keep_far ?_ GW115.out _|refine keep_far ?_ GW116.out _)|exact HK.out)) hk (.inl rfl)); have n5_:=Aside0.mk (hb); have n6_:=Aside0.mk (hi); clear HO_117000; clear HO_117001; clear BK115; clear BK116; clear HK; clear HB; clear HI0; have HO_117000:=n0_; have HO_117001:=n1_; have BK115:=n2_; have BK116:=n3_; have HK:=n4_; have HB:=n5_; have HI0:=n6_; clear n0_ n1_ n2_ n3_ n4_ n5_ n6_; (try clear hb); (try clear hb2); (try clear hk); (try clear hi); have hnb24:=NB116_115.out; have hnc24:=NB115_116.out; have hnb25:=NB116_0.out; have hnc25:=NB0_116.out; have hcz26_0 : w23.cell? ⟨gb116,0,none⟩ = some (u117000):=(blk_cell BK116.out 0).trans rfl; have hcz26_1 : w23.cell? ⟨gb116,1,none⟩ = some (u117001):=(blk_cell BK116.out 1).trans rfl; have hfz26_0:=blk_frozen BK116.out 0; have hfz26_1:=blk_frozen BK116.out 1; obtain ⟨Ao27,co27,eo27⟩:=Kd.R_slice HO_117000.out; subst eo27; have p126 : 0 ≤ ((ji16) : Int):=of_decide_eq_true (by first|(with_reducible assumption)|assumption); have q126 : (ji16) < (x117000_2.length : Int):=of_decide_eq_true (by first|(with_reducible assumption)|assumption); obtain ⟨ad126,e126,hx126_0⟩:=Kd.at_int (Kd.R_reads' HO_117000.out).2.2 (ji16) p126 q126; cases e126; replace p126:=eq_true p126; replace q126:=eq_true q126)|((with_reducible refine gate_builtin (b:=.append) (xs:=#[.tmp 55,.tmp 57]) rfl ?_); at_builtin; refine Kd.R_append (Kd.int .i64) w.heap.size rfl (.tmp 55) (.tmp 57) 24 3 (.int .i64 0) 8 rfl Try.underlying24 info3 rfl (by decide) (by omega) (.slice (some ad126) x117000_2.length co27) x117000_2 (wrap64 (6 + (Int.tmod x5_2 3))) [.int .i64 (wrap64 (6 + (Int.tmod x5_2 3)))] (fun k_ => some k_ ≠ (u117001 : Value).ownBlock) (fun _ => False) rfl rfl ?aP (fun _ hk => hk.elim) ?aF ?aO (Below.refl _ _) ?aS ?aL ?_; (case aP => exact rfl); (case aF => exact (fun k_ hk => Kd.fresh' (Kd.R_lt (by (with_reducible repeat (first|apply Kd.R_alloc|apply Kd.R_drewN|apply Kd.R_drew)); exact HO_117001.out)) k_ hk)); (case aO => exact (by (with_reducible repeat (first|apply Kd.R_alloc|apply Kd.R_drewN|apply Kd.R_drew)); exact HO_117000.out)); (case aS => exact (keep_size (w:=w) (g:=g) (row:=none) (by repeat (first|(with_reducible first|exact HK.out|apply KeepBut.set_|apply keep_drewN|apply keep_drew|apply keep_alloc|refine keep_far ?_ GW115.out _|refine keep_far ?_ GW116.out _)|exact HK.out)))); (case aL => have:=LMc20.out; omega); intro v128 w28 ho hb hg hat; rw [← Ny127.out] at ho; have n0_:=Aside0.mk (Kd.R_after (ok:=(fun _ => True)) (by (with_reducible repeat (first|apply Kd.R_alloc|apply Kd.R_drewN|apply Kd.R_drew)); exact Kd.R_mono HO_117001.out (fun _ hk => ⟨trivial,hk⟩)) hg hat); have n1_:=Aside0.mk (blk_grown (g:=gb115) (o:=.cells #[.slice none 0 0,.slice none 0 0] 26 (0,0)) (by (with_reducible repeat (first|refine blk_drewN ?_ _|refine blk_drew ?_|refine blk_alloc ?_ _)); exact BK115.out) hg (Kd.R_ne HO_117000.out BK115.out (by decide))); have n2_:=Aside0.mk (blk_grown (g:=gb116) (o:=.cells #[.slice (some ad126) x117000_2.length co27,u117001] 26 (0,0)) (by (with_reducible repeat (first|refine blk_drewN ?_ _|refine blk_drew ?_|refine blk_alloc ?_ _)); exact BK116.out) hg (Kd.R_ne HO_117000.out BK116.out (by decide))); have n3_:=Aside0.mk (IsS112.grown (by repeat (first|(with_reducible first|exact HI0.out|apply IsS112.alloc|apply IsS112.drewN|apply IsS112.drew|apply IsS112.set_1|apply IsS112.set_2|refine IsS112.far ?_ NB0_115.out _|refine IsS112.far ?_ NB0_116.out _)|exact HI0.out)) hg (IsS112.own_ne HI0.out HO_117000.out (by decide))); have n4_:=Aside0.mk (below_weaken (by repeat (first|(with_reducible first|exact HB.out|apply below_alloc|apply pw_below_drewN|apply below_drew1|refine below_set ?_ (IsS112.ge HI0.out)|refine below_set ?_ GE115.out|refine below_set ?_ GE116.out)|exact HB.out)) HL.out hb); have n5_:=Aside0.mk (KeepBut.trans (by repeat (first|(with_reducible first|exact HK.out|apply KeepBut.set_|apply keep_drewN|apply keep_drew|apply keep_alloc|refine keep_far ?_ GW115.out _|refine keep_far ?_ GW116.out _)|exact HK.out)) (KeepBut.of_grown hg g) (Kd.R_base2 HO_117000.out)); have n6_:=Aside0.mk (ho); clear HO_117001; clear BK115; clear BK116; clear HI0; clear HB; clear HK; clear HO_117000; have HO_117001:=n0_; have BK115:=n1_; have BK116:=n2_; have HI0:=n3_; have HB:=n4_; have HK:=n5_; have HO129:=n6_; clear n0_ n1_ n2_ n3_ n4_ n5_ n6_; clear ho hb hg hat; obtain ⟨Ao29,co29,eo29⟩:=Kd.R_slice HO129.out; subst eo29; have hcz30_0 : w28.cell? ⟨gb116,0,none⟩ = some (.slice (some ad126) x117000_2.length co27):=(blk_cell BK116.out 0).trans rfl; have hcz30_1 : w28.cell? ⟨gb116,1,none⟩ = some (u117001):=(blk_cell BK116.out 1).trans rfl; have hfz30_0:=blk_frozen BK116.out 0; have hfz30_1:=blk_frozen BK116.out 1))
            have n0_ : Aside0 (Kd.R (Kd.int .i64) 3 (w28.setCell ⟨gb116,0,none⟩ (.slice Ao29 y127.length co29)) w.heap.size (fun k_ => some k_ ≠ (.slice Ao29 y127.length co29 : Value).ownBlock) u117001 x117001_2):=⟨by (with_reducible repeat (first|apply Kd.R_alloc|apply Kd.R_drewN|apply Kd.R_drew)); exact Kd.R_mono (Kd.R_far (p:=⟨gb116,0,none⟩) (Kd.R_types HO_117001.out BK116.out (by decide)) (fun _ hk => hk.2) (.slice Ao29 y127.length co29)) (fun _ hk => hk.1.2)⟩
            have n1_ : Aside0 (Kd.R (Kd.int .i64) 3 (w28.setCell ⟨gb116,0,none⟩ (.slice Ao29 y127.length co29)) w.heap.size (fun k_ => some k_ ≠ (u117001 : Value).ownBlock) (.slice Ao29 y127.length co29) y127):=⟨by (with_reducible repeat (first|apply Kd.R_alloc|apply Kd.R_drewN|apply Kd.R_drew)); exact Kd.R_mono (Kd.R_far (p:=⟨gb116,0,none⟩) (Kd.R_types HO129.out BK116.out (by decide)) (fun _ hk => hk.2) (.slice Ao29 y127.length co29)) (fun _ hk => hk.1)⟩
            have n2_ : Aside0 ((w28.setCell ⟨gb116,0,none⟩ (.slice Ao29 y127.length co29)).heap[gb115]? = some (.cells #[.slice none 0 0,.slice none 0 0] 26 (0,0))):=⟨by (with_reducible repeat (first|refine blk_drewN ?_ _|refine blk_drew ?_|refine blk_alloc ?_ _)); refine blk_far ?_ NB115_116.out _; (with_reducible repeat (first|refine blk_drewN ?_ _|refine blk_drew ?_|refine blk_alloc ?_ _)); exact BK115.out⟩
            have n3_ : Aside0 ((w28.setCell ⟨gb116,0,none⟩ (.slice Ao29 y127.length co29)).heap[gb116]? = some (.cells #[.slice Ao29 y127.length co29,u117001] 26 (0,0))):=⟨by (with_reducible repeat (first|refine blk_drewN ?_ _|refine blk_drew ?_|refine blk_alloc ?_ _)); refine blk_put (cs:=#[.slice (some ad126) x117000_2.length co27,u117001]) ?_ 0 _ rfl; (with_reducible repeat (first|refine blk_drewN ?_ _|refine blk_drew ?_|refine blk_alloc ?_ _)); exact BK116.out⟩
            have n4_ : Aside0 (IsS112 w0 (w28.setCell ⟨gb116,0,none⟩ (.slice Ao29 y127.length co29)) g s0_0 t124 t125):=⟨by repeat (first|(with_reducible first|exact HI0.out|apply IsS112.alloc|apply IsS112.drewN|apply IsS112.drew|apply IsS112.set_1|apply IsS112.set_2|refine IsS112.far ?_ NB0_115.out _|refine IsS112.far ?_ NB0_116.out _)|exact HI0.out)⟩
            have n5_ : Aside0 (KeepBut w (w28.setCell ⟨gb116,0,none⟩ (.slice Ao29 y127.length co29)) g none):=⟨by repeat (first|(with_reducible first|exact HK.out|apply KeepBut.set_|apply keep_drewN|apply keep_drew|apply keep_alloc|refine keep_far ?_ GW115.out _|refine keep_far ?_ GW116.out _)|exact HK.out)⟩
            have n6_ : Aside0 (Below w0.heap.size w0 (w28.setCell ⟨gb116,0,none⟩ (.slice Ao29 y127.length co29))):=⟨by repeat (first|(with_reducible first|exact HB.out|apply below_alloc|apply pw_below_drewN|apply below_drew1|refine below_set ?_ (IsS112.ge HI0.out)|refine below_set ?_ GE115.out|refine below_set ?_ GE116.out)|exact HB.out)⟩
            (try clear HO_117001)
            (try clear HO129)
            (try clear BK115)
            (try clear BK116)
            (try clear HI0)
            (try clear HK)
            (try clear HB)
            generalize (w28.setCell ⟨gb116,0,none⟩ (.slice Ao29 y127.length co29)) = w31 at n0_ n1_ n2_ n3_ n4_ n5_ n6_ ⊢
            have HO_117001:=n0_
            have HO129:=n1_
            have BK115:=n2_
            have BK116:=n3_
            have HI0:=n4_
            have HK:=n5_
            have HB:=n6_
            clear n0_ n1_ n2_ n3_ n4_ n5_ n6_
            have n0_:=Aside0.mk (Kd.R_drew HO_117001.out)
            have n1_:=Aside0.mk (Kd.R_drew HO129.out)
            have n2_:=Aside0.mk (blk_drew BK115.out)
            have n3_:=Aside0.mk (blk_drew BK116.out)
            have n4_:=Aside0.mk (IsS112.drew HI0.out)
            have n5_:=Aside0.mk (keep_drew HK.out)
            have n6_:=Aside0.mk (below_drew1 HB.out)
            clear HO_117001
            clear HO129
            clear BK115
            clear BK116
            clear HI0
            clear HK
            clear HB
            have HO_117001:=n0_
            have HO129:=n1_
            have BK115:=n2_
            have BK116:=n3_
            have HI0:=n4_
            have HK:=n5_
            have HB:=n6_
            clear n0_ n1_ n2_ n3_ n4_ n5_ n6_
            refine start_ (n:=9) (S:=fun w' => w'.cell? ⟨gb116,0,none⟩ = some (.slice Ao29 y127.length co29) ∧ w'.cell? ⟨gb116,1,none⟩ = some (u117001)) (ds:=[8]) #[false,false,false,false,false,false,false,false,false] (by kernel_rfl) rfl rfl ⟨(blk_cell BK116.out 0).trans rfl,(blk_cell BK116.out 1).trans rfl⟩ (fun hHeld => ?_); refine with_tabW spec_l1Cur_rotation.tab12 spec_l1Cur_rotation.bits12 (fun HT_ HW_ => ?_)
            generalize w31.drew = w32 at HO_117001 HO129 BK115 BK116 HI0 HK HB hHeld ⊢
            refine pure_ (i:=0) (N:=some 60) (v:=?_) (a':=?_) #[true,false,false,false,false,false,false,false,false] rfl rfl (any_of HT_.out (by kernel_rfl)) (fun _ _ _ h => h) (Or.inl ⟨by rfl,?_⟩) ?_ ?_
            rotate_left
            ·intro w'
             go_simp
             with_reducible rfl
            rotate_left
            ·simp only [Act.put,List.setIfInBounds_toArray,List.set_cons_zero,List.set_cons_succ,i64_w,i32_w]
             rfl
            refine pure_ (i:=2) (N:=some 62) (v:=?_) (a':=?_) #[true,false,true,false,false,false,false,false,false] rfl rfl (any_of HT_.out (by kernel_rfl)) (fun _ _ _ h => h) (Or.inl ⟨by rfl,?_⟩) ?_ ?_
            rotate_left
            ·intro w'
             go_simp
             with_reducible rfl
            rotate_left
            ·simp only [Act.put,List.setIfInBounds_toArray,List.set_cons_zero,List.set_cons_succ,i64_w,i32_w]
             rfl
            refine take_ (i:=1) (N:=some 61) (v:=?_) (a':=?_) #[true,true,true,false,false,false,false,false,false] rfl rfl (take_ofW HT_.out HW_.out (by kernel_rfl)) (fun _ _ _ h => h) (Or.inl ⟨by rfl,?_⟩) hHeld ?_ ?_
            rotate_left
            ·rintro w' ⟨s0,s1⟩
             go_simp
             with_reducible rfl
            rotate_left
            ·simp only [Act.put,List.setIfInBounds_toArray,List.set_cons_zero,List.set_cons_succ,i64_w,i32_w]
             rfl
            refine one_ (i:=3) (N:=some 63) #[true,true,true,true,false,false,false,false,false] rfl rfl (one_of HT_.out (by kernel_rfl)) (by decide) (fun K hK => ?_)
            refine Kd.R_lit_step (Kd.int .i64) _ 3 ?hg (N:=63) ?hd (xs:=([1,2,3,5,10,40] : List Int)) (inner:=[.int .i64 1,.int .i64 2,.int .i64 3,.int .i64 5,.int .i64 10,.int .i64 40]) (ok:=fun _ => True) (okp:=fun _ => True) ?hr ?hp (fun _ hk => hk) trivial (Below.refl _ _) (Nat.le_refl _) (by simp) ?_; (case hd => rfl); (case hg => rfl); (case hr => first|(go_simp; done)|(go_simp; rfl)); (case hp => exact (Reps.one (show Kd.M (Kd.int .i64) _ _ _ 1 [.int .i64 1] from rfl) (Reps.one (show Kd.M (Kd.int .i64) _ _ _ 2 [.int .i64 2] from rfl) (Reps.one (show Kd.M (Kd.int .i64) _ _ _ 3 [.int .i64 3] from rfl) (Reps.one (show Kd.M (Kd.int .i64) _ _ _ 5 [.int .i64 5] from rfl) (Reps.one (show Kd.M (Kd.int .i64) _ _ _ 10 [.int .i64 10] from rfl) (Reps.one (show Kd.M (Kd.int .i64) _ _ _ 40 [.int .i64 40] from rfl) (Reps.none _ _))))))))
            intro v131 w33 ho34 hb hg_ hnew_
            clear hg_ hnew_
            (first|rw [← Ny130.out] at ho34|(simp only [Int.reduceToNat] at ho34; rw [← Ny130.out] at ho34))
            have n0_:=Aside0.mk (Kd.R_elder' (by (with_reducible repeat (first|apply Kd.R_alloc|apply Kd.R_drewN|apply Kd.R_drew)); exact HO_117001.out) (Kd.R_base ho34) hb)
            have n1_:=Aside0.mk (Kd.R_elder' (by (with_reducible repeat (first|apply Kd.R_alloc|apply Kd.R_drewN|apply Kd.R_drew)); exact HO129.out) (Kd.R_base ho34) hb)
            have n2_:=Aside0.mk (Kd.R_lower (Kd.R_new' (Kd.R_new' ho34 (Kd.R_lt (by (with_reducible repeat (first|apply Kd.R_alloc|apply Kd.R_drewN|apply Kd.R_drew)); exact HO_117001.out))) (Kd.R_lt (by (with_reducible repeat (first|apply Kd.R_alloc|apply Kd.R_drewN|apply Kd.R_drew)); exact HO129.out))) (keep_size (w:=w) (g:=g) (row:=none) (by repeat (first|(with_reducible first|exact HK.out|apply KeepBut.set_|apply keep_drewN|apply keep_drew|apply keep_alloc|refine keep_far ?_ GW115.out _|refine keep_far ?_ GW116.out _)|exact HK.out))))
            have n3_:=Aside0.mk (blk_below (g:=gb115) (o:=.cells #[.slice none 0 0,.slice none 0 0] 26 (0,0)) (by (with_reducible repeat (first|refine blk_drewN ?_ _|refine blk_drew ?_|refine blk_alloc ?_ _)); exact BK115.out) hb)
            have n4_:=Aside0.mk (blk_below (g:=gb116) (o:=.cells #[.slice Ao29 y127.length co29,u117001] 26 (0,0)) (by (with_reducible repeat (first|refine blk_drewN ?_ _|refine blk_drew ?_|refine blk_alloc ?_ _)); exact BK116.out) hb)
            have n5_:=Aside0.mk (IsS112.below (by repeat (first|(with_reducible first|exact HI0.out|apply IsS112.alloc|apply IsS112.drewN|apply IsS112.drew|apply IsS112.set_1|apply IsS112.set_2|refine IsS112.far ?_ NB0_115.out _|refine IsS112.far ?_ NB0_116.out _)|exact HI0.out)) hb)
            have n6_:=Aside0.mk (KeepBut.trans (by repeat (first|(with_reducible first|exact HK.out|apply KeepBut.set_|apply keep_drewN|apply keep_drew|apply keep_alloc|refine keep_far ?_ GW115.out _|refine keep_far ?_ GW116.out _)|exact HK.out)) (KeepBut.of_below hb g none) (.inl rfl))
            have n7_:=Aside0.mk (below_step (by repeat (first|(with_reducible first|exact HB.out|apply below_alloc|apply pw_below_drewN|apply below_drew1|refine below_set ?_ (IsS112.ge HI0.out)|refine below_set ?_ GE115.out|refine below_set ?_ GE116.out)|exact HB.out)) hb)
            clear HO_117001
            clear HO129
            clear BK115
            clear BK116
            clear HI0
            clear HK
            clear HB
            have HO_117001:=n0_
            have HO129:=n1_
            have HO132:=n2_
            have BK115:=n3_
            have BK116:=n4_
            have HI0:=n5_
            have HK:=n6_
            have HB:=n7_
            clear n0_ n1_ n2_ n3_ n4_ n5_ n6_ n7_
            clear hb ho34
            obtain ⟨Ao35,co35,eo35⟩:=Kd.R_slice HO132.out
            (first|subst eo35|(injection eo35 with f1_ f2_ f3_; have f4_:=f1_.symm; have f5_:=f3_.symm; clear f1_ f2_ f3_; subst f4_; subst f5_))
            refine hK.out _ _ ⟨(blk_cell BK116.out 0).trans rfl,(blk_cell BK116.out 1).trans rfl⟩ (fun hHeld => ?_)
            clear hK K
            refine norm_ (a':=?_) ?_ ?_
            rotate_left
            ·show Act.put _ (some 63) _ = _
             simp only [Act.put,List.setIfInBounds_toArray,List.set_cons_zero,List.set_cons_succ,i64_w,i32_w]
             rfl
            refine one_ (i:=4) (N:=some 64) #[true,true,true,true,true,false,false,false,false] rfl rfl (one_of HT_.out (by kernel_rfl)) (by decide) (fun K hK => ?_)
            refine goes_ Try.func114 (by kernel_rfl) rfl #[.pointer (some ⟨g,0,none⟩),.slice Ao35 y130.length co35] (by rfl) rfl rfl (by (try simp only [List.map_toArray,List.map_cons,List.map_nil]); first|done|rfl|(simp only [List.length_drop,List.length_take]; rfl)) ?_
            with_reducible refine (spec_l1Cur_among.calls g s0_0 t124 t125 _ _ y130 t133 t134 t135 w0 _ ?side1 ?side2 ?side3 ?side4 ?side5 A21.out).mono ?_
            (case side1 => repeat (first|(with_reducible first|exact HI0.out|apply IsS112.alloc|apply IsS112.drewN|apply IsS112.drew|apply IsS112.set_1|apply IsS112.set_2|refine IsS112.far ?_ NB0_115.out _|refine IsS112.far ?_ NB0_116.out _)|exact HI0.out))
            (case side2 => repeat (first|(with_reducible first|exact HB.out|apply below_alloc|apply pw_below_drewN|apply below_drew1|refine below_set ?_ (IsS112.ge HI0.out)|refine below_set ?_ GE115.out|refine below_set ?_ GE116.out)|exact HB.out))
            (case side3 => repeat (first|exact (Kd.R_reads' HO132.out).2.2|(with_reducible refine Kd.C_alloc ?_ _)|(with_reducible refine Kd.C_drewN ?_ _)|(with_reducible refine Kd.C_drew ?_)))
            (case side4 => exact (Kd.R_reads' HO132.out).2.1)
            (case side5 => exact far_slice (IsS112.own_ne HI0.out HO132.out (by decide)))
            rintro e w36 ⟨rfl,hi,hb,hk⟩
            refine ⟨_,rfl,?_⟩
            have n0_:=Aside0.mk (Kd.R_mono (Kd.R_keep (IsS112.apart (show IsS112 w0 _ g s0_0 t124 t125 from by repeat (first|(with_reducible first|exact HI0.out|apply IsS112.alloc|apply IsS112.drewN|apply IsS112.drew|apply IsS112.set_1|apply IsS112.set_2|refine IsS112.far ?_ NB0_115.out _|refine IsS112.far ?_ NB0_116.out _)|exact HI0.out)) (by (with_reducible repeat (first|apply Kd.R_alloc|apply Kd.R_drewN|apply Kd.R_drew)); exact HO_117001.out) (by decide)) hk (fun _ h => h.2)) (fun _ h => h.1))
            have n1_:=Aside0.mk (KeepBut.blk hk (g':=gb115) (o:=.cells #[.slice none 0 0,.slice none 0 0] 26 (0,0)) (by (with_reducible repeat (first|refine blk_drewN ?_ _|refine blk_drew ?_|refine blk_alloc ?_ _)); exact BK115.out) NB115_0.out (by simp))
            have n2_:=Aside0.mk (KeepBut.blk hk (g':=gb116) (o:=.cells #[.slice Ao29 y127.length co29,u117001] 26 (0,0)) (by (with_reducible repeat (first|refine blk_drewN ?_ _|refine blk_drew ?_|refine blk_alloc ?_ _)); exact BK116.out) NB116_0.out (by simp))
            have n3_:=Aside0.mk (Kd.R_mono (Kd.R_keep (IsS112.apart (show IsS112 w0 _ g s0_0 t124 t125 from by repeat (first|(with_reducible first|exact HI0.out|apply IsS112.alloc|apply IsS112.drewN|apply IsS112.drew|apply IsS112.set_1|apply IsS112.set_2|refine IsS112.far ?_ NB0_115.out _|refine IsS112.far ?_ NB0_116.out _)|exact HI0.out)) (by (with_reducible repeat (first|apply Kd.R_alloc|apply Kd.R_drewN|apply Kd.R_drew)); exact HO129.out) (by decide)) hk (fun _ h => h.2)) (fun _ h => h.1))
            have n4_:=Aside0.mk (Kd.R_mono (Kd.R_keep (IsS112.apart (show IsS112 w0 _ g s0_0 t124 t125 from by repeat (first|(with_reducible first|exact HI0.out|apply IsS112.alloc|apply IsS112.drewN|apply IsS112.drew|apply IsS112.set_1|apply IsS112.set_2|refine IsS112.far ?_ NB0_115.out _|refine IsS112.far ?_ NB0_116.out _)|exact HI0.out)) (by (with_reducible repeat (first|apply Kd.R_alloc|apply Kd.R_drewN|apply Kd.R_drew)); exact HO132.out) (by decide)) hk (fun _ h => h.2)) (fun _ h => h.1))
            have n5_:=Aside0.mk (KeepBut.trans (by repeat (first|(with_reducible first|exact HK.out|apply KeepBut.set_|apply keep_drewN|apply keep_drew|apply keep_alloc|refine keep_far ?_ GW115.out _|refine keep_far ?_ GW116.out _)|exact HK.out)) hk (.inl rfl))
            have n6_:=Aside0.mk (hb)
            have n7_:=Aside0.mk (hi)
            clear HO_117001
            clear BK115
            clear BK116
            clear HO129
            clear HO132
            clear HK
            clear HB
            clear HI0
            have HO_117001:=n0_
            have BK115:=n1_
            have BK116:=n2_
            have HO129:=n3_
            have HO132:=n4_
            have HK:=n5_
            have HB:=n6_
            have HI0:=n7_
            clear n0_ n1_ n2_ n3_ n4_ n5_ n6_ n7_
            (try clear hb)
            (try clear hb2)
            (try clear hk)
            (try clear hi)
            refine hK.out _ _ ⟨(blk_cell BK116.out 0).trans rfl,(blk_cell BK116.out 1).trans rfl⟩ (fun hHeld => ?_)
            clear hK K
            refine norm_ (a':=?_) ?_ ?_
            rotate_left
            ·show Act.put _ (some 64) _ = _
             simp only [Act.put,List.setIfInBounds_toArray,List.set_cons_zero,List.set_cons_succ,i64_w,i32_w]
             rfl
            refine one_ (i:=5) (N:=some 65) #[true,true,true,true,true,true,false,false,false] rfl rfl (one_of HT_.out (by kernel_rfl)) (by decide) (fun K hK => ?_)
            refine value_ (w1:=?_) (v:=?_) (by rfl) rfl ?_ ?_
            rotate_left 2
            ·go_simp
             constructor
             ·rfl
             ·rfl
            refine hK.out _ _ ⟨(blk_cell (blk_alloc BK116.out _) 0).trans rfl,(blk_cell (blk_alloc BK116.out _) 1).trans rfl⟩ (fun hHeld => ?_)
            clear hK K
            refine norm_ (a':=?_) ?_ ?_
            rotate_left
            ·show Act.put _ (some 65) _ = _
             simp only [Act.put,List.setIfInBounds_toArray,List.set_cons_zero,List.set_cons_succ,i64_w,i32_w]
             rfl
            refine one_ (i:=6) (N:=some 66) #[true,true,true,true,true,true,true,false,false] rfl rfl (one_of HT_.out (by kernel_rfl)) (by decide) (fun K hK => ?_)
            refine Kd.R_append_step (Kd.int .i64) w.heap.size (by rfl) (.tmp 61) (.tmp 65) 24 3 (.int .i64 0) 8 rfl Try.underlying24 info3 rfl (by decide) (by omega) u117001 x117001_2 t133 [.int .i64 t133] (fun k_ => some k_ ≠ (.slice Ao29 y127.length co29 : Value).ownBlock ∧ some k_ ≠ (.slice Ao35 y130.length co35 : Value).ownBlock) (fun _ => False) rfl rfl ?aP (fun _ hk => hk.elim) ?aF ?aO (Below.refl _ _) ?aS ?aL ?_
            (case aP => exact rfl)
            (case aF => exact (fun k_ hk => ⟨Kd.fresh' (Kd.R_lt (by (with_reducible repeat (first|apply Kd.R_alloc|apply Kd.R_drewN|apply Kd.R_drew)); exact HO129.out)) k_ hk,Kd.fresh' (Kd.R_lt (by (with_reducible repeat (first|apply Kd.R_alloc|apply Kd.R_drewN|apply Kd.R_drew)); exact HO132.out)) k_ hk⟩))
            (case aO => exact (by (with_reducible repeat (first|apply Kd.R_alloc|apply Kd.R_drewN|apply Kd.R_drew)); exact HO_117001.out))
            (case aS => exact (keep_size (w:=w) (g:=g) (row:=none) (by repeat (first|(with_reducible first|exact HK.out|apply KeepBut.set_|apply keep_drewN|apply keep_drew|apply keep_alloc|refine keep_far ?_ GW115.out _|refine keep_far ?_ GW116.out _)|exact HK.out))))
            (case aL => have:=LMc22.out; omega)
            intro v137 w37 ho hb hg hat
            rw [← Ny136.out] at ho
            have n0_:=Aside0.mk (blk_grown (g:=gb115) (o:=.cells #[.slice none 0 0,.slice none 0 0] 26 (0,0)) (by (with_reducible repeat (first|refine blk_drewN ?_ _|refine blk_drew ?_|refine blk_alloc ?_ _)); exact BK115.out) hg (Kd.R_ne HO_117001.out BK115.out (by decide)))
            have n1_:=Aside0.mk (blk_grown (g:=gb116) (o:=.cells #[.slice Ao29 y127.length co29,u117001] 26 (0,0)) (by (with_reducible repeat (first|refine blk_drewN ?_ _|refine blk_drew ?_|refine blk_alloc ?_ _)); exact BK116.out) hg (Kd.R_ne HO_117001.out BK116.out (by decide)))
            have n2_:=Aside0.mk (IsS112.grown (by repeat (first|(with_reducible first|exact HI0.out|apply IsS112.alloc|apply IsS112.drewN|apply IsS112.drew|apply IsS112.set_1|apply IsS112.set_2|refine IsS112.far ?_ NB0_115.out _|refine IsS112.far ?_ NB0_116.out _)|exact HI0.out)) hg (IsS112.own_ne HI0.out HO_117001.out (by decide)))
            have n3_:=Aside0.mk (Kd.R_after (ok:=(fun k_ => some k_ ≠ (.slice Ao35 y130.length co35 : Value).ownBlock)) (by (with_reducible repeat (first|apply Kd.R_alloc|apply Kd.R_drewN|apply Kd.R_drew)); exact Kd.R_mono HO129.out (fun _ hk => ⟨hk.2,hk.1⟩)) hg hat)
            have n4_:=Aside0.mk (Kd.R_after (ok:=(fun k_ => some k_ ≠ (.slice Ao29 y127.length co29 : Value).ownBlock)) (by (with_reducible repeat (first|apply Kd.R_alloc|apply Kd.R_drewN|apply Kd.R_drew)); exact Kd.R_mono HO132.out (fun _ hk => ⟨hk.2,hk.1.2⟩)) hg hat)
            have n5_:=Aside0.mk (below_weaken (by repeat (first|(with_reducible first|exact HB.out|apply below_alloc|apply pw_below_drewN|apply below_drew1|refine below_set ?_ (IsS112.ge HI0.out)|refine below_set ?_ GE115.out|refine below_set ?_ GE116.out)|exact HB.out)) HL.out hb)
            have n6_:=Aside0.mk (KeepBut.trans (by repeat (first|(with_reducible first|exact HK.out|apply KeepBut.set_|apply keep_drewN|apply keep_drew|apply keep_alloc|refine keep_far ?_ GW115.out _|refine keep_far ?_ GW116.out _)|exact HK.out)) (KeepBut.of_grown hg g) (Kd.R_base2 HO_117001.out))
            have n7_:=Aside0.mk (ho)
            clear BK115
            clear BK116
            clear HI0
            clear HO129
            clear HO132
            clear HB
            clear HK
            clear HO_117001
            have BK115:=n0_
            have BK116:=n1_
            have HI0:=n2_
            have HO129:=n3_
            have HO132:=n4_
            have HB:=n5_
            have HK:=n6_
            have HO138:=n7_
            clear n0_ n1_ n2_ n3_ n4_ n5_ n6_ n7_
            clear ho hb hg hat
            obtain ⟨Ao38,co38,eo38⟩:=Kd.R_slice HO138.out
            (first|subst eo38|(injection eo38 with f1_ f2_ f3_; have f4_:=f1_.symm; have f5_:=f3_.symm; clear f1_ f2_ f3_; subst f4_; subst f5_))
            refine hK.out _ _ ⟨(blk_cell BK116.out 0).trans rfl,(blk_cell BK116.out 1).trans rfl⟩ (fun hHeld => ?_)
            clear hK K
            refine norm_ (a':=?_) ?_ ?_
            rotate_left
            ·show Act.put _ (some 66) _ = _
             simp only [Act.put,List.setIfInBounds_toArray,List.set_cons_zero,List.set_cons_succ,i64_w,i32_w]
             rfl
            refine pure_ (i:=7) (N:=some 67) (v:=?_) (a':=?_) #[true,true,true,true,true,true,true,true,false] rfl rfl (any_of HT_.out (by kernel_rfl)) (fun _ _ _ h => h) (Or.inl ⟨by rfl,?_⟩) ?_ ?_
            rotate_left
            ·intro w'
             go_simp
             with_reducible rfl
            rotate_left
            ·simp only [Act.put,List.setIfInBounds_toArray,List.set_cons_zero,List.set_cons_succ,i64_w,i32_w]
             rfl
            refine last_ (i:=8) (N:=none) #[true,true,true,true,true,true,true,true,true] rfl rfl (one_of HT_.out (by kernel_rfl)) (by decide) (fun K hK => ?_)
            have hs39 : w37.cell? ⟨gb116,1,none⟩ = some (u117001):=(blk_cell BK116.out 1).trans rfl
            have hfs39:=blk_frozen BK116.out 1
            have hns39_0:=NB115_116.out
            have hms39_0:=NB116_115.out
            refine skip_ (w1:=?_) (by rfl) rfl ?_ ?_
            rotate_left
            ·go_simp
             rfl
            refine hK.out _ _ ?_
            clear hK K
            refine done_ (done_of HT_.out (by kernel_rfl)) ?_
            try go_wp2
            go_roundg k2
            case measure => have:=HJ3.out; have:=HK2.out; omega
            case rel => exact ⟨(wrap64 (x5_2 + 1)),(t134),(t135),(y127),(y136),(.slice Ao29 y127.length co29),(.slice Ao38 y136.length co38),(by first|rfl|(simp; done)|(simp [*]; done)),H',⟨by have:=HJ3.out; have:=HK2.out; omega⟩,⟨by (with_reducible repeat (first|apply Kd.R_alloc|apply Kd.R_drewN|apply Kd.R_drew)); exact Kd.R_mono (Kd.R_far (p:=⟨gb116,1,none⟩) (Kd.R_types HO129.out BK116.out (by decide)) (fun _ hk => hk.2) (.slice Ao38 y136.length co38)) (fun _ hk => hk.1.2)⟩,⟨by (with_reducible repeat (first|apply Kd.R_alloc|apply Kd.R_drewN|apply Kd.R_drew)); exact Kd.R_mono (Kd.R_far (p:=⟨gb116,1,none⟩) (Kd.R_types HO138.out BK116.out (by decide)) (fun _ hk => hk.2) (.slice Ao38 y136.length co38)) (fun _ hk => hk.1.1)⟩,⟨by (with_reducible repeat (first|refine blk_drewN ?_ _|refine blk_drew ?_|refine blk_alloc ?_ _)); refine blk_far ?_ NB115_116.out _; (with_reducible repeat (first|refine blk_drewN ?_ _|refine blk_drew ?_|refine blk_alloc ?_ _)); exact BK115.out⟩,⟨by (with_reducible repeat (first|refine blk_drewN ?_ _|refine blk_drew ?_|refine blk_alloc ?_ _)); refine blk_put (cs:=#[.slice Ao29 y127.length co29,u117001]) ?_ 1 _ rfl; (with_reducible repeat (first|refine blk_drewN ?_ _|refine blk_drew ?_|refine blk_alloc ?_ _)); exact BK116.out⟩,⟨by repeat (first|(with_reducible first|exact HI0.out|apply IsS112.alloc|apply IsS112.drewN|apply IsS112.drew|apply IsS112.set_1|apply IsS112.set_2|refine IsS112.far ?_ NB0_115.out _|refine IsS112.far ?_ NB0_116.out _)|exact HI0.out)⟩,⟨by repeat (first|(with_reducible first|exact HK.out|apply KeepBut.set_|apply keep_drewN|apply keep_drew|apply keep_alloc|refine keep_far ?_ GW115.out _|refine keep_far ?_ GW116.out _)|exact HK.out)⟩,⟨by repeat (first|(with_reducible first|exact HB.out|apply below_alloc|apply pw_below_drewN|apply below_drew1|refine below_set ?_ (IsS112.ge HI0.out)|refine below_set ?_ GE115.out|refine below_set ?_ GE116.out)|exact HB.out)⟩⟩
           ·rw [if_neg c22] at H
            exact absurd H (by simp)
          ·rw [if_neg c20] at H
           exact absurd H (by simp)
         ·rw [if_neg c19] at H
          have c19b0 : ((wrap64 (1 + t123)) == (rd x117000_2 (ji16))) = false:=beq_eq_false_iff_ne.mpr c19
          have c19b1 : ((wrap64 (1 + t123)) != (rd x117000_2 (ji16))) = true:=bne_iff_ne.mpr c19
          by_cases c40 : x5_2 = (wrap64 (x4_3 - 1))
          ·rw [if_pos c40] at H
           have c40b0 : (x5_2 == (wrap64 (x4_3 - 1))) = true:=beq_iff_eq.mpr c40
           have c40b1 : (x5_2 != (wrap64 (x4_3 - 1))) = false:=bne_eq_false_iff_eq.mpr c40
           clear c40
           by_cases c41 : 0 < (x117000_2.length : Int)
           ·rw [if_pos c41] at H
            have c41b0 : decide (0 < (x117000_2.length : Int)) = true:=decide_eq_true c41
            have c41b1 : decide (0 < x117000_2.length) = true:=decide_eq_true (by omega)
            clear c41
            by_cases c42 : (wrap64 (1 + t123)) = (rd x117000_2 0)
            ·rw [if_pos c42] at H
             have c42b0 : ((wrap64 (1 + t123)) == (rd x117000_2 0)) = true:=beq_iff_eq.mpr c42
             have c42b1 : ((wrap64 (1 + t123)) != (rd x117000_2 0)) = false:=bne_eq_false_iff_eq.mpr c42
             clear c42
             by_cases c43 : x117000_2.length < 17592186044416
             ·rw [if_pos c43] at H
              have LMc43:=Aside0.mk c43
              clear c43
              obtain ⟨y140,hy140⟩ : ∃ y_ : List Int,y_ = (x117000_2 ++ [wrap64 (6 + (Int.tmod x5_2 3))]):=⟨_,rfl⟩
              replace H : ((spec_l1Cur_among.f s0_0 t124 t125 (([1,2,3,5,10,40] : List Int))).bind fun bt146 => (if x117001_2.length < 17592186044416 then (spec_l1Cur_rotation.l0 k2 x4_3 (wrap64 (x5_2 + 1)) s0_0 bt146.2.1 bt146.2.2 y140 (x117001_2 ++ [bt146.1])) else (none))) = some (r1,r2,r3,r4):=by first|(rw [hy140]; with_reducible exact H)|(have H2_:=(Option.bind_some _ _).symm.trans H; rw [hy140]; with_reducible exact H2_)|(have H2_:=(Option.bind_some _ _).symm.trans H; with_reducible exact H2_)|with_reducible exact H|(rw [hy140]; exact H)|exact H
              have Ny140:=Aside0.mk hy140
              clear hy140
              obtain ⟨y143,hy143⟩ : ∃ y_ : List Int,y_ = (([1,2,3,5,10,40] : List Int)):=⟨_,rfl⟩
              replace H : ((spec_l1Cur_among.f s0_0 t124 t125 y143).bind fun bt146 => (if x117001_2.length < 17592186044416 then (spec_l1Cur_rotation.l0 k2 x4_3 (wrap64 (x5_2 + 1)) s0_0 bt146.2.1 bt146.2.2 y140 (x117001_2 ++ [bt146.1])) else (none))) = some (r1,r2,r3,r4):=by first|(rw [hy143]; with_reducible exact H)|(have H2_:=(Option.bind_some _ _).symm.trans H; rw [hy143]; with_reducible exact H2_)|(have H2_:=(Option.bind_some _ _).symm.trans H; with_reducible exact H2_)|with_reducible exact H|(rw [hy143]; exact H)|exact H
              have Ny143:=Aside0.mk hy143
              clear hy143
              replace H:=Option.bind_eq_some_iff.mp H
              obtain ⟨⟨t146,t147,t148⟩,A440,H⟩:=H
              replace H : (if x117001_2.length < 17592186044416 then (spec_l1Cur_rotation.l0 k2 x4_3 (wrap64 (x5_2 + 1)) s0_0 t147 t148 y140 (x117001_2 ++ [t146])) else (none)) = some (r1,r2,r3,r4):=H
              have A44:=Aside0.mk A440
              clear A440
              by_cases c45 : x117001_2.length < 17592186044416
              ·rw [if_pos c45] at H
               have LMc45:=Aside0.mk c45
               clear c45
               obtain ⟨y149,hy149⟩ : ∃ y_ : List Int,y_ = (x117001_2 ++ [t146]):=⟨_,rfl⟩
               replace H : (spec_l1Cur_rotation.l0 k2 x4_3 (wrap64 (x5_2 + 1)) s0_0 t147 t148 y140 y149) = some (r1,r2,r3,r4):=by first|(rw [hy149]; with_reducible exact H)|(have H2_:=(Option.bind_some _ _).symm.trans H; rw [hy149]; with_reducible exact H2_)|(have H2_:=(Option.bind_some _ _).symm.trans H; with_reducible exact H2_)|with_reducible exact H|(rw [hy149]; exact H)|exact H
               have Ny149:=Aside0.mk hy149
               clear hy149
               have H':=Aside0.mk H
               clear H
               try go_wp2_with (first|((with_reducible refine gate_callee (f:=97) rfl ?_); refine goesL_ (some 19) rfl rfl Try.func97 (by kernel_rfl) rfl #[.pointer (some ⟨g,0,none⟩),.int .i64 5] rfl (by (try simp only [List.map_toArray,List.map_cons,List.map_nil]); first|done|rfl|(simp only [List.length_drop,List.length_take]; rfl)) ?_; (with_reducible refine (spec_l1Cur_pick.calls g s0_0 x1001_2 x1002_2 5 t123 t124 t125 w0 _ ?side1 ?side2 A14.out).mono ?_); (case side1 => repeat (first|(with_reducible first|exact HI0.out|apply IsS112.alloc|apply IsS112.drewN|apply IsS112.drew|apply IsS112.set_1|apply IsS112.set_2|refine IsS112.far ?_ NB0_115.out _|refine IsS112.far ?_ NB0_116.out _)|exact HI0.out)); (case side2 => repeat (first|(with_reducible first|exact HB.out|apply below_alloc|apply pw_below_drewN|apply below_drew1|refine below_set ?_ (IsS112.ge HI0.out)|refine below_set ?_ GE115.out|refine below_set ?_ GE116.out)|exact HB.out)); rintro e w46 ⟨rfl,hi,hb,hk⟩; refine ⟨_,rfl,?_⟩; have n0_:=Aside0.mk (Kd.R_mono (Kd.R_keep (IsS112.apart (show IsS112 w0 _ g s0_0 x1001_2 x1002_2 from by repeat (first|(with_reducible first|exact HI0.out|apply IsS112.alloc|apply IsS112.drewN|apply IsS112.drew|apply IsS112.set_1|apply IsS112.set_2|refine IsS112.far ?_ NB0_115.out _|refine IsS112.far ?_ NB0_116.out _)|exact HI0.out)) (by (with_reducible repeat (first|apply Kd.R_alloc|apply Kd.R_drewN|apply Kd.R_drew)); exact HO_117000.out) (by decide)) hk (fun _ h => h.2)) (fun _ h => h.1)); have n1_:=Aside0.mk (Kd.R_mono (Kd.R_keep (IsS112.apart (show IsS112 w0 _ g s0_0 x1001_2 x1002_2 from by repeat (first|(with_reducible first|exact HI0.out|apply IsS112.alloc|apply IsS112.drewN|apply IsS112.drew|apply IsS112.set_1|apply IsS112.set_2|refine IsS112.far ?_ NB0_115.out _|refine IsS112.far ?_ NB0_116.out _)|exact HI0.out)) (by (with_reducible repeat (first|apply Kd.R_alloc|apply Kd.R_drewN|apply Kd.R_drew)); exact HO_117001.out) (by decide)) hk (fun _ h => h.2)) (fun _ h => h.1)); have n2_:=Aside0.mk (KeepBut.blk hk (g':=gb115) (o:=.cells #[.slice none 0 0,.slice none 0 0] 26 (0,0)) (by (with_reducible repeat (first|refine blk_drewN ?_ _|refine blk_drew ?_|refine blk_alloc ?_ _)); exact BK115.out) NB115_0.out (by simp)); have n3_:=Aside0.mk (KeepBut.blk hk (g':=gb116) (o:=.cells #[u117000,u117001] 26 (0,0)) (by (with_reducible repeat (first|refine blk_drewN ?_ _|refine blk_drew ?_|refine blk_alloc ?_ _)); exact BK116.out) NB116_0.out (by simp)); have n4_:=Aside0.mk (KeepBut.trans (by repeat (first|(with_reducible first|exact HK.out|apply KeepBut.set_|apply keep_drewN|apply keep_drew|apply keep_alloc|refine keep_far ?_ GW115.out _|refine keep_far ?_ GW116.out _)|exact HK.out)) hk (.inl rfl)); have n5_:=Aside0.mk (hb); have n6_:=Aside0.mk (hi); clear HO_117000; clear HO_117001; clear BK115; clear BK116; clear HK; clear HB; clear HI0; have HO_117000:=n0_; have HO_117001:=n1_; have BK115:=n2_; have BK116:=n3_; have HK:=n4_; have HB:=n5_; have HI0:=n6_; clear n0_ n1_ n2_ n3_ n4_ n5_ n6_; (try clear hb); (try clear hb2); (try clear hk); (try clear hi); have hnb47:=NB116_115.out; have hnc47:=NB115_116.out; have hnb48:=NB116_0.out; have hnc48:=NB0_116.out; have hcz49_0 : w46.cell? ⟨gb116,0,none⟩ = some (u117000):=(blk_cell BK116.out 0).trans rfl; have hcz49_1 : w46.cell? ⟨gb116,1,none⟩ = some (u117001):=(blk_cell BK116.out 1).trans rfl; have hfz49_0:=blk_frozen BK116.out 0; have hfz49_1:=blk_frozen BK116.out 1; obtain ⟨Ao50,co50,eo50⟩:=Kd.R_slice HO_117000.out; subst eo50; have p126 : 0 ≤ ((ji16) : Int):=of_decide_eq_true (by first|(with_reducible assumption)|assumption); have q126 : (ji16) < (x117000_2.length : Int):=of_decide_eq_true (by first|(with_reducible assumption)|assumption); obtain ⟨ad126,e126,hx126_0⟩:=Kd.at_int (Kd.R_reads' HO_117000.out).2.2 (ji16) p126 q126; cases e126; replace p126:=eq_true p126; replace q126:=eq_true q126; have p139 : 0 ≤ (0 : Int):=(by omega); have q139 : 0 < (x117000_2.length : Int):=of_decide_eq_true (by first|(with_reducible assumption)|assumption); obtain ⟨ad139,e139,hx139_0⟩:=Kd.at_int (Kd.R_reads' HO_117000.out).2.2 0 p139 q139; obtain rfl : ad126 = ad139:=(by injection e139); have qi139 : (0 < x117000_2.length) = True:=eq_true (by omega); (try rw [show ((0 : Int)).toNat = 0 from rfl] at hx139_0); (try rw [Addr.add_zero'] at hx139_0); replace p139:=eq_true p139; replace q139:=eq_true q139)|((with_reducible refine gate_builtin (b:=.append) (xs:=#[.tmp 55,.tmp 57]) rfl ?_); at_builtin; refine Kd.R_append (Kd.int .i64) w.heap.size rfl (.tmp 55) (.tmp 57) 24 3 (.int .i64 0) 8 rfl Try.underlying24 info3 rfl (by decide) (by omega) (.slice (some ad126) x117000_2.length co50) x117000_2 (wrap64 (6 + (Int.tmod x5_2 3))) [.int .i64 (wrap64 (6 + (Int.tmod x5_2 3)))] (fun k_ => some k_ ≠ (u117001 : Value).ownBlock) (fun _ => False) rfl rfl ?aP (fun _ hk => hk.elim) ?aF ?aO (Below.refl _ _) ?aS ?aL ?_; (case aP => exact rfl); (case aF => exact (fun k_ hk => Kd.fresh' (Kd.R_lt (by (with_reducible repeat (first|apply Kd.R_alloc|apply Kd.R_drewN|apply Kd.R_drew)); exact HO_117001.out)) k_ hk)); (case aO => exact (by (with_reducible repeat (first|apply Kd.R_alloc|apply Kd.R_drewN|apply Kd.R_drew)); exact HO_117000.out)); (case aS => exact (keep_size (w:=w) (g:=g) (row:=none) (by repeat (first|(with_reducible first|exact HK.out|apply KeepBut.set_|apply keep_drewN|apply keep_drew|apply keep_alloc|refine keep_far ?_ GW115.out _|refine keep_far ?_ GW116.out _)|exact HK.out)))); (case aL => have:=LMc43.out; omega); intro v141 w51 ho hb hg hat; rw [← Ny140.out] at ho; have n0_:=Aside0.mk (Kd.R_after (ok:=(fun _ => True)) (by (with_reducible repeat (first|apply Kd.R_alloc|apply Kd.R_drewN|apply Kd.R_drew)); exact Kd.R_mono HO_117001.out (fun _ hk => ⟨trivial,hk⟩)) hg hat); have n1_:=Aside0.mk (blk_grown (g:=gb115) (o:=.cells #[.slice none 0 0,.slice none 0 0] 26 (0,0)) (by (with_reducible repeat (first|refine blk_drewN ?_ _|refine blk_drew ?_|refine blk_alloc ?_ _)); exact BK115.out) hg (Kd.R_ne HO_117000.out BK115.out (by decide))); have n2_:=Aside0.mk (blk_grown (g:=gb116) (o:=.cells #[.slice (some ad126) x117000_2.length co50,u117001] 26 (0,0)) (by (with_reducible repeat (first|refine blk_drewN ?_ _|refine blk_drew ?_|refine blk_alloc ?_ _)); exact BK116.out) hg (Kd.R_ne HO_117000.out BK116.out (by decide))); have n3_:=Aside0.mk (IsS112.grown (by repeat (first|(with_reducible first|exact HI0.out|apply IsS112.alloc|apply IsS112.drewN|apply IsS112.drew|apply IsS112.set_1|apply IsS112.set_2|refine IsS112.far ?_ NB0_115.out _|refine IsS112.far ?_ NB0_116.out _)|exact HI0.out)) hg (IsS112.own_ne HI0.out HO_117000.out (by decide))); have n4_:=Aside0.mk (below_weaken (by repeat (first|(with_reducible first|exact HB.out|apply below_alloc|apply pw_below_drewN|apply below_drew1|refine below_set ?_ (IsS112.ge HI0.out)|refine below_set ?_ GE115.out|refine below_set ?_ GE116.out)|exact HB.out)) HL.out hb); have n5_:=Aside0.mk (KeepBut.trans (by repeat (first|(with_reducible first|exact HK.out|apply KeepBut.set_|apply keep_drewN|apply keep_drew|apply keep_alloc|refine keep_far ?_ GW115.out _|refine keep_far ?_ GW116.out _)|exact HK.out)) (KeepBut.of_grown hg g) (Kd.R_base2 HO_117000.out)); have n6_:=Aside0.mk (ho); clear HO_117001; clear BK115; clear BK116; clear HI0; clear HB; clear HK; clear HO_117000; have HO_117001:=n0_; have BK115:=n1_; have BK116:=n2_; have HI0:=n3_; have HB:=n4_; have HK:=n5_; have HO142:=n6_; clear n0_ n1_ n2_ n3_ n4_ n5_ n6_; clear ho hb hg hat; obtain ⟨Ao52,co52,eo52⟩:=Kd.R_slice HO142.out; subst eo52; have hcz53_0 : w51.cell? ⟨gb116,0,none⟩ = some (.slice (some ad126) x117000_2.length co50):=(blk_cell BK116.out 0).trans rfl; have hcz53_1 : w51.cell? ⟨gb116,1,none⟩ = some (u117001):=(blk_cell BK116.out 1).trans rfl; have hfz53_0:=blk_frozen BK116.out 0; have hfz53_1:=blk_frozen BK116.out 1))
               have n0_ : Aside0 (Kd.R (Kd.int .i64) 3 (w51.setCell ⟨gb116,0,none⟩ (.slice Ao52 y140.length co52)) w.heap.size (fun k_ => some k_ ≠ (.slice Ao52 y140.length co52 : Value).ownBlock) u117001 x117001_2):=⟨by (with_reducible repeat (first|apply Kd.R_alloc|apply Kd.R_drewN|apply Kd.R_drew)); exact Kd.R_mono (Kd.R_far (p:=⟨gb116,0,none⟩) (Kd.R_types HO_117001.out BK116.out (by decide)) (fun _ hk => hk.2) (.slice Ao52 y140.length co52)) (fun _ hk => hk.1.2)⟩
               have n1_ : Aside0 (Kd.R (Kd.int .i64) 3 (w51.setCell ⟨gb116,0,none⟩ (.slice Ao52 y140.length co52)) w.heap.size (fun k_ => some k_ ≠ (u117001 : Value).ownBlock) (.slice Ao52 y140.length co52) y140):=⟨by (with_reducible repeat (first|apply Kd.R_alloc|apply Kd.R_drewN|apply Kd.R_drew)); exact Kd.R_mono (Kd.R_far (p:=⟨gb116,0,none⟩) (Kd.R_types HO142.out BK116.out (by decide)) (fun _ hk => hk.2) (.slice Ao52 y140.length co52)) (fun _ hk => hk.1)⟩
               have n2_ : Aside0 ((w51.setCell ⟨gb116,0,none⟩ (.slice Ao52 y140.length co52)).heap[gb115]? = some (.cells #[.slice none 0 0,.slice none 0 0] 26 (0,0))):=⟨by (with_reducible repeat (first|refine blk_drewN ?_ _|refine blk_drew ?_|refine blk_alloc ?_ _)); refine blk_far ?_ NB115_116.out _; (with_reducible repeat (first|refine blk_drewN ?_ _|refine blk_drew ?_|refine blk_alloc ?_ _)); exact BK115.out⟩
               have n3_ : Aside0 ((w51.setCell ⟨gb116,0,none⟩ (.slice Ao52 y140.length co52)).heap[gb116]? = some (.cells #[.slice Ao52 y140.length co52,u117001] 26 (0,0))):=⟨by (with_reducible repeat (first|refine blk_drewN ?_ _|refine blk_drew ?_|refine blk_alloc ?_ _)); refine blk_put (cs:=#[.slice (some ad126) x117000_2.length co50,u117001]) ?_ 0 _ rfl; (with_reducible repeat (first|refine blk_drewN ?_ _|refine blk_drew ?_|refine blk_alloc ?_ _)); exact BK116.out⟩
               have n4_ : Aside0 (IsS112 w0 (w51.setCell ⟨gb116,0,none⟩ (.slice Ao52 y140.length co52)) g s0_0 t124 t125):=⟨by repeat (first|(with_reducible first|exact HI0.out|apply IsS112.alloc|apply IsS112.drewN|apply IsS112.drew|apply IsS112.set_1|apply IsS112.set_2|refine IsS112.far ?_ NB0_115.out _|refine IsS112.far ?_ NB0_116.out _)|exact HI0.out)⟩
               have n5_ : Aside0 (KeepBut w (w51.setCell ⟨gb116,0,none⟩ (.slice Ao52 y140.length co52)) g none):=⟨by repeat (first|(with_reducible first|exact HK.out|apply KeepBut.set_|apply keep_drewN|apply keep_drew|apply keep_alloc|refine keep_far ?_ GW115.out _|refine keep_far ?_ GW116.out _)|exact HK.out)⟩
               have n6_ : Aside0 (Below w0.heap.size w0 (w51.setCell ⟨gb116,0,none⟩ (.slice Ao52 y140.length co52))):=⟨by repeat (first|(with_reducible first|exact HB.out|apply below_alloc|apply pw_below_drewN|apply below_drew1|refine below_set ?_ (IsS112.ge HI0.out)|refine below_set ?_ GE115.out|refine below_set ?_ GE116.out)|exact HB.out)⟩
               (try clear HO_117001)
               (try clear HO142)
               (try clear BK115)
               (try clear BK116)
               (try clear HI0)
               (try clear HK)
               (try clear HB)
               generalize (w51.setCell ⟨gb116,0,none⟩ (.slice Ao52 y140.length co52)) = w54 at n0_ n1_ n2_ n3_ n4_ n5_ n6_ ⊢
               have HO_117001:=n0_
               have HO142:=n1_
               have BK115:=n2_
               have BK116:=n3_
               have HI0:=n4_
               have HK:=n5_
               have HB:=n6_
               clear n0_ n1_ n2_ n3_ n4_ n5_ n6_
               have n0_:=Aside0.mk (Kd.R_drew HO_117001.out)
               have n1_:=Aside0.mk (Kd.R_drew HO142.out)
               have n2_:=Aside0.mk (blk_drew BK115.out)
               have n3_:=Aside0.mk (blk_drew BK116.out)
               have n4_:=Aside0.mk (IsS112.drew HI0.out)
               have n5_:=Aside0.mk (keep_drew HK.out)
               have n6_:=Aside0.mk (below_drew1 HB.out)
               clear HO_117001
               clear HO142
               clear BK115
               clear BK116
               clear HI0
               clear HK
               clear HB
               have HO_117001:=n0_
               have HO142:=n1_
               have BK115:=n2_
               have BK116:=n3_
               have HI0:=n4_
               have HK:=n5_
               have HB:=n6_
               clear n0_ n1_ n2_ n3_ n4_ n5_ n6_
               refine start_ (n:=9) (S:=fun w' => w'.cell? ⟨gb116,0,none⟩ = some (.slice Ao52 y140.length co52) ∧ w'.cell? ⟨gb116,1,none⟩ = some (u117001)) (ds:=[8]) #[false,false,false,false,false,false,false,false,false] (by kernel_rfl) rfl rfl ⟨(blk_cell BK116.out 0).trans rfl,(blk_cell BK116.out 1).trans rfl⟩ (fun hHeld => ?_); refine with_tabW spec_l1Cur_rotation.tab12 spec_l1Cur_rotation.bits12 (fun HT_ HW_ => ?_)
               generalize w54.drew = w55 at HO_117001 HO142 BK115 BK116 HI0 HK HB hHeld ⊢
               refine pure_ (i:=0) (N:=some 60) (v:=?_) (a':=?_) #[true,false,false,false,false,false,false,false,false] rfl rfl (any_of HT_.out (by kernel_rfl)) (fun _ _ _ h => h) (Or.inl ⟨by rfl,?_⟩) ?_ ?_
               rotate_left
               ·intro w'
                go_simp
                with_reducible rfl
               rotate_left
               ·simp only [Act.put,List.setIfInBounds_toArray,List.set_cons_zero,List.set_cons_succ,i64_w,i32_w]
                rfl
               refine pure_ (i:=2) (N:=some 62) (v:=?_) (a':=?_) #[true,false,true,false,false,false,false,false,false] rfl rfl (any_of HT_.out (by kernel_rfl)) (fun _ _ _ h => h) (Or.inl ⟨by rfl,?_⟩) ?_ ?_
               rotate_left
               ·intro w'
                go_simp
                with_reducible rfl
               rotate_left
               ·simp only [Act.put,List.setIfInBounds_toArray,List.set_cons_zero,List.set_cons_succ,i64_w,i32_w]
                rfl
               refine take_ (i:=1) (N:=some 61) (v:=?_) (a':=?_) #[true,true,true,false,false,false,false,false,false] rfl rfl (take_ofW HT_.out HW_.out (by kernel_rfl)) (fun _ _ _ h => h) (Or.inl ⟨by rfl,?_⟩) hHeld ?_ ?_
               rotate_left
               ·rintro w' ⟨s0,s1⟩
                go_simp
                with_reducible rfl
               rotate_left
               ·simp only [Act.put,List.setIfInBounds_toArray,List.set_cons_zero,List.set_cons_succ,i64_w,i32_w]
                rfl
               refine one_ (i:=3) (N:=some 63) #[true,true,true,true,false,false,false,false,false] rfl rfl (one_of HT_.out (by kernel_rfl)) (by decide) (fun K hK => ?_)
               refine Kd.R_lit_step (Kd.int .i64) _ 3 ?hg (N:=63) ?hd (xs:=([1,2,3,5,10,40] : List Int)) (inner:=[.int .i64 1,.int .i64 2,.int .i64 3,.int .i64 5,.int .i64 10,.int .i64 40]) (ok:=fun _ => True) (okp:=fun _ => True) ?hr ?hp (fun _ hk => hk) trivial (Below.refl _ _) (Nat.le_refl _) (by simp) ?_; (case hd => rfl); (case hg => rfl); (case hr => first|(go_simp; done)|(go_simp; rfl)); (case hp => exact (Reps.one (show Kd.M (Kd.int .i64) _ _ _ 1 [.int .i64 1] from rfl) (Reps.one (show Kd.M (Kd.int .i64) _ _ _ 2 [.int .i64 2] from rfl) (Reps.one (show Kd.M (Kd.int .i64) _ _ _ 3 [.int .i64 3] from rfl) (Reps.one (show Kd.M (Kd.int .i64) _ _ _ 5 [.int .i64 5] from rfl) (Reps.one (show Kd.M (Kd.int .i64) _ _ _ 10 [.int .i64 10] from rfl) (Reps.one (show Kd.M (Kd.int .i64) _ _ _ 40 [.int .i64 40] from rfl) (Reps.none _ _))))))))
               intro v144 w56 ho57 hb hg_ hnew_
               clear hg_ hnew_
               (first|rw [← Ny143.out] at ho57|(simp only [Int.reduceToNat] at ho57; rw [← Ny143.out] at ho57))
               have n0_:=Aside0.mk (Kd.R_elder' (by (with_reducible repeat (first|apply Kd.R_alloc|apply Kd.R_drewN|apply Kd.R_drew)); exact HO_117001.out) (Kd.R_base ho57) hb)
               have n1_:=Aside0.mk (Kd.R_elder' (by (with_reducible repeat (first|apply Kd.R_alloc|apply Kd.R_drewN|apply Kd.R_drew)); exact HO142.out) (Kd.R_base ho57) hb)
               have n2_:=Aside0.mk (Kd.R_lower (Kd.R_new' (Kd.R_new' ho57 (Kd.R_lt (by (with_reducible repeat (first|apply Kd.R_alloc|apply Kd.R_drewN|apply Kd.R_drew)); exact HO_117001.out))) (Kd.R_lt (by (with_reducible repeat (first|apply Kd.R_alloc|apply Kd.R_drewN|apply Kd.R_drew)); exact HO142.out))) (keep_size (w:=w) (g:=g) (row:=none) (by repeat (first|(with_reducible first|exact HK.out|apply KeepBut.set_|apply keep_drewN|apply keep_drew|apply keep_alloc|refine keep_far ?_ GW115.out _|refine keep_far ?_ GW116.out _)|exact HK.out))))
               have n3_:=Aside0.mk (blk_below (g:=gb115) (o:=.cells #[.slice none 0 0,.slice none 0 0] 26 (0,0)) (by (with_reducible repeat (first|refine blk_drewN ?_ _|refine blk_drew ?_|refine blk_alloc ?_ _)); exact BK115.out) hb)
               have n4_:=Aside0.mk (blk_below (g:=gb116) (o:=.cells #[.slice Ao52 y140.length co52,u117001] 26 (0,0)) (by (with_reducible repeat (first|refine blk_drewN ?_ _|refine blk_drew ?_|refine blk_alloc ?_ _)); exact BK116.out) hb)
               have n5_:=Aside0.mk (IsS112.below (by repeat (first|(with_reducible first|exact HI0.out|apply IsS112.alloc|apply IsS112.drewN|apply IsS112.drew|apply IsS112.set_1|apply IsS112.set_2|refine IsS112.far ?_ NB0_115.out _|refine IsS112.far ?_ NB0_116.out _)|exact HI0.out)) hb)
               have n6_:=Aside0.mk (KeepBut.trans (by repeat (first|(with_reducible first|exact HK.out|apply KeepBut.set_|apply keep_drewN|apply keep_drew|apply keep_alloc|refine keep_far ?_ GW115.out _|refine keep_far ?_ GW116.out _)|exact HK.out)) (KeepBut.of_below hb g none) (.inl rfl))
               have n7_:=Aside0.mk (below_step (by repeat (first|(with_reducible first|exact HB.out|apply below_alloc|apply pw_below_drewN|apply below_drew1|refine below_set ?_ (IsS112.ge HI0.out)|refine below_set ?_ GE115.out|refine below_set ?_ GE116.out)|exact HB.out)) hb)
               clear HO_117001
               clear HO142
               clear BK115
               clear BK116
               clear HI0
               clear HK
               clear HB
               have HO_117001:=n0_
               have HO142:=n1_
               have HO145:=n2_
               have BK115:=n3_
               have BK116:=n4_
               have HI0:=n5_
               have HK:=n6_
               have HB:=n7_
               clear n0_ n1_ n2_ n3_ n4_ n5_ n6_ n7_
               clear hb ho57
               obtain ⟨Ao58,co58,eo58⟩:=Kd.R_slice HO145.out
               (first|subst eo58|(injection eo58 with f1_ f2_ f3_; have f4_:=f1_.symm; have f5_:=f3_.symm; clear f1_ f2_ f3_; subst f4_; subst f5_))
               refine hK.out _ _ ⟨(blk_cell BK116.out 0).trans rfl,(blk_cell BK116.out 1).trans rfl⟩ (fun hHeld => ?_)
               clear hK K
               refine norm_ (a':=?_) ?_ ?_
               rotate_left
               ·show Act.put _ (some 63) _ = _
                simp only [Act.put,List.setIfInBounds_toArray,List.set_cons_zero,List.set_cons_succ,i64_w,i32_w]
                rfl
               refine one_ (i:=4) (N:=some 64) #[true,true,true,true,true,false,false,false,false] rfl rfl (one_of HT_.out (by kernel_rfl)) (by decide) (fun K hK => ?_)
               refine goes_ Try.func114 (by kernel_rfl) rfl #[.pointer (some ⟨g,0,none⟩),.slice Ao58 y143.length co58] (by rfl) rfl rfl (by (try simp only [List.map_toArray,List.map_cons,List.map_nil]); first|done|rfl|(simp only [List.length_drop,List.length_take]; rfl)) ?_
               with_reducible refine (spec_l1Cur_among.calls g s0_0 t124 t125 _ _ y143 t146 t147 t148 w0 _ ?side1 ?side2 ?side3 ?side4 ?side5 A44.out).mono ?_
               (case side1 => repeat (first|(with_reducible first|exact HI0.out|apply IsS112.alloc|apply IsS112.drewN|apply IsS112.drew|apply IsS112.set_1|apply IsS112.set_2|refine IsS112.far ?_ NB0_115.out _|refine IsS112.far ?_ NB0_116.out _)|exact HI0.out))
               (case side2 => repeat (first|(with_reducible first|exact HB.out|apply below_alloc|apply pw_below_drewN|apply below_drew1|refine below_set ?_ (IsS112.ge HI0.out)|refine below_set ?_ GE115.out|refine below_set ?_ GE116.out)|exact HB.out))
               (case side3 => repeat (first|exact (Kd.R_reads' HO145.out).2.2|(with_reducible refine Kd.C_alloc ?_ _)|(with_reducible refine Kd.C_drewN ?_ _)|(with_reducible refine Kd.C_drew ?_)))
               (case side4 => exact (Kd.R_reads' HO145.out).2.1)
               (case side5 => exact far_slice (IsS112.own_ne HI0.out HO145.out (by decide)))
               rintro e w59 ⟨rfl,hi,hb,hk⟩
               refine ⟨_,rfl,?_⟩
               have n0_:=Aside0.mk (Kd.R_mono (Kd.R_keep (IsS112.apart (show IsS112 w0 _ g s0_0 t124 t125 from by repeat (first|(with_reducible first|exact HI0.out|apply IsS112.alloc|apply IsS112.drewN|apply IsS112.drew|apply IsS112.set_1|apply IsS112.set_2|refine IsS112.far ?_ NB0_115.out _|refine IsS112.far ?_ NB0_116.out _)|exact HI0.out)) (by (with_reducible repeat (first|apply Kd.R_alloc|apply Kd.R_drewN|apply Kd.R_drew)); exact HO_117001.out) (by decide)) hk (fun _ h => h.2)) (fun _ h => h.1))
               have n1_:=Aside0.mk (KeepBut.blk hk (g':=gb115) (o:=.cells #[.slice none 0 0,.slice none 0 0] 26 (0,0)) (by (with_reducible repeat (first|refine blk_drewN ?_ _|refine blk_drew ?_|refine blk_alloc ?_ _)); exact BK115.out) NB115_0.out (by simp))
               have n2_:=Aside0.mk (KeepBut.blk hk (g':=gb116) (o:=.cells #[.slice Ao52 y140.length co52,u117001] 26 (0,0)) (by (with_reducible repeat (first|refine blk_drewN ?_ _|refine blk_drew ?_|refine blk_alloc ?_ _)); exact BK116.out) NB116_0.out (by simp))
               have n3_:=Aside0.mk (Kd.R_mono (Kd.R_keep (IsS112.apart (show IsS112 w0 _ g s0_0 t124 t125 from by repeat (first|(with_reducible first|exact HI0.out|apply IsS112.alloc|apply IsS112.drewN|apply IsS112.drew|apply IsS112.set_1|apply IsS112.set_2|refine IsS112.far ?_ NB0_115.out _|refine IsS112.far ?_ NB0_116.out _)|exact HI0.out)) (by (with_reducible repeat (first|apply Kd.R_alloc|apply Kd.R_drewN|apply Kd.R_drew)); exact HO142.out) (by decide)) hk (fun _ h => h.2)) (fun _ h => h.1))
               have n4_:=Aside0.mk (Kd.R_mono (Kd.R_keep (IsS112.apart (show IsS112 w0 _ g s0_0 t124 t125 from by repeat (first|(with_reducible first|exact HI0.out|apply IsS112.alloc|apply IsS112.drewN|apply IsS112.drew|apply IsS112.set_1|apply IsS112.set_2|refine IsS112.far ?_ NB0_115.out _|refine IsS112.far ?_ NB0_116.out _)|exact HI0.out)) (by (with_reducible repeat (first|apply Kd.R_alloc|apply Kd.R_drewN|apply Kd.R_drew)); exact HO145.out) (by decide)) hk (fun _ h => h.2)) (fun _ h => h.1))
               have n5_:=Aside0.mk (KeepBut.trans (by repeat (first|(with_reducible first|exact HK.out|apply KeepBut.set_|apply keep_drewN|apply keep_drew|apply keep_alloc|refine keep_far ?_ GW115.out _|refine keep_far ?_ GW116.out _)|exact HK.out)) hk (.inl rfl))
               have n6_:=Aside0.mk (hb)
               have n7_:=Aside0.mk (hi)
               clear HO_117001
               clear BK115
               clear BK116
               clear HO142
               clear HO145
               clear HK
               clear HB
               clear HI0
               have HO_117001:=n0_
               have BK115:=n1_
               have BK116:=n2_
               have HO142:=n3_
               have HO145:=n4_
               have HK:=n5_
               have HB:=n6_
               have HI0:=n7_
               clear n0_ n1_ n2_ n3_ n4_ n5_ n6_ n7_
               (try clear hb)
               (try clear hb2)
               (try clear hk)
               (try clear hi)
               refine hK.out _ _ ⟨(blk_cell BK116.out 0).trans rfl,(blk_cell BK116.out 1).trans rfl⟩ (fun hHeld => ?_)
               clear hK K
               refine norm_ (a':=?_) ?_ ?_
               rotate_left
               ·show Act.put _ (some 64) _ = _
                simp only [Act.put,List.setIfInBounds_toArray,List.set_cons_zero,List.set_cons_succ,i64_w,i32_w]
                rfl
               refine one_ (i:=5) (N:=some 65) #[true,true,true,true,true,true,false,false,false] rfl rfl (one_of HT_.out (by kernel_rfl)) (by decide) (fun K hK => ?_)
               refine value_ (w1:=?_) (v:=?_) (by rfl) rfl ?_ ?_
               rotate_left 2
               ·go_simp
                constructor
                ·rfl
                ·rfl
               refine hK.out _ _ ⟨(blk_cell (blk_alloc BK116.out _) 0).trans rfl,(blk_cell (blk_alloc BK116.out _) 1).trans rfl⟩ (fun hHeld => ?_)
               clear hK K
               refine norm_ (a':=?_) ?_ ?_
               rotate_left
               ·show Act.put _ (some 65) _ = _
                simp only [Act.put,List.setIfInBounds_toArray,List.set_cons_zero,List.set_cons_succ,i64_w,i32_w]
                rfl
               refine one_ (i:=6) (N:=some 66) #[true,true,true,true,true,true,true,false,false] rfl rfl (one_of HT_.out (by kernel_rfl)) (by decide) (fun K hK => ?_)
               refine Kd.R_append_step (Kd.int .i64) w.heap.size (by rfl) (.tmp 61) (.tmp 65) 24 3 (.int .i64 0) 8 rfl Try.underlying24 info3 rfl (by decide) (by omega) u117001 x117001_2 t146 [.int .i64 t146] (fun k_ => some k_ ≠ (.slice Ao52 y140.length co52 : Value).ownBlock ∧ some k_ ≠ (.slice Ao58 y143.length co58 : Value).ownBlock) (fun _ => False) rfl rfl ?aP (fun _ hk => hk.elim) ?aF ?aO (Below.refl _ _) ?aS ?aL ?_
               (case aP => exact rfl)
               (case aF => exact (fun k_ hk => ⟨Kd.fresh' (Kd.R_lt (by (with_reducible repeat (first|apply Kd.R_alloc|apply Kd.R_drewN|apply Kd.R_drew)); exact HO142.out)) k_ hk,Kd.fresh' (Kd.R_lt (by (with_reducible repeat (first|apply Kd.R_alloc|apply Kd.R_drewN|apply Kd.R_drew)); exact HO145.out)) k_ hk⟩))
               (case aO => exact (by (with_reducible repeat (first|apply Kd.R_alloc|apply Kd.R_drewN|apply Kd.R_drew)); exact HO_117001.out))
               (case aS => exact (keep_size (w:=w) (g:=g) (row:=none) (by repeat (first|(with_reducible first|exact HK.out|apply KeepBut.set_|apply keep_drewN|apply keep_drew|apply keep_alloc|refine keep_far ?_ GW115.out _|refine keep_far ?_ GW116.out _)|exact HK.out))))
               (case aL => have:=LMc45.out; omega)
               intro v150 w60 ho hb hg hat
               rw [← Ny149.out] at ho
               have n0_:=Aside0.mk (blk_grown (g:=gb115) (o:=.cells #[.slice none 0 0,.slice none 0 0] 26 (0,0)) (by (with_reducible repeat (first|refine blk_drewN ?_ _|refine blk_drew ?_|refine blk_alloc ?_ _)); exact BK115.out) hg (Kd.R_ne HO_117001.out BK115.out (by decide)))
               have n1_:=Aside0.mk (blk_grown (g:=gb116) (o:=.cells #[.slice Ao52 y140.length co52,u117001] 26 (0,0)) (by (with_reducible repeat (first|refine blk_drewN ?_ _|refine blk_drew ?_|refine blk_alloc ?_ _)); exact BK116.out) hg (Kd.R_ne HO_117001.out BK116.out (by decide)))
               have n2_:=Aside0.mk (IsS112.grown (by repeat (first|(with_reducible first|exact HI0.out|apply IsS112.alloc|apply IsS112.drewN|apply IsS112.drew|apply IsS112.set_1|apply IsS112.set_2|refine IsS112.far ?_ NB0_115.out _|refine IsS112.far ?_ NB0_116.out _)|exact HI0.out)) hg (IsS112.own_ne HI0.out HO_117001.out (by decide)))
               have n3_:=Aside0.mk (Kd.R_after (ok:=(fun k_ => some k_ ≠ (.slice Ao58 y143.length co58 : Value).ownBlock)) (by (with_reducible repeat (first|apply Kd.R_alloc|apply Kd.R_drewN|apply Kd.R_drew)); exact Kd.R_mono HO142.out (fun _ hk => ⟨hk.2,hk.1⟩)) hg hat)
               have n4_:=Aside0.mk (Kd.R_after (ok:=(fun k_ => some k_ ≠ (.slice Ao52 y140.length co52 : Value).ownBlock)) (by (with_reducible repeat (first|apply Kd.R_alloc|apply Kd.R_drewN|apply Kd.R_drew)); exact Kd.R_mono HO145.out (fun _ hk => ⟨hk.2,hk.1.2⟩)) hg hat)
               have n5_:=Aside0.mk (below_weaken (by repeat (first|(with_reducible first|exact HB.out|apply below_alloc|apply pw_below_drewN|apply below_drew1|refine below_set ?_ (IsS112.ge HI0.out)|refine below_set ?_ GE115.out|refine below_set ?_ GE116.out)|exact HB.out)) HL.out hb)
               have n6_:=Aside0.mk (KeepBut.trans (by repeat (first|(with_reducible first|exact HK.out|apply KeepBut.set_|apply keep_drewN|apply keep_drew|apply keep_alloc|refine keep_far ?_ GW115.out _|refine keep_far ?_ GW116.out _)|exact HK.out)) (KeepBut.of_grown hg g) (Kd.R_base2 HO_117001.out))
               have n7_:=Aside0.mk (ho)
               clear BK115
               clear BK116
               clear HI0
               clear HO142
               clear HO145
               clear HB
               clear HK
               clear HO_117001
               have BK115:=n0_
               have BK116:=n1_
               have HI0:=n2_
               have HO142:=n3_
               have HO145:=n4_
               have HB:=n5_
               have HK:=n6_
               have HO151:=n7_
               clear n0_ n1_ n2_ n3_ n4_ n5_ n6_ n7_
               clear ho hb hg hat
               obtain ⟨Ao61,co61,eo61⟩:=Kd.R_slice HO151.out
               (first|subst eo61|(injection eo61 with f1_ f2_ f3_; have f4_:=f1_.symm; have f5_:=f3_.symm; clear f1_ f2_ f3_; subst f4_; subst f5_))
               refine hK.out _ _ ⟨(blk_cell BK116.out 0).trans rfl,(blk_cell BK116.out 1).trans rfl⟩ (fun hHeld => ?_)
               clear hK K
               refine norm_ (a':=?_) ?_ ?_
               rotate_left
               ·show Act.put _ (some 66) _ = _
                simp only [Act.put,List.setIfInBounds_toArray,List.set_cons_zero,List.set_cons_succ,i64_w,i32_w]
                rfl
               refine pure_ (i:=7) (N:=some 67) (v:=?_) (a':=?_) #[true,true,true,true,true,true,true,true,false] rfl rfl (any_of HT_.out (by kernel_rfl)) (fun _ _ _ h => h) (Or.inl ⟨by rfl,?_⟩) ?_ ?_
               rotate_left
               ·intro w'
                go_simp
                with_reducible rfl
               rotate_left
               ·simp only [Act.put,List.setIfInBounds_toArray,List.set_cons_zero,List.set_cons_succ,i64_w,i32_w]
                rfl
               refine last_ (i:=8) (N:=none) #[true,true,true,true,true,true,true,true,true] rfl rfl (one_of HT_.out (by kernel_rfl)) (by decide) (fun K hK => ?_)
               have hs62 : w60.cell? ⟨gb116,1,none⟩ = some (u117001):=(blk_cell BK116.out 1).trans rfl
               have hfs62:=blk_frozen BK116.out 1
               have hns62_0:=NB115_116.out
               have hms62_0:=NB116_115.out
               refine skip_ (w1:=?_) (by rfl) rfl ?_ ?_
               rotate_left
               ·go_simp
                rfl
               refine hK.out _ _ ?_
               clear hK K
               refine done_ (done_of HT_.out (by kernel_rfl)) ?_
               try go_wp2
               go_roundg k2
               case measure => have:=HJ3.out; have:=HK2.out; omega
               case rel => exact ⟨(wrap64 (x5_2 + 1)),(t147),(t148),(y140),(y149),(.slice Ao52 y140.length co52),(.slice Ao61 y149.length co61),(by first|rfl|(simp; done)|(simp [*]; done)),H',⟨by have:=HJ3.out; have:=HK2.out; omega⟩,⟨by (with_reducible repeat (first|apply Kd.R_alloc|apply Kd.R_drewN|apply Kd.R_drew)); exact Kd.R_mono (Kd.R_far (p:=⟨gb116,1,none⟩) (Kd.R_types HO142.out BK116.out (by decide)) (fun _ hk => hk.2) (.slice Ao61 y149.length co61)) (fun _ hk => hk.1.2)⟩,⟨by (with_reducible repeat (first|apply Kd.R_alloc|apply Kd.R_drewN|apply Kd.R_drew)); exact Kd.R_mono (Kd.R_far (p:=⟨gb116,1,none⟩) (Kd.R_types HO151.out BK116.out (by decide)) (fun _ hk => hk.2) (.slice Ao61 y149.length co61)) (fun _ hk => hk.1.1)⟩,⟨by (with_reducible repeat (first|refine blk_drewN ?_ _|refine blk_drew ?_|refine blk_alloc ?_ _)); refine blk_far ?_ NB115_116.out _; (with_reducible repeat (first|refine blk_drewN ?_ _|refine blk_drew ?_|refine blk_alloc ?_ _)); exact BK115.out⟩,⟨by (with_reducible repeat (first|refine blk_drewN ?_ _|refine blk_drew ?_|refine blk_alloc ?_ _)); refine blk_put (cs:=#[.slice Ao52 y140.length co52,u117001]) ?_ 1 _ rfl; (with_reducible repeat (first|refine blk_drewN ?_ _|refine blk_drew ?_|refine blk_alloc ?_ _)); exact BK116.out⟩,⟨by repeat (first|(with_reducible first|exact HI0.out|apply IsS112.alloc|apply IsS112.drewN|apply IsS112.drew|apply IsS112.set_1|apply IsS112.set_2|refine IsS112.far ?_ NB0_115.out _|refine IsS112.far ?_ NB0_116.out _)|exact HI0.out)⟩,⟨by repeat (first|(with_reducible first|exact HK.out|apply KeepBut.set_|apply keep_drewN|apply keep_drew|apply keep_alloc|refine keep_far ?_ GW115.out _|refine keep_far ?_ GW116.out _)|exact HK.out)⟩,⟨by repeat (first|(with_reducible first|exact HB.out|apply below_alloc|apply pw_below_drewN|apply below_drew1|refine below_set ?_ (IsS112.ge HI0.out)|refine below_set ?_ GE115.out|refine below_set ?_ GE116.out)|exact HB.out)⟩⟩
              ·rw [if_neg c45] at H
               exact absurd H (by simp)
             ·rw [if_neg c43] at H
              exact absurd H (by simp)
            ·rw [if_neg c42] at H
             have c42b0 : ((wrap64 (1 + t123)) == (rd x117000_2 0)) = false:=beq_eq_false_iff_ne.mpr c42
             have c42b1 : ((wrap64 (1 + t123)) != (rd x117000_2 0)) = true:=bne_iff_ne.mpr c42
             by_cases c63 : x117000_2.length < 17592186044416
             ·rw [if_pos c63] at H
              have LMc63:=Aside0.mk c63
              clear c63
              obtain ⟨y152,hy152⟩ : ∃ y_ : List Int,y_ = (x117000_2 ++ [wrap64 (1 + t123)]):=⟨_,rfl⟩
              replace H : ((spec_l1Cur_among.f s0_0 t124 t125 (([1,2,3,5,10,40] : List Int))).bind fun bt158 => (if x117001_2.length < 17592186044416 then (spec_l1Cur_rotation.l0 k2 x4_3 (wrap64 (x5_2 + 1)) s0_0 bt158.2.1 bt158.2.2 y152 (x117001_2 ++ [bt158.1])) else (none))) = some (r1,r2,r3,r4):=by first|(rw [hy152]; with_reducible exact H)|(have H2_:=(Option.bind_some _ _).symm.trans H; rw [hy152]; with_reducible exact H2_)|(have H2_:=(Option.bind_some _ _).symm.trans H; with_reducible exact H2_)|with_reducible exact H|(rw [hy152]; exact H)|exact H
              have Ny152:=Aside0.mk hy152
              clear hy152
              obtain ⟨y155,hy155⟩ : ∃ y_ : List Int,y_ = (([1,2,3,5,10,40] : List Int)):=⟨_,rfl⟩
              replace H : ((spec_l1Cur_among.f s0_0 t124 t125 y155).bind fun bt158 => (if x117001_2.length < 17592186044416 then (spec_l1Cur_rotation.l0 k2 x4_3 (wrap64 (x5_2 + 1)) s0_0 bt158.2.1 bt158.2.2 y152 (x117001_2 ++ [bt158.1])) else (none))) = some (r1,r2,r3,r4):=by first|(rw [hy155]; with_reducible exact H)|(have H2_:=(Option.bind_some _ _).symm.trans H; rw [hy155]; with_reducible exact H2_)|(have H2_:=(Option.bind_some _ _).symm.trans H; with_reducible exact H2_)|with_reducible exact H|(rw [hy155]; exact H)|exact H
              have Ny155:=Aside0.mk hy155
              clear hy155
              replace H:=Option.bind_eq_some_iff.mp H
              obtain ⟨⟨t158,t159,t160⟩,A640,H⟩:=H
              replace H : (if x117001_2.length < 17592186044416 then (spec_l1Cur_rotation.l0 k2 x4_3 (wrap64 (x5_2 + 1)) s0_0 t159 t160 y152 (x117001_2 ++ [t158])) else (none)) = some (r1,r2,r3,r4):=H
              have A64:=Aside0.mk A640
              clear A640
              by_cases c65 : x117001_2.length < 17592186044416
              ·rw [if_pos c65] at H
               have LMc65:=Aside0.mk c65
               clear c65
               obtain ⟨y161,hy161⟩ : ∃ y_ : List Int,y_ = (x117001_2 ++ [t158]):=⟨_,rfl⟩
               replace H : (spec_l1Cur_rotation.l0 k2 x4_3 (wrap64 (x5_2 + 1)) s0_0 t159 t160 y152 y161) = some (r1,r2,r3,r4):=by first|(rw [hy161]; with_reducible exact H)|(have H2_:=(Option.bind_some _ _).symm.trans H; rw [hy161]; with_reducible exact H2_)|(have H2_:=(Option.bind_some _ _).symm.trans H; with_reducible exact H2_)|with_reducible exact H|(rw [hy161]; exact H)|exact H
               have Ny161:=Aside0.mk hy161
               clear hy161
               have H':=Aside0.mk H
               clear H
               try go_wp2_with (first|((with_reducible refine gate_callee (f:=97) rfl ?_); refine goesL_ (some 19) rfl rfl Try.func97 (by kernel_rfl) rfl #[.pointer (some ⟨g,0,none⟩),.int .i64 5] rfl (by (try simp only [List.map_toArray,List.map_cons,List.map_nil]); first|done|rfl|(simp only [List.length_drop,List.length_take]; rfl)) ?_; (with_reducible refine (spec_l1Cur_pick.calls g s0_0 x1001_2 x1002_2 5 t123 t124 t125 w0 _ ?side1 ?side2 A14.out).mono ?_); (case side1 => repeat (first|(with_reducible first|exact HI0.out|apply IsS112.alloc|apply IsS112.drewN|apply IsS112.drew|apply IsS112.set_1|apply IsS112.set_2|refine IsS112.far ?_ NB0_115.out _|refine IsS112.far ?_ NB0_116.out _)|exact HI0.out)); (case side2 => repeat (first|(with_reducible first|exact HB.out|apply below_alloc|apply pw_below_drewN|apply below_drew1|refine below_set ?_ (IsS112.ge HI0.out)|refine below_set ?_ GE115.out|refine below_set ?_ GE116.out)|exact HB.out)); rintro e w66 ⟨rfl,hi,hb,hk⟩; refine ⟨_,rfl,?_⟩; have n0_:=Aside0.mk (Kd.R_mono (Kd.R_keep (IsS112.apart (show IsS112 w0 _ g s0_0 x1001_2 x1002_2 from by repeat (first|(with_reducible first|exact HI0.out|apply IsS112.alloc|apply IsS112.drewN|apply IsS112.drew|apply IsS112.set_1|apply IsS112.set_2|refine IsS112.far ?_ NB0_115.out _|refine IsS112.far ?_ NB0_116.out _)|exact HI0.out)) (by (with_reducible repeat (first|apply Kd.R_alloc|apply Kd.R_drewN|apply Kd.R_drew)); exact HO_117000.out) (by decide)) hk (fun _ h => h.2)) (fun _ h => h.1)); have n1_:=Aside0.mk (Kd.R_mono (Kd.R_keep (IsS112.apart (show IsS112 w0 _ g s0_0 x1001_2 x1002_2 from by repeat (first|(with_reducible first|exact HI0.out|apply IsS112.alloc|apply IsS112.drewN|apply IsS112.drew|apply IsS112.set_1|apply IsS112.set_2|refine IsS112.far ?_ NB0_115.out _|refine IsS112.far ?_ NB0_116.out _)|exact HI0.out)) (by (with_reducible repeat (first|apply Kd.R_alloc|apply Kd.R_drewN|apply Kd.R_drew)); exact HO_117001.out) (by decide)) hk (fun _ h => h.2)) (fun _ h => h.1)); have n2_:=Aside0.mk (KeepBut.blk hk (g':=gb115) (o:=.cells #[.slice none 0 0,.slice none 0 0] 26 (0,0)) (by (with_reducible repeat (first|refine blk_drewN ?_ _|refine blk_drew ?_|refine blk_alloc ?_ _)); exact BK115.out) NB115_0.out (by simp)); have n3_:=Aside0.mk (KeepBut.blk hk (g':=gb116) (o:=.cells #[u117000,u117001] 26 (0,0)) (by (with_reducible repeat (first|refine blk_drewN ?_ _|refine blk_drew ?_|refine blk_alloc ?_ _)); exact BK116.out) NB116_0.out (by simp)); have n4_:=Aside0.mk (KeepBut.trans (by repeat (first|(with_reducible first|exact HK.out|apply KeepBut.set_|apply keep_drewN|apply keep_drew|apply keep_alloc|refine keep_far ?_ GW115.out _|refine keep_far ?_ GW116.out _)|exact HK.out)) hk (.inl rfl)); have n5_:=Aside0.mk (hb); have n6_:=Aside0.mk (hi); clear HO_117000; clear HO_117001; clear BK115; clear BK116; clear HK; clear HB; clear HI0; have HO_117000:=n0_; have HO_117001:=n1_; have BK115:=n2_; have BK116:=n3_; have HK:=n4_; have HB:=n5_; have HI0:=n6_; clear n0_ n1_ n2_ n3_ n4_ n5_ n6_; (try clear hb); (try clear hb2); (try clear hk); (try clear hi); have hnb67:=NB116_115.out; have hnc67:=NB115_116.out; have hnb68:=NB116_0.out; have hnc68:=NB0_116.out; have hcz69_0 : w66.cell? ⟨gb116,0,none⟩ = some (u117000):=(blk_cell BK116.out 0).trans rfl; have hcz69_1 : w66.cell? ⟨gb116,1,none⟩ = some (u117001):=(blk_cell BK116.out 1).trans rfl; have hfz69_0:=blk_frozen BK116.out 0; have hfz69_1:=blk_frozen BK116.out 1; obtain ⟨Ao70,co70,eo70⟩:=Kd.R_slice HO_117000.out; subst eo70; have p126 : 0 ≤ ((ji16) : Int):=of_decide_eq_true (by first|(with_reducible assumption)|assumption); have q126 : (ji16) < (x117000_2.length : Int):=of_decide_eq_true (by first|(with_reducible assumption)|assumption); obtain ⟨ad126,e126,hx126_0⟩:=Kd.at_int (Kd.R_reads' HO_117000.out).2.2 (ji16) p126 q126; cases e126; replace p126:=eq_true p126; replace q126:=eq_true q126; have p139 : 0 ≤ (0 : Int):=(by omega); have q139 : 0 < (x117000_2.length : Int):=of_decide_eq_true (by first|(with_reducible assumption)|assumption); obtain ⟨ad139,e139,hx139_0⟩:=Kd.at_int (Kd.R_reads' HO_117000.out).2.2 0 p139 q139; obtain rfl : ad126 = ad139:=(by injection e139); have qi139 : (0 < x117000_2.length) = True:=eq_true (by omega); (try rw [show ((0 : Int)).toNat = 0 from rfl] at hx139_0); (try rw [Addr.add_zero'] at hx139_0); replace p139:=eq_true p139; replace q139:=eq_true q139)|((with_reducible refine gate_builtin (b:=.append) (xs:=#[.tmp 55,.tmp 57]) rfl ?_); at_builtin; refine Kd.R_append (Kd.int .i64) w.heap.size rfl (.tmp 55) (.tmp 57) 24 3 (.int .i64 0) 8 rfl Try.underlying24 info3 rfl (by decide) (by omega) (.slice (some ad126) x117000_2.length co70) x117000_2 (wrap64 (1 + t123)) [.int .i64 (wrap64 (1 + t123))] (fun k_ => some k_ ≠ (u117001 : Value).ownBlock) (fun _ => False) rfl rfl ?aP (fun _ hk => hk.elim) ?aF ?aO (Below.refl _ _) ?aS ?aL ?_; (case aP => exact rfl); (case aF => exact (fun k_ hk => Kd.fresh' (Kd.R_lt (by (with_reducible repeat (first|apply Kd.R_alloc|apply Kd.R_drewN|apply Kd.R_drew)); exact HO_117001.out)) k_ hk)); (case aO => exact (by (with_reducible repeat (first|apply Kd.R_alloc|apply Kd.R_drewN|apply Kd.R_drew)); exact HO_117000.out)); (case aS => exact (keep_size (w:=w) (g:=g) (row:=none) (by repeat (first|(with_reducible first|exact HK.out|apply KeepBut.set_|apply keep_drewN|apply keep_drew|apply keep_alloc|refine keep_far ?_ GW115.out _|refine keep_far ?_ GW116.out _)|exact HK.out)))); (case aL => have:=LMc63.out; omega); intro v153 w71 ho hb hg hat; rw [← Ny152.out] at ho; have n0_:=Aside0.mk (Kd.R_after (ok:=(fun _ => True)) (by (with_reducible repeat (first|apply Kd.R_alloc|apply Kd.R_drewN|apply Kd.R_drew)); exact Kd.R_mono HO_117001.out (fun _ hk => ⟨trivial,hk⟩)) hg hat); have n1_:=Aside0.mk (blk_grown (g:=gb115) (o:=.cells #[.slice none 0 0,.slice none 0 0] 26 (0,0)) (by (with_reducible repeat (first|refine blk_drewN ?_ _|refine blk_drew ?_|refine blk_alloc ?_ _)); exact BK115.out) hg (Kd.R_ne HO_117000.out BK115.out (by decide))); have n2_:=Aside0.mk (blk_grown (g:=gb116) (o:=.cells #[.slice (some ad126) x117000_2.length co70,u117001] 26 (0,0)) (by (with_reducible repeat (first|refine blk_drewN ?_ _|refine blk_drew ?_|refine blk_alloc ?_ _)); exact BK116.out) hg (Kd.R_ne HO_117000.out BK116.out (by decide))); have n3_:=Aside0.mk (IsS112.grown (by repeat (first|(with_reducible first|exact HI0.out|apply IsS112.alloc|apply IsS112.drewN|apply IsS112.drew|apply IsS112.set_1|apply IsS112.set_2|refine IsS112.far ?_ NB0_115.out _|refine IsS112.far ?_ NB0_116.out _)|exact HI0.out)) hg (IsS112.own_ne HI0.out HO_117000.out (by decide))); have n4_:=Aside0.mk (below_weaken (by repeat (first|(with_reducible first|exact HB.out|apply below_alloc|apply pw_below_drewN|apply below_drew1|refine below_set ?_ (IsS112.ge HI0.out)|refine below_set ?_ GE115.out|refine below_set ?_ GE116.out)|exact HB.out)) HL.out hb); have n5_:=Aside0.mk (KeepBut.trans (by repeat (first|(with_reducible first|exact HK.out|apply KeepBut.set_|apply keep_drewN|apply keep_drew|apply keep_alloc|refine keep_far ?_ GW115.out _|refine keep_far ?_ GW116.out _)|exact HK.out)) (KeepBut.of_grown hg g) (Kd.R_base2 HO_117000.out)); have n6_:=Aside0.mk (ho); clear HO_117001; clear BK115; clear BK116; clear HI0; clear HB; clear HK; clear HO_117000; have HO_117001:=n0_; have BK115:=n1_; have BK116:=n2_; have HI0:=n3_; have HB:=n4_; have HK:=n5_; have HO154:=n6_; clear n0_ n1_ n2_ n3_ n4_ n5_ n6_; clear ho hb hg hat; obtain ⟨Ao72,co72,eo72⟩:=Kd.R_slice HO154.out; subst eo72; have hcz73_0 : w71.cell? ⟨gb116,0,none⟩ = some (.slice (some ad126) x117000_2.length co70):=(blk_cell BK116.out 0).trans rfl; have hcz73_1 : w71.cell? ⟨gb116,1,none⟩ = some (u117001):=(blk_cell BK116.out 1).trans rfl; have hfz73_0:=blk_frozen BK116.out 0; have hfz73_1:=blk_frozen BK116.out 1))
               have n0_ : Aside0 (Kd.R (Kd.int .i64) 3 (w71.setCell ⟨gb116,0,none⟩ (.slice Ao72 y152.length co72)) w.heap.size (fun k_ => some k_ ≠ (.slice Ao72 y152.length co72 : Value).ownBlock) u117001 x117001_2):=⟨by (with_reducible repeat (first|apply Kd.R_alloc|apply Kd.R_drewN|apply Kd.R_drew)); exact Kd.R_mono (Kd.R_far (p:=⟨gb116,0,none⟩) (Kd.R_types HO_117001.out BK116.out (by decide)) (fun _ hk => hk.2) (.slice Ao72 y152.length co72)) (fun _ hk => hk.1.2)⟩
               have n1_ : Aside0 (Kd.R (Kd.int .i64) 3 (w71.setCell ⟨gb116,0,none⟩ (.slice Ao72 y152.length co72)) w.heap.size (fun k_ => some k_ ≠ (u117001 : Value).ownBlock) (.slice Ao72 y152.length co72) y152):=⟨by (with_reducible repeat (first|apply Kd.R_alloc|apply Kd.R_drewN|apply Kd.R_drew)); exact Kd.R_mono (Kd.R_far (p:=⟨gb116,0,none⟩) (Kd.R_types HO154.out BK116.out (by decide)) (fun _ hk => hk.2) (.slice Ao72 y152.length co72)) (fun _ hk => hk.1)⟩
               have n2_ : Aside0 ((w71.setCell ⟨gb116,0,none⟩ (.slice Ao72 y152.length co72)).heap[gb115]? = some (.cells #[.slice none 0 0,.slice none 0 0] 26 (0,0))):=⟨by (with_reducible repeat (first|refine blk_drewN ?_ _|refine blk_drew ?_|refine blk_alloc ?_ _)); refine blk_far ?_ NB115_116.out _; (with_reducible repeat (first|refine blk_drewN ?_ _|refine blk_drew ?_|refine blk_alloc ?_ _)); exact BK115.out⟩
               have n3_ : Aside0 ((w71.setCell ⟨gb116,0,none⟩ (.slice Ao72 y152.length co72)).heap[gb116]? = some (.cells #[.slice Ao72 y152.length co72,u117001] 26 (0,0))):=⟨by (with_reducible repeat (first|refine blk_drewN ?_ _|refine blk_drew ?_|refine blk_alloc ?_ _)); refine blk_put (cs:=#[.slice (some ad126) x117000_2.length co70,u117001]) ?_ 0 _ rfl; (with_reducible repeat (first|refine blk_drewN ?_ _|refine blk_drew ?_|refine blk_alloc ?_ _)); exact BK116.out⟩
               have n4_ : Aside0 (IsS112 w0 (w71.setCell ⟨gb116,0,none⟩ (.slice Ao72 y152.length co72)) g s0_0 t124 t125):=⟨by repeat (first|(with_reducible first|exact HI0.out|apply IsS112.alloc|apply IsS112.drewN|apply IsS112.drew|apply IsS112.set_1|apply IsS112.set_2|refine IsS112.far ?_ NB0_115.out _|refine IsS112.far ?_ NB0_116.out _)|exact HI0.out)⟩
               have n5_ : Aside0 (KeepBut w (w71.setCell ⟨gb116,0,none⟩ (.slice Ao72 y152.length co72)) g none):=⟨by repeat (first|(with_reducible first|exact HK.out|apply KeepBut.set_|apply keep_drewN|apply keep_drew|apply keep_alloc|refine keep_far ?_ GW115.out _|refine keep_far ?_ GW116.out _)|exact HK.out)⟩
               have n6_ : Aside0 (Below w0.heap.size w0 (w71.setCell ⟨gb116,0,none⟩ (.slice Ao72 y152.length co72))):=⟨by repeat (first|(with_reducible first|exact HB.out|apply below_alloc|apply pw_below_drewN|apply below_drew1|refine below_set ?_ (IsS112.ge HI0.out)|refine below_set ?_ GE115.out|refine below_set ?_ GE116.out)|exact HB.out)⟩
               (try clear HO_117001)
               (try clear HO154)
               (try clear BK115)
               (try clear BK116)
               (try clear HI0)
               (try clear HK)
               (try clear HB)
               generalize (w71.setCell ⟨gb116,0,none⟩ (.slice Ao72 y152.length co72)) = w74 at n0_ n1_ n2_ n3_ n4_ n5_ n6_ ⊢
               have HO_117001:=n0_
               have HO154:=n1_
               have BK115:=n2_
               have BK116:=n3_
               have HI0:=n4_
               have HK:=n5_
               have HB:=n6_
               clear n0_ n1_ n2_ n3_ n4_ n5_ n6_
               have n0_:=Aside0.mk (Kd.R_drew HO_117001.out)
               have n1_:=Aside0.mk (Kd.R_drew HO154.out)
               have n2_:=Aside0.mk (blk_drew BK115.out)
               have n3_:=Aside0.mk (blk_drew BK116.out)
               have n4_:=Aside0.mk (IsS112.drew HI0.out)
               have n5_:=Aside0.mk (keep_drew HK.out)
               have n6_:=Aside0.mk (below_drew1 HB.out)
               clear HO_117001
               clear HO154
               clear BK115
               clear BK116
               clear HI0
               clear HK
               clear HB
               have HO_117001:=n0_
               have HO154:=n1_
               have BK115:=n2_
               have BK116:=n3_
               have HI0:=n4_
               have HK:=n5_
               have HB:=n6_
               clear n0_ n1_ n2_ n3_ n4_ n5_ n6_
               refine start_ (n:=9) (S:=fun w' => w'.cell? ⟨gb116,0,none⟩ = some (.slice Ao72 y152.length co72) ∧ w'.cell? ⟨gb116,1,none⟩ = some (u117001)) (ds:=[8]) #[false,false,false,false,false,false,false,false,false] (by kernel_rfl) rfl rfl ⟨(blk_cell BK116.out 0).trans rfl,(blk_cell BK116.out 1).trans rfl⟩ (fun hHeld => ?_); refine with_tabW spec_l1Cur_rotation.tab12 spec_l1Cur_rotation.bits12 (fun HT_ HW_ => ?_)
               generalize w74.drew = w75 at HO_117001 HO154 BK115 BK116 HI0 HK HB hHeld ⊢
               refine pure_ (i:=0) (N:=some 60) (v:=?_) (a':=?_) #[true,false,false,false,false,false,false,false,false] rfl rfl (any_of HT_.out (by kernel_rfl)) (fun _ _ _ h => h) (Or.inl ⟨by rfl,?_⟩) ?_ ?_
               rotate_left
               ·intro w'
                go_simp
                with_reducible rfl
               rotate_left
               ·simp only [Act.put,List.setIfInBounds_toArray,List.set_cons_zero,List.set_cons_succ,i64_w,i32_w]
                rfl
               refine pure_ (i:=2) (N:=some 62) (v:=?_) (a':=?_) #[true,false,true,false,false,false,false,false,false] rfl rfl (any_of HT_.out (by kernel_rfl)) (fun _ _ _ h => h) (Or.inl ⟨by rfl,?_⟩) ?_ ?_
               rotate_left
               ·intro w'
                go_simp
                with_reducible rfl
               rotate_left
               ·simp only [Act.put,List.setIfInBounds_toArray,List.set_cons_zero,List.set_cons_succ,i64_w,i32_w]
                rfl
               refine take_ (i:=1) (N:=some 61) (v:=?_) (a':=?_) #[true,true,true,false,false,false,false,false,false] rfl rfl (take_ofW HT_.out HW_.out (by kernel_rfl)) (fun _ _ _ h => h) (Or.inl ⟨by rfl,?_⟩) hHeld ?_ ?_
               rotate_left
               ·rintro w' ⟨s0,s1⟩
                go_simp
                with_reducible rfl
               rotate_left
               ·simp only [Act.put,List.setIfInBounds_toArray,List.set_cons_zero,List.set_cons_succ,i64_w,i32_w]
                rfl
               refine one_ (i:=3) (N:=some 63) #[true,true,true,true,false,false,false,false,false] rfl rfl (one_of HT_.out (by kernel_rfl)) (by decide) (fun K hK => ?_)
               refine Kd.R_lit_step (Kd.int .i64) _ 3 ?hg (N:=63) ?hd (xs:=([1,2,3,5,10,40] : List Int)) (inner:=[.int .i64 1,.int .i64 2,.int .i64 3,.int .i64 5,.int .i64 10,.int .i64 40]) (ok:=fun _ => True) (okp:=fun _ => True) ?hr ?hp (fun _ hk => hk) trivial (Below.refl _ _) (Nat.le_refl _) (by simp) ?_; (case hd => rfl); (case hg => rfl); (case hr => first|(go_simp; done)|(go_simp; rfl)); (case hp => exact (Reps.one (show Kd.M (Kd.int .i64) _ _ _ 1 [.int .i64 1] from rfl) (Reps.one (show Kd.M (Kd.int .i64) _ _ _ 2 [.int .i64 2] from rfl) (Reps.one (show Kd.M (Kd.int .i64) _ _ _ 3 [.int .i64 3] from rfl) (Reps.one (show Kd.M (Kd.int .i64) _ _ _ 5 [.int .i64 5] from rfl) (Reps.one (show Kd.M (Kd.int .i64) _ _ _ 10 [.int .i64 10] from rfl) (Reps.one (show Kd.M (Kd.int .i64) _ _ _ 40 [.int .i64 40] from rfl) (Reps.none _ _))))))))
               intro v156 w76 ho77 hb hg_ hnew_
               clear hg_ hnew_
               (first|rw [← Ny155.out] at ho77|(simp only [Int.reduceToNat] at ho77; rw [← Ny155.out] at ho77))
               have n0_:=Aside0.mk (Kd.R_elder' (by (with_reducible repeat (first|apply Kd.R_alloc|apply Kd.R_drewN|apply Kd.R_drew)); exact HO_117001.out) (Kd.R_base ho77) hb)
               have n1_:=Aside0.mk (Kd.R_elder' (by (with_reducible repeat (first|apply Kd.R_alloc|apply Kd.R_drewN|apply Kd.R_drew)); exact HO154.out) (Kd.R_base ho77) hb)
               have n2_:=Aside0.mk (Kd.R_lower (Kd.R_new' (Kd.R_new' ho77 (Kd.R_lt (by (with_reducible repeat (first|apply Kd.R_alloc|apply Kd.R_drewN|apply Kd.R_drew)); exact HO_117001.out))) (Kd.R_lt (by (with_reducible repeat (first|apply Kd.R_alloc|apply Kd.R_drewN|apply Kd.R_drew)); exact HO154.out))) (keep_size (w:=w) (g:=g) (row:=none) (by repeat (first|(with_reducible first|exact HK.out|apply KeepBut.set_|apply keep_drewN|apply keep_drew|apply keep_alloc|refine keep_far ?_ GW115.out _|refine keep_far ?_ GW116.out _)|exact HK.out))))
               have n3_:=Aside0.mk (blk_below (g:=gb115) (o:=.cells #[.slice none 0 0,.slice none 0 0] 26 (0,0)) (by (with_reducible repeat (first|refine blk_drewN ?_ _|refine blk_drew ?_|refine blk_alloc ?_ _)); exact BK115.out) hb)
               have n4_:=Aside0.mk (blk_below (g:=gb116) (o:=.cells #[.slice Ao72 y152.length co72,u117001] 26 (0,0)) (by (with_reducible repeat (first|refine blk_drewN ?_ _|refine blk_drew ?_|refine blk_alloc ?_ _)); exact BK116.out) hb)
               have n5_:=Aside0.mk (IsS112.below (by repeat (first|(with_reducible first|exact HI0.out|apply IsS112.alloc|apply IsS112.drewN|apply IsS112.drew|apply IsS112.set_1|apply IsS112.set_2|refine IsS112.far ?_ NB0_115.out _|refine IsS112.far ?_ NB0_116.out _)|exact HI0.out)) hb)
               have n6_:=Aside0.mk (KeepBut.trans (by repeat (first|(with_reducible first|exact HK.out|apply KeepBut.set_|apply keep_drewN|apply keep_drew|apply keep_alloc|refine keep_far ?_ GW115.out _|refine keep_far ?_ GW116.out _)|exact HK.out)) (KeepBut.of_below hb g none) (.inl rfl))
               have n7_:=Aside0.mk (below_step (by repeat (first|(with_reducible first|exact HB.out|apply below_alloc|apply pw_below_drewN|apply below_drew1|refine below_set ?_ (IsS112.ge HI0.out)|refine below_set ?_ GE115.out|refine below_set ?_ GE116.out)|exact HB.out)) hb)
               clear HO_117001
               clear HO154
               clear BK115
               clear BK116
               clear HI0
               clear HK
               clear HB
               have HO_117001:=n0_
               have HO154:=n1_
               have HO157:=n2_
               have BK115:=n3_
               have BK116:=n4_
               have HI0:=n5_
               have HK:=n6_
               have HB:=n7_
               clear n0_ n1_ n2_ n3_ n4_ n5_ n6_ n7_
               clear hb ho77
               obtain ⟨Ao78,co78,eo78⟩:=Kd.R_slice HO157.out
               (first|subst eo78|(injection eo78 with f1_ f2_ f3_; have f4_:=f1_.symm; have f5_:=f3_.symm; clear f1_ f2_ f3_; subst f4_; subst f5_))
               refine hK.out _ _ ⟨(blk_cell BK116.out 0).trans rfl,(blk_cell BK116.out 1).trans rfl⟩ (fun hHeld => ?_)
               clear hK K
               refine norm_ (a':=?_) ?_ ?_
               rotate_left
               ·show Act.put _ (some 63) _ = _
                simp only [Act.put,List.setIfInBounds_toArray,List.set_cons_zero,List.set_cons_succ,i64_w,i32_w]
                rfl
               refine one_ (i:=4) (N:=some 64) #[true,true,true,true,true,false,false,false,false] rfl rfl (one_of HT_.out (by kernel_rfl)) (by decide) (fun K hK => ?_)
               refine goes_ Try.func114 (by kernel_rfl) rfl #[.pointer (some ⟨g,0,none⟩),.slice Ao78 y155.length co78] (by rfl) rfl rfl (by (try simp only [List.map_toArray,List.map_cons,List.map_nil]); first|done|rfl|(simp only [List.length_drop,List.length_take]; rfl)) ?_
               with_reducible refine (spec_l1Cur_among.calls g s0_0 t124 t125 _ _ y155 t158 t159 t160 w0 _ ?side1 ?side2 ?side3 ?side4 ?side5 A64.out).mono ?_
               (case side1 => repeat (first|(with_reducible first|exact HI0.out|apply IsS112.alloc|apply IsS112.drewN|apply IsS112.drew|apply IsS112.set_1|apply IsS112.set_2|refine IsS112.far ?_ NB0_115.out _|refine IsS112.far ?_ NB0_116.out _)|exact HI0.out))
               (case side2 => repeat (first|(with_reducible first|exact HB.out|apply below_alloc|apply pw_below_drewN|apply below_drew1|refine below_set ?_ (IsS112.ge HI0.out)|refine below_set ?_ GE115.out|refine below_set ?_ GE116.out)|exact HB.out))
               (case side3 => repeat (first|exact (Kd.R_reads' HO157.out).2.2|(with_reducible refine Kd.C_alloc ?_ _)|(with_reducible refine Kd.C_drewN ?_ _)|(with_reducible refine Kd.C_drew ?_)))
               (case side4 => exact (Kd.R_reads' HO157.out).2.1)
               (case side5 => exact far_slice (IsS112.own_ne HI0.out HO157.out (by decide)))
               rintro e w79 ⟨rfl,hi,hb,hk⟩
               refine ⟨_,rfl,?_⟩
               have n0_:=Aside0.mk (Kd.R_mono (Kd.R_keep (IsS112.apart (show IsS112 w0 _ g s0_0 t124 t125 from by repeat (first|(with_reducible first|exact HI0.out|apply IsS112.alloc|apply IsS112.drewN|apply IsS112.drew|apply IsS112.set_1|apply IsS112.set_2|refine IsS112.far ?_ NB0_115.out _|refine IsS112.far ?_ NB0_116.out _)|exact HI0.out)) (by (with_reducible repeat (first|apply Kd.R_alloc|apply Kd.R_drewN|apply Kd.R_drew)); exact HO_117001.out) (by decide)) hk (fun _ h => h.2)) (fun _ h => h.1))
               have n1_:=Aside0.mk (KeepBut.blk hk (g':=gb115) (o:=.cells #[.slice none 0 0,.slice none 0 0] 26 (0,0)) (by (with_reducible repeat (first|refine blk_drewN ?_ _|refine blk_drew ?_|refine blk_alloc ?_ _)); exact BK115.out) NB115_0.out (by simp))
               have n2_:=Aside0.mk (KeepBut.blk hk (g':=gb116) (o:=.cells #[.slice Ao72 y152.length co72,u117001] 26 (0,0)) (by (with_reducible repeat (first|refine blk_drewN ?_ _|refine blk_drew ?_|refine blk_alloc ?_ _)); exact BK116.out) NB116_0.out (by simp))
               have n3_:=Aside0.mk (Kd.R_mono (Kd.R_keep (IsS112.apart (show IsS112 w0 _ g s0_0 t124 t125 from by repeat (first|(with_reducible first|exact HI0.out|apply IsS112.alloc|apply IsS112.drewN|apply IsS112.drew|apply IsS112.set_1|apply IsS112.set_2|refine IsS112.far ?_ NB0_115.out _|refine IsS112.far ?_ NB0_116.out _)|exact HI0.out)) (by (with_reducible repeat (first|apply Kd.R_alloc|apply Kd.R_drewN|apply Kd.R_drew)); exact HO154.out) (by decide)) hk (fun _ h => h.2)) (fun _ h => h.1))
               have n4_:=Aside0.mk (Kd.R_mono (Kd.R_keep (IsS112.apart (show IsS112 w0 _ g s0_0 t124 t125 from by repeat (first|(with_reducible first|exact HI0.out|apply IsS112.alloc|apply IsS112.drewN|apply IsS112.drew|apply IsS112.set_1|apply IsS112.set_2|refine IsS112.far ?_ NB0_115.out _|refine IsS112.far ?_ NB0_116.out _)|exact HI0.out)) (by (with_reducible repeat (first|apply Kd.R_alloc|apply Kd.R_drewN|apply Kd.R_drew)); exact HO157.out) (by decide)) hk (fun _ h => h.2)) (fun _ h => h.1))
               have n5_:=Aside0.mk (KeepBut.trans (by repeat (first|(with_reducible first|exact HK.out|apply KeepBut.set_|apply keep_drewN|apply keep_drew|apply keep_alloc|refine keep_far ?_ GW115.out _|refine keep_far ?_ GW116.out _)|exact HK.out)) hk (.inl rfl))
               have n6_:=Aside0.mk (hb)
               have n7_:=Aside0.mk (hi)
               clear HO_117001
               clear BK115
               clear BK116
               clear HO154
               clear HO157
               clear HK
               clear HB
               clear HI0
               have HO_117001:=n0_
               have BK115:=n1_
               have BK116:=n2_
               have HO154:=n3_
               have HO157:=n4_
               have HK:=n5_
               have HB:=n6_
               have HI0:=n7_
               clear n0_ n1_ n2_ n3_ n4_ n5_ n6_ n7_
               (try clear hb)
               (try clear hb2)
               (try clear hk)
               (try clear hi)
               refine hK.out _ _ ⟨(blk_cell BK116.out 0).trans rfl,(blk_cell BK116.out 1).trans rfl⟩ (fun hHeld => ?_)
               clear hK K
               refine norm_ (a':=?_) ?_ ?_
               rotate_left
               ·show Act.put _ (some 64) _ = _
                simp only [Act.put,List.setIfInBounds_toArray,List.set_cons_zero,List.set_cons_succ,i64_w,i32_w]
                rfl
               refine one_ (i:=5) (N:=some 65) #[true,true,true,true,true,true,false,false,false] rfl rfl (one_of HT_.out (by kernel_rfl)) (by decide) (fun K hK => ?_)
               refine value_ (w1:=?_) (v:=?_) (by rfl) rfl ?_ ?_
               rotate_left 2
               ·go_simp
                constructor
                ·rfl
                ·rfl
               refine hK.out _ _ ⟨(blk_cell (blk_alloc BK116.out _) 0).trans rfl,(blk_cell (blk_alloc BK116.out _) 1).trans rfl⟩ (fun hHeld => ?_)
               clear hK K
               refine norm_ (a':=?_) ?_ ?_
               rotate_left
               ·show Act.put _ (some 65) _ = _
                simp only [Act.put,List.setIfInBounds_toArray,List.set_cons_zero,List.set_cons_succ,i64_w,i32_w]
                rfl
               refine one_ (i:=6) (N:=some 66) #[true,true,true,true,true,true,true,false,false] rfl rfl (one_of HT_.out (by kernel_rfl)) (by decide) (fun K hK => ?_)
               refine Kd.R_append_step (Kd.int .i64) w.heap.size (by rfl) (.tmp 61) (.tmp 65) 24 3 (.int .i64 0) 8 rfl Try.underlying24 info3 rfl (by decide) (by omega) u117001 x117001_2 t158 [.int .i64 t158] (fun k_ => some k_ ≠ (.slice Ao72 y152.length co72 : Value).ownBlock ∧ some k_ ≠ (.slice Ao78 y155.length co78 : Value).ownBlock) (fun _ => False) rfl rfl ?aP (fun _ hk => hk.elim) ?aF ?aO (Below.refl _ _) ?aS ?aL ?_
               (case aP => exact rfl)
               (case aF => exact (fun k_ hk => ⟨Kd.fresh' (Kd.R_lt (by (with_reducible repeat (first|apply Kd.R_alloc|apply Kd.R_drewN|apply Kd.R_drew)); exact HO154.out)) k_ hk,Kd.fresh' (Kd.R_lt (by (with_reducible repeat (first|apply Kd.R_alloc|apply Kd.R_drewN|apply Kd.R_drew)); exact HO157.out)) k_ hk⟩))
               (case aO => exact (by (with_reducible repeat (first|apply Kd.R_alloc|apply Kd.R_drewN|apply Kd.R_drew)); exact HO_117001.out))
               (case aS => exact (keep_size (w:=w) (g:=g) (row:=none) (by repeat (first|(with_reducible first|exact HK.out|apply KeepBut.set_|apply keep_drewN|apply keep_drew|apply keep_alloc|refine keep_far ?_ GW115.out _|refine keep_far ?_ GW116.out _)|exact HK.out))))
               (case aL => have:=LMc65.out; omega)
               intro v162 w80 ho hb hg hat
               rw [← Ny161.out] at ho
               have n0_:=Aside0.mk (blk_grown (g:=gb115) (o:=.cells #[.slice none 0 0,.slice none 0 0] 26 (0,0)) (by (with_reducible repeat (first|refine blk_drewN ?_ _|refine blk_drew ?_|refine blk_alloc ?_ _)); exact BK115.out) hg (Kd.R_ne HO_117001.out BK115.out (by decide)))
               have n1_:=Aside0.mk (blk_grown (g:=gb116) (o:=.cells #[.slice Ao72 y152.length co72,u117001] 26 (0,0)) (by (with_reducible repeat (first|refine blk_drewN ?_ _|refine blk_drew ?_|refine blk_alloc ?_ _)); exact BK116.out) hg (Kd.R_ne HO_117001.out BK116.out (by decide)))
               have n2_:=Aside0.mk (IsS112.grown (by repeat (first|(with_reducible first|exact HI0.out|apply IsS112.alloc|apply IsS112.drewN|apply IsS112.drew|apply IsS112.set_1|apply IsS112.set_2|refine IsS112.far ?_ NB0_115.out _|refine IsS112.far ?_ NB0_116.out _)|exact HI0.out)) hg (IsS112.own_ne HI0.out HO_117001.out (by decide)))
               have n3_:=Aside0.mk (Kd.R_after (ok:=(fun k_ => some k_ ≠ (.slice Ao78 y155.length co78 : Value).ownBlock)) (by (with_reducible repeat (first|apply Kd.R_alloc|apply Kd.R_drewN|apply Kd.R_drew)); exact Kd.R_mono HO154.out (fun _ hk => ⟨hk.2,hk.1⟩)) hg hat)
               have n4_:=Aside0.mk (Kd.R_after (ok:=(fun k_ => some k_ ≠ (.slice Ao72 y152.length co72 : Value).ownBlock)) (by (with_reducible repeat (first|apply Kd.R_alloc|apply Kd.R_drewN|apply Kd.R_drew)); exact Kd.R_mono HO157.out (fun _ hk => ⟨hk.2,hk.1.2⟩)) hg hat)
               have n5_:=Aside0.mk (below_weaken (by repeat (first|(with_reducible first|exact HB.out|apply below_alloc|apply pw_below_drewN|apply below_drew1|refine below_set ?_ (IsS112.ge HI0.out)|refine below_set ?_ GE115.out|refine below_set ?_ GE116.out)|exact HB.out)) HL.out hb)
               have n6_:=Aside0.mk (KeepBut.trans (by repeat (first|(with_reducible first|exact HK.out|apply KeepBut.set_|apply keep_drewN|apply keep_drew|apply keep_alloc|refine keep_far ?_ GW115.out _|refine keep_far ?_ GW116.out _)|exact HK.out)) (KeepBut.of_grown hg g) (Kd.R_base2 HO_117001.out))
               have n7_:=Aside0.mk (ho)
               clear BK115
               clear BK116
               clear HI0
               clear HO154
               clear HO157
               clear HB
               clear HK
               clear HO_117001
               have BK115:=n0_
               have BK116:=n1_
               have HI0:=n2_
               have HO154:=n3_
               have HO157:=n4_
               have HB:=n5_
               have HK:=n6_
               have HO163:=n7_
               clear n0_ n1_ n2_ n3_ n4_ n5_ n6_ n7_
               clear ho hb hg hat
               obtain ⟨Ao81,co81,eo81⟩:=Kd.R_slice HO163.out
               (first|subst eo81|(injection eo81 with f1_ f2_ f3_; have f4_:=f1_.symm; have f5_:=f3_.symm; clear f1_ f2_ f3_; subst f4_; subst f5_))
               refine hK.out _ _ ⟨(blk_cell BK116.out 0).trans rfl,(blk_cell BK116.out 1).trans rfl⟩ (fun hHeld => ?_)
               clear hK K
               refine norm_ (a':=?_) ?_ ?_
               rotate_left
               ·show Act.put _ (some 66) _ = _
                simp only [Act.put,List.setIfInBounds_toArray,List.set_cons_zero,List.set_cons_succ,i64_w,i32_w]
                rfl
               refine pure_ (i:=7) (N:=some 67) (v:=?_) (a':=?_) #[true,true,true,true,true,true,true,true,false] rfl rfl (any_of HT_.out (by kernel_rfl)) (fun _ _ _ h => h) (Or.inl ⟨by rfl,?_⟩) ?_ ?_
               rotate_left
               ·intro w'
                go_simp
                with_reducible rfl
               rotate_left
               ·simp only [Act.put,List.setIfInBounds_toArray,List.set_cons_zero,List.set_cons_succ,i64_w,i32_w]
                rfl
               refine last_ (i:=8) (N:=none) #[true,true,true,true,true,true,true,true,true] rfl rfl (one_of HT_.out (by kernel_rfl)) (by decide) (fun K hK => ?_)
               have hs82 : w80.cell? ⟨gb116,1,none⟩ = some (u117001):=(blk_cell BK116.out 1).trans rfl
               have hfs82:=blk_frozen BK116.out 1
               have hns82_0:=NB115_116.out
               have hms82_0:=NB116_115.out
               refine skip_ (w1:=?_) (by rfl) rfl ?_ ?_
               rotate_left
               ·go_simp
                rfl
               refine hK.out _ _ ?_
               clear hK K
               refine done_ (done_of HT_.out (by kernel_rfl)) ?_
               try go_wp2
               go_roundg k2
               case measure => have:=HJ3.out; have:=HK2.out; omega
               case rel => exact ⟨(wrap64 (x5_2 + 1)),(t159),(t160),(y152),(y161),(.slice Ao72 y152.length co72),(.slice Ao81 y161.length co81),(by first|rfl|(simp; done)|(simp [*]; done)),H',⟨by have:=HJ3.out; have:=HK2.out; omega⟩,⟨by (with_reducible repeat (first|apply Kd.R_alloc|apply Kd.R_drewN|apply Kd.R_drew)); exact Kd.R_mono (Kd.R_far (p:=⟨gb116,1,none⟩) (Kd.R_types HO154.out BK116.out (by decide)) (fun _ hk => hk.2) (.slice Ao81 y161.length co81)) (fun _ hk => hk.1.2)⟩,⟨by (with_reducible repeat (first|apply Kd.R_alloc|apply Kd.R_drewN|apply Kd.R_drew)); exact Kd.R_mono (Kd.R_far (p:=⟨gb116,1,none⟩) (Kd.R_types HO163.out BK116.out (by decide)) (fun _ hk => hk.2) (.slice Ao81 y161.length co81)) (fun _ hk => hk.1.1)⟩,⟨by (with_reducible repeat (first|refine blk_drewN ?_ _|refine blk_drew ?_|refine blk_alloc ?_ _)); refine blk_far ?_ NB115_116.out _; (with_reducible repeat (first|refine blk_drewN ?_ _|refine blk_drew ?_|refine blk_alloc ?_ _)); exact BK115.out⟩,⟨by (with_reducible repeat (first|refine blk_drewN ?_ _|refine blk_drew ?_|refine blk_alloc ?_ _)); refine blk_put (cs:=#[.slice Ao72 y152.length co72,u117001]) ?_ 1 _ rfl; (with_reducible repeat (first|refine blk_drewN ?_ _|refine blk_drew ?_|refine blk_alloc ?_ _)); exact BK116.out⟩,⟨by repeat (first|(with_reducible first|exact HI0.out|apply IsS112.alloc|apply IsS112.drewN|apply IsS112.drew|apply IsS112.set_1|apply IsS112.set_2|refine IsS112.far ?_ NB0_115.out _|refine IsS112.far ?_ NB0_116.out _)|exact HI0.out)⟩,⟨by repeat (first|(with_reducible first|exact HK.out|apply KeepBut.set_|apply keep_drewN|apply keep_drew|apply keep_alloc|refine keep_far ?_ GW115.out _|refine keep_far ?_ GW116.out _)|exact HK.out)⟩,⟨by repeat (first|(with_reducible first|exact HB.out|apply below_alloc|apply pw_below_drewN|apply below_drew1|refine below_set ?_ (IsS112.ge HI0.out)|refine below_set ?_ GE115.out|refine below_set ?_ GE116.out)|exact HB.out)⟩⟩
              ·rw [if_neg c65] at H
               exact absurd H (by simp)
             ·rw [if_neg c63] at H
              exact absurd H (by simp)
           ·rw [if_neg c41] at H
            exact absurd H (by simp)
          ·rw [if_neg c40] at H
           have c40b0 : (x5_2 == (wrap64 (x4_3 - 1))) = false:=beq_eq_false_iff_ne.mpr c40
           have c40b1 : (x5_2 != (wrap64 (x4_3 - 1))) = true:=bne_iff_ne.mpr c40
           by_cases c83 : x117000_2.length < 17592186044416
           ·rw [if_pos c83] at H
            have LMc83:=Aside0.mk c83
            clear c83
            obtain ⟨y164,hy164⟩ : ∃ y_ : List Int,y_ = (x117000_2 ++ [wrap64 (1 + t123)]):=⟨_,rfl⟩
            replace H : ((spec_l1Cur_among.f s0_0 t124 t125 (([1,2,3,5,10,40] : List Int))).bind fun bt170 => (if x117001_2.length < 17592186044416 then (spec_l1Cur_rotation.l0 k2 x4_3 (wrap64 (x5_2 + 1)) s0_0 bt170.2.1 bt170.2.2 y164 (x117001_2 ++ [bt170.1])) else (none))) = some (r1,r2,r3,r4):=by first|(rw [hy164]; with_reducible exact H)|(have H2_:=(Option.bind_some _ _).symm.trans H; rw [hy164]; with_reducible exact H2_)|(have H2_:=(Option.bind_some _ _).symm.trans H; with_reducible exact H2_)|with_reducible exact H|(rw [hy164]; exact H)|exact H
            have Ny164:=Aside0.mk hy164
            clear hy164
            obtain ⟨y167,hy167⟩ : ∃ y_ : List Int,y_ = (([1,2,3,5,10,40] : List Int)):=⟨_,rfl⟩
            replace H : ((spec_l1Cur_among.f s0_0 t124 t125 y167).bind fun bt170 => (if x117001_2.length < 17592186044416 then (spec_l1Cur_rotation.l0 k2 x4_3 (wrap64 (x5_2 + 1)) s0_0 bt170.2.1 bt170.2.2 y164 (x117001_2 ++ [bt170.1])) else (none))) = some (r1,r2,r3,r4):=by first|(rw [hy167]; with_reducible exact H)|(have H2_:=(Option.bind_some _ _).symm.trans H; rw [hy167]; with_reducible exact H2_)|(have H2_:=(Option.bind_some _ _).symm.trans H; with_reducible exact H2_)|with_reducible exact H|(rw [hy167]; exact H)|exact H
            have Ny167:=Aside0.mk hy167
            clear hy167
            replace H:=Option.bind_eq_some_iff.mp H
            obtain ⟨⟨t170,t171,t172⟩,A840,H⟩:=H
            replace H : (if x117001_2.length < 17592186044416 then (spec_l1Cur_rotation.l0 k2 x4_3 (wrap64 (x5_2 + 1)) s0_0 t171 t172 y164 (x117001_2 ++ [t170])) else (none)) = some (r1,r2,r3,r4):=H
            have A84:=Aside0.mk A840
            clear A840
            by_cases c85 : x117001_2.length < 17592186044416
            ·rw [if_pos c85] at H
             have LMc85:=Aside0.mk c85
             clear c85
             obtain ⟨y173,hy173⟩ : ∃ y_ : List Int,y_ = (x117001_2 ++ [t170]):=⟨_,rfl⟩
             replace H : (spec_l1Cur_rotation.l0 k2 x4_3 (wrap64 (x5_2 + 1)) s0_0 t171 t172 y164 y173) = some (r1,r2,r3,r4):=by first|(rw [hy173]; with_reducible exact H)|(have H2_:=(Option.bind_some _ _).symm.trans H; rw [hy173]; with_reducible exact H2_)|(have H2_:=(Option.bind_some _ _).symm.trans H; with_reducible exact H2_)|with_reducible exact H|(rw [hy173]; exact H)|exact H
             have Ny173:=Aside0.mk hy173
             clear hy173
             have H':=Aside0.mk H
             clear H
             try go_wp2_with (first|((with_reducible refine gate_callee (f:=97) rfl ?_); refine goesL_ (some 19) rfl rfl Try.func97 (by kernel_rfl) rfl #[.pointer (some ⟨g,0,none⟩),.int .i64 5] rfl (by (try simp only [List.map_toArray,List.map_cons,List.map_nil]); first|done|rfl|(simp only [List.length_drop,List.length_take]; rfl)) ?_; (with_reducible refine (spec_l1Cur_pick.calls g s0_0 x1001_2 x1002_2 5 t123 t124 t125 w0 _ ?side1 ?side2 A14.out).mono ?_); (case side1 => repeat (first|(with_reducible first|exact HI0.out|apply IsS112.alloc|apply IsS112.drewN|apply IsS112.drew|apply IsS112.set_1|apply IsS112.set_2|refine IsS112.far ?_ NB0_115.out _|refine IsS112.far ?_ NB0_116.out _)|exact HI0.out)); (case side2 => repeat (first|(with_reducible first|exact HB.out|apply below_alloc|apply pw_below_drewN|apply below_drew1|refine below_set ?_ (IsS112.ge HI0.out)|refine below_set ?_ GE115.out|refine below_set ?_ GE116.out)|exact HB.out)); rintro e w86 ⟨rfl,hi,hb,hk⟩; refine ⟨_,rfl,?_⟩; have n0_:=Aside0.mk (Kd.R_mono (Kd.R_keep (IsS112.apart (show IsS112 w0 _ g s0_0 x1001_2 x1002_2 from by repeat (first|(with_reducible first|exact HI0.out|apply IsS112.alloc|apply IsS112.drewN|apply IsS112.drew|apply IsS112.set_1|apply IsS112.set_2|refine IsS112.far ?_ NB0_115.out _|refine IsS112.far ?_ NB0_116.out _)|exact HI0.out)) (by (with_reducible repeat (first|apply Kd.R_alloc|apply Kd.R_drewN|apply Kd.R_drew)); exact HO_117000.out) (by decide)) hk (fun _ h => h.2)) (fun _ h => h.1)); have n1_:=Aside0.mk (Kd.R_mono (Kd.R_keep (IsS112.apart (show IsS112 w0 _ g s0_0 x1001_2 x1002_2 from by repeat (first|(with_reducible first|exact HI0.out|apply IsS112.alloc|apply IsS112.drewN|apply IsS112.drew|apply IsS112.set_1|apply IsS112.set_2|refine IsS112.far ?_ NB0_115.out _|refine IsS112.far ?_ NB0_116.out _)|exact HI0.out)) (by (with_reducible repeat (first|apply Kd.R_alloc|apply Kd.R_drewN|apply Kd.R_drew)); exact HO_117001.out) (by decide)) hk (fun _ h => h.2)) (fun _ h => h.1)); have n2_:=Aside0.mk (KeepBut.blk hk (g':=gb115) (o:=.cells #[.slice none 0 0,.slice none 0 0] 26 (0,0)) (by (with_reducible repeat (first|refine blk_drewN ?_ _|refine blk_drew ?_|refine blk_alloc ?_ _)); exact BK115.out) NB115_0.out (by simp)); have n3_:=Aside0.mk (KeepBut.blk hk (g':=gb116) (o:=.cells #[u117000,u117001] 26 (0,0)) (by (with_reducible repeat (first|refine blk_drewN ?_ _|refine blk_drew ?_|refine blk_alloc ?_ _)); exact BK116.out) NB116_0.out (by simp)); have n4_:=Aside0.mk (KeepBut.trans (by repeat (first|(with_reducible first|exact HK.out|apply KeepBut.set_|apply keep_drewN|apply keep_drew|apply keep_alloc|refine keep_far ?_ GW115.out _|refine keep_far ?_ GW116.out _)|exact HK.out)) hk (.inl rfl)); have n5_:=Aside0.mk (hb); have n6_:=Aside0.mk (hi); clear HO_117000; clear HO_117001; clear BK115; clear BK116; clear HK; clear HB; clear HI0; have HO_117000:=n0_; have HO_117001:=n1_; have BK115:=n2_; have BK116:=n3_; have HK:=n4_; have HB:=n5_; have HI0:=n6_; clear n0_ n1_ n2_ n3_ n4_ n5_ n6_; (try clear hb); (try clear hb2); (try clear hk); (try clear hi); have hnb87:=NB116_115.out; have hnc87:=NB115_116.out; have hnb88:=NB116_0.out; have hnc88:=NB0_116.out; have hcz89_0 : w86.cell? ⟨gb116,0,none⟩ = some (u117000):=(blk_cell BK116.out 0).trans rfl; have hcz89_1 : w86.cell? ⟨gb116,1,none⟩ = some (u117001):=(blk_cell BK116.out 1).trans rfl; have hfz89_0:=blk_frozen BK116.out 0; have hfz89_1:=blk_frozen BK116.out 1; obtain ⟨Ao90,co90,eo90⟩:=Kd.R_slice HO_117000.out; subst eo90; have p126 : 0 ≤ ((ji16) : Int):=of_decide_eq_true (by first|(with_reducible assumption)|assumption); have q126 : (ji16) < (x117000_2.length : Int):=of_decide_eq_true (by first|(with_reducible assumption)|assumption); obtain ⟨ad126,e126,hx126_0⟩:=Kd.at_int (Kd.R_reads' HO_117000.out).2.2 (ji16) p126 q126; cases e126; replace p126:=eq_true p126; replace q126:=eq_true q126)|((with_reducible refine gate_builtin (b:=.append) (xs:=#[.tmp 55,.tmp 57]) rfl ?_); at_builtin; refine Kd.R_append (Kd.int .i64) w.heap.size rfl (.tmp 55) (.tmp 57) 24 3 (.int .i64 0) 8 rfl Try.underlying24 info3 rfl (by decide) (by omega) (.slice (some ad126) x117000_2.length co90) x117000_2 (wrap64 (1 + t123)) [.int .i64 (wrap64 (1 + t123))] (fun k_ => some k_ ≠ (u117001 : Value).ownBlock) (fun _ => False) rfl rfl ?aP (fun _ hk => hk.elim) ?aF ?aO (Below.refl _ _) ?aS ?aL ?_; (case aP => exact rfl); (case aF => exact (fun k_ hk => Kd.fresh' (Kd.R_lt (by (with_reducible repeat (first|apply Kd.R_alloc|apply Kd.R_drewN|apply Kd.R_drew)); exact HO_117001.out)) k_ hk)); (case aO => exact (by (with_reducible repeat (first|apply Kd.R_alloc|apply Kd.R_drewN|apply Kd.R_drew)); exact HO_117000.out)); (case aS => exact (keep_size (w:=w) (g:=g) (row:=none) (by repeat (first|(with_reducible first|exact HK.out|apply KeepBut.set_|apply keep_drewN|apply keep_drew|apply keep_alloc|refine keep_far ?_ GW115.out _|refine keep_far ?_ GW116.out _)|exact HK.out)))); (case aL => have:=LMc83.out; omega); intro v165 w91 ho hb hg hat; rw [← Ny164.out] at ho; have n0_:=Aside0.mk (Kd.R_after (ok:=(fun _ => True)) (by (with_reducible repeat (first|apply Kd.R_alloc|apply Kd.R_drewN|apply Kd.R_drew)); exact Kd.R_mono HO_117001.out (fun _ hk => ⟨trivial,hk⟩)) hg hat); have n1_:=Aside0.mk (blk_grown (g:=gb115) (o:=.cells #[.slice none 0 0,.slice none 0 0] 26 (0,0)) (by (with_reducible repeat (first|refine blk_drewN ?_ _|refine blk_drew ?_|refine blk_alloc ?_ _)); exact BK115.out) hg (Kd.R_ne HO_117000.out BK115.out (by decide))); have n2_:=Aside0.mk (blk_grown (g:=gb116) (o:=.cells #[.slice (some ad126) x117000_2.length co90,u117001] 26 (0,0)) (by (with_reducible repeat (first|refine blk_drewN ?_ _|refine blk_drew ?_|refine blk_alloc ?_ _)); exact BK116.out) hg (Kd.R_ne HO_117000.out BK116.out (by decide))); have n3_:=Aside0.mk (IsS112.grown (by repeat (first|(with_reducible first|exact HI0.out|apply IsS112.alloc|apply IsS112.drewN|apply IsS112.drew|apply IsS112.set_1|apply IsS112.set_2|refine IsS112.far ?_ NB0_115.out _|refine IsS112.far ?_ NB0_116.out _)|exact HI0.out)) hg (IsS112.own_ne HI0.out HO_117000.out (by decide))); have n4_:=Aside0.mk (below_weaken (by repeat (first|(with_reducible first|exact HB.out|apply below_alloc|apply pw_below_drewN|apply below_drew1|refine below_set ?_ (IsS112.ge HI0.out)|refine below_set ?_ GE115.out|refine below_set ?_ GE116.out)|exact HB.out)) HL.out hb); have n5_:=Aside0.mk (KeepBut.trans (by repeat (first|(with_reducible first|exact HK.out|apply KeepBut.set_|apply keep_drewN|apply keep_drew|apply keep_alloc|refine keep_far ?_ GW115.out _|refine keep_far ?_ GW116.out _)|exact HK.out)) (KeepBut.of_grown hg g) (Kd.R_base2 HO_117000.out)); have n6_:=Aside0.mk (ho); clear HO_117001; clear BK115; clear BK116; clear HI0; clear HB; clear HK; clear HO_117000; have HO_117001:=n0_; have BK115:=n1_; have BK116:=n2_; have HI0:=n3_; have HB:=n4_; have HK:=n5_; have HO166:=n6_; clear n0_ n1_ n2_ n3_ n4_ n5_ n6_; clear ho hb hg hat; obtain ⟨Ao92,co92,eo92⟩:=Kd.R_slice HO166.out; subst eo92; have hcz93_0 : w91.cell? ⟨gb116,0,none⟩ = some (.slice (some ad126) x117000_2.length co90):=(blk_cell BK116.out 0).trans rfl; have hcz93_1 : w91.cell? ⟨gb116,1,none⟩ = some (u117001):=(blk_cell BK116.out 1).trans rfl; have hfz93_0:=blk_frozen BK116.out 0; have hfz93_1:=blk_frozen BK116.out 1))
             have n0_ : Aside0 (Kd.R (Kd.int .i64) 3 (w91.setCell ⟨gb116,0,none⟩ (.slice Ao92 y164.length co92)) w.heap.size (fun k_ => some k_ ≠ (.slice Ao92 y164.length co92 : Value).ownBlock) u117001 x117001_2):=⟨by (with_reducible repeat (first|apply Kd.R_alloc|apply Kd.R_drewN|apply Kd.R_drew)); exact Kd.R_mono (Kd.R_far (p:=⟨gb116,0,none⟩) (Kd.R_types HO_117001.out BK116.out (by decide)) (fun _ hk => hk.2) (.slice Ao92 y164.length co92)) (fun _ hk => hk.1.2)⟩
             have n1_ : Aside0 (Kd.R (Kd.int .i64) 3 (w91.setCell ⟨gb116,0,none⟩ (.slice Ao92 y164.length co92)) w.heap.size (fun k_ => some k_ ≠ (u117001 : Value).ownBlock) (.slice Ao92 y164.length co92) y164):=⟨by (with_reducible repeat (first|apply Kd.R_alloc|apply Kd.R_drewN|apply Kd.R_drew)); exact Kd.R_mono (Kd.R_far (p:=⟨gb116,0,none⟩) (Kd.R_types HO166.out BK116.out (by decide)) (fun _ hk => hk.2) (.slice Ao92 y164.length co92)) (fun _ hk => hk.1)⟩
             have n2_ : Aside0 ((w91.setCell ⟨gb116,0,none⟩ (.slice Ao92 y164.length co92)).heap[gb115]? = some (.cells #[.slice none 0 0,.slice none 0 0] 26 (0,0))):=⟨by (with_reducible repeat (first|refine blk_drewN ?_ _|refine blk_drew ?_|refine blk_alloc ?_ _)); refine blk_far ?_ NB115_116.out _; (with_reducible repeat (first|refine blk_drewN ?_ _|refine blk_drew ?_|refine blk_alloc ?_ _)); exact BK115.out⟩
             have n3_ : Aside0 ((w91.setCell ⟨gb116,0,none⟩ (.slice Ao92 y164.length co92)).heap[gb116]? = some (.cells #[.slice Ao92 y164.length co92,u117001] 26 (0,0))):=⟨by (with_reducible repeat (first|refine blk_drewN ?_ _|refine blk_drew ?_|refine blk_alloc ?_ _)); refine blk_put (cs:=#[.slice (some ad126) x117000_2.length co90,u117001]) ?_ 0 _ rfl; (with_reducible repeat (first|refine blk_drewN ?_ _|refine blk_drew ?_|refine blk_alloc ?_ _)); exact BK116.out⟩
             have n4_ : Aside0 (IsS112 w0 (w91.setCell ⟨gb116,0,none⟩ (.slice Ao92 y164.length co92)) g s0_0 t124 t125):=⟨by repeat (first|(with_reducible first|exact HI0.out|apply IsS112.alloc|apply IsS112.drewN|apply IsS112.drew|apply IsS112.set_1|apply IsS112.set_2|refine IsS112.far ?_ NB0_115.out _|refine IsS112.far ?_ NB0_116.out _)|exact HI0.out)⟩
             have n5_ : Aside0 (KeepBut w (w91.setCell ⟨gb116,0,none⟩ (.slice Ao92 y164.length co92)) g none):=⟨by repeat (first|(with_reducible first|exact HK.out|apply KeepBut.set_|apply keep_drewN|apply keep_drew|apply keep_alloc|refine keep_far ?_ GW115.out _|refine keep_far ?_ GW116.out _)|exact HK.out)⟩
             have n6_ : Aside0 (Below w0.heap.size w0 (w91.setCell ⟨gb116,0,none⟩ (.slice Ao92 y164.length co92))):=⟨by repeat (first|(with_reducible first|exact HB.out|apply below_alloc|apply pw_below_drewN|apply below_drew1|refine below_set ?_ (IsS112.ge HI0.out)|refine below_set ?_ GE115.out|refine below_set ?_ GE116.out)|exact HB.out)⟩
             (try clear HO_117001)
             (try clear HO166)
             (try clear BK115)
             (try clear BK116)
             (try clear HI0)
             (try clear HK)
             (try clear HB)
             generalize (w91.setCell ⟨gb116,0,none⟩ (.slice Ao92 y164.length co92)) = w94 at n0_ n1_ n2_ n3_ n4_ n5_ n6_ ⊢
             have HO_117001:=n0_
             have HO166:=n1_
             have BK115:=n2_
             have BK116:=n3_
             have HI0:=n4_
             have HK:=n5_
             have HB:=n6_
             clear n0_ n1_ n2_ n3_ n4_ n5_ n6_
             have n0_:=Aside0.mk (Kd.R_drew HO_117001.out)
             have n1_:=Aside0.mk (Kd.R_drew HO166.out)
             have n2_:=Aside0.mk (blk_drew BK115.out)
             have n3_:=Aside0.mk (blk_drew BK116.out)
             have n4_:=Aside0.mk (IsS112.drew HI0.out)
             have n5_:=Aside0.mk (keep_drew HK.out)
             have n6_:=Aside0.mk (below_drew1 HB.out)
             clear HO_117001
             clear HO166
             clear BK115
             clear BK116
             clear HI0
             clear HK
             clear HB
             have HO_117001:=n0_
             have HO166:=n1_
             have BK115:=n2_
             have BK116:=n3_
             have HI0:=n4_
             have HK:=n5_
             have HB:=n6_
             clear n0_ n1_ n2_ n3_ n4_ n5_ n6_
             refine start_ (n:=9) (S:=fun w' => w'.cell? ⟨gb116,0,none⟩ = some (.slice Ao92 y164.length co92) ∧ w'.cell? ⟨gb116,1,none⟩ = some (u117001)) (ds:=[8]) #[false,false,false,false,false,false,false,false,false] (by kernel_rfl) rfl rfl ⟨(blk_cell BK116.out 0).trans rfl,(blk_cell BK116.out 1).trans rfl⟩ (fun hHeld => ?_); refine with_tabW spec_l1Cur_rotation.tab12 spec_l1Cur_rotation.bits12 (fun HT_ HW_ => ?_)
             generalize w94.drew = w95 at HO_117001 HO166 BK115 BK116 HI0 HK HB hHeld ⊢
             refine pure_ (i:=0) (N:=some 60) (v:=?_) (a':=?_) #[true,false,false,false,false,false,false,false,false] rfl rfl (any_of HT_.out (by kernel_rfl)) (fun _ _ _ h => h) (Or.inl ⟨by rfl,?_⟩) ?_ ?_
             rotate_left
             ·intro w'
              go_simp
              with_reducible rfl
             rotate_left
             ·simp only [Act.put,List.setIfInBounds_toArray,List.set_cons_zero,List.set_cons_succ,i64_w,i32_w]
              rfl
             refine pure_ (i:=2) (N:=some 62) (v:=?_) (a':=?_) #[true,false,true,false,false,false,false,false,false] rfl rfl (any_of HT_.out (by kernel_rfl)) (fun _ _ _ h => h) (Or.inl ⟨by rfl,?_⟩) ?_ ?_
             rotate_left
             ·intro w'
              go_simp
              with_reducible rfl
             rotate_left
             ·simp only [Act.put,List.setIfInBounds_toArray,List.set_cons_zero,List.set_cons_succ,i64_w,i32_w]
              rfl
             refine take_ (i:=1) (N:=some 61) (v:=?_) (a':=?_) #[true,true,true,false,false,false,false,false,false] rfl rfl (take_ofW HT_.out HW_.out (by kernel_rfl)) (fun _ _ _ h => h) (Or.inl ⟨by rfl,?_⟩) hHeld ?_ ?_
             rotate_left
             ·rintro w' ⟨s0,s1⟩
              go_simp
              with_reducible rfl
             rotate_left
             ·simp only [Act.put,List.setIfInBounds_toArray,List.set_cons_zero,List.set_cons_succ,i64_w,i32_w]
              rfl
             refine one_ (i:=3) (N:=some 63) #[true,true,true,true,false,false,false,false,false] rfl rfl (one_of HT_.out (by kernel_rfl)) (by decide) (fun K hK => ?_)
             refine Kd.R_lit_step (Kd.int .i64) _ 3 ?hg (N:=63) ?hd (xs:=([1,2,3,5,10,40] : List Int)) (inner:=[.int .i64 1,.int .i64 2,.int .i64 3,.int .i64 5,.int .i64 10,.int .i64 40]) (ok:=fun _ => True) (okp:=fun _ => True) ?hr ?hp (fun _ hk => hk) trivial (Below.refl _ _) (Nat.le_refl _) (by simp) ?_; (case hd => rfl); (case hg => rfl); (case hr => first|(go_simp; done)|(go_simp; rfl)); (case hp => exact (Reps.one (show Kd.M (Kd.int .i64) _ _ _ 1 [.int .i64 1] from rfl) (Reps.one (show Kd.M (Kd.int .i64) _ _ _ 2 [.int .i64 2] from rfl) (Reps.one (show Kd.M (Kd.int .i64) _ _ _ 3 [.int .i64 3] from rfl) (Reps.one (show Kd.M (Kd.int .i64) _ _ _ 5 [.int .i64 5] from rfl) (Reps.one (show Kd.M (Kd.int .i64) _ _ _ 10 [.int .i64 10] from rfl) (Reps.one (show Kd.M (Kd.int .i64) _ _ _ 40 [.int .i64 40] from rfl) (Reps.none _ _))))))))
             intro v168 w96 ho97 hb hg_ hnew_
             clear hg_ hnew_
             (first|rw [← Ny167.out] at ho97|(simp only [Int.reduceToNat] at ho97; rw [← Ny167.out] at ho97))
             have n0_:=Aside0.mk (Kd.R_elder' (by (with_reducible repeat (first|apply Kd.R_alloc|apply Kd.R_drewN|apply Kd.R_drew)); exact HO_117001.out) (Kd.R_base ho97) hb)
             have n1_:=Aside0.mk (Kd.R_elder' (by (with_reducible repeat (first|apply Kd.R_alloc|apply Kd.R_drewN|apply Kd.R_drew)); exact HO166.out) (Kd.R_base ho97) hb)
             have n2_:=Aside0.mk (Kd.R_lower (Kd.R_new' (Kd.R_new' ho97 (Kd.R_lt (by (with_reducible repeat (first|apply Kd.R_alloc|apply Kd.R_drewN|apply Kd.R_drew)); exact HO_117001.out))) (Kd.R_lt (by (with_reducible repeat (first|apply Kd.R_alloc|apply Kd.R_drewN|apply Kd.R_drew)); exact HO166.out))) (keep_size (w:=w) (g:=g) (row:=none) (by repeat (first|(with_reducible first|exact HK.out|apply KeepBut.set_|apply keep_drewN|apply keep_drew|apply keep_alloc|refine keep_far ?_ GW115.out _|refine keep_far ?_ GW116.out _)|exact HK.out))))
             have n3_:=Aside0.mk (blk_below (g:=gb115) (o:=.cells #[.slice none 0 0,.slice none 0 0] 26 (0,0)) (by (with_reducible repeat (first|refine blk_drewN ?_ _|refine blk_drew ?_|refine blk_alloc ?_ _)); exact BK115.out) hb)
             have n4_:=Aside0.mk (blk_below (g:=gb116) (o:=.cells #[.slice Ao92 y164.length co92,u117001] 26 (0,0)) (by (with_reducible repeat (first|refine blk_drewN ?_ _|refine blk_drew ?_|refine blk_alloc ?_ _)); exact BK116.out) hb)
             have n5_:=Aside0.mk (IsS112.below (by repeat (first|(with_reducible first|exact HI0.out|apply IsS112.alloc|apply IsS112.drewN|apply IsS112.drew|apply IsS112.set_1|apply IsS112.set_2|refine IsS112.far ?_ NB0_115.out _|refine IsS112.far ?_ NB0_116.out _)|exact HI0.out)) hb)
             have n6_:=Aside0.mk (KeepBut.trans (by repeat (first|(with_reducible first|exact HK.out|apply KeepBut.set_|apply keep_drewN|apply keep_drew|apply keep_alloc|refine keep_far ?_ GW115.out _|refine keep_far ?_ GW116.out _)|exact HK.out)) (KeepBut.of_below hb g none) (.inl rfl))
             have n7_:=Aside0.mk (below_step (by repeat (first|(with_reducible first|exact HB.out|apply below_alloc|apply pw_below_drewN|apply below_drew1|refine below_set ?_ (IsS112.ge HI0.out)|refine below_set ?_ GE115.out|refine below_set ?_ GE116.out)|exact HB.out)) hb)
             clear HO_117001
             clear HO166
             clear BK115
             clear BK116
             clear HI0
             clear HK
             clear HB
             have HO_117001:=n0_
             have HO166:=n1_
             have HO169:=n2_
             have BK115:=n3_
             have BK116:=n4_
             have HI0:=n5_
             have HK:=n6_
             have HB:=n7_
             clear n0_ n1_ n2_ n3_ n4_ n5_ n6_ n7_
             clear hb ho97
             obtain ⟨Ao98,co98,eo98⟩:=Kd.R_slice HO169.out
             (first|subst eo98|(injection eo98 with f1_ f2_ f3_; have f4_:=f1_.symm; have f5_:=f3_.symm; clear f1_ f2_ f3_; subst f4_; subst f5_))
             refine hK.out _ _ ⟨(blk_cell BK116.out 0).trans rfl,(blk_cell BK116.out 1).trans rfl⟩ (fun hHeld => ?_)
             clear hK K
             refine norm_ (a':=?_) ?_ ?_
             rotate_left
             ·show Act.put _ (some 63) _ = _
              simp only [Act.put,List.setIfInBounds_toArray,List.set_cons_zero,List.set_cons_succ,i64_w,i32_w]
              rfl
             refine one_ (i:=4) (N:=some 64) #[true,true,true,true,true,false,false,false,false] rfl rfl (one_of HT_.out (by kernel_rfl)) (by decide) (fun K hK => ?_)
             refine goes_ Try.func114 (by kernel_rfl) rfl #[.pointer (some ⟨g,0,none⟩),.slice Ao98 y167.length co98] (by rfl) rfl rfl (by (try simp only [List.map_toArray,List.map_cons,List.map_nil]); first|done|rfl|(simp only [List.length_drop,List.length_take]; rfl)) ?_
             with_reducible refine (spec_l1Cur_among.calls g s0_0 t124 t125 _ _ y167 t170 t171 t172 w0 _ ?side1 ?side2 ?side3 ?side4 ?side5 A84.out).mono ?_
             (case side1 => repeat (first|(with_reducible first|exact HI0.out|apply IsS112.alloc|apply IsS112.drewN|apply IsS112.drew|apply IsS112.set_1|apply IsS112.set_2|refine IsS112.far ?_ NB0_115.out _|refine IsS112.far ?_ NB0_116.out _)|exact HI0.out))
             (case side2 => repeat (first|(with_reducible first|exact HB.out|apply below_alloc|apply pw_below_drewN|apply below_drew1|refine below_set ?_ (IsS112.ge HI0.out)|refine below_set ?_ GE115.out|refine below_set ?_ GE116.out)|exact HB.out))
             (case side3 => repeat (first|exact (Kd.R_reads' HO169.out).2.2|(with_reducible refine Kd.C_alloc ?_ _)|(with_reducible refine Kd.C_drewN ?_ _)|(with_reducible refine Kd.C_drew ?_)))
             (case side4 => exact (Kd.R_reads' HO169.out).2.1)
             (case side5 => exact far_slice (IsS112.own_ne HI0.out HO169.out (by decide)))
             rintro e w99 ⟨rfl,hi,hb,hk⟩
             refine ⟨_,rfl,?_⟩
             have n0_:=Aside0.mk (Kd.R_mono (Kd.R_keep (IsS112.apart (show IsS112 w0 _ g s0_0 t124 t125 from by repeat (first|(with_reducible first|exact HI0.out|apply IsS112.alloc|apply IsS112.drewN|apply IsS112.drew|apply IsS112.set_1|apply IsS112.set_2|refine IsS112.far ?_ NB0_115.out _|refine IsS112.far ?_ NB0_116.out _)|exact HI0.out)) (by (with_reducible repeat (first|apply Kd.R_alloc|apply Kd.R_drewN|apply Kd.R_drew)); exact HO_117001.out) (by decide)) hk (fun _ h => h.2)) (fun _ h => h.1))
             have n1_:=Aside0.mk (KeepBut.blk hk (g':=gb115) (o:=.cells #[.slice none 0 0,.slice none 0 0] 26 (0,0)) (by (with_reducible repeat (first|refine blk_drewN ?_ _|refine blk_drew ?_|refine blk_alloc ?_ _)); exact BK115.out) NB115_0.out (by simp))
             have n2_:=Aside0.mk (KeepBut.blk hk (g':=gb116) (o:=.cells #[.slice Ao92 y164.length co92,u117001] 26 (0,0)) (by (with_reducible repeat (first|refine blk_drewN ?_ _|refine blk_drew ?_|refine blk_alloc ?_ _)); exact BK116.out) NB116_0.out (by simp))
             have n3_:=Aside0.mk (Kd.R_mono (Kd.R_keep (IsS112.apart (show IsS112 w0 _ g s0_0 t124 t125 from by repeat (first|(with_reducible first|exact HI0.out|apply IsS112.alloc|apply IsS112.drewN|apply IsS112.drew|apply IsS112.set_1|apply IsS112.set_2|refine IsS112.far ?_ NB0_115.out _|refine IsS112.far ?_ NB0_116.out _)|exact HI0.out)) (by (with_reducible repeat (first|apply Kd.R_alloc|apply Kd.R_drewN|apply Kd.R_drew)); exact HO166.out) (by decide)) hk (fun _ h => h.2)) (fun _ h => h.1))
             have n4_:=Aside0.mk (Kd.R_mono (Kd.R_keep (IsS112.apart (show IsS112 w0 _ g s0_0 t124 t125 from by repeat (first|(with_reducible first|exact HI0.out|apply IsS112.alloc|apply IsS112.drewN|apply IsS112.drew|apply IsS112.set_1|apply IsS112.set_2|refine IsS112.far ?_ NB0_115.out _|refine IsS112.far ?_ NB0_116.out _)|exact HI0.out)) (by (with_reducible repeat (first|apply Kd.R_alloc|apply Kd.R_drewN|apply Kd.R_drew)); exact HO169.out) (by decide)) hk (fun _ h => h.2)) (fun _ h => h.1))
             have n5_:=Aside0.mk (KeepBut.trans (by repeat (first|(with_reducible first|exact HK.out|apply KeepBut.set_|apply keep_drewN|apply keep_drew|apply keep_alloc|refine keep_far ?_ GW115.out _|refine keep_far ?_ GW116.out _)|exact HK.out)) hk (.inl rfl))
             have n6_:=Aside0.mk (hb)
             have n7_:=Aside0.mk (hi)
             clear HO_117001
             clear BK115
             clear BK116
             clear HO166
             clear HO169
             clear HK
             clear HB
             clear HI0
             have HO_117001:=n0_
             have BK115:=n1_
             have BK116:=n2_
             have HO166:=n3_
             have HO169:=n4_
             have HK:=n5_
             have HB:=n6_
             have HI0:=n7_
             clear n0_ n1_ n2_ n3_ n4_ n5_ n6_ n7_
             (try clear hb)
             (try clear hb2)
             (try clear hk)
             (try clear hi)
             refine hK.out _ _ ⟨(blk_cell BK116.out 0).trans rfl,(blk_cell BK116.out 1).trans rfl⟩ (fun hHeld => ?_)
             clear hK K
             refine norm_ (a':=?_) ?_ ?_
             rotate_left
             ·show Act.put _ (some 64) _ = _
              simp only [Act.put,List.setIfInBounds_toArray,List.set_cons_zero,List.set_cons_succ,i64_w,i32_w]
              rfl
             refine one_ (i:=5) (N:=some 65) #[true,true,true,true,true,true,false,false,false] rfl rfl (one_of HT_.out (by kernel_rfl)) (by decide) (fun K hK => ?_)
             refine value_ (w1:=?_) (v:=?_) (by rfl) rfl ?_ ?_
             rotate_left 2
             ·go_simp
              constructor
              ·rfl
              ·rfl
             refine hK.out _ _ ⟨(blk_cell (blk_alloc BK116.out _) 0).trans rfl,(blk_cell (blk_alloc BK116.out _) 1).trans rfl⟩ (fun hHeld => ?_)
             clear hK K
             refine norm_ (a':=?_) ?_ ?_
             rotate_left
             ·show Act.put _ (some 65) _ = _
              simp only [Act.put,List.setIfInBounds_toArray,List.set_cons_zero,List.set_cons_succ,i64_w,i32_w]
              rfl
             refine one_ (i:=6) (N:=some 66) #[true,true,true,true,true,true,true,false,false] rfl rfl (one_of HT_.out (by kernel_rfl)) (by decide) (fun K hK => ?_)
             refine Kd.R_append_step (Kd.int .i64) w.heap.size (by rfl) (.tmp 61) (.tmp 65) 24 3 (.int .i64 0) 8 rfl Try.underlying24 info3 rfl (by decide) (by omega) u117001 x117001_2 t170 [.int .i64 t170] (fun k_ => some k_ ≠ (.slice Ao92 y164.length co92 : Value).ownBlock ∧ some k_ ≠ (.slice Ao98 y167.length co98 : Value).ownBlock) (fun _ => False) rfl rfl ?aP (fun _ hk => hk.elim) ?aF ?aO (Below.refl _ _) ?aS ?aL ?_
             (case aP => exact rfl)
             (case aF => exact (fun k_ hk => ⟨Kd.fresh' (Kd.R_lt (by (with_reducible repeat (first|apply Kd.R_alloc|apply Kd.R_drewN|apply Kd.R_drew)); exact HO166.out)) k_ hk,Kd.fresh' (Kd.R_lt (by (with_reducible repeat (first|apply Kd.R_alloc|apply Kd.R_drewN|apply Kd.R_drew)); exact HO169.out)) k_ hk⟩))
             (case aO => exact (by (with_reducible repeat (first|apply Kd.R_alloc|apply Kd.R_drewN|apply Kd.R_drew)); exact HO_117001.out))
             (case aS => exact (keep_size (w:=w) (g:=g) (row:=none) (by repeat (first|(with_reducible first|exact HK.out|apply KeepBut.set_|apply keep_drewN|apply keep_drew|apply keep_alloc|refine keep_far ?_ GW115.out _|refine keep_far ?_ GW116.out _)|exact HK.out))))
             (case aL => have:=LMc85.out; omega)
             intro v174 w100 ho hb hg hat
             rw [← Ny173.out] at ho
             have n0_:=Aside0.mk (blk_grown (g:=gb115) (o:=.cells #[.slice none 0 0,.slice none 0 0] 26 (0,0)) (by (with_reducible repeat (first|refine blk_drewN ?_ _|refine blk_drew ?_|refine blk_alloc ?_ _)); exact BK115.out) hg (Kd.R_ne HO_117001.out BK115.out (by decide)))
             have n1_:=Aside0.mk (blk_grown (g:=gb116) (o:=.cells #[.slice Ao92 y164.length co92,u117001] 26 (0,0)) (by (with_reducible repeat (first|refine blk_drewN ?_ _|refine blk_drew ?_|refine blk_alloc ?_ _)); exact BK116.out) hg (Kd.R_ne HO_117001.out BK116.out (by decide)))
             have n2_:=Aside0.mk (IsS112.grown (by repeat (first|(with_reducible first|exact HI0.out|apply IsS112.alloc|apply IsS112.drewN|apply IsS112.drew|apply IsS112.set_1|apply IsS112.set_2|refine IsS112.far ?_ NB0_115.out _|refine IsS112.far ?_ NB0_116.out _)|exact HI0.out)) hg (IsS112.own_ne HI0.out HO_117001.out (by decide)))
             have n3_:=Aside0.mk (Kd.R_after (ok:=(fun k_ => some k_ ≠ (.slice Ao98 y167.length co98 : Value).ownBlock)) (by (with_reducible repeat (first|apply Kd.R_alloc|apply Kd.R_drewN|apply Kd.R_drew)); exact Kd.R_mono HO166.out (fun _ hk => ⟨hk.2,hk.1⟩)) hg hat)
             have n4_:=Aside0.mk (Kd.R_after (ok:=(fun k_ => some k_ ≠ (.slice Ao92 y164.length co92 : Value).ownBlock)) (by (with_reducible repeat (first|apply Kd.R_alloc|apply Kd.R_drewN|apply Kd.R_drew)); exact Kd.R_mono HO169.out (fun _ hk => ⟨hk.2,hk.1.2⟩)) hg hat)
             have n5_:=Aside0.mk (below_weaken (by repeat (first|(with_reducible first|exact HB.out|apply below_alloc|apply pw_below_drewN|apply below_drew1|refine below_set ?_ (IsS112.ge HI0.out)|refine below_set ?_ GE115.out|refine below_set ?_ GE116.out)|exact HB.out)) HL.out hb)
             have n6_:=Aside0.mk (KeepBut.trans (by repeat (first|(with_reducible first|exact HK.out|apply KeepBut.set_|apply keep_drewN|apply keep_drew|apply keep_alloc|refine keep_far ?_ GW115.out _|refine keep_far ?_ GW116.out _)|exact HK.out)) (KeepBut.of_grown hg g) (Kd.R_base2 HO_117001.out))
             have n7_:=Aside0.mk (ho)
             clear BK115
             clear BK116
             clear HI0
             clear HO166
             clear HO169
             clear HB
             clear HK
             clear HO_117001
             have BK115:=n0_
             have BK116:=n1_
             have HI0:=n2_
             have HO166:=n3_
             have HO169:=n4_
             have HB:=n5_
             have HK:=n6_
             have HO175:=n7_
             clear n0_ n1_ n2_ n3_ n4_ n5_ n6_ n7_
             clear ho hb hg hat
             obtain ⟨Ao101,co101,eo101⟩:=Kd.R_slice HO175.out
             (first|subst eo101|(injection eo101 with f1_ f2_ f3_; have f4_:=f1_.symm; have f5_:=f3_.symm; clear f1_ f2_ f3_; subst f4_; subst f5_))
             refine hK.out _ _ ⟨(blk_cell BK116.out 0).trans rfl,(blk_cell BK116.out 1).trans rfl⟩ (fun hHeld => ?_)
             clear hK K
             refine norm_ (a':=?_) ?_ ?_
             rotate_left
             ·show Act.put _ (some 66) _ = _
              simp only [Act.put,List.setIfInBounds_toArray,List.set_cons_zero,List.set_cons_succ,i64_w,i32_w]
              rfl
             refine pure_ (i:=7) (N:=some 67) (v:=?_) (a':=?_) #[true,true,true,true,true,true,true,true,false] rfl rfl (any_of HT_.out (by kernel_rfl)) (fun _ _ _ h => h) (Or.inl ⟨by rfl,?_⟩) ?_ ?_
             rotate_left
             ·intro w'
              go_simp
              with_reducible rfl
             rotate_left
             ·simp only [Act.put,List.setIfInBounds_toArray,List.set_cons_zero,List.set_cons_succ,i64_w,i32_w]
              rfl
             refine last_ (i:=8) (N:=none) #[true,true,true,true,true,true,true,true,true] rfl rfl (one_of HT_.out (by kernel_rfl)) (by decide) (fun K hK => ?_)
             have hs102 : w100.cell? ⟨gb116,1,none⟩ = some (u117001):=(blk_cell BK116.out 1).trans rfl
             have hfs102:=blk_frozen BK116.out 1
             have hns102_0:=NB115_116.out
             have hms102_0:=NB116_115.out
             refine skip_ (w1:=?_) (by rfl) rfl ?_ ?_
             rotate_left
             ·go_simp
              rfl
             refine hK.out _ _ ?_
             clear hK K
             refine done_ (done_of HT_.out (by kernel_rfl)) ?_
             try go_wp2
             go_roundg k2
             case measure => have:=HJ3.out; have:=HK2.out; omega
             case rel => exact ⟨(wrap64 (x5_2 + 1)),(t171),(t172),(y164),(y173),(.slice Ao92 y164.length co92),(.slice Ao101 y173.length co101),(by first|rfl|(simp; done)|(simp [*]; done)),H',⟨by have:=HJ3.out; have:=HK2.out; omega⟩,⟨by (with_reducible repeat (first|apply Kd.R_alloc|apply Kd.R_drewN|apply Kd.R_drew)); exact Kd.R_mono (Kd.R_far (p:=⟨gb116,1,none⟩) (Kd.R_types HO166.out BK116.out (by decide)) (fun _ hk => hk.2) (.slice Ao101 y173.length co101)) (fun _ hk => hk.1.2)⟩,⟨by (with_reducible repeat (first|apply Kd.R_alloc|apply Kd.R_drewN|apply Kd.R_drew)); exact Kd.R_mono (Kd.R_far (p:=⟨gb116,1,none⟩) (Kd.R_types HO175.out BK116.out (by decide)) (fun _ hk => hk.2) (.slice Ao101 y173.length co101)) (fun _ hk => hk.1.1)⟩,⟨by (with_reducible repeat (first|refine blk_drewN ?_ _|refine blk_drew ?_|refine blk_alloc ?_ _)); refine blk_far ?_ NB115_116.out _; (with_reducible repeat (first|refine blk_drewN ?_ _|refine blk_drew ?_|refine blk_alloc ?_ _)); exact BK115.out⟩,⟨by (with_reducible repeat (first|refine blk_drewN ?_ _|refine blk_drew ?_|refine blk_alloc ?_ _)); refine blk_put (cs:=#[.slice Ao92 y164.length co92,u117001]) ?_ 1 _ rfl; (with_reducible repeat (first|refine blk_drewN ?_ _|refine blk_drew ?_|refine blk_alloc ?_ _)); exact BK116.out⟩,⟨by repeat (first|(with_reducible first|exact HI0.out|apply IsS112.alloc|apply IsS112.drewN|apply IsS112.drew|apply IsS112.set_1|apply IsS112.set_2|refine IsS112.far ?_ NB0_115.out _|refine IsS112.far ?_ NB0_116.out _)|exact HI0.out)⟩,⟨by repeat (first|(with_reducible first|exact HK.out|apply KeepBut.set_|apply keep_drewN|apply keep_drew|apply keep_alloc|refine keep_far ?_ GW115.out _|refine keep_far ?_ GW116.out _)|exact HK.out)⟩,⟨by repeat (first|(with_reducible first|exact HB.out|apply below_alloc|apply pw_below_drewN|apply below_drew1|refine below_set ?_ (IsS112.ge HI0.out)|refine below_set ?_ GE115.out|refine below_set ?_ GE116.out)|exact HB.out)⟩⟩
            ·rw [if_neg c85] at H
             exact absurd H (by simp)
           ·rw [if_neg c83] at H
            exact absurd H (by simp)
        ·rw [if_neg c18] at H
         exact absurd H (by simp)
       ·rw [if_neg c17] at H
        exact absurd H (by simp)
      ·rw [if_neg c15] at H
       have c15b0 : decide (0 < x5_2) = false:=decide_eq_false c15
       clear c15
       by_cases c103 : x5_2 = (wrap64 (x4_3 - 1))
       ·rw [if_pos c103] at H
        have c103b0 : (x5_2 == (wrap64 (x4_3 - 1))) = true:=beq_iff_eq.mpr c103
        have c103b1 : (x5_2 != (wrap64 (x4_3 - 1))) = false:=bne_eq_false_iff_eq.mpr c103
        clear c103
        by_cases c104 : x117000_2.length < 17592186044416
        ·rw [if_pos c104] at H
         have LMc104:=Aside0.mk c104
         clear c104
         obtain ⟨y176,hy176⟩ : ∃ y_ : List Int,y_ = (x117000_2 ++ [wrap64 (1 + t123)]):=⟨_,rfl⟩
         replace H : ((spec_l1Cur_among.f s0_0 t124 t125 (([1,2,3,5,10,40] : List Int))).bind fun bt182 => (if x117001_2.length < 17592186044416 then (spec_l1Cur_rotation.l0 k2 x4_3 (wrap64 (x5_2 + 1)) s0_0 bt182.2.1 bt182.2.2 y176 (x117001_2 ++ [bt182.1])) else (none))) = some (r1,r2,r3,r4):=by first|(rw [hy176]; with_reducible exact H)|(have H2_:=(Option.bind_some _ _).symm.trans H; rw [hy176]; with_reducible exact H2_)|(have H2_:=(Option.bind_some _ _).symm.trans H; with_reducible exact H2_)|with_reducible exact H|(rw [hy176]; exact H)|exact H
         have Ny176:=Aside0.mk hy176
         clear hy176
         obtain ⟨y179,hy179⟩ : ∃ y_ : List Int,y_ = (([1,2,3,5,10,40] : List Int)):=⟨_,rfl⟩
         replace H : ((spec_l1Cur_among.f s0_0 t124 t125 y179).bind fun bt182 => (if x117001_2.length < 17592186044416 then (spec_l1Cur_rotation.l0 k2 x4_3 (wrap64 (x5_2 + 1)) s0_0 bt182.2.1 bt182.2.2 y176 (x117001_2 ++ [bt182.1])) else (none))) = some (r1,r2,r3,r4):=by first|(rw [hy179]; with_reducible exact H)|(have H2_:=(Option.bind_some _ _).symm.trans H; rw [hy179]; with_reducible exact H2_)|(have H2_:=(Option.bind_some _ _).symm.trans H; with_reducible exact H2_)|with_reducible exact H|(rw [hy179]; exact H)|exact H
         have Ny179:=Aside0.mk hy179
         clear hy179
         replace H:=Option.bind_eq_some_iff.mp H
         obtain ⟨⟨t182,t183,t184⟩,A1050,H⟩:=H
         replace H : (if x117001_2.length < 17592186044416 then (spec_l1Cur_rotation.l0 k2 x4_3 (wrap64 (x5_2 + 1)) s0_0 t183 t184 y176 (x117001_2 ++ [t182])) else (none)) = some (r1,r2,r3,r4):=H
         have A105:=Aside0.mk A1050
         clear A1050
         by_cases c106 : x117001_2.length < 17592186044416
         ·rw [if_pos c106] at H
          have LMc106:=Aside0.mk c106
          clear c106
          obtain ⟨y185,hy185⟩ : ∃ y_ : List Int,y_ = (x117001_2 ++ [t182]):=⟨_,rfl⟩
          replace H : (spec_l1Cur_rotation.l0 k2 x4_3 (wrap64 (x5_2 + 1)) s0_0 t183 t184 y176 y185) = some (r1,r2,r3,r4):=by first|(rw [hy185]; with_reducible exact H)|(have H2_:=(Option.bind_some _ _).symm.trans H; rw [hy185]; with_reducible exact H2_)|(have H2_:=(Option.bind_some _ _).symm.trans H; with_reducible exact H2_)|with_reducible exact H|(rw [hy185]; exact H)|exact H
          have Ny185:=Aside0.mk hy185
          clear hy185
          have H':=Aside0.mk H
          clear H
          try go_wp2_with (first|((with_reducible refine gate_callee (f:=97) rfl ?_); refine goesL_ (some 19) rfl rfl Try.func97 (by kernel_rfl) rfl #[.pointer (some ⟨g,0,none⟩),.int .i64 5] rfl (by (try simp only [List.map_toArray,List.map_cons,List.map_nil]); first|done|rfl|(simp only [List.length_drop,List.length_take]; rfl)) ?_; (with_reducible refine (spec_l1Cur_pick.calls g s0_0 x1001_2 x1002_2 5 t123 t124 t125 w0 _ ?side1 ?side2 A14.out).mono ?_); (case side1 => repeat (first|(with_reducible first|exact HI0.out|apply IsS112.alloc|apply IsS112.drewN|apply IsS112.drew|apply IsS112.set_1|apply IsS112.set_2|refine IsS112.far ?_ NB0_115.out _|refine IsS112.far ?_ NB0_116.out _)|exact HI0.out)); (case side2 => repeat (first|(with_reducible first|exact HB.out|apply below_alloc|apply pw_below_drewN|apply below_drew1|refine below_set ?_ (IsS112.ge HI0.out)|refine below_set ?_ GE115.out|refine below_set ?_ GE116.out)|exact HB.out)); rintro e w107 ⟨rfl,hi,hb,hk⟩; refine ⟨_,rfl,?_⟩; have n0_:=Aside0.mk (Kd.R_mono (Kd.R_keep (IsS112.apart (show IsS112 w0 _ g s0_0 x1001_2 x1002_2 from by repeat (first|(with_reducible first|exact HI0.out|apply IsS112.alloc|apply IsS112.drewN|apply IsS112.drew|apply IsS112.set_1|apply IsS112.set_2|refine IsS112.far ?_ NB0_115.out _|refine IsS112.far ?_ NB0_116.out _)|exact HI0.out)) (by (with_reducible repeat (first|apply Kd.R_alloc|apply Kd.R_drewN|apply Kd.R_drew)); exact HO_117000.out) (by decide)) hk (fun _ h => h.2)) (fun _ h => h.1)); have n1_:=Aside0.mk (Kd.R_mono (Kd.R_keep (IsS112.apart (show IsS112 w0 _ g s0_0 x1001_2 x1002_2 from by repeat (first|(with_reducible first|exact HI0.out|apply IsS112.alloc|apply IsS112.drewN|apply IsS112.drew|apply IsS112.set_1|apply IsS112.set_2|refine IsS112.far ?_ NB0_115.out _|refine IsS112.far ?_ NB0_116.out _)|exact HI0.out)) (by (with_reducible repeat (first|apply Kd.R_alloc|apply Kd.R_drewN|apply Kd.R_drew)); exact HO_117001.out) (by decide)) hk (fun _ h => h.2)) (fun _ h => h.1)); have n2_:=Aside0.mk (KeepBut.blk hk (g':=gb115) (o:=.cells #[.slice none 0 0,.slice none 0 0] 26 (0,0)) (by (with_reducible repeat (first|refine blk_drewN ?_ _|refine blk_drew ?_|refine blk_alloc ?_ _)); exact BK115.out) NB115_0.out (by simp)); have n3_:=Aside0.mk (KeepBut.blk hk (g':=gb116) (o:=.cells #[u117000,u117001] 26 (0,0)) (by (with_reducible repeat (first|refine blk_drewN ?_ _|refine blk_drew ?_|refine blk_alloc ?_ _)); exact BK116.out) NB116_0.out (by simp)); have n4_:=Aside0.mk (KeepBut.trans (by repeat (first|(with_reducible first|exact HK.out|apply KeepBut.set_|apply keep_drewN|apply keep_drew|apply keep_alloc|refine keep_far ?_ GW115.out _|refine keep_far ?_ GW116.out _)|exact HK.out)) hk (.inl rfl)); have n5_:=Aside0.mk (hb); have n6_:=Aside0.mk (hi); clear HO_117000; clear HO_117001; clear BK115; clear BK116; clear HK; clear HB; clear HI0; have HO_117000:=n0_; have HO_117001:=n1_; have BK115:=n2_; have BK116:=n3_; have HK:=n4_; have HB:=n5_; have HI0:=n6_; clear n0_ n1_ n2_ n3_ n4_ n5_ n6_; (try clear hb); (try clear hb2); (try clear hk); (try clear hi); have hnb108:=NB116_115.out; have hnc108:=NB115_116.out; have hnb109:=NB116_0.out; have hnc109:=NB0_116.out; have hcz110_0 : w107.cell? ⟨gb116,0,none⟩ = some (u117000):=(blk_cell BK116.out 0).trans rfl; have hcz110_1 : w107.cell? ⟨gb116,1,none⟩ = some (u117001):=(blk_cell BK116.out 1).trans rfl; have hfz110_0:=blk_frozen BK116.out 0; have hfz110_1:=blk_frozen BK116.out 1)|((with_reducible refine gate_builtin (b:=.append) (xs:=#[.tmp 55,.tmp 57]) rfl ?_); at_builtin; refine Kd.R_append (Kd.int .i64) w.heap.size rfl (.tmp 55) (.tmp 57) 24 3 (.int .i64 0) 8 rfl Try.underlying24 info3 rfl (by decide) (by omega) u117000 x117000_2 (wrap64 (1 + t123)) [.int .i64 (wrap64 (1 + t123))] (fun k_ => some k_ ≠ (u117001 : Value).ownBlock) (fun _ => False) rfl rfl ?aP (fun _ hk => hk.elim) ?aF ?aO (Below.refl _ _) ?aS ?aL ?_; (case aP => exact rfl); (case aF => exact (fun k_ hk => Kd.fresh' (Kd.R_lt (by (with_reducible repeat (first|apply Kd.R_alloc|apply Kd.R_drewN|apply Kd.R_drew)); exact HO_117001.out)) k_ hk)); (case aO => exact (by (with_reducible repeat (first|apply Kd.R_alloc|apply Kd.R_drewN|apply Kd.R_drew)); exact HO_117000.out)); (case aS => exact (keep_size (w:=w) (g:=g) (row:=none) (by repeat (first|(with_reducible first|exact HK.out|apply KeepBut.set_|apply keep_drewN|apply keep_drew|apply keep_alloc|refine keep_far ?_ GW115.out _|refine keep_far ?_ GW116.out _)|exact HK.out)))); (case aL => have:=LMc104.out; omega); intro v177 w111 ho hb hg hat; rw [← Ny176.out] at ho; have n0_:=Aside0.mk (Kd.R_after (ok:=(fun _ => True)) (by (with_reducible repeat (first|apply Kd.R_alloc|apply Kd.R_drewN|apply Kd.R_drew)); exact Kd.R_mono HO_117001.out (fun _ hk => ⟨trivial,hk⟩)) hg hat); have n1_:=Aside0.mk (blk_grown (g:=gb115) (o:=.cells #[.slice none 0 0,.slice none 0 0] 26 (0,0)) (by (with_reducible repeat (first|refine blk_drewN ?_ _|refine blk_drew ?_|refine blk_alloc ?_ _)); exact BK115.out) hg (Kd.R_ne HO_117000.out BK115.out (by decide))); have n2_:=Aside0.mk (blk_grown (g:=gb116) (o:=.cells #[u117000,u117001] 26 (0,0)) (by (with_reducible repeat (first|refine blk_drewN ?_ _|refine blk_drew ?_|refine blk_alloc ?_ _)); exact BK116.out) hg (Kd.R_ne HO_117000.out BK116.out (by decide))); have n3_:=Aside0.mk (IsS112.grown (by repeat (first|(with_reducible first|exact HI0.out|apply IsS112.alloc|apply IsS112.drewN|apply IsS112.drew|apply IsS112.set_1|apply IsS112.set_2|refine IsS112.far ?_ NB0_115.out _|refine IsS112.far ?_ NB0_116.out _)|exact HI0.out)) hg (IsS112.own_ne HI0.out HO_117000.out (by decide))); have n4_:=Aside0.mk (below_weaken (by repeat (first|(with_reducible first|exact HB.out|apply below_alloc|apply pw_below_drewN|apply below_drew1|refine below_set ?_ (IsS112.ge HI0.out)|refine below_set ?_ GE115.out|refine below_set ?_ GE116.out)|exact HB.out)) HL.out hb); have n5_:=Aside0.mk (KeepBut.trans (by repeat (first|(with_reducible first|exact HK.out|apply KeepBut.set_|apply keep_drewN|apply keep_drew|apply keep_alloc|refine keep_far ?_ GW115.out _|refine keep_far ?_ GW116.out _)|exact HK.out)) (KeepBut.of_grown hg g) (Kd.R_base2 HO_117000.out)); have n6_:=Aside0.mk (ho); clear HO_117001; clear BK115; clear BK116; clear HI0; clear HB; clear HK; clear HO_117000; have HO_117001:=n0_; have BK115:=n1_; have BK116:=n2_; have HI0:=n3_; have HB:=n4_; have HK:=n5_; have HO178:=n6_; clear n0_ n1_ n2_ n3_ n4_ n5_ n6_; clear ho hb hg hat; obtain ⟨Ao112,co112,eo112⟩:=Kd.R_slice HO178.out; subst eo112; have hcz113_0 : w111.cell? ⟨gb116,0,none⟩ = some (u117000):=(blk_cell BK116.out 0).trans rfl; have hcz113_1 : w111.cell? ⟨gb116,1,none⟩ = some (u117001):=(blk_cell BK116.out 1).trans rfl; have hfz113_0:=blk_frozen BK116.out 0; have hfz113_1:=blk_frozen BK116.out 1))
          have n0_ : Aside0 (Kd.R (Kd.int .i64) 3 (w111.setCell ⟨gb116,0,none⟩ (.slice Ao112 y176.length co112)) w.heap.size (fun k_ => some k_ ≠ (.slice Ao112 y176.length co112 : Value).ownBlock) u117001 x117001_2):=⟨by (with_reducible repeat (first|apply Kd.R_alloc|apply Kd.R_drewN|apply Kd.R_drew)); exact Kd.R_mono (Kd.R_far (p:=⟨gb116,0,none⟩) (Kd.R_types HO_117001.out BK116.out (by decide)) (fun _ hk => hk.2) (.slice Ao112 y176.length co112)) (fun _ hk => hk.1.2)⟩
          have n1_ : Aside0 (Kd.R (Kd.int .i64) 3 (w111.setCell ⟨gb116,0,none⟩ (.slice Ao112 y176.length co112)) w.heap.size (fun k_ => some k_ ≠ (u117001 : Value).ownBlock) (.slice Ao112 y176.length co112) y176):=⟨by (with_reducible repeat (first|apply Kd.R_alloc|apply Kd.R_drewN|apply Kd.R_drew)); exact Kd.R_mono (Kd.R_far (p:=⟨gb116,0,none⟩) (Kd.R_types HO178.out BK116.out (by decide)) (fun _ hk => hk.2) (.slice Ao112 y176.length co112)) (fun _ hk => hk.1)⟩
          have n2_ : Aside0 ((w111.setCell ⟨gb116,0,none⟩ (.slice Ao112 y176.length co112)).heap[gb115]? = some (.cells #[.slice none 0 0,.slice none 0 0] 26 (0,0))):=⟨by (with_reducible repeat (first|refine blk_drewN ?_ _|refine blk_drew ?_|refine blk_alloc ?_ _)); refine blk_far ?_ NB115_116.out _; (with_reducible repeat (first|refine blk_drewN ?_ _|refine blk_drew ?_|refine blk_alloc ?_ _)); exact BK115.out⟩
          have n3_ : Aside0 ((w111.setCell ⟨gb116,0,none⟩ (.slice Ao112 y176.length co112)).heap[gb116]? = some (.cells #[.slice Ao112 y176.length co112,u117001] 26 (0,0))):=⟨by (with_reducible repeat (first|refine blk_drewN ?_ _|refine blk_drew ?_|refine blk_alloc ?_ _)); refine blk_put (cs:=#[u117000,u117001]) ?_ 0 _ rfl; (with_reducible repeat (first|refine blk_drewN ?_ _|refine blk_drew ?_|refine blk_alloc ?_ _)); exact BK116.out⟩
          have n4_ : Aside0 (IsS112 w0 (w111.setCell ⟨gb116,0,none⟩ (.slice Ao112 y176.length co112)) g s0_0 t124 t125):=⟨by repeat (first|(with_reducible first|exact HI0.out|apply IsS112.alloc|apply IsS112.drewN|apply IsS112.drew|apply IsS112.set_1|apply IsS112.set_2|refine IsS112.far ?_ NB0_115.out _|refine IsS112.far ?_ NB0_116.out _)|exact HI0.out)⟩
          have n5_ : Aside0 (KeepBut w (w111.setCell ⟨gb116,0,none⟩ (.slice Ao112 y176.length co112)) g none):=⟨by repeat (first|(with_reducible first|exact HK.out|apply KeepBut.set_|apply keep_drewN|apply keep_drew|apply keep_alloc|refine keep_far ?_ GW115.out _|refine keep_far ?_ GW116.out _)|exact HK.out)⟩
          have n6_ : Aside0 (Below w0.heap.size w0 (w111.setCell ⟨gb116,0,none⟩ (.slice Ao112 y176.length co112))):=⟨by repeat (first|(with_reducible first|exact HB.out|apply below_alloc|apply pw_below_drewN|apply below_drew1|refine below_set ?_ (IsS112.ge HI0.out)|refine below_set ?_ GE115.out|refine below_set ?_ GE116.out)|exact HB.out)⟩
          (try clear HO_117001)
          (try clear HO178)
          (try clear BK115)
          (try clear BK116)
          (try clear HI0)
          (try clear HK)
          (try clear HB)
          generalize (w111.setCell ⟨gb116,0,none⟩ (.slice Ao112 y176.length co112)) = w114 at n0_ n1_ n2_ n3_ n4_ n5_ n6_ ⊢
          have HO_117001:=n0_
          have HO178:=n1_
          have BK115:=n2_
          have BK116:=n3_
          have HI0:=n4_
          have HK:=n5_
          have HB:=n6_
          clear n0_ n1_ n2_ n3_ n4_ n5_ n6_
          have n0_:=Aside0.mk (Kd.R_drew HO_117001.out)
          have n1_:=Aside0.mk (Kd.R_drew HO178.out)
          have n2_:=Aside0.mk (blk_drew BK115.out)
          have n3_:=Aside0.mk (blk_drew BK116.out)
          have n4_:=Aside0.mk (IsS112.drew HI0.out)
          have n5_:=Aside0.mk (keep_drew HK.out)
          have n6_:=Aside0.mk (below_drew1 HB.out)
          clear HO_117001
          clear HO178
          clear BK115
          clear BK116
          clear HI0
          clear HK
          clear HB
          have HO_117001:=n0_
          have HO178:=n1_
          have BK115:=n2_
          have BK116:=n3_
          have HI0:=n4_
          have HK:=n5_
          have HB:=n6_
          clear n0_ n1_ n2_ n3_ n4_ n5_ n6_
          refine start_ (n:=9) (S:=fun w' => w'.cell? ⟨gb116,0,none⟩ = some (.slice Ao112 y176.length co112) ∧ w'.cell? ⟨gb116,1,none⟩ = some (u117001)) (ds:=[8]) #[false,false,false,false,false,false,false,false,false] (by kernel_rfl) rfl rfl ⟨(blk_cell BK116.out 0).trans rfl,(blk_cell BK116.out 1).trans rfl⟩ (fun hHeld => ?_); refine with_tabW spec_l1Cur_rotation.tab12 spec_l1Cur_rotation.bits12 (fun HT_ HW_ => ?_)
          generalize w114.drew = w115 at HO_117001 HO178 BK115 BK116 HI0 HK HB hHeld ⊢
          refine pure_ (i:=0) (N:=some 60) (v:=?_) (a':=?_) #[true,false,false,false,false,false,false,false,false] rfl rfl (any_of HT_.out (by kernel_rfl)) (fun _ _ _ h => h) (Or.inl ⟨by rfl,?_⟩) ?_ ?_
          rotate_left
          ·intro w'
           go_simp
           with_reducible rfl
          rotate_left
          ·simp only [Act.put,List.setIfInBounds_toArray,List.set_cons_zero,List.set_cons_succ,i64_w,i32_w]
           rfl
          refine pure_ (i:=2) (N:=some 62) (v:=?_) (a':=?_) #[true,false,true,false,false,false,false,false,false] rfl rfl (any_of HT_.out (by kernel_rfl)) (fun _ _ _ h => h) (Or.inl ⟨by rfl,?_⟩) ?_ ?_
          rotate_left
          ·intro w'
           go_simp
           with_reducible rfl
          rotate_left
          ·simp only [Act.put,List.setIfInBounds_toArray,List.set_cons_zero,List.set_cons_succ,i64_w,i32_w]
           rfl
          refine take_ (i:=1) (N:=some 61) (v:=?_) (a':=?_) #[true,true,true,false,false,false,false,false,false] rfl rfl (take_ofW HT_.out HW_.out (by kernel_rfl)) (fun _ _ _ h => h) (Or.inl ⟨by rfl,?_⟩) hHeld ?_ ?_
          rotate_left
          ·rintro w' ⟨s0,s1⟩
           go_simp
           with_reducible rfl
          rotate_left
          ·simp only [Act.put,List.setIfInBounds_toArray,List.set_cons_zero,List.set_cons_succ,i64_w,i32_w]
           rfl
          refine one_ (i:=3) (N:=some 63) #[true,true,true,true,false,false,false,false,false] rfl rfl (one_of HT_.out (by kernel_rfl)) (by decide) (fun K hK => ?_)
          refine Kd.R_lit_step (Kd.int .i64) _ 3 ?hg (N:=63) ?hd (xs:=([1,2,3,5,10,40] : List Int)) (inner:=[.int .i64 1,.int .i64 2,.int .i64 3,.int .i64 5,.int .i64 10,.int .i64 40]) (ok:=fun _ => True) (okp:=fun _ => True) ?hr ?hp (fun _ hk => hk) trivial (Below.refl _ _) (Nat.le_refl _) (by simp) ?_; (case hd => rfl); (case hg => rfl); (case hr => first|(go_simp; done)|(go_simp; rfl)); (case hp => exact (Reps.one (show Kd.M (Kd.int .i64) _ _ _ 1 [.int .i64 1] from rfl) (Reps.one (show Kd.M (Kd.int .i64) _ _ _ 2 [.int .i64 2] from rfl) (Reps.one (show Kd.M (Kd.int .i64) _ _ _ 3 [.int .i64 3] from rfl) (Reps.one (show Kd.M (Kd.int .i64) _ _ _ 5 [.int .i64 5] from rfl) (Reps.one (show Kd.M (Kd.int .i64) _ _ _ 10 [.int .i64 10] from rfl) (Reps.one (show Kd.M (Kd.int .i64) _ _ _ 40 [.int .i64 40] from rfl) (Reps.none _ _))))))))
          intro v180 w116 ho117 hb hg_ hnew_
          clear hg_ hnew_
          (first|rw [← Ny179.out] at ho117|(simp only [Int.reduceToNat] at ho117; rw [← Ny179.out] at ho117))
          have n0_:=Aside0.mk (Kd.R_elder' (by (with_reducible repeat (first|apply Kd.R_alloc|apply Kd.R_drewN|apply Kd.R_drew)); exact HO_117001.out) (Kd.R_base ho117) hb)
          have n1_:=Aside0.mk (Kd.R_elder' (by (with_reducible repeat (first|apply Kd.R_alloc|apply Kd.R_drewN|apply Kd.R_drew)); exact HO178.out) (Kd.R_base ho117) hb)
          have n2_:=Aside0.mk (Kd.R_lower (Kd.R_new' (Kd.R_new' ho117 (Kd.R_lt (by (with_reducible repeat (first|apply Kd.R_alloc|apply Kd.R_drewN|apply Kd.R_drew)); exact HO_117001.out))) (Kd.R_lt (by (with_reducible repeat (first|apply Kd.R_alloc|apply Kd.R_drewN|apply Kd.R_drew)); exact HO178.out))) (keep_size (w:=w) (g:=g) (row:=none) (by repeat (first|(with_reducible first|exact HK.out|apply KeepBut.set_|apply keep_drewN|apply keep_drew|apply keep_alloc|refine keep_far ?_ GW115.out _|refine keep_far ?_ GW116.out _)|exact HK.out))))
          have n3_:=Aside0.mk (blk_below (g:=gb115) (o:=.cells #[.slice none 0 0,.slice none 0 0] 26 (0,0)) (by (with_reducible repeat (first|refine blk_drewN ?_ _|refine blk_drew ?_|refine blk_alloc ?_ _)); exact BK115.out) hb)
          have n4_:=Aside0.mk (blk_below (g:=gb116) (o:=.cells #[.slice Ao112 y176.length co112,u117001] 26 (0,0)) (by (with_reducible repeat (first|refine blk_drewN ?_ _|refine blk_drew ?_|refine blk_alloc ?_ _)); exact BK116.out) hb)
          have n5_:=Aside0.mk (IsS112.below (by repeat (first|(with_reducible first|exact HI0.out|apply IsS112.alloc|apply IsS112.drewN|apply IsS112.drew|apply IsS112.set_1|apply IsS112.set_2|refine IsS112.far ?_ NB0_115.out _|refine IsS112.far ?_ NB0_116.out _)|exact HI0.out)) hb)
          have n6_:=Aside0.mk (KeepBut.trans (by repeat (first|(with_reducible first|exact HK.out|apply KeepBut.set_|apply keep_drewN|apply keep_drew|apply keep_alloc|refine keep_far ?_ GW115.out _|refine keep_far ?_ GW116.out _)|exact HK.out)) (KeepBut.of_below hb g none) (.inl rfl))
          have n7_:=Aside0.mk (below_step (by repeat (first|(with_reducible first|exact HB.out|apply below_alloc|apply pw_below_drewN|apply below_drew1|refine below_set ?_ (IsS112.ge HI0.out)|refine below_set ?_ GE115.out|refine below_set ?_ GE116.out)|exact HB.out)) hb)
          clear HO_117001
          clear HO178
          clear BK115
          clear BK116
          clear HI0
          clear HK
          clear HB
          have HO_117001:=n0_
          have HO178:=n1_
          have HO181:=n2_
          have BK115:=n3_
          have BK116:=n4_
          have HI0:=n5_
          have HK:=n6_
          have HB:=n7_
          clear n0_ n1_ n2_ n3_ n4_ n5_ n6_ n7_
          clear hb ho117
          obtain ⟨Ao118,co118,eo118⟩:=Kd.R_slice HO181.out
          (first|subst eo118|(injection eo118 with f1_ f2_ f3_; have f4_:=f1_.symm; have f5_:=f3_.symm; clear f1_ f2_ f3_; subst f4_; subst f5_))
          refine hK.out _ _ ⟨(blk_cell BK116.out 0).trans rfl,(blk_cell BK116.out 1).trans rfl⟩ (fun hHeld => ?_)
          clear hK K
          refine norm_ (a':=?_) ?_ ?_
          rotate_left
          ·show Act.put _ (some 63) _ = _
           simp only [Act.put,List.setIfInBounds_toArray,List.set_cons_zero,List.set_cons_succ,i64_w,i32_w]
           rfl
          refine one_ (i:=4) (N:=some 64) #[true,true,true,true,true,false,false,false,false] rfl rfl (one_of HT_.out (by kernel_rfl)) (by decide) (fun K hK => ?_)
          refine goes_ Try.func114 (by kernel_rfl) rfl #[.pointer (some ⟨g,0,none⟩),.slice Ao118 y179.length co118] (by rfl) rfl rfl (by (try simp only [List.map_toArray,List.map_cons,List.map_nil]); first|done|rfl|(simp only [List.length_drop,List.length_take]; rfl)) ?_
          with_reducible refine (spec_l1Cur_among.calls g s0_0 t124 t125 _ _ y179 t182 t183 t184 w0 _ ?side1 ?side2 ?side3 ?side4 ?side5 A105.out).mono ?_
          (case side1 => repeat (first|(with_reducible first|exact HI0.out|apply IsS112.alloc|apply IsS112.drewN|apply IsS112.drew|apply IsS112.set_1|apply IsS112.set_2|refine IsS112.far ?_ NB0_115.out _|refine IsS112.far ?_ NB0_116.out _)|exact HI0.out))
          (case side2 => repeat (first|(with_reducible first|exact HB.out|apply below_alloc|apply pw_below_drewN|apply below_drew1|refine below_set ?_ (IsS112.ge HI0.out)|refine below_set ?_ GE115.out|refine below_set ?_ GE116.out)|exact HB.out))
          (case side3 => repeat (first|exact (Kd.R_reads' HO181.out).2.2|(with_reducible refine Kd.C_alloc ?_ _)|(with_reducible refine Kd.C_drewN ?_ _)|(with_reducible refine Kd.C_drew ?_)))
          (case side4 => exact (Kd.R_reads' HO181.out).2.1)
          (case side5 => exact far_slice (IsS112.own_ne HI0.out HO181.out (by decide)))
          rintro e w119 ⟨rfl,hi,hb,hk⟩
          refine ⟨_,rfl,?_⟩
          have n0_:=Aside0.mk (Kd.R_mono (Kd.R_keep (IsS112.apart (show IsS112 w0 _ g s0_0 t124 t125 from by repeat (first|(with_reducible first|exact HI0.out|apply IsS112.alloc|apply IsS112.drewN|apply IsS112.drew|apply IsS112.set_1|apply IsS112.set_2|refine IsS112.far ?_ NB0_115.out _|refine IsS112.far ?_ NB0_116.out _)|exact HI0.out)) (by (with_reducible repeat (first|apply Kd.R_alloc|apply Kd.R_drewN|apply Kd.R_drew)); exact HO_117001.out) (by decide)) hk (fun _ h => h.2)) (fun _ h => h.1))
          have n1_:=Aside0.mk (KeepBut.blk hk (g':=gb115) (o:=.cells #[.slice none 0 0,.slice none 0 0] 26 (0,0)) (by (with_reducible repeat (first|refine blk_drewN ?_ _|refine blk_drew ?_|refine blk_alloc ?_ _)); exact BK115.out) NB115_0.out (by simp))
          have n2_:=Aside0.mk (KeepBut.blk hk (g':=gb116) (o:=.cells #[.slice Ao112 y176.length co112,u117001] 26 (0,0)) (by (with_reducible repeat (first|refine blk_drewN ?_ _|refine blk_drew ?_|refine blk_alloc ?_ _)); exact BK116.out) NB116_0.out (by simp))
          have n3_:=Aside0.mk (Kd.R_mono (Kd.R_keep (IsS112.apart (show IsS112 w0 _ g s0_0 t124 t125 from by repeat (first|(with_reducible first|exact HI0.out|apply IsS112.alloc|apply IsS112.drewN|apply IsS112.drew|apply IsS112.set_1|apply IsS112.set_2|refine IsS112.far ?_ NB0_115.out _|refine IsS112.far ?_ NB0_116.out _)|exact HI0.out)) (by (with_reducible repeat (first|apply Kd.R_alloc|apply Kd.R_drewN|apply Kd.R_drew)); exact HO178.out) (by decide)) hk (fun _ h => h.2)) (fun _ h => h.1))
          have n4_:=Aside0.mk (Kd.R_mono (Kd.R_keep (IsS112.apart (show IsS112 w0 _ g s0_0 t124 t125 from by repeat (first|(with_reducible first|exact HI0.out|apply IsS112.alloc|apply IsS112.drewN|apply IsS112.drew|apply IsS112.set_1|apply IsS112.set_2|refine IsS112.far ?_ NB0_115.out _|refine IsS112.far ?_ NB0_116.out _)|exact HI0.out)) (by (with_reducible repeat (first|apply Kd.R_alloc|apply Kd.R_drewN|apply Kd.R_drew)); exact HO181.out) (by decide)) hk (fun _ h => h.2)) (fun _ h => h.1))
          have n5_:=Aside0.mk (KeepBut.trans (by repeat (first|(with_reducible first|exact HK.out|apply KeepBut.set_|apply keep_drewN|apply keep_drew|apply keep_alloc|refine keep_far ?_ GW115.out _|refine keep_far ?_ GW116.out _)|exact HK.out)) hk (.inl rfl))
          have n6_:=Aside0.mk (hb)
          have n7_:=Aside0.mk (hi)
          clear HO_117001
          clear BK115
          clear BK116
          clear HO178
          clear HO181
          clear HK
          clear HB
          clear HI0
          have HO_117001:=n0_
          have BK115:=n1_
          have BK116:=n2_
          have HO178:=n3_
          have HO181:=n4_
          have HK:=n5_
          have HB:=n6_
          have HI0:=n7_
          clear n0_ n1_ n2_ n3_ n4_ n5_ n6_ n7_
          (try clear hb)
          (try clear hb2)
          (try clear hk)
          (try clear hi)
          refine hK.out _ _ ⟨(blk_cell BK116.out 0).trans rfl,(blk_cell BK116.out 1).trans rfl⟩ (fun hHeld => ?_)
          clear hK K
          refine norm_ (a':=?_) ?_ ?_
          rotate_left
          ·show Act.put _ (some 64) _ = _
           simp only [Act.put,List.setIfInBounds_toArray,List.set_cons_zero,List.set_cons_succ,i64_w,i32_w]
           rfl
          refine one_ (i:=5) (N:=some 65) #[true,true,true,true,true,true,false,false,false] rfl rfl (one_of HT_.out (by kernel_rfl)) (by decide) (fun K hK => ?_)
          refine value_ (w1:=?_) (v:=?_) (by rfl) rfl ?_ ?_
          rotate_left 2
          ·go_simp
           constructor
           ·rfl
           ·rfl
          refine hK.out _ _ ⟨(blk_cell (blk_alloc BK116.out _) 0).trans rfl,(blk_cell (blk_alloc BK116.out _) 1).trans rfl⟩ (fun hHeld => ?_)
          clear hK K
          refine norm_ (a':=?_) ?_ ?_
          rotate_left
          ·show Act.put _ (some 65) _ = _
           simp only [Act.put,List.setIfInBounds_toArray,List.set_cons_zero,List.set_cons_succ,i64_w,i32_w]
           rfl
          refine one_ (i:=6) (N:=some 66) #[true,true,true,true,true,true,true,false,false] rfl rfl (one_of HT_.out (by kernel_rfl)) (by decide) (fun K hK => ?_)
          refine Kd.R_append_step (Kd.int .i64) w.heap.size (by rfl) (.tmp 61) (.tmp 65) 24 3 (.int .i64 0) 8 rfl Try.underlying24 info3 rfl (by decide) (by omega) u117001 x117001_2 t182 [.int .i64 t182] (fun k_ => some k_ ≠ (.slice Ao112 y176.length co112 : Value).ownBlock ∧ some k_ ≠ (.slice Ao118 y179.length co118 : Value).ownBlock) (fun _ => False) rfl rfl ?aP (fun _ hk => hk.elim) ?aF ?aO (Below.refl _ _) ?aS ?aL ?_
          (case aP => exact rfl)
          (case aF => exact (fun k_ hk => ⟨Kd.fresh' (Kd.R_lt (by (with_reducible repeat (first|apply Kd.R_alloc|apply Kd.R_drewN|apply Kd.R_drew)); exact HO178.out)) k_ hk,Kd.fresh' (Kd.R_lt (by (with_reducible repeat (first|apply Kd.R_alloc|apply Kd.R_drewN|apply Kd.R_drew)); exact HO181.out)) k_ hk⟩))
          (case aO => exact (by (with_reducible repeat (first|apply Kd.R_alloc|apply Kd.R_drewN|apply Kd.R_drew)); exact HO_117001.out))
          (case aS => exact (keep_size (w:=w) (g:=g) (row:=none) (by repeat (first|(with_reducible first|exact HK.out|apply KeepBut.set_|apply keep_drewN|apply keep_drew|apply keep_alloc|refine keep_far ?_ GW115.out _|refine keep_far ?_ GW116.out _)|exact HK.out))))
          (case aL => have:=LMc106.out; omega)
          intro v186 w120 ho hb hg hat
          rw [← Ny185.out] at ho
          have n0_:=Aside0.mk (blk_grown (g:=gb115) (o:=.cells #[.slice none 0 0,.slice none 0 0] 26 (0,0)) (by (with_reducible repeat (first|refine blk_drewN ?_ _|refine blk_drew ?_|refine blk_alloc ?_ _)); exact BK115.out) hg (Kd.R_ne HO_117001.out BK115.out (by decide)))
          have n1_:=Aside0.mk (blk_grown (g:=gb116) (o:=.cells #[.slice Ao112 y176.length co112,u117001] 26 (0,0)) (by (with_reducible repeat (first|refine blk_drewN ?_ _|refine blk_drew ?_|refine blk_alloc ?_ _)); exact BK116.out) hg (Kd.R_ne HO_117001.out BK116.out (by decide)))
          have n2_:=Aside0.mk (IsS112.grown (by repeat (first|(with_reducible first|exact HI0.out|apply IsS112.alloc|apply IsS112.drewN|apply IsS112.drew|apply IsS112.set_1|apply IsS112.set_2|refine IsS112.far ?_ NB0_115.out _|refine IsS112.far ?_ NB0_116.out _)|exact HI0.out)) hg (IsS112.own_ne HI0.out HO_117001.out (by decide)))
          have n3_:=Aside0.mk (Kd.R_after (ok:=(fun k_ => some k_ ≠ (.slice Ao118 y179.length co118 : Value).ownBlock)) (by (with_reducible repeat (first|apply Kd.R_alloc|apply Kd.R_drewN|apply Kd.R_drew)); exact Kd.R_mono HO178.out (fun _ hk => ⟨hk.2,hk.1⟩)) hg hat)
          have n4_:=Aside0.mk (Kd.R_after (ok:=(fun k_ => some k_ ≠ (.slice Ao112 y176.length co112 : Value).ownBlock)) (by (with_reducible repeat (first|apply Kd.R_alloc|apply Kd.R_drewN|apply Kd.R_drew)); exact Kd.R_mono HO181.out (fun _ hk => ⟨hk.2,hk.1.2⟩)) hg hat)
          have n5_:=Aside0.mk (below_weaken (by repeat (first|(with_reducible first|exact HB.out|apply below_alloc|apply pw_below_drewN|apply below_drew1|refine below_set ?_ (IsS112.ge HI0.out)|refine below_set ?_ GE115.out|refine below_set ?_ GE116.out)|exact HB.out)) HL.out hb)
          have n6_:=Aside0.mk (KeepBut.trans (by repeat (first|(with_reducible first|exact HK.out|apply KeepBut.set_|apply keep_drewN|apply keep_drew|apply keep_alloc|refine keep_far ?_ GW115.out _|refine keep_far ?_ GW116.out _)|exact HK.out)) (KeepBut.of_grown hg g) (Kd.R_base2 HO_117001.out))
          have n7_:=Aside0.mk (ho)
          clear BK115
          clear BK116
          clear HI0
          clear HO178
          clear HO181
          clear HB
          clear HK
          clear HO_117001
          have BK115:=n0_
          have BK116:=n1_
          have HI0:=n2_
          have HO178:=n3_
          have HO181:=n4_
          have HB:=n5_
          have HK:=n6_
          have HO187:=n7_
          clear n0_ n1_ n2_ n3_ n4_ n5_ n6_ n7_
          clear ho hb hg hat
          obtain ⟨Ao121,co121,eo121⟩:=Kd.R_slice HO187.out
          (first|subst eo121|(injection eo121 with f1_ f2_ f3_; have f4_:=f1_.symm; have f5_:=f3_.symm; clear f1_ f2_ f3_; subst f4_; subst f5_))
          refine hK.out _ _ ⟨(blk_cell BK116.out 0).trans rfl,(blk_cell BK116.out 1).trans rfl⟩ (fun hHeld => ?_)
          clear hK K
          refine norm_ (a':=?_) ?_ ?_
          rotate_left
          ·show Act.put _ (some 66) _ = _
           simp only [Act.put,List.setIfInBounds_toArray,List.set_cons_zero,List.set_cons_succ,i64_w,i32_w]
           rfl
          refine pure_ (i:=7) (N:=some 67) (v:=?_) (a':=?_) #[true,true,true,true,true,true,true,true,false] rfl rfl (any_of HT_.out (by kernel_rfl)) (fun _ _ _ h => h) (Or.inl ⟨by rfl,?_⟩) ?_ ?_
          rotate_left
          ·intro w'
           go_simp
           with_reducible rfl
          rotate_left
          ·simp only [Act.put,List.setIfInBounds_toArray,List.set_cons_zero,List.set_cons_succ,i64_w,i32_w]
           rfl
          refine last_ (i:=8) (N:=none) #[true,true,true,true,true,true,true,true,true] rfl rfl (one_of HT_.out (by kernel_rfl)) (by decide) (fun K hK => ?_)
          have hs122 : w120.cell? ⟨gb116,1,none⟩ = some (u117001):=(blk_cell BK116.out 1).trans rfl
          have hfs122:=blk_frozen BK116.out 1
          have hns122_0:=NB115_116.out
          have hms122_0:=NB116_115.out
          refine skip_ (w1:=?_) (by rfl) rfl ?_ ?_
          rotate_left
          ·go_simp
           rfl
          refine hK.out _ _ ?_
          clear hK K
          refine done_ (done_of HT_.out (by kernel_rfl)) ?_
          try go_wp2
          go_roundg k2
          case measure => have:=HJ3.out; have:=HK2.out; omega
          case rel => exact ⟨(wrap64 (x5_2 + 1)),(t183),(t184),(y176),(y185),(.slice Ao112 y176.length co112),(.slice Ao121 y185.length co121),(by first|rfl|(simp; done)|(simp [*]; done)),H',⟨by have:=HJ3.out; have:=HK2.out; omega⟩,⟨by (with_reducible repeat (first|apply Kd.R_alloc|apply Kd.R_drewN|apply Kd.R_drew)); exact Kd.R_mono (Kd.R_far (p:=⟨gb116,1,none⟩) (Kd.R_types HO178.out BK116.out (by decide)) (fun _ hk => hk.2) (.slice Ao121 y185.length co121)) (fun _ hk => hk.1.2)⟩,⟨by (with_reducible repeat (first|apply Kd.R_alloc|apply Kd.R_drewN|apply Kd.R_drew)); exact Kd.R_mono (Kd.R_far (p:=⟨gb116,1,none⟩) (Kd.R_types HO187.out BK116.out (by decide)) (fun _ hk => hk.2) (.slice Ao121 y185.length co121)) (fun _ hk => hk.1.1)⟩,⟨by (with_reducible repeat (first|refine blk_drewN ?_ _|refine blk_drew ?_|refine blk_alloc ?_ _)); refine blk_far ?_ NB115_116.out _; (with_reducible repeat (first|refine blk_drewN ?_ _|refine blk_drew ?_|refine blk_alloc ?_ _)); exact BK115.out⟩,⟨by (with_reducible repeat (first|refine blk_drewN ?_ _|refine blk_drew ?_|refine blk_alloc ?_ _)); refine blk_put (cs:=#[.slice Ao112 y176.length co112,u117001]) ?_ 1 _ rfl; (with_reducible repeat (first|refine blk_drewN ?_ _|refine blk_drew ?_|refine blk_alloc ?_ _)); exact BK116.out⟩,⟨by repeat (first|(with_reducible first|exact HI0.out|apply IsS112.alloc|apply IsS112.drewN|apply IsS112.drew|apply IsS112.set_1|apply IsS112.set_2|refine IsS112.far ?_ NB0_115.out _|refine IsS112.far ?_ NB0_116.out _)|exact HI0.out)⟩,⟨by repeat (first|(with_reducible first|exact HK.out|apply KeepBut.set_|apply keep_drewN|apply keep_drew|apply keep_alloc|refine keep_far ?_ GW115.out _|refine keep_far ?_ GW116.out _)|exact HK.out)⟩,⟨by repeat (first|(with_reducible first|exact HB.out|apply below_alloc|apply pw_below_drewN|apply below_drew1|refine below_set ?_ (IsS112.ge HI0.out)|refine below_set ?_ GE115.out|refine below_set ?_ GE116.out)|exact HB.out)⟩⟩
         ·rw [if_neg c106] at H
          exact absurd H (by simp)
        ·rw [if_neg c104] at H
         exact absurd H (by simp)
       ·rw [if_neg c103] at H
        have c103b0 : (x5_2 == (wrap64 (x4_3 - 1))) = false:=beq_eq_false_iff_ne.mpr c103
        have c103b1 : (x5_2 != (wrap64 (x4_3 - 1))) = true:=bne_iff_ne.mpr c103
        by_cases c123 : x117000_2.length < 17592186044416
        ·rw [if_pos c123] at H
         have LMc123:=Aside0.mk c123
         clear c123
         obtain ⟨y188,hy188⟩ : ∃ y_ : List Int,y_ = (x117000_2 ++ [wrap64 (1 + t123)]):=⟨_,rfl⟩
         replace H : ((spec_l1Cur_among.f s0_0 t124 t125 (([1,2,3,5,10,40] : List Int))).bind fun bt194 => (if x117001_2.length < 17592186044416 then (spec_l1Cur_rotation.l0 k2 x4_3 (wrap64 (x5_2 + 1)) s0_0 bt194.2.1 bt194.2.2 y188 (x117001_2 ++ [bt194.1])) else (none))) = some (r1,r2,r3,r4):=by first|(rw [hy188]; with_reducible exact H)|(have H2_:=(Option.bind_some _ _).symm.trans H; rw [hy188]; with_reducible exact H2_)|(have H2_:=(Option.bind_some _ _).symm.trans H; with_reducible exact H2_)|with_reducible exact H|(rw [hy188]; exact H)|exact H
         have Ny188:=Aside0.mk hy188
         clear hy188
         obtain ⟨y191,hy191⟩ : ∃ y_ : List Int,y_ = (([1,2,3,5,10,40] : List Int)):=⟨_,rfl⟩
         replace H : ((spec_l1Cur_among.f s0_0 t124 t125 y191).bind fun bt194 => (if x117001_2.length < 17592186044416 then (spec_l1Cur_rotation.l0 k2 x4_3 (wrap64 (x5_2 + 1)) s0_0 bt194.2.1 bt194.2.2 y188 (x117001_2 ++ [bt194.1])) else (none))) = some (r1,r2,r3,r4):=by first|(rw [hy191]; with_reducible exact H)|(have H2_:=(Option.bind_some _ _).symm.trans H; rw [hy191]; with_reducible exact H2_)|(have H2_:=(Option.bind_some _ _).symm.trans H; with_reducible exact H2_)|with_reducible exact H|(rw [hy191]; exact H)|exact H
         have Ny191:=Aside0.mk hy191
         clear hy191
         replace H:=Option.bind_eq_some_iff.mp H
         obtain ⟨⟨t194,t195,t196⟩,A1240,H⟩:=H
         replace H : (if x117001_2.length < 17592186044416 then (spec_l1Cur_rotation.l0 k2 x4_3 (wrap64 (x5_2 + 1)) s0_0 t195 t196 y188 (x117001_2 ++ [t194])) else (none)) = some (r1,r2,r3,r4):=H
         have A124:=Aside0.mk A1240
         clear A1240
         by_cases c125 : x117001_2.length < 17592186044416
         ·rw [if_pos c125] at H
          have LMc125:=Aside0.mk c125
          clear c125
          obtain ⟨y197,hy197⟩ : ∃ y_ : List Int,y_ = (x117001_2 ++ [t194]):=⟨_,rfl⟩
          replace H : (spec_l1Cur_rotation.l0 k2 x4_3 (wrap64 (x5_2 + 1)) s0_0 t195 t196 y188 y197) = some (r1,r2,r3,r4):=by first|(rw [hy197]; with_reducible exact H)|(have H2_:=(Option.bind_some _ _).symm.trans H; rw [hy197]; with_reducible exact H2_)|(have H2_:=(Option.bind_some _ _).symm.trans H; with_reducible exact H2_)|with_reducible exact H|(rw [hy197]; exact H)|exact H
          have Ny197:=Aside0.mk hy197
          clear hy197
          have H':=Aside0.mk H
          clear H
          try go_wp2_with (first|((with_reducible refine gate_callee (f:=97) rfl ?_); refine goesL_ (some 19) rfl rfl Try.func97 (by kernel_rfl) rfl #[.pointer (some ⟨g,0,none⟩),.int .i64 5] rfl (by (try simp only [List.map_toArray,List.map_cons,List.map_nil]); first|done|rfl|(simp only [List.length_drop,List.length_take]; rfl)) ?_; (with_reducible refine (spec_l1Cur_pick.calls g s0_0 x1001_2 x1002_2 5 t123 t124 t125 w0 _ ?side1 ?side2 A14.out).mono ?_); (case side1 => repeat (first|(with_reducible first|exact HI0.out|apply IsS112.alloc|apply IsS112.drewN|apply IsS112.drew|apply IsS112.set_1|apply IsS112.set_2|refine IsS112.far ?_ NB0_115.out _|refine IsS112.far ?_ NB0_116.out _)|exact HI0.out)); (case side2 => repeat (first|(with_reducible first|exact HB.out|apply below_alloc|apply pw_below_drewN|apply below_drew1|refine below_set ?_ (IsS112.ge HI0.out)|refine below_set ?_ GE115.out|refine below_set ?_ GE116.out)|exact HB.out)); rintro e w126 ⟨rfl,hi,hb,hk⟩; refine ⟨_,rfl,?_⟩; have n0_:=Aside0.mk (Kd.R_mono (Kd.R_keep (IsS112.apart (show IsS112 w0 _ g s0_0 x1001_2 x1002_2 from by repeat (first|(with_reducible first|exact HI0.out|apply IsS112.alloc|apply IsS112.drewN|apply IsS112.drew|apply IsS112.set_1|apply IsS112.set_2|refine IsS112.far ?_ NB0_115.out _|refine IsS112.far ?_ NB0_116.out _)|exact HI0.out)) (by (with_reducible repeat (first|apply Kd.R_alloc|apply Kd.R_drewN|apply Kd.R_drew)); exact HO_117000.out) (by decide)) hk (fun _ h => h.2)) (fun _ h => h.1)); have n1_:=Aside0.mk (Kd.R_mono (Kd.R_keep (IsS112.apart (show IsS112 w0 _ g s0_0 x1001_2 x1002_2 from by repeat (first|(with_reducible first|exact HI0.out|apply IsS112.alloc|apply IsS112.drewN|apply IsS112.drew|apply IsS112.set_1|apply IsS112.set_2|refine IsS112.far ?_ NB0_115.out _|refine IsS112.far ?_ NB0_116.out _)|exact HI0.out)) (by (with_reducible repeat (first|apply Kd.R_alloc|apply Kd.R_drewN|apply Kd.R_drew)); exact HO_117001.out) (by decide)) hk (fun _ h => h.2)) (fun _ h => h.1)); have n2_:=Aside0.mk (KeepBut.blk hk (g':=gb115) (o:=.cells #[.slice none 0 0,.slice none 0 0] 26 (0,0)) (by (with_reducible repeat (first|refine blk_drewN ?_ _|refine blk_drew ?_|refine blk_alloc ?_ _)); exact BK115.out) NB115_0.out (by simp)); have n3_:=Aside0.mk (KeepBut.blk hk (g':=gb116) (o:=.cells #[u117000,u117001] 26 (0,0)) (by (with_reducible repeat (first|refine blk_drewN ?_ _|refine blk_drew ?_|refine blk_alloc ?_ _)); exact BK116.out) NB116_0.out (by simp)); have n4_:=Aside0.mk (KeepBut.trans (by repeat (first|(with_reducible first|exact HK.out|apply KeepBut.set_|apply keep_drewN|apply keep_drew|apply keep_alloc|refine keep_far ?_ GW115.out _|refine keep_far ?_ GW116.out _)|exact HK.out)) hk (.inl rfl)); have n5_:=Aside0.mk (hb); have n6_:=Aside0.mk (hi); clear HO_117000; clear HO_117001; clear BK115; clear BK116; clear HK; clear HB; clear HI0; have HO_117000:=n0_; have HO_117001:=n1_; have BK115:=n2_; have BK116:=n3_; have HK:=n4_; have HB:=n5_; have HI0:=n6_; clear n0_ n1_ n2_ n3_ n4_ n5_ n6_; (try clear hb); (try clear hb2); (try clear hk); (try clear hi); have hnb127:=NB116_115.out; have hnc127:=NB115_116.out; have hnb128:=NB116_0.out; have hnc128:=NB0_116.out; have hcz129_0 : w126.cell? ⟨gb116,0,none⟩ = some (u117000):=(blk_cell BK116.out 0).trans rfl; have hcz129_1 : w126.cell? ⟨gb116,1,none⟩ = some (u117001):=(blk_cell BK116.out 1).trans rfl; have hfz129_0:=blk_frozen BK116.out 0; have hfz129_1:=blk_frozen BK116.out 1)|((with_reducible refine gate_builtin (b:=.append) (xs:=#[.tmp 55,.tmp 57]) rfl ?_); at_builtin; refine Kd.R_append (Kd.int .i64) w.heap.size rfl (.tmp 55) (.tmp 57) 24 3 (.int .i64 0) 8 rfl Try.underlying24 info3 rfl (by decide) (by omega) u117000 x117000_2 (wrap64 (1 + t123)) [.int .i64 (wrap64 (1 + t123))] (fun k_ => some k_ ≠ (u117001 : Value).ownBlock) (fun _ => False) rfl rfl ?aP (fun _ hk => hk.elim) ?aF ?aO (Below.refl _ _) ?aS ?aL ?_; (case aP => exact rfl); (case aF => exact (fun k_ hk => Kd.fresh' (Kd.R_lt (by (with_reducible repeat (first|apply Kd.R_alloc|apply Kd.R_drewN|apply Kd.R_drew)); exact HO_117001.out)) k_ hk)); (case aO => exact (by (with_reducible repeat (first|apply Kd.R_alloc|apply Kd.R_drewN|apply Kd.R_drew)); exact HO_117000.out)); (case aS => exact (keep_size (w:=w) (g:=g) (row:=none) (by repeat (first|(with_reducible first|exact HK.out|apply KeepBut.set_|apply keep_drewN|apply keep_drew|apply keep_alloc|refine keep_far ?_ GW115.out _|refine keep_far ?_ GW116.out _)|exact HK.out)))); (case aL => have:=LMc123.out; omega); intro v189 w130 ho hb hg hat; rw [← Ny188.out] at ho; have n0_:=Aside0.mk (Kd.R_after (ok:=(fun _ => True)) (by (with_reducible repeat (first|apply Kd.R_alloc|apply Kd.R_drewN|apply Kd.R_drew)); exact Kd.R_mono HO_117001.out (fun _ hk => ⟨trivial,hk⟩)) hg hat); have n1_:=Aside0.mk (blk_grown (g:=gb115) (o:=.cells #[.slice none 0 0,.slice none 0 0] 26 (0,0)) (by (with_reducible repeat (first|refine blk_drewN ?_ _|refine blk_drew ?_|refine blk_alloc ?_ _)); exact BK115.out) hg (Kd.R_ne HO_117000.out BK115.out (by decide))); have n2_:=Aside0.mk (blk_grown (g:=gb116) (o:=.cells #[u117000,u117001] 26 (0,0)) (by (with_reducible repeat (first|refine blk_drewN ?_ _|refine blk_drew ?_|refine blk_alloc ?_ _)); exact BK116.out) hg (Kd.R_ne HO_117000.out BK116.out (by decide))); have n3_:=Aside0.mk (IsS112.grown (by repeat (first|(with_reducible first|exact HI0.out|apply IsS112.alloc|apply IsS112.drewN|apply IsS112.drew|apply IsS112.set_1|apply IsS112.set_2|refine IsS112.far ?_ NB0_115.out _|refine IsS112.far ?_ NB0_116.out _)|exact HI0.out)) hg (IsS112.own_ne HI0.out HO_117000.out (by decide))); have n4_:=Aside0.mk (below_weaken (by repeat (first|(with_reducible first|exact HB.out|apply below_alloc|apply pw_below_drewN|apply below_drew1|refine below_set ?_ (IsS112.ge HI0.out)|refine below_set ?_ GE115.out|refine below_set ?_ GE116.out)|exact HB.out)) HL.out hb); have n5_:=Aside0.mk (KeepBut.trans (by repeat (first|(with_reducible first|exact HK.out|apply KeepBut.set_|apply keep_drewN|apply keep_drew|apply keep_alloc|refine keep_far ?_ GW115.out _|refine keep_far ?_ GW116.out _)|exact HK.out)) (KeepBut.of_grown hg g) (Kd.R_base2 HO_117000.out)); have n6_:=Aside0.mk (ho); clear HO_117001; clear BK115; clear BK116; clear HI0; clear HB; clear HK; clear HO_117000; have HO_117001:=n0_; have BK115:=n1_; have BK116:=n2_; have HI0:=n3_; have HB:=n4_; have HK:=n5_; have HO190:=n6_; clear n0_ n1_ n2_ n3_ n4_ n5_ n6_; clear ho hb hg hat; obtain ⟨Ao131,co131,eo131⟩:=Kd.R_slice HO190.out; subst eo131; have hcz132_0 : w130.cell? ⟨gb116,0,none⟩ = some (u117000):=(blk_cell BK116.out 0).trans rfl; have hcz132_1 : w130.cell? ⟨gb116,1,none⟩ = some (u117001):=(blk_cell BK116.out 1).trans rfl; have hfz132_0:=blk_frozen BK116.out 0; have hfz132_1:=blk_frozen BK116.out 1))
          have n0_ : Aside0 (Kd.R (Kd.int .i64) 3 (w130.setCell ⟨gb116,0,none⟩ (.slice Ao131 y188.length co131)) w.heap.size (fun k_ => some k_ ≠ (.slice Ao131 y188.length co131 : Value).ownBlock) u117001 x117001_2):=⟨by (with_reducible repeat (first|apply Kd.R_alloc|apply Kd.R_drewN|apply Kd.R_drew)); exact Kd.R_mono (Kd.R_far (p:=⟨gb116,0,none⟩) (Kd.R_types HO_117001.out BK116.out (by decide)) (fun _ hk => hk.2) (.slice Ao131 y188.length co131)) (fun _ hk => hk.1.2)⟩
          have n1_ : Aside0 (Kd.R (Kd.int .i64) 3 (w130.setCell ⟨gb116,0,none⟩ (.slice Ao131 y188.length co131)) w.heap.size (fun k_ => some k_ ≠ (u117001 : Value).ownBlock) (.slice Ao131 y188.length co131) y188):=⟨by (with_reducible repeat (first|apply Kd.R_alloc|apply Kd.R_drewN|apply Kd.R_drew)); exact Kd.R_mono (Kd.R_far (p:=⟨gb116,0,none⟩) (Kd.R_types HO190.out BK116.out (by decide)) (fun _ hk => hk.2) (.slice Ao131 y188.length co131)) (fun _ hk => hk.1)⟩
          have n2_ : Aside0 ((w130.setCell ⟨gb116,0,none⟩ (.slice Ao131 y188.length co131)).heap[gb115]? = some (.cells #[.slice none 0 0,.slice none 0 0] 26 (0,0))):=⟨by (with_reducible repeat (first|refine blk_drewN ?_ _|refine blk_drew ?_|refine blk_alloc ?_ _)); refine blk_far ?_ NB115_116.out _; (with_reducible repeat (first|refine blk_drewN ?_ _|refine blk_drew ?_|refine blk_alloc ?_ _)); exact BK115.out⟩
          have n3_ : Aside0 ((w130.setCell ⟨gb116,0,none⟩ (.slice Ao131 y188.length co131)).heap[gb116]? = some (.cells #[.slice Ao131 y188.length co131,u117001] 26 (0,0))):=⟨by (with_reducible repeat (first|refine blk_drewN ?_ _|refine blk_drew ?_|refine blk_alloc ?_ _)); refine blk_put (cs:=#[u117000,u117001]) ?_ 0 _ rfl; (with_reducible repeat (first|refine blk_drewN ?_ _|refine blk_drew ?_|refine blk_alloc ?_ _)); exact BK116.out⟩
          have n4_ : Aside0 (IsS112 w0 (w130.setCell ⟨gb116,0,none⟩ (.slice Ao131 y188.length co131)) g s0_0 t124 t125):=⟨by repeat (first|(with_reducible first|exact HI0.out|apply IsS112.alloc|apply IsS112.drewN|apply IsS112.drew|apply IsS112.set_1|apply IsS112.set_2|refine IsS112.far ?_ NB0_115.out _|refine IsS112.far ?_ NB0_116.out _)|exact HI0.out)⟩
          have n5_ : Aside0 (KeepBut w (w130.setCell ⟨gb116,0,none⟩ (.slice Ao131 y188.length co131)) g none):=⟨by repeat (first|(with_reducible first|exact HK.out|apply KeepBut.set_|apply keep_drewN|apply keep_drew|apply keep_alloc|refine keep_far ?_ GW115.out _|refine keep_far ?_ GW116.out _)|exact HK.out)⟩
          have n6_ : Aside0 (Below w0.heap.size w0 (w130.setCell ⟨gb116,0,none⟩ (.slice Ao131 y188.length co131))):=⟨by repeat (first|(with_reducible first|exact HB.out|apply below_alloc|apply pw_below_drewN|apply below_drew1|refine below_set ?_ (IsS112.ge HI0.out)|refine below_set ?_ GE115.out|refine below_set ?_ GE116.out)|exact HB.out)⟩
          (try clear HO_117001)
          (try clear HO190)
          (try clear BK115)
          (try clear BK116)
          (try clear HI0)
          (try clear HK)
          (try clear HB)
          generalize (w130.setCell ⟨gb116,0,none⟩ (.slice Ao131 y188.length co131)) = w133 at n0_ n1_ n2_ n3_ n4_ n5_ n6_ ⊢
          have HO_117001:=n0_
          have HO190:=n1_
          have BK115:=n2_
          have BK116:=n3_
          have HI0:=n4_
          have HK:=n5_
          have HB:=n6_
          clear n0_ n1_ n2_ n3_ n4_ n5_ n6_
          have n0_:=Aside0.mk (Kd.R_drew HO_117001.out)
          have n1_:=Aside0.mk (Kd.R_drew HO190.out)
          have n2_:=Aside0.mk (blk_drew BK115.out)
          have n3_:=Aside0.mk (blk_drew BK116.out)
          have n4_:=Aside0.mk (IsS112.drew HI0.out)
          have n5_:=Aside0.mk (keep_drew HK.out)
          have n6_:=Aside0.mk (below_drew1 HB.out)
          clear HO_117001
          clear HO190
          clear BK115
          clear BK116
          clear HI0
          clear HK
          clear HB
          have HO_117001:=n0_
          have HO190:=n1_
          have BK115:=n2_
          have BK116:=n3_
          have HI0:=n4_
          have HK:=n5_
          have HB:=n6_
          clear n0_ n1_ n2_ n3_ n4_ n5_ n6_
          refine start_ (n:=9) (S:=fun w' => w'.cell? ⟨gb116,0,none⟩ = some (.slice Ao131 y188.length co131) ∧ w'.cell? ⟨gb116,1,none⟩ = some (u117001)) (ds:=[8]) #[false,false,false,false,false,false,false,false,false] (by kernel_rfl) rfl rfl ⟨(blk_cell BK116.out 0).trans rfl,(blk_cell BK116.out 1).trans rfl⟩ (fun hHeld => ?_); refine with_tabW spec_l1Cur_rotation.tab12 spec_l1Cur_rotation.bits12 (fun HT_ HW_ => ?_)
          generalize w133.drew = w134 at HO_117001 HO190 BK115 BK116 HI0 HK HB hHeld ⊢
          refine pure_ (i:=0) (N:=some 60) (v:=?_) (a':=?_) #[true,false,false,false,false,false,false,false,false] rfl rfl (any_of HT_.out (by kernel_rfl)) (fun _ _ _ h => h) (Or.inl ⟨by rfl,?_⟩) ?_ ?_
          rotate_left
          ·intro w'
           go_simp
           with_reducible rfl
          rotate_left
          ·simp only [Act.put,List.setIfInBounds_toArray,List.set_cons_zero,List.set_cons_succ,i64_w,i32_w]
           rfl
          refine pure_ (i:=2) (N:=some 62) (v:=?_) (a':=?_) #[true,false,true,false,false,false,false,false,false] rfl rfl (any_of HT_.out (by kernel_rfl)) (fun _ _ _ h => h) (Or.inl ⟨by rfl,?_⟩) ?_ ?_
          rotate_left
          ·intro w'
           go_simp
           with_reducible rfl
          rotate_left
          ·simp only [Act.put,List.setIfInBounds_toArray,List.set_cons_zero,List.set_cons_succ,i64_w,i32_w]
           rfl
          refine take_ (i:=1) (N:=some 61) (v:=?_) (a':=?_) #[true,true,true,false,false,false,false,false,false] rfl rfl (take_ofW HT_.out HW_.out (by kernel_rfl)) (fun _ _ _ h => h) (Or.inl ⟨by rfl,?_⟩) hHeld ?_ ?_
          rotate_left
          ·rintro w' ⟨s0,s1⟩
           go_simp
           with_reducible rfl
          rotate_left
          ·simp only [Act.put,List.setIfInBounds_toArray,List.set_cons_zero,List.set_cons_succ,i64_w,i32_w]
           rfl
          refine one_ (i:=3) (N:=some 63) #[true,true,true,true,false,false,false,false,false] rfl rfl (one_of HT_.out (by kernel_rfl)) (by decide) (fun K hK => ?_)
          refine Kd.R_lit_step (Kd.int .i64) _ 3 ?hg (N:=63) ?hd (xs:=([1,2,3,5,10,40] : List Int)) (inner:=[.int .i64 1,.int .i64 2,.int .i64 3,.int .i64 5,.int .i64 10,.int .i64 40]) (ok:=fun _ => True) (okp:=fun _ => True) ?hr ?hp (fun _ hk => hk) trivial (Below.refl _ _) (Nat.le_refl _) (by simp) ?_; (case hd => rfl); (case hg => rfl); (case hr => first|(go_simp; done)|(go_simp; rfl)); (case hp => exact (Reps.one (show Kd.M (Kd.int .i64) _ _ _ 1 [.int .i64 1] from rfl) (Reps.one (show Kd.M (Kd.int .i64) _ _ _ 2 [.int .i64 2] from rfl) (Reps.one (show Kd.M (Kd.int .i64) _ _ _ 3 [.int .i64 3] from rfl) (Reps.one (show Kd.M (Kd.int .i64) _ _ _ 5 [.int .i64 5] from rfl) (Reps.one (show Kd.M (Kd.int .i64) _ _ _ 10 [.int .i64 10] from rfl) (Reps.one (show Kd.M (Kd.int .i64) _ _ _ 40 [.int .i64 40] from rfl) (Reps.none _ _))))))))
          intro v192 w135 ho136 hb hg_ hnew_
          clear hg_ hnew_
          (first|rw [← Ny191.out] at ho136|(simp only [Int.reduceToNat] at ho136; rw [← Ny191.out] at ho136))
          have n0_:=Aside0.mk (Kd.R_elder' (by (with_reducible repeat (first|apply Kd.R_alloc|apply Kd.R_drewN|apply Kd.R_drew)); exact HO_117001.out) (Kd.R_base ho136) hb)
          have n1_:=Aside0.mk (Kd.R_elder' (by (with_reducible repeat (first|apply Kd.R_alloc|apply Kd.R_drewN|apply Kd.R_drew)); exact HO190.out) (Kd.R_base ho136) hb)
          have n2_:=Aside0.mk (Kd.R_lower (Kd.R_new' (Kd.R_new' ho136 (Kd.R_lt (by (with_reducible repeat (first|apply Kd.R_alloc|apply Kd.R_drewN|apply Kd.R_drew)); exact HO_117001.out))) (Kd.R_lt (by (with_reducible repeat (first|apply Kd.R_alloc|apply Kd.R_drewN|apply Kd.R_drew)); exact HO190.out))) (keep_size (w:=w) (g:=g) (row:=none) (by repeat (first|(with_reducible first|exact HK.out|apply KeepBut.set_|apply keep_drewN|apply keep_drew|apply keep_alloc|refine keep_far ?_ GW115.out _|refine keep_far ?_ GW116.out _)|exact HK.out))))
          have n3_:=Aside0.mk (blk_below (g:=gb115) (o:=.cells #[.slice none 0 0,.slice none 0 0] 26 (0,0)) (by (with_reducible repeat (first|refine blk_drewN ?_ _|refine blk_drew ?_|refine blk_alloc ?_ _)); exact BK115.out) hb)
          have n4_:=Aside0.mk (blk_below (g:=gb116) (o:=.cells #[.slice Ao131 y188.length co131,u117001] 26 (0,0)) (by (with_reducible repeat (first|refine blk_drewN ?_ _|refine blk_drew ?_|refine blk_alloc ?_ _)); exact BK116.out) hb)
          have n5_:=Aside0.mk (IsS112.below (by repeat (first|(with_reducible first|exact HI0.out|apply IsS112.alloc|apply IsS112.drewN|apply IsS112.drew|apply IsS112.set_1|apply IsS112.set_2|refine IsS112.far ?_ NB0_115.out _|refine IsS112.far ?_ NB0_116.out _)|exact HI0.out)) hb)
          have n6_:=Aside0.mk (KeepBut.trans (by repeat (first|(with_reducible first|exact HK.out|apply KeepBut.set_|apply keep_drewN|apply keep_drew|apply keep_alloc|refine keep_far ?_ GW115.out _|refine keep_far ?_ GW116.out _)|exact HK.out)) (KeepBut.of_below hb g none) (.inl rfl))
          have n7_:=Aside0.mk (below_step (by repeat (first|(with_reducible first|exact HB.out|apply below_alloc|apply pw_below_drewN|apply below_drew1|refine below_set ?_ (IsS112.ge HI0.out)|refine below_set ?_ GE115.out|refine below_set ?_ GE116.out)|exact HB.out)) hb)
          clear HO_117001
          clear HO190
          clear BK115
          clear BK116
          clear HI0
          clear HK
          clear HB
          have HO_117001:=n0_
          have HO190:=n1_
          have HO193:=n2_
          have BK115:=n3_
          have BK116:=n4_
          have HI0:=n5_
          have HK:=n6_
          have HB:=n7_
          clear n0_ n1_ n2_ n3_ n4_ n5_ n6_ n7_
          clear hb ho136
          obtain ⟨Ao137,co137,eo137⟩:=Kd.R_slice HO193.out
          (first|subst eo137|(injection eo137 with f1_ f2_ f3_; have f4_:=f1_.symm; have f5_:=f3_.symm; clear f1_ f2_ f3_; subst f4_; subst f5_))
          refine hK.out _ _ ⟨(blk_cell BK116.out 0).trans rfl,(blk_cell BK116.out 1).trans rfl⟩ (fun hHeld => ?_)
          clear hK K
          refine norm_ (a':=?_) ?_ ?_
          rotate_left
          ·show Act.put _ (some 63) _ = _
           simp only [Act.put,List.setIfInBounds_toArray,List.set_cons_zero,List.set_cons_succ,i64_w,i32_w]
           rfl
          refine one_ (i:=4) (N:=some 64) #[true,true,true,true,true,false,false,false,false] rfl rfl (one_of HT_.out (by kernel_rfl)) (by decide) (fun K hK => ?_)
          refine goes_ Try.func114 (by kernel_rfl) rfl #[.pointer (some ⟨g,0,none⟩),.slice Ao137 y191.length co137] (by rfl) rfl rfl (by (try simp only [List.map_toArray,List.map_cons,List.map_nil]); first|done|rfl|(simp only [List.length_drop,List.length_take]; rfl)) ?_
          with_reducible refine (spec_l1Cur_among.calls g s0_0 t124 t125 _ _ y191 t194 t195 t196 w0 _ ?side1 ?side2 ?side3 ?side4 ?side5 A124.out).mono ?_
          (case side1 => repeat (first|(with_reducible first|exact HI0.out|apply IsS112.alloc|apply IsS112.drewN|apply IsS112.drew|apply IsS112.set_1|apply IsS112.set_2|refine IsS112.far ?_ NB0_115.out _|refine IsS112.far ?_ NB0_116.out _)|exact HI0.out))
          (case side2 => repeat (first|(with_reducible first|exact HB.out|apply below_alloc|apply pw_below_drewN|apply below_drew1|refine below_set ?_ (IsS112.ge HI0.out)|refine below_set ?_ GE115.out|refine below_set ?_ GE116.out)|exact HB.out))
          (case side3 => repeat (first|exact (Kd.R_reads' HO193.out).2.2|(with_reducible refine Kd.C_alloc ?_ _)|(with_reducible refine Kd.C_drewN ?_ _)|(with_reducible refine Kd.C_drew ?_)))
          (case side4 => exact (Kd.R_reads' HO193.out).2.1)
          (case side5 => exact far_slice (IsS112.own_ne HI0.out HO193.out (by decide)))
          rintro e w138 ⟨rfl,hi,hb,hk⟩
          refine ⟨_,rfl,?_⟩
          have n0_:=Aside0.mk (Kd.R_mono (Kd.R_keep (IsS112.apart (show IsS112 w0 _ g s0_0 t124 t125 from by repeat (first|(with_reducible first|exact HI0.out|apply IsS112.alloc|apply IsS112.drewN|apply IsS112.drew|apply IsS112.set_1|apply IsS112.set_2|refine IsS112.far ?_ NB0_115.out _|refine IsS112.far ?_ NB0_116.out _)|exact HI0.out)) (by (with_reducible repeat (first|apply Kd.R_alloc|apply Kd.R_drewN|apply Kd.R_drew)); exact HO_117001.out) (by decide)) hk (fun _ h => h.2)) (fun _ h => h.1))
          have n1_:=Aside0.mk (KeepBut.blk hk (g':=gb115) (o:=.cells #[.slice none 0 0,.slice none 0 0] 26 (0,0)) (by (with_reducible repeat (first|refine blk_drewN ?_ _|refine blk_drew ?_|refine blk_alloc ?_ _)); exact BK115.out) NB115_0.out (by simp))
          have n2_:=Aside0.mk (KeepBut.blk hk (g':=gb116) (o:=.cells #[.slice Ao131 y188.length co131,u117001] 26 (0,0)) (by (with_reducible repeat (first|refine blk_drewN ?_ _|refine blk_drew ?_|refine blk_alloc ?_ _)); exact BK116.out) NB116_0.out (by simp))
          have n3_:=Aside0.mk (Kd.R_mono (Kd.R_keep (IsS112.apart (show IsS112 w0 _ g s0_0 t124 t125 from by repeat (first|(with_reducible first|exact HI0.out|apply IsS112.alloc|apply IsS112.drewN|apply IsS112.drew|apply IsS112.set_1|apply IsS112.set_2|refine IsS112.far ?_ NB0_115.out _|refine IsS112.far ?_ NB0_116.out _)|exact HI0.out)) (by (with_reducible repeat (first|apply Kd.R_alloc|apply Kd.R_drewN|apply Kd.R_drew)); exact HO190.out) (by decide)) hk (fun _ h => h.2)) (fun _ h => h.1))
          have n4_:=Aside0.mk (Kd.R_mono (Kd.R_keep (IsS112.apart (show IsS112 w0 _ g s0_0 t124 t125 from by repeat (first|(with_reducible first|exact HI0.out|apply IsS112.alloc|apply IsS112.drewN|apply IsS112.drew|apply IsS112.set_1|apply IsS112.set_2|refine IsS112.far ?_ NB0_115.out _|refine IsS112.far ?_ NB0_116.out _)|exact HI0.out)) (by (with_reducible repeat (first|apply Kd.R_alloc|apply Kd.R_drewN|apply Kd.R_drew)); exact HO193.out) (by decide)) hk (fun _ h => h.2)) (fun _ h => h.1))
          have n5_:=Aside0.mk (KeepBut.trans (by repeat (first|(with_reducible first|exact HK.out|apply KeepBut.set_|apply keep_drewN|apply keep_drew|apply keep_alloc|refine keep_far ?_ GW115.out _|refine keep_far ?_ GW116.out _)|exact HK.out)) hk (.inl rfl))
          have n6_:=Aside0.mk (hb)
          have n7_:=Aside0.mk (hi)
          clear HO_117001
          clear BK115
          clear BK116
          clear HO190
          clear HO193
          clear HK
          clear HB
          clear HI0
          have HO_117001:=n0_
          have BK115:=n1_
          have BK116:=n2_
          have HO190:=n3_
          have HO193:=n4_
          have HK:=n5_
          have HB:=n6_
          have HI0:=n7_
          clear n0_ n1_ n2_ n3_ n4_ n5_ n6_ n7_
          (try clear hb)
          (try clear hb2)
          (try clear hk)
          (try clear hi)
          refine hK.out _ _ ⟨(blk_cell BK116.out 0).trans rfl,(blk_cell BK116.out 1).trans rfl⟩ (fun hHeld => ?_)
          clear hK K
          refine norm_ (a':=?_) ?_ ?_
          rotate_left
          ·show Act.put _ (some 64) _ = _
           simp only [Act.put,List.setIfInBounds_toArray,List.set_cons_zero,List.set_cons_succ,i64_w,i32_w]
           rfl
          refine one_ (i:=5) (N:=some 65) #[true,true,true,true,true,true,false,false,false] rfl rfl (one_of HT_.out (by kernel_rfl)) (by decide) (fun K hK => ?_)
          refine value_ (w1:=?_) (v:=?_) (by rfl) rfl ?_ ?_
          rotate_left 2
          ·go_simp
           constructor
           ·rfl
           ·rfl
          refine hK.out _ _ ⟨(blk_cell (blk_alloc BK116.out _) 0).trans rfl,(blk_cell (blk_alloc BK116.out _) 1).trans rfl⟩ (fun hHeld => ?_)
          clear hK K
          refine norm_ (a':=?_) ?_ ?_
          rotate_left
          ·show Act.put _ (some 65) _ = _
           simp only [Act.put,List.setIfInBounds_toArray,List.set_cons_zero,List.set_cons_succ,i64_w,i32_w]
           rfl
          refine one_ (i:=6) (N:=some 66) #[true,true,true,true,true,true,true,false,false] rfl rfl (one_of HT_.out (by kernel_rfl)) (by decide) (fun K hK => ?_)
          refine Kd.R_append_step (Kd.int .i64) w.heap.size (by rfl) (.tmp 61) (.tmp 65) 24 3 (.int .i64 0) 8 rfl Try.underlying24 info3 rfl (by decide) (by omega) u117001 x117001_2 t194 [.int .i64 t194] (fun k_ => some k_ ≠ (.slice Ao131 y188.length co131 : Value).ownBlock ∧ some k_ ≠ (.slice Ao137 y191.length co137 : Value).ownBlock) (fun _ => False) rfl rfl ?aP (fun _ hk => hk.elim) ?aF ?aO (Below.refl _ _) ?aS ?aL ?_
          (case aP => exact rfl)
          (case aF => exact (fun k_ hk => ⟨Kd.fresh' (Kd.R_lt (by (with_reducible repeat (first|apply Kd.R_alloc|apply Kd.R_drewN|apply Kd.R_drew)); exact HO190.out)) k_ hk,Kd.fresh' (Kd.R_lt (by (with_reducible repeat (first|apply Kd.R_alloc|apply Kd.R_drewN|apply Kd.R_drew)); exact HO193.out)) k_ hk⟩))
          (case aO => exact (by (with_reducible repeat (first|apply Kd.R_alloc|apply Kd.R_drewN|apply Kd.R_drew)); exact HO_117001.out))
          (case aS => exact (keep_size (w:=w) (g:=g) (row:=none) (by repeat (first|(with_reducible first|exact HK.out|apply KeepBut.set_|apply keep_drewN|apply keep_drew|apply keep_alloc|refine keep_far ?_ GW115.out _|refine keep_far ?_ GW116.out _)|exact HK.out))))
          (case aL => have:=LMc125.out; omega)
          intro v198 w139 ho hb hg hat
          rw [← Ny197.out] at ho
          have n0_:=Aside0.mk (blk_grown (g:=gb115) (o:=.cells #[.slice none 0 0,.slice none 0 0] 26 (0,0)) (by (with_reducible repeat (first|refine blk_drewN ?_ _|refine blk_drew ?_|refine blk_alloc ?_ _)); exact BK115.out) hg (Kd.R_ne HO_117001.out BK115.out (by decide)))
          have n1_:=Aside0.mk (blk_grown (g:=gb116) (o:=.cells #[.slice Ao131 y188.length co131,u117001] 26 (0,0)) (by (with_reducible repeat (first|refine blk_drewN ?_ _|refine blk_drew ?_|refine blk_alloc ?_ _)); exact BK116.out) hg (Kd.R_ne HO_117001.out BK116.out (by decide)))
          have n2_:=Aside0.mk (IsS112.grown (by repeat (first|(with_reducible first|exact HI0.out|apply IsS112.alloc|apply IsS112.drewN|apply IsS112.drew|apply IsS112.set_1|apply IsS112.set_2|refine IsS112.far ?_ NB0_115.out _|refine IsS112.far ?_ NB0_116.out _)|exact HI0.out)) hg (IsS112.own_ne HI0.out HO_117001.out (by decide)))
          have n3_:=Aside0.mk (Kd.R_after (ok:=(fun k_ => some k_ ≠ (.slice Ao137 y191.length co137 : Value).ownBlock)) (by (with_reducible repeat (first|apply Kd.R_alloc|apply Kd.R_drewN|apply Kd.R_drew)); exact Kd.R_mono HO190.out (fun _ hk => ⟨hk.2,hk.1⟩)) hg hat)
          have n4_:=Aside0.mk (Kd.R_after (ok:=(fun k_ => some k_ ≠ (.slice Ao131 y188.length co131 : Value).ownBlock)) (by (with_reducible repeat (first|apply Kd.R_alloc|apply Kd.R_drewN|apply Kd.R_drew)); exact Kd.R_mono HO193.out (fun _ hk => ⟨hk.2,hk.1.2⟩)) hg hat)
          have n5_:=Aside0.mk (below_weaken (by repeat (first|(with_reducible first|exact HB.out|apply below_alloc|apply pw_below_drewN|apply below_drew1|refine below_set ?_ (IsS112.ge HI0.out)|refine below_set ?_ GE115.out|refine below_set ?_ GE116.out)|exact HB.out)) HL.out hb)
          have n6_:=Aside0.mk (KeepBut.trans (by repeat (first|(with_reducible first|exact HK.out|apply KeepBut.set_|apply keep_drewN|apply keep_drew|apply keep_alloc|refine keep_far ?_ GW115.out _|refine keep_far ?_ GW116.out _)|exact HK.out)) (KeepBut.of_grown hg g) (Kd.R_base2 HO_117001.out))
          have n7_:=Aside0.mk (ho)
          clear BK115
          clear BK116
          clear HI0
          clear HO190
          clear HO193
          clear HB
          clear HK
          clear HO_117001
          have BK115:=n0_
          have BK116:=n1_
          have HI0:=n2_
          have HO190:=n3_
          have HO193:=n4_
          have HB:=n5_
          have HK:=n6_
          have HO199:=n7_
          clear n0_ n1_ n2_ n3_ n4_ n5_ n6_ n7_
          clear ho hb hg hat
          obtain ⟨Ao140,co140,eo140⟩:=Kd.R_slice HO199.out
          (first|subst eo140|(injection eo140 with f1_ f2_ f3_; have f4_:=f1_.symm; have f5_:=f3_.symm; clear f1_ f2_ f3_; subst f4_; subst f5_))
          refine hK.out _ _ ⟨(blk_cell BK116.out 0).trans rfl,(blk_cell BK116.out 1).trans rfl⟩ (fun hHeld => ?_)
          clear hK K
          refine norm_ (a':=?_) ?_ ?_
          rotate_left
          ·show Act.put _ (some 66) _ = _
           simp only [Act.put,List.setIfInBounds_toArray,List.set_cons_zero,List.set_cons_succ,i64_w,i32_w]
           rfl
          refine pure_ (i:=7) (N:=some 67) (v:=?_) (a':=?_) #[true,true,true,true,true,true,true,true,false] rfl rfl (any_of HT_.out (by kernel_rfl)) (fun _ _ _ h => h) (Or.inl ⟨by rfl,?_⟩) ?_ ?_
          rotate_left
          ·intro w'
           go_simp
           with_reducible rfl
          rotate_left
          ·simp only [Act.put,List.setIfInBounds_toArray,List.set_cons_zero,List.set_cons_succ,i64_w,i32_w]
           rfl
          refine last_ (i:=8) (N:=none) #[true,true,true,true,true,true,true,true,true] rfl rfl (one_of HT_.out (by kernel_rfl)) (by decide) (fun K hK => ?_)
          have hs141 : w139.cell? ⟨gb116,1,none⟩ = some (u117001):=(blk_cell BK116.out 1).trans rfl
          have hfs141:=blk_frozen BK116.out 1
          have hns141_0:=NB115_116.out
          have hms141_0:=NB116_115.out
          refine skip_ (w1:=?_) (by rfl) rfl ?_ ?_
          rotate_left
          ·go_simp
           rfl
          refine hK.out _ _ ?_
          clear hK K
          refine done_ (done_of HT_.out (by kernel_rfl)) ?_
          try go_wp2
          go_roundg k2
          case measure => have:=HJ3.out; have:=HK2.out; omega
          case rel => exact ⟨(wrap64 (x5_2 + 1)),(t195),(t196),(y188),(y197),(.slice Ao131 y188.length co131),(.slice Ao140 y197.length co140),(by first|rfl|(simp; done)|(simp [*]; done)),H',⟨by have:=HJ3.out; have:=HK2.out; omega⟩,⟨by (with_reducible repeat (first|apply Kd.R_alloc|apply Kd.R_drewN|apply Kd.R_drew)); exact Kd.R_mono (Kd.R_far (p:=⟨gb116,1,none⟩) (Kd.R_types HO190.out BK116.out (by decide)) (fun _ hk => hk.2) (.slice Ao140 y197.length co140)) (fun _ hk => hk.1.2)⟩,⟨by (with_reducible repeat (first|apply Kd.R_alloc|apply Kd.R_drewN|apply Kd.R_drew)); exact Kd.R_mono (Kd.R_far (p:=⟨gb116,1,none⟩) (Kd.R_types HO199.out BK116.out (by decide)) (fun _ hk => hk.2) (.slice Ao140 y197.length co140)) (fun _ hk => hk.1.1)⟩,⟨by (with_reducible repeat (first|refine blk_drewN ?_ _|refine blk_drew ?_|refine blk_alloc ?_ _)); refine blk_far ?_ NB115_116.out _; (with_reducible repeat (first|refine blk_drewN ?_ _|refine blk_drew ?_|refine blk_alloc ?_ _)); exact BK115.out⟩,⟨by (with_reducible repeat (first|refine blk_drewN ?_ _|refine blk_drew ?_|refine blk_alloc ?_ _)); refine blk_put (cs:=#[.slice Ao131 y188.length co131,u117001]) ?_ 1 _ rfl; (with_reducible repeat (first|refine blk_drewN ?_ _|refine blk_drew ?_|refine blk_alloc ?_ _)); exact BK116.out⟩,⟨by repeat (first|(with_reducible first|exact HI0.out|apply IsS112.alloc|apply IsS112.drewN|apply IsS112.drew|apply IsS112.set_1|apply IsS112.set_2|refine IsS112.far ?_ NB0_115.out _|refine IsS112.far ?_ NB0_116.out _)|exact HI0.out)⟩,⟨by repeat (first|(with_reducible first|exact HK.out|apply KeepBut.set_|apply keep_drewN|apply keep_drew|apply keep_alloc|refine keep_far ?_ GW115.out _|refine keep_far ?_ GW116.out _)|exact HK.out)⟩,⟨by repeat (first|(with_reducible first|exact HB.out|apply below_alloc|apply pw_below_drewN|apply below_drew1|refine below_set ?_ (IsS112.ge HI0.out)|refine below_set ?_ GE115.out|refine below_set ?_ GE116.out)|exact HB.out)⟩⟩
         ·rw [if_neg c125] at H
          exact absurd H (by simp)
        ·rw [if_neg c123] at H
         exact absurd H (by simp)
     ·rw [if_neg c13] at H
      have c13b0 : decide (x5_2 < x4_3) = false:=decide_eq_false c13
      clear c13
      simp only [Option.some.injEq,Prod.mk.injEq] at H
      obtain ⟨rfl,rfl,rfl,rfl⟩:=H
      have hnb142:=NB116_115.out
      have hnc142:=NB115_116.out
      have hnb143:=NB116_0.out
      have hnc143:=NB0_116.out
      have hcz144_0 : wr.cell? ⟨gb116,0,none⟩ = some (u117000):=(blk_cell BK116.out 0).trans rfl
      have hcz144_1 : wr.cell? ⟨gb116,1,none⟩ = some (u117001):=(blk_cell BK116.out 1).trans rfl
      have hfz144_0:=blk_frozen BK116.out 0
      have hfz144_1:=blk_frozen BK116.out 1
      obtain ⟨Ao145,co145,eo145⟩:=Kd.R_slice HO_117000.out
      subst eo145
      have hnb146:=NB115_0.out
      have hnc146:=NB0_115.out
      have hcz147_0 : wr.cell? ⟨gb115,0,none⟩ = some (.slice none 0 0):=(blk_cell BK115.out 0).trans rfl
      have hcz147_1 : wr.cell? ⟨gb115,1,none⟩ = some (.slice none 0 0):=(blk_cell BK115.out 1).trans rfl
      have hfz147_0:=blk_frozen BK115.out 0
      have hfz147_1:=blk_frozen BK115.out 1
      obtain ⟨Ao148,co148,eo148⟩:=Kd.R_slice HO_117001.out
      subst eo148
      go_wp2
      refine bodyPost_ret (results_cell_row rfl _ _ gb115 26 #[.slice Ao145 x117000_2.length co145,.slice Ao148 x117001_2.length co148] (0,0) _ rfl (by (with_reducible repeat (first|refine blk_drewN ?_ _|refine blk_drew ?_|refine blk_alloc ?_ _)); refine blk_put (cs:=#[.slice Ao145 x117000_2.length co145,.slice none 0 0]) ?_ 1 _ rfl; (with_reducible repeat (first|refine blk_drewN ?_ _|refine blk_drew ?_|refine blk_alloc ?_ _)); refine blk_put (cs:=#[.slice none 0 0,.slice none 0 0]) ?_ 0 _ rfl; (with_reducible repeat (first|refine blk_drewN ?_ _|refine blk_drew ?_|refine blk_alloc ?_ _)); exact BK115.out) Try.underlying26 rfl (by kernel_rfl)) rfl ?_
      exact ⟨_,_,by first|rfl|(simp [errW_none,errW_some] <;> rfl)|(simp [*,errW_none,errW_some] <;> rfl),by (with_reducible repeat (first|apply Kd.R_alloc|apply Kd.R_drewN|apply Kd.R_drew)); exact Kd.R_mono (Kd.R_far (p:=⟨gb115,1,none⟩) (Kd.R_far (p:=⟨gb115,0,none⟩) (Kd.R_types HO_117000.out BK115.out (by decide)) (fun _ hk => hk.2) (.slice Ao145 x117000_2.length co145)) (fun _ hk => hk.2) (.slice Ao148 x117001_2.length co148)) (fun _ hk => hk.1),by (with_reducible repeat (first|apply Kd.R_alloc|apply Kd.R_drewN|apply Kd.R_drew)); exact Kd.R_mono (Kd.R_far (p:=⟨gb115,1,none⟩) (Kd.R_far (p:=⟨gb115,0,none⟩) (Kd.R_types HO_117001.out BK115.out (by decide)) (fun _ hk => hk.2) (.slice Ao145 x117000_2.length co145)) (fun _ hk => hk.2) (.slice Ao148 x117001_2.length co148)) (fun _ hk => hk.1),by repeat (first|(with_reducible first|exact HI0.out|apply IsS112.alloc|apply IsS112.drewN|apply IsS112.drew|apply IsS112.set_1|apply IsS112.set_2|refine IsS112.far ?_ NB0_115.out _|refine IsS112.far ?_ NB0_116.out _)|exact HI0.out),by repeat (first|(with_reducible first|exact HB.out|apply below_alloc|apply pw_below_drewN|apply below_drew1|refine below_set ?_ (IsS112.ge HI0.out)|refine below_set ?_ GE115.out|refine below_set ?_ GE116.out)|exact HB.out),by repeat (first|(with_reducible first|exact HK.out|apply KeepBut.set_|apply keep_drewN|apply keep_drew|apply keep_alloc|refine keep_far ?_ GW115.out _|refine keep_far ?_ GW116.out _)|exact HK.out)⟩

end Go.Proofs.Ytlldonokjgoajaa.X
