-- Written by a program of ours (wip/bin/xprint.py,over the kit's print.py) out of the translation. Not trusted: Lean checks it.
import Derived.Test.YtlldonokjgoajaaX0
import Derived.Test.YtlldonokjgoajaaFbCur
import Derived.Test.YtlldonokjgoajaaFspecl1Curyard
namespace Go.Proofs.Ytlldonokjgoajaa.X
open Go.RowKit Go.Proofs.YtlldonokjgoajaaW.PrintWords Go.Proofs.YtlldonokjgoajaaW.PrintLast Go.Proofs.YtlldonokjgoajaaW.PrintMore
def lbf4c : Nat → Nat → List Bool
 | 0,_ => []
 | n+1,m => (m%2==1) :: lbf4c n (m/2)
def bf4c (n m : Nat) : Array Bool := ⟨lbf4c n m⟩
attribute [local go_sem] max2_int min2_int max_two min_two max_three min_three max_four min_four   -- for this text's walks alone
set_option linter.unusedVariables false
set_option linter.unusedSimpArgs false

/-! ### spec_l1Cur_anyYard: function 113 -/
def spec_l1Cur_anyYard.l0 : Nat → Int → List Int → Int → Int → List (List Int) → Option ((List (List Int)) × Int × Int)
 | 0,_,_,_,_,_ => none
 | k + 1,x5,x1000,x1001,x1002,x576000 => (spec_l1Cur_pick.f x1000 x1001 x1002 2).bind fun bt600 => (if (x576000.length : Int) < (wrap64 (6 + bt600.1)) then (if x5 < 8 then (if x576000.length < 5864062014805 then (spec_l1Cur_anyYard.l0 k (wrap64 (x5 + 1)) x1000 bt600.2.1 bt600.2.2 (x576000 ++ [(([wrap64 (40 + x5)] : List Int))])) else (none)) else (some (x576000,bt600.2.1,bt600.2.2))) else (some (x576000,bt600.2.1,bt600.2.2)))
def spec_l1Cur_anyYard.f (k : Nat) (s0_0 : List Int) (s0_1 : Int) (s0_2 : Int) : Option ((List (List Int)) × Int × Int):=(spec_l1Cur_yard.f k s0_0 s0_1 s0_2).bind fun bt570 => ((spec_l1Cur_pick.f s0_0 bt570.2.1 bt570.2.2 (bt570.1.length : Int)).bind fun bt576 => ((spec_l1Cur_pick.f s0_0 bt576.2.1 bt576.2.2 24).bind fun bt579 => (if bt579.1 = 0 then (if 0 ≤ bt576.1 then (if bt576.1 < (bt570.1.length : Int) then ((spec_l1Cur_among.f s0_0 bt579.2.1 bt579.2.2 ([0,100,99,1] : List Int)).bind fun bt586 => (if (rd_L2 bt570.1 bt576.1).length < 17592186044416 then (some ((bt570.1.set (bt576.1 : Int).toNat ((rd_L2 bt570.1 bt576.1) ++ [bt586.1])),bt586.2.1,bt586.2.2)) else (none))) else (none)) else (none)) else (if bt579.1 = 1 then (if 0 ≤ bt576.1 then (if bt576.1 < (bt570.1.length : Int) then (some ((bt570.1.set (bt576.1 : Int).toNat ([21,22,23,24,25] : List Int)),bt579.2.1,bt579.2.2)) else (none)) else (none)) else (if bt579.1 = 2 then (some ((([] : List (List Int))),bt579.2.1,bt579.2.2)) else (if bt579.1 = 3 then (spec_l1Cur_anyYard.l0 k 0 s0_0 bt579.2.1 bt579.2.2 bt570.1) else (some (bt570.1,bt579.2.1,bt579.2.2))))))))
theorem spec_l1Cur_anyYard.mono_l : ∀ k,(∀ y0 y1 y2 y3 y4,LeO (spec_l1Cur_anyYard.l0 k y0 y1 y2 y3 y4) (spec_l1Cur_anyYard.l0 (k + 1) y0 y1 y2 y3 y4))
 | 0 => fun _ _ _ _ _ r h => by simp [spec_l1Cur_anyYard.l0] at h
 | k + 1 => by
  have ih0:=spec_l1Cur_anyYard.mono_l k
  ·intro y0 y1 y2 y3 y4
   unfold spec_l1Cur_anyYard.l0
   repeat' first
   | (with_reducible exact ih0 _ _ _ _ _)
   | (with_reducible exact spec_l1Cur_yard.mono _ _ _ _)
   | (with_reducible exact LeO.refl _)
   | (with_reducible exact LeO.none _)
   | (with_reducible refine LeO.ite ?_ ?_)
   | (with_reducible refine LeO.bind ?_ (fun _ => ?_))
   | exact ih0 _ _ _ _ _
   | exact spec_l1Cur_yard.mono _ _ _ _
   | exact LeO.none _
   | refine LeO.ite ?_ ?_
   | refine LeO.bind ?_ (fun _ => ?_)
theorem spec_l1Cur_anyYard.mono : ∀ a0 a1 a2 k,LeO (spec_l1Cur_anyYard.f k a0 a1 a2) (spec_l1Cur_anyYard.f (k + 1) a0 a1 a2):=by
 intro a0 a1 a2 k
 have ih0:=spec_l1Cur_anyYard.mono_l k
 unfold spec_l1Cur_anyYard.f
 repeat' first
   | (with_reducible exact ih0 _ _ _ _ _)
   | (with_reducible exact spec_l1Cur_yard.mono _ _ _ _)
   | (with_reducible exact LeO.refl _)
   | (with_reducible exact LeO.none _)
   | (with_reducible refine LeO.ite ?_ ?_)
   | (with_reducible refine LeO.bind ?_ (fun _ => ?_))
   | exact ih0 _ _ _ _ _
   | exact spec_l1Cur_yard.mono _ _ _ _
   | exact LeO.none _
   | refine LeO.ite ?_ ?_
   | refine LeO.bind ?_ (fun _ => ?_)
def spec_l1Cur_anyYard.T5 : Bool × List (List Nat × List Nat):=(true,[([],[]),([0],[0]),([],[]),([],[]),([3],[3]),([],[]),([4,5],[4,5]),([6],[6]),([],[]),([],[]),([8,9],[8,9]),([10],[10]),([7,11,10],[7,11]),([1,2,0,1,2,3,4,5,6,7,8,9,10,11,12],[1,2]),([13,12,12,0,1,2,3,4,5,6,7,8,9,10,11,12],[12,13])])
def spec_l1Cur_anyYard.B5 : List Nat:=[0,1,0,0,8,0,56,120,0,0,768,1792,4088,8191,16383]
theorem spec_l1Cur_anyYard.tab5 : rtab .any (opsOf Try.f113 5) = spec_l1Cur_anyYard.T5:=by kernel_rfl
theorem spec_l1Cur_anyYard.bits5 : waitsOk spec_l1Cur_anyYard.T5.2 spec_l1Cur_anyYard.B5 = true:=by kernel_rfl
def spec_l1Cur_anyYard.T12 : Bool × List (List Nat × List Nat):=(true,[([],[]),([0],[0]),([1],[1]),([],[]),([3],[3]),([4],[4]),([2,5],[2,5]),([6,4],[6]),([7],[7]),([8,7],[7,8]),([7,9],[7,9])])
def spec_l1Cur_anyYard.B12 : List Nat:=[0,1,3,0,8,24,63,127,255,511,1023]
theorem spec_l1Cur_anyYard.tab12 : rtab .any (opsOf Try.f113 12) = spec_l1Cur_anyYard.T12:=by kernel_rfl
theorem spec_l1Cur_anyYard.bits12 : waitsOk spec_l1Cur_anyYard.T12.2 spec_l1Cur_anyYard.B12 = true:=by kernel_rfl
set_option maxHeartbeats 8000000 in
set_option maxRecDepth 100000 in
theorem spec_l1Cur_anyYard.calls (k : Nat) (g : Nat) (s0_0 : List Int) (s0_1 : Int) (s0_2 : Int) (r1 : List (List Int)) (r2 : Int) (r3 : Int) (w0 w : World) (hI : IsS112 w0 w g s0_0 s0_1 s0_2) (hB : Below w0.heap.size w0 w) (h : spec_l1Cur_anyYard.f k s0_0 s0_1 s0_2 = some (r1,r2,r3)) :
  Calls Try.prog 113 #[.pointer (some ⟨g,0,none⟩)] w fun e w' => ∃ v0_ : Value,e = .returned (.agg #[v0_]) ∧ Kd.S (Kd.slice 3 (Kd.int .i64)) 24 w' w.heap.size (fun _ => True) v0_ r1 ∧ IsS112 w0 w' g s0_0 r2 r3 ∧ Below w0.heap.size w0 w' ∧ KeepBut w w' g none:=by
 have hu42:=Try.underlying42
 have HI0:=Aside0.mk hI
 have HK:=Aside0.mk (KeepBut.refl w g none)
 have HL:=Aside0.mk hB.size
 clear hI
 have HW0:=Aside0.mk hB.size
 have HB:=Aside0.mk hB
 clear hB
 have H : ((spec_l1Cur_yard.f k s0_0 s0_1 s0_2).bind fun bt570 => ((spec_l1Cur_pick.f s0_0 bt570.2.1 bt570.2.2 (bt570.1.length : Int)).bind fun bt576 => ((spec_l1Cur_pick.f s0_0 bt576.2.1 bt576.2.2 24).bind fun bt579 => (if bt579.1 = 0 then (if 0 ≤ bt576.1 then (if bt576.1 < (bt570.1.length : Int) then ((spec_l1Cur_among.f s0_0 bt579.2.1 bt579.2.2 ([0,100,99,1] : List Int)).bind fun bt586 => (if (rd_L2 bt570.1 bt576.1).length < 17592186044416 then (some ((bt570.1.set (bt576.1 : Int).toNat ((rd_L2 bt570.1 bt576.1) ++ [bt586.1])),bt586.2.1,bt586.2.2)) else (none))) else (none)) else (none)) else (if bt579.1 = 1 then (if 0 ≤ bt576.1 then (if bt576.1 < (bt570.1.length : Int) then (some ((bt570.1.set (bt576.1 : Int).toNat ([21,22,23,24,25] : List Int)),bt579.2.1,bt579.2.2)) else (none)) else (none)) else (if bt579.1 = 2 then (some ((([] : List (List Int))),bt579.2.1,bt579.2.2)) else (if bt579.1 = 3 then (spec_l1Cur_anyYard.l0 k 0 s0_0 bt579.2.1 bt579.2.2 bt570.1) else (some (bt570.1,bt579.2.1,bt579.2.2))))))))) = some (r1,r2,r3):=h
 clear h
 replace H:=Option.bind_eq_some_iff.mp H
 obtain ⟨⟨t570,t573,t574⟩,A20,H⟩:=H
 replace H : ((spec_l1Cur_pick.f s0_0 t573 t574 (t570.length : Int)).bind fun bt576 => ((spec_l1Cur_pick.f s0_0 bt576.2.1 bt576.2.2 24).bind fun bt579 => (if bt579.1 = 0 then (if 0 ≤ bt576.1 then (if bt576.1 < (t570.length : Int) then ((spec_l1Cur_among.f s0_0 bt579.2.1 bt579.2.2 ([0,100,99,1] : List Int)).bind fun bt586 => (if (rd_L2 t570 bt576.1).length < 17592186044416 then (some ((t570.set (bt576.1 : Int).toNat ((rd_L2 t570 bt576.1) ++ [bt586.1])),bt586.2.1,bt586.2.2)) else (none))) else (none)) else (none)) else (if bt579.1 = 1 then (if 0 ≤ bt576.1 then (if bt576.1 < (t570.length : Int) then (some ((t570.set (bt576.1 : Int).toNat ([21,22,23,24,25] : List Int)),bt579.2.1,bt579.2.2)) else (none)) else (none)) else (if bt579.1 = 2 then (some ((([] : List (List Int))),bt579.2.1,bt579.2.2)) else (if bt579.1 = 3 then (spec_l1Cur_anyYard.l0 k 0 s0_0 bt579.2.1 bt579.2.2 t570) else (some (t570,bt579.2.1,bt579.2.2)))))))) = some (r1,r2,r3):=H
 have A2:=Aside0.mk A20
 clear A20
 replace H:=Option.bind_eq_some_iff.mp H
 obtain ⟨⟨t576,t577,t578⟩,A30,H⟩:=H
 replace H : ((spec_l1Cur_pick.f s0_0 t577 t578 24).bind fun bt579 => (if bt579.1 = 0 then (if 0 ≤ t576 then (if t576 < (t570.length : Int) then ((spec_l1Cur_among.f s0_0 bt579.2.1 bt579.2.2 ([0,100,99,1] : List Int)).bind fun bt586 => (if (rd_L2 t570 t576).length < 17592186044416 then (some ((t570.set (t576 : Int).toNat ((rd_L2 t570 t576) ++ [bt586.1])),bt586.2.1,bt586.2.2)) else (none))) else (none)) else (none)) else (if bt579.1 = 1 then (if 0 ≤ t576 then (if t576 < (t570.length : Int) then (some ((t570.set (t576 : Int).toNat ([21,22,23,24,25] : List Int)),bt579.2.1,bt579.2.2)) else (none)) else (none)) else (if bt579.1 = 2 then (some ((([] : List (List Int))),bt579.2.1,bt579.2.2)) else (if bt579.1 = 3 then (spec_l1Cur_anyYard.l0 k 0 s0_0 bt579.2.1 bt579.2.2 t570) else (some (t570,bt579.2.1,bt579.2.2))))))) = some (r1,r2,r3):=H
 have A3:=Aside0.mk A30
 clear A30
 replace H:=Option.bind_eq_some_iff.mp H
 obtain ⟨⟨t579,t580,t581⟩,A40,H⟩:=H
 replace H : (if t579 = 0 then (if 0 ≤ t576 then (if t576 < (t570.length : Int) then ((spec_l1Cur_among.f s0_0 t580 t581 ([0,100,99,1] : List Int)).bind fun bt586 => (if (rd_L2 t570 t576).length < 17592186044416 then (some ((t570.set (t576 : Int).toNat ((rd_L2 t570 t576) ++ [bt586.1])),bt586.2.1,bt586.2.2)) else (none))) else (none)) else (none)) else (if t579 = 1 then (if 0 ≤ t576 then (if t576 < (t570.length : Int) then (some ((t570.set (t576 : Int).toNat ([21,22,23,24,25] : List Int)),t580,t581)) else (none)) else (none)) else (if t579 = 2 then (some ((([] : List (List Int))),t580,t581)) else (if t579 = 3 then (spec_l1Cur_anyYard.l0 k 0 s0_0 t580 t581 t570) else (some (t570,t580,t581)))))) = some (r1,r2,r3):=H
 have A4:=Aside0.mk A40
 clear A40
 have HF_:=Aside0.mk H
 clear H
 go_enter Try.func113,Try.ntmps113
 go_upto_region 4 with (first|((with_reducible refine gate_dst (N:=2) rfl ?_); refine box_event ?hg (N:=2) ?hd (cs:=#[.slice none 0 0]) (t:=42) ?hr ?_; (case hd => rfl); (case hg => rfl); (case hr => (go_simp; done)); intro gb569 hg w11 hbox hb; have n0_:=Aside0.mk (IsS112.below (by repeat (((with_reducible (exact HI0.out))))) hb); have n1_:=Aside0.mk (KeepBut.trans (by repeat (((with_reducible (exact HK.out))))) (KeepBut.of_below hb g none) (.inl rfl)); have n2_:=Aside0.mk (below_step (by repeat (((with_reducible (exact HB.out))))) hb); have n3_:=Aside0.mk (hbox); have n4_:=Aside0.mk ((by rw [hg]; exact (keep_size (w:=w) (g:=g) (row:=none) (by repeat (((with_reducible (exact HK.out)))))) : w.heap.size ≤ gb569)); have n5_:=Aside0.mk ((Nat.le_trans HW0.out (by rw [hg]; exact (keep_size (w:=w) (g:=g) (row:=none) (by repeat (((with_reducible (exact HK.out)))))) : w.heap.size ≤ gb569) : w0.heap.size ≤ gb569)); have n6_:=Aside0.mk ((by rw [hg]; exact Nat.ne_of_lt (IsS112.lt (show IsS112 w0 _ g s0_0 s0_1 s0_2 from by repeat (((with_reducible (exact HI0.out)))))) : g ≠ gb569)); have n7_:=Aside0.mk ((by rw [hg]; exact Nat.ne_of_gt (IsS112.lt (show IsS112 w0 _ g s0_0 s0_1 s0_2 from by repeat (((with_reducible (exact HI0.out)))))) : gb569 ≠ g)); clear HI0; clear HK; clear HB; have HI0:=n0_; have HK:=n1_; have HB:=n2_; have BK569:=n3_; have GW569:=n4_; have GE569:=n5_; have NB0_569:=n6_; have NB569_0:=n7_; clear n0_ n1_ n2_ n3_ n4_ n5_ n6_ n7_; clear hb hbox hg)|((with_reducible refine gate_callee (f:=167) rfl ?_); refine goesL_ (some 7) rfl rfl Try.func167 (by kernel_rfl) rfl #[.pointer (some ⟨g,0,none⟩)] rfl (by (try simp only [List.map_toArray,List.map_cons,List.map_nil]); (rfl)) ?_; (with_reducible refine (spec_l1Cur_yard.calls k g s0_0 s0_1 s0_2 t570 t573 t574 w0 _ ?side1 ?side2 A2.out).mono ?_); (case side1 => repeat (((with_reducible (exact HI0.out))))); (case side2 => repeat (((with_reducible (exact HB.out))))); rintro e w12 ⟨v571,rfl,ho0,hi,hb,hk⟩; refine ⟨_,rfl,?_⟩; have n0_:=Aside0.mk (KeepBut.blk hk (g':=gb569) (o:=.cells #[.slice none 0 0] 42 (0,0)) (by exact BK569.out) NB569_0.out (by simp)); have n1_:=Aside0.mk (Kd.S_lower ho0 (keep_size (w:=w) (g:=g) (row:=none) (by repeat (((with_reducible (exact HK.out))))))); have n2_:=Aside0.mk (KeepBut.trans (by repeat (((with_reducible (exact HK.out))))) hk (.inl rfl)); have n3_:=Aside0.mk (hb); have n4_:=Aside0.mk (hi); clear BK569; clear HK; clear HB; clear HI0; have BK569:=n0_; have HO572:=n1_; have HK:=n2_; have HB:=n3_; have HI0:=n4_; clear n0_ n1_ n2_ n3_ n4_; (try clear hb); (try clear hb2); (try clear hk); (try clear hi); (try clear ho0))|((with_reducible refine gate_dst (N:=3) rfl ?_); refine box_event ?hg (N:=3) ?hd (cs:=#[.slice none 0 0]) (t:=42) ?hr ?_; (case hd => rfl); (case hg => rfl); (case hr => (go_simp; done)); intro gb575 hg w13 hbox hb; have n0_:=Aside0.mk (Kd.S_below (by exact HO572.out) hb); have n1_:=Aside0.mk (IsS112.below (by repeat (((with_reducible (exact HI0.out))))) hb); have n2_:=Aside0.mk (blk_below (g:=gb569) (o:=.cells #[.slice none 0 0] 42 (0,0)) (by exact BK569.out) hb); have n3_:=Aside0.mk (KeepBut.trans (by repeat (((with_reducible (exact HK.out))))) (KeepBut.of_below hb g none) (.inl rfl)); have n4_:=Aside0.mk (below_step (by repeat (((with_reducible (exact HB.out))))) hb); have n5_:=Aside0.mk (hbox); have n6_:=Aside0.mk ((by rw [hg]; exact (keep_size (w:=w) (g:=g) (row:=none) (by repeat (((with_reducible (exact HK.out)))))) : w.heap.size ≤ gb575)); have n7_:=Aside0.mk ((Nat.le_trans HW0.out (by rw [hg]; exact (keep_size (w:=w) (g:=g) (row:=none) (by repeat (((with_reducible (exact HK.out)))))) : w.heap.size ≤ gb575) : w0.heap.size ≤ gb575)); have n8_:=Aside0.mk ((by rw [hg]; exact Nat.ne_of_lt (blk_lt (g:=gb569) (o:=.cells #[.slice none 0 0] 42 (0,0)) (by exact BK569.out)) : gb569 ≠ gb575)); have n9_:=Aside0.mk ((by rw [hg]; exact Nat.ne_of_gt (blk_lt (g:=gb569) (o:=.cells #[.slice none 0 0] 42 (0,0)) (by exact BK569.out)) : gb575 ≠ gb569)); have n10_:=Aside0.mk ((by rw [hg]; exact Nat.ne_of_lt (IsS112.lt (show IsS112 w0 _ g s0_0 t573 t574 from by repeat (((with_reducible (exact HI0.out)))))) : g ≠ gb575)); have n11_:=Aside0.mk ((by rw [hg]; exact Nat.ne_of_gt (IsS112.lt (show IsS112 w0 _ g s0_0 t573 t574 from by repeat (((with_reducible (exact HI0.out)))))) : gb575 ≠ g)); clear HO572; clear HI0; clear BK569; clear HK; clear HB; have HO572:=n0_; have HI0:=n1_; have BK569:=n2_; have HK:=n3_; have HB:=n4_; have BK575:=n5_; have GW575:=n6_; have GE575:=n7_; have NB569_575:=n8_; have NB575_569:=n9_; have NB0_575:=n10_; have NB575_0:=n11_; clear n0_ n1_ n2_ n3_ n4_ n5_ n6_ n7_ n8_ n9_ n10_ n11_; clear hb hbox hg; obtain ⟨Ao14,co14,eo14⟩:=Kd.S_slice HO572.out; subst eo14; have hnb15:=NB575_569.out; have hnc15:=NB569_575.out; have hnb16:=NB575_0.out; have hnc16:=NB0_575.out; have hcz17_0 : w13.cell? ⟨gb575,0,none⟩ = some (.slice none 0 0):=(blk_cell BK575.out 0).trans rfl; have hfz17_0:=blk_frozen BK575.out 0)|((with_reducible refine gate_callee (f:=97) rfl ?_); refine goesL_ (some 12) rfl rfl Try.func97 (by kernel_rfl) rfl #[.pointer (some ⟨g,0,none⟩),.int .i64 (t570.length : Int)] rfl (by (try simp only [List.map_toArray,List.map_cons,List.map_nil]); (rfl)) ?_; (with_reducible refine (spec_l1Cur_pick.calls g s0_0 t573 t574 (t570.length : Int) t576 t577 t578 w0 _ ?side1 ?side2 A3.out).mono ?_); (case side1 => repeat (with_reducible first|exact HI0.out|refine IsS112.far ?_ NB0_575.out _)); (case side2 => repeat (with_reducible first|exact HB.out|refine below_set ?_ GE575.out)); rintro e w18 ⟨rfl,hi,hb,hk⟩; refine ⟨_,rfl,?_⟩; have n0_:=Aside0.mk (KeepBut.blk hk (g':=gb569) (o:=.cells #[.slice none 0 0] 42 (0,0)) (by refine blk_far ?_ NB569_575.out _; exact BK569.out) NB569_0.out (by simp)); have n1_:=Aside0.mk (Kd.S_mono (Kd.S_keep (IsS112.apartS (show IsS112 w0 _ g s0_0 t573 t574 from by repeat (with_reducible first|exact HI0.out|refine IsS112.far ?_ NB0_575.out _)) (by exact (Kd.S_mono (Kd.S_far (p:=⟨gb575,0,none⟩) (Kd.S_types HO572.out BK575.out (by decide)) (fun _ hk => hk.2) (.slice Ao14 t570.length co14)) (fun _ h_ => h_.1))) (by decide)) hk (fun _ h => h.2)) (fun _ h => h.1)); have n2_:=Aside0.mk (KeepBut.blk hk (g':=gb575) (o:=.cells #[.slice Ao14 t570.length co14] 42 (0,0)) (by refine blk_put (cs:=#[.slice none 0 0]) ?_ 0 _ rfl; exact BK575.out) NB575_0.out (by simp)); have n3_:=Aside0.mk (KeepBut.trans (by repeat (with_reducible first|exact HK.out|refine keep_far ?_ GW575.out _)) hk (.inl rfl)); have n4_:=Aside0.mk (hb); have n5_:=Aside0.mk (hi); clear BK569; clear HO572; clear BK575; clear HK; clear HB; clear HI0; have BK569:=n0_; have HO572:=n1_; have BK575:=n2_; have HK:=n3_; have HB:=n4_; have HI0:=n5_; clear n0_ n1_ n2_ n3_ n4_ n5_; (try clear hb); (try clear hb2); (try clear hk); (try clear hi))|((with_reducible refine gate_callee (f:=97) rfl ?_); refine goesL_ (some 14) rfl rfl Try.func97 (by kernel_rfl) rfl #[.pointer (some ⟨g,0,none⟩),.int .i64 24] rfl (by (try simp only [List.map_toArray,List.map_cons,List.map_nil]); (rfl)) ?_; (with_reducible refine (spec_l1Cur_pick.calls g s0_0 t577 t578 24 t579 t580 t581 w0 _ ?side1 ?side2 A4.out).mono ?_); (case side1 => repeat (((with_reducible (exact HI0.out))))); (case side2 => repeat (((with_reducible (exact HB.out))))); rintro e w19 ⟨rfl,hi,hb,hk⟩; refine ⟨_,rfl,?_⟩; have n0_:=Aside0.mk (KeepBut.blk hk (g':=gb569) (o:=.cells #[.slice none 0 0] 42 (0,0)) (by exact BK569.out) NB569_0.out (by simp)); have n1_:=Aside0.mk (Kd.S_mono (Kd.S_keep (IsS112.apartS (show IsS112 w0 _ g s0_0 t577 t578 from by repeat (((with_reducible (exact HI0.out))))) (by exact HO572.out) (by decide)) hk (fun _ h => h.2)) (fun _ h => h.1)); have n2_:=Aside0.mk (KeepBut.blk hk (g':=gb575) (o:=.cells #[.slice Ao14 t570.length co14] 42 (0,0)) (by exact BK575.out) NB575_0.out (by simp)); have n3_:=Aside0.mk (KeepBut.trans (by repeat (((with_reducible (exact HK.out))))) hk (.inl rfl)); have n4_:=Aside0.mk (hb); have n5_:=Aside0.mk (hi); clear BK569; clear HO572; clear BK575; clear HK; clear HB; clear HI0; have BK569:=n0_; have HO572:=n1_; have BK575:=n2_; have HK:=n3_; have HB:=n4_; have HI0:=n5_; clear n0_ n1_ n2_ n3_ n4_ n5_; (try clear hb); (try clear hb2); (try clear hk); (try clear hi)))
 have H:=HF_.out
 clear HF_
 by_cases c5 : t579 = 0
 ·rw [if_pos c5] at H
  have c5b0 : (t579 == 0) = true:=beq_iff_eq.mpr c5
  have c5b1 : (t579 != 0) = false:=bne_eq_false_iff_eq.mpr c5
  clear c5
  by_cases c6 : 0 ≤ t576
  ·rw [if_pos c6] at H
   have c6b0 : decide (0 ≤ t576) = true:=decide_eq_true c6
   clear c6
   by_cases c7 : t576 < (t570.length : Int)
   ·rw [if_pos c7] at H
    have c7b0 : decide (t576 < (t570.length : Int)) = true:=decide_eq_true c7
    clear c7
    obtain ⟨y583,hy583⟩ : ∃ y_ : List Int,y_ = ([0,100,99,1] : List Int):=⟨_,rfl⟩
    replace H : ((spec_l1Cur_among.f s0_0 t580 t581 y583).bind fun bt586 => (if (rd_L2 t570 t576).length < 17592186044416 then (some ((t570.set (t576 : Int).toNat ((rd_L2 t570 t576) ++ [bt586.1])),bt586.2.1,bt586.2.2)) else (none))) = some (r1,r2,r3):=by (rw [hy583]; with_reducible exact H)
    have Ny583:=Aside0.mk hy583
    clear hy583
    replace H:=Option.bind_eq_some_iff.mp H
    obtain ⟨⟨t586,t587,t588⟩,A80,H⟩:=H
    replace H : (if (rd_L2 t570 t576).length < 17592186044416 then (some ((t570.set (t576 : Int).toNat ((rd_L2 t570 t576) ++ [t586])),t587,t588)) else (none)) = some (r1,r2,r3):=H
    have A8:=Aside0.mk A80
    clear A80
    by_cases c9 : (rd_L2 t570 t576).length < 17592186044416
    ·rw [if_pos c9] at H
     have LMc9:=Aside0.mk c9
     clear c9
     obtain ⟨y589,hy589⟩ : ∃ y_ : List Int,y_ = ((rd_L2 t570 t576) ++ [t586]):=⟨_,rfl⟩
     replace H : (some ((t570.set (t576 : Int).toNat y589),t587,t588)) = some (r1,r2,r3):=by (rw [hy589]; with_reducible exact H)
     have Ny589:=Aside0.mk hy589
     clear hy589
     obtain ⟨y592,hy592⟩ : ∃ y_ : List (List Int),y_ = (t570.set (t576 : Int).toNat y589):=⟨_,rfl⟩
     replace H : (some (y592,t587,t588)) = some (r1,r2,r3):=by (rw [hy592]; with_reducible exact H)
     have Ny592:=Aside0.mk hy592
     clear hy592
     simp only [Option.some.injEq,Prod.mk.injEq] at H
     obtain ⟨rfl,rfl,rfl⟩:=H
     try go_wp2
     have n0_:=Aside0.mk (Kd.S_drew HO572.out)
     have n1_:=Aside0.mk (blk_drew BK569.out)
     have n2_:=Aside0.mk (blk_drew BK575.out)
     have n3_:=Aside0.mk (IsS112.drew HI0.out)
     have n4_:=Aside0.mk (keep_drew HK.out)
     have n5_:=Aside0.mk (below_drew1 HB.out)
     clear HO572
     clear BK569
     clear BK575
     clear HI0
     clear HK
     clear HB
     have HO572:=n0_
     have BK569:=n1_
     have BK575:=n2_
     have HI0:=n3_
     have HK:=n4_
     have HB:=n5_
     clear n0_ n1_ n2_ n3_ n4_ n5_
     have p582 : 0 ≤ (t576 : Int):=of_decide_eq_true (by (with_reducible assumption))
     have q582 : t576 < (t570.length : Int):=of_decide_eq_true (by (with_reducible assumption))
     obtain ⟨ad582,A582_0,c582_0,e582,hx582_0,hl582_0,hi582_0⟩:=at_L2 (Kd.S_reads' HO572.out).2.2 t576 p582 q582
     cases e582
     obtain ⟨ce582,hce582,hMe582,hcc582⟩:=Kd.S_get HO572.out [] t576 p582 (by (exact q582))
     obtain ⟨ve582_0,rfl,ge582_0⟩:=hMe582
     have hv582_0:=hcc582 0 _ rfl
     rw [Nat.add_zero,show ((Kd.slice 3 (Kd.int .i64))).sz = 1 from rfl,Nat.mul_one] at hv582_0
     replace hv582_0:=Option.some.inj (hv582_0.symm.trans hx582_0)
     rw [hv582_0] at ge582_0
     have HL582_0:=Aside0.mk (show Kd.R (Kd.int .i64) 3 _ _ _ _ (rd_L2 t570 t576) from ge582_0)
     clear hv582_0 ge582_0
     have HX582_0:=Aside0.mk hx582_0
     clear hcc582 hce582
     have HR582_0:=Aside0.mk hi582_0
     have HC582_0:=Aside0.mk hl582_0
     clear hi582_0 hl582_0
     replace p582:=eq_true p582
     replace q582:=eq_true q582
     refine start_ (n:=15) (S:=fun w' => w'.cell? ⟨gb575,0,none⟩ = some (.slice (some ad582) t570.length co14) ∧ w'.cell? (ad582.add (t576).toNat) = some (.slice A582_0 (rd_L2 t570 t576).length c582_0)) (ds:=[14]) (bf4c 15 0) (by kernel_rfl) rfl rfl ⟨(blk_cell BK575.out 0).trans rfl,hx582_0⟩ (fun hHeld => ?_); refine with_tabW spec_l1Cur_anyYard.tab5 spec_l1Cur_anyYard.bits5 (fun HT_ HW_ => ?_)
     generalize w19.drew = w20 at HO572 BK569 BK575 HI0 HK HB HL582_0 HR582_0 HX582_0 hx582_0 hHeld ⊢
     refine pure_ (i:=0) (N:=some 17) (v:=?_) (a':=?_) (bf4c 15 1) rfl rfl (any_of HT_.out (by kernel_rfl)) (fun _ _ _ h => h) (Or.inl ⟨by rfl,?_⟩) ?_ ?_
     rotate_left
     ·intro w'
      go_simp
      with_reducible rfl
     rotate_left
     ·simp only [Act.put,List.setIfInBounds_toArray,List.set_cons_zero,List.set_cons_succ,i64_w,i32_w]
      rfl
     refine pure_ (i:=2) (N:=some 19) (v:=?_) (a':=?_) (bf4c 15 5) rfl rfl (any_of HT_.out (by kernel_rfl)) (fun _ _ _ h => h) (Or.inl ⟨by rfl,?_⟩) ?_ ?_
     rotate_left
     ·intro w'
      go_simp
      with_reducible rfl
     rotate_left
     ·simp only [Act.put,List.setIfInBounds_toArray,List.set_cons_zero,List.set_cons_succ,i64_w,i32_w]
      rfl
     refine pure_ (i:=3) (N:=some 20) (v:=?_) (a':=?_) (bf4c 15 13) rfl rfl (any_of HT_.out (by kernel_rfl)) (fun _ _ _ h => h) (Or.inl ⟨by rfl,?_⟩) ?_ ?_
     rotate_left
     ·intro w'
      go_simp
      with_reducible rfl
     rotate_left
     ·simp only [Act.put,List.setIfInBounds_toArray,List.set_cons_zero,List.set_cons_succ,i64_w,i32_w]
      rfl
     refine pure_ (i:=5) (N:=some 22) (v:=?_) (a':=?_) (bf4c 15 45) rfl rfl (any_of HT_.out (by kernel_rfl)) (fun _ _ _ h => h) (Or.inl ⟨by rfl,?_⟩) ?_ ?_
     rotate_left
     ·intro w'
      go_simp
      with_reducible rfl
     rotate_left
     ·simp only [Act.put,List.setIfInBounds_toArray,List.set_cons_zero,List.set_cons_succ,i64_w,i32_w]
      rfl
     refine pure_ (i:=8) (N:=some 25) (v:=?_) (a':=?_) (bf4c 15 301) rfl rfl (any_of HT_.out (by kernel_rfl)) (fun _ _ _ h => h) (Or.inl ⟨by rfl,?_⟩) ?_ ?_
     rotate_left
     ·intro w'
      go_simp
      with_reducible rfl
     rotate_left
     ·simp only [Act.put,List.setIfInBounds_toArray,List.set_cons_zero,List.set_cons_succ,i64_w,i32_w]
      rfl
     refine take_ (i:=1) (N:=some 18) (v:=?_) (a':=?_) (bf4c 15 303) rfl rfl (take_ofW HT_.out HW_.out (by kernel_rfl)) (fun _ _ _ h => h) (Or.inl ⟨by rfl,?_⟩) hHeld ?_ ?_
     rotate_left
     ·rintro w' ⟨s0,s1⟩
      go_simp
      with_reducible rfl
     rotate_left
     ·simp only [Act.put,List.setIfInBounds_toArray,List.set_cons_zero,List.set_cons_succ,i64_w,i32_w]
      rfl
     refine take_ (i:=4) (N:=some 21) (v:=?_) (a':=?_) (bf4c 15 319) rfl rfl (take_ofW HT_.out HW_.out (by kernel_rfl)) (fun _ _ _ h => h) (Or.inl ⟨by rfl,?_⟩) hHeld ?_ ?_
     rotate_left
     ·rintro w' ⟨s0,s1⟩
      go_simp
      with_reducible rfl
     rotate_left
     ·simp only [Act.put,List.setIfInBounds_toArray,List.set_cons_zero,List.set_cons_succ,i64_w,i32_w]
      rfl
     refine pure_ (i:=6) (N:=some 23) (v:=?_) (a':=?_) (bf4c 15 383) rfl rfl (any_of HT_.out (by kernel_rfl)) (fun _ _ _ h => h) (Or.inl ⟨by rfl,?_⟩) ?_ ?_
     rotate_left
     ·intro w'
      go_simp
      with_reducible rfl
     rotate_left
     ·simp only [Act.put,List.setIfInBounds_toArray,List.set_cons_zero,List.set_cons_succ,i64_w,i32_w]
      rfl
     refine take_ (i:=7) (N:=some 24) (v:=?_) (a':=?_) (bf4c 15 511) rfl rfl (take_ofW HT_.out HW_.out (by kernel_rfl)) (fun _ _ _ h => h) (Or.inl ⟨by rfl,?_⟩) hHeld ?_ ?_
     rotate_left
     ·rintro w' ⟨s0,s1⟩
      go_simp
      with_reducible rfl
     rotate_left
     ·simp only [Act.put,List.setIfInBounds_toArray,List.set_cons_zero,List.set_cons_succ,i64_w,i32_w]
      rfl
     refine one_ (i:=9) (N:=some 26) (bf4c 15 1023) rfl rfl (one_of HT_.out (by kernel_rfl)) (by decide) (fun K hK => ?_)
     refine Kd.R_lit_step (Kd.int .i64) _ 3 ?hg (N:=26) ?hd (xs:=([0,100,99,1] : List Int)) (inner:=[.int .i64 0,.int .i64 100,.int .i64 99,.int .i64 1]) (ok:=fun _ => True) (okp:=fun _ => True) ?hr ?hp (fun _ hk => hk) trivial (Below.refl _ _) (Nat.le_refl _) (by simp) ?_; (case hd => rfl); (case hg => rfl); (case hr => (go_simp; done)); (case hp => exact (Reps.one (show Kd.M (Kd.int .i64) _ _ _ 0 [.int .i64 0] from rfl) (Reps.one (show Kd.M (Kd.int .i64) _ _ _ 100 [.int .i64 100] from rfl) (Reps.one (show Kd.M (Kd.int .i64) _ _ _ 99 [.int .i64 99] from rfl) (Reps.one (show Kd.M (Kd.int .i64) _ _ _ 1 [.int .i64 1] from rfl) (Reps.none _ _))))))
     intro v584 w21 ho22 hb hg_ hnew_
     have HS1_:=(hb.cell (World.block_lt_of_cell? _ _ (hHeld.2))).trans (hHeld.2)
     clear hg_ hnew_
     (rw [← Ny583.out] at ho22)
     have n0_:=Aside0.mk (Kd.S_elder' (by exact HO572.out) (Kd.R_base ho22) hb)
     have n1_:=Aside0.mk (Kd.R_elder' (by exact HL582_0.out) (Kd.R_base ho22) hb)
     have n2_:=Aside0.mk (Kd.R_lower (Kd.R_new' ho22 (Kd.R_lt (by exact HL582_0.out))) (keep_size (w:=w) (g:=g) (row:=none) (by repeat (((with_reducible (exact HK.out)))))))
     have n3_:=Aside0.mk (IsS112.below (by repeat (((with_reducible (exact HI0.out))))) hb)
     have n4_:=Aside0.mk (blk_below (g:=gb569) (o:=.cells #[.slice none 0 0] 42 (0,0)) (by exact BK569.out) hb)
     have n5_:=Aside0.mk (blk_below (g:=gb575) (o:=.cells #[.slice (some ad582) t570.length co14] 42 (0,0)) (by exact BK575.out) hb)
     have n6_:=Aside0.mk (Kd.C_below (by repeat (with_reducible exact HR582_0.out)) hb)
     have n7_:=Aside0.mk (pw_cell_below hb HX582_0.out)
     have n8_:=Aside0.mk (KeepBut.trans (by repeat (((with_reducible (exact HK.out))))) (KeepBut.of_below hb g none) (.inl rfl))
     have n9_:=Aside0.mk (below_step (by repeat (((with_reducible (exact HB.out))))) hb)
     clear HO572
     clear HL582_0
     clear HI0
     clear BK569
     clear BK575
     clear HR582_0
     clear HX582_0
     clear HK
     clear HB
     have HO572:=n0_
     have HL582_0:=n1_
     have HO585:=n2_
     have HI0:=n3_
     have BK569:=n4_
     have BK575:=n5_
     have HR582_0:=n6_
     have HX582_0:=n7_
     have HK:=n8_
     have HB:=n9_
     clear n0_ n1_ n2_ n3_ n4_ n5_ n6_ n7_ n8_ n9_
     clear hb ho22
     obtain ⟨Ao23,co23,eo23⟩:=Kd.R_slice HO585.out
     (subst eo23)
     refine hK.out _ _ ⟨(blk_cell BK575.out 0).trans rfl,HS1_⟩ (fun hHeld => ?_)
     clear hK K
     refine norm_ (a':=?_) ?_ ?_
     rotate_left
     ·show Act.put _ (some 26) _ = _
      simp only [Act.put,List.setIfInBounds_toArray,List.set_cons_zero,List.set_cons_succ,i64_w,i32_w]
      rfl
     refine one_ (i:=10) (N:=some 27) (bf4c 15 2047) rfl rfl (one_of HT_.out (by kernel_rfl)) (by decide) (fun K hK => ?_)
     refine goes_ Try.func114 (by kernel_rfl) rfl #[.pointer (some ⟨g,0,none⟩),.slice Ao23 y583.length co23] (by rfl) rfl rfl (by (try simp only [List.map_toArray,List.map_cons,List.map_nil]); (rfl)) ?_
     with_reducible refine (spec_l1Cur_among.calls g s0_0 t580 t581 _ _ y583 t586 t587 t588 w0 _ ?side1 ?side2 ?side3 ?side4 ?side5 A8.out).mono ?_
     (case side1 => repeat (((with_reducible (exact HI0.out)))))
     (case side2 => repeat (((with_reducible (exact HB.out)))))
     (case side3 => repeat ((exact (Kd.R_reads' HO585.out).2.2)))
     (case side4 => exact (Kd.R_reads' HO585.out).2.1)
     (case side5 => exact far_slice (IsS112.own_ne HI0.out HO585.out (by decide)))
     rintro e w24 ⟨rfl,hi,hb,hk⟩
     have HS1_:=keep_cell hk (hHeld.2) (by ((rw [add_block]; exact Kd.own_blk (IsS112.own_neS HI0.out HO572.out (by decide)))))
     refine ⟨_,rfl,?_⟩
     have n0_:=Aside0.mk (KeepBut.blk hk (g':=gb569) (o:=.cells #[.slice none 0 0] 42 (0,0)) (by exact BK569.out) NB569_0.out (by simp))
     have n1_:=Aside0.mk (Kd.S_mono (Kd.S_keep (IsS112.apartS (show IsS112 w0 _ g s0_0 t580 t581 from by repeat (((with_reducible (exact HI0.out))))) (by exact HO572.out) (by decide)) hk (fun _ h => h.2)) (fun _ h => h.1))
     have n2_:=Aside0.mk (KeepBut.blk hk (g':=gb575) (o:=.cells #[.slice (some ad582) t570.length co14] 42 (0,0)) (by exact BK575.out) NB575_0.out (by simp))
     have n3_:=Aside0.mk (Kd.R_mono (Kd.R_keep (IsS112.apart (show IsS112 w0 _ g s0_0 t580 t581 from by repeat (((with_reducible (exact HI0.out))))) (by exact HL582_0.out) (by decide)) hk (fun _ h => h.2)) (fun _ h => h.1))
     have n4_:=Aside0.mk (keep_cell hk HX582_0.out (by ((rw [add_block]; exact Kd.own_blk (IsS112.own_neS HI0.out HO572.out (by decide))))))
     have n5_:=Aside0.mk (Kd.R_mono (Kd.R_keep (IsS112.apart (show IsS112 w0 _ g s0_0 t580 t581 from by repeat (((with_reducible (exact HI0.out))))) (by exact HO585.out) (by decide)) hk (fun _ h => h.2)) (fun _ h => h.1))
     have n6_:=Aside0.mk (KeepBut.trans (by repeat (((with_reducible (exact HK.out))))) hk (.inl rfl))
     have n7_:=Aside0.mk (hb)
     have n8_:=Aside0.mk (hi)
     clear BK569
     clear HO572
     clear BK575
     clear HL582_0
     clear HX582_0
     clear HO585
     clear HK
     clear HB
     clear HI0
     have BK569:=n0_
     have HO572:=n1_
     have BK575:=n2_
     have HL582_0:=n3_
     have HX582_0:=n4_
     have HO585:=n5_
     have HK:=n6_
     have HB:=n7_
     have HI0:=n8_
     clear n0_ n1_ n2_ n3_ n4_ n5_ n6_ n7_ n8_
     (try clear hb)
     (try clear hb2)
     (try clear hk)
     (try clear hi)
     have n_:=Aside0.mk (Kd.S_mono (ok':=(fun k_ => some k_ ≠ (.slice Ao23 y583.length co23 : Value).ownBlock)) HO572.out (fun k_ hk => hk.2))
     clear HO572
     have HO572:=n_
     clear n_
     obtain ⟨go25,co25,eo25,gb25,gl25,cl25,HG25⟩:=Kd.S_form HO572.out (by have h_ : (t576 : Int) < ((t570.length : Int) : Int):=of_decide_eq_true (by (with_reducible assumption)); have h2_ : 0 ≤ (t576 : Int):=(of_decide_eq_true (by (with_reducible assumption))); omega)
     (cases eo25)
     have GB25:=Aside0.mk gb25
     have GG25:=Aside0.mk HG25
     clear gb25 gl25 HG25
     (simp only [add_plain] at hx582_0)
     obtain ⟨oki25,ce25,hcl25,hM25,hcc25,_,_,hH25⟩:=Kd.S_elem HO572.out [] (t576 : Int) (of_decide_eq_true (by (with_reducible assumption))) (by have h_ : (t576 : Int) < ((t570.length : Int) : Int):=of_decide_eq_true (by (with_reducible assumption)); (exact h_))
     obtain ⟨ve25_0,rfl,ge25_0⟩:=hM25
     have hv25:=hcc25 0 _ rfl
     have hX25:=HX582_0.out
     (try simp only [add_plain] at hX25)
     (try simp only [Nat.add_zero] at hv25)
     (try rw [show ((Kd.slice 3 (Kd.int .i64))).sz = 1 from rfl,Nat.mul_one] at hv25)
     replace hv25:=Option.some.inj (hv25.symm.trans hX25)
     subst hv25
     clear hX25 hcc25 hcl25
     have UU25:=Aside0.mk (show Kd.R (Kd.int .i64) 3 _ w.heap.size oki25 (.slice A582_0 (rd_L2 t570 t576).length c582_0) (rd_L2 t570 t576) from ge25_0)
     have HH25:=Aside0.mk hH25
     have HN25:=Aside0.mk (Kd.S_reads' HO572.out).1
     clear hH25 ge25_0
     refine hK.out _ _ ⟨(blk_cell BK575.out 0).trans rfl,HS1_⟩ (fun hHeld => ?_)
     clear hK K
     refine norm_ (a':=?_) ?_ ?_
     rotate_left
     ·show Act.put _ (some 27) _ = _
      simp only [Act.put,List.setIfInBounds_toArray,List.set_cons_zero,List.set_cons_succ,i64_w,i32_w]
      rfl
     refine one_ (i:=11) (N:=some 28) (bf4c 15 4095) rfl rfl (one_of HT_.out (by kernel_rfl)) (by decide) (fun K hK => ?_)
     refine value_ (w1:=?_) (v:=?_) (by rfl) rfl ?_ ?_
     rotate_left 2
     ·go_simp
      constructor
      ·rfl
      ·rfl
     refine hK.out _ _ ⟨(blk_cell (blk_alloc BK575.out _) 0).trans rfl,(World.cell?_alloc_lt _ _ _ (World.block_lt_of_cell? _ _ (hHeld.2))).trans (hHeld.2)⟩ (fun hHeld => ?_)
     clear hK K
     refine norm_ (a':=?_) ?_ ?_
     rotate_left
     ·show Act.put _ (some 28) _ = _
      simp only [Act.put,List.setIfInBounds_toArray,List.set_cons_zero,List.set_cons_succ,i64_w,i32_w]
      rfl
     refine one_ (i:=12) (N:=some 29) (bf4c 15 8191) rfl rfl (one_of HT_.out (by kernel_rfl)) (by decide) (fun K hK => ?_)
     refine Kd.R_append_step (Kd.int .i64) w.heap.size (by rfl) (.tmp 24) (.tmp 28) 24 3 (.int .i64 0) 8 rfl Try.underlying24 info3 rfl (by decide) (by omega) (.slice A582_0 (rd_L2 t570 t576).length c582_0) (rd_L2 t570 t576) t586 [.int .i64 t586] (fun k_ => oki25 k_ ∨ ((fun k_ => some k_ ≠ (.slice Ao23 y583.length co23 : Value).ownBlock)) k_ ∧ w24.heap.size ≤ k_) (fun _ => False) rfl rfl ?aP (fun _ hk => hk.elim) ?aF ?aO (Below.refl _ _) ?aS ?aL ?_
     (case aP => exact rfl)
     (case aF => exact (fun k_ hk => .inr ⟨Kd.fresh' (Kd.R_lt (by exact HO585.out)) k_ hk,hk⟩))
     (case aO => exact (by exact Kd.R_mono UU25.out (fun _ hk => .inl hk)))
     (case aS => exact (keep_size (w:=w) (g:=g) (row:=none) (by repeat (((with_reducible (exact HK.out)))))))
     (case aL => have:=LMc9.out; omega)
     intro v590 w26 ho hb hg hat
     ((have HS1_:=cell_grown hg (cell_unalloc (hHeld.2) (by (rw [add_block]; exact Kd.S_lt HO572.out _ rfl))) (by ((rw [add_block]; exact (fun e_ => ((HL582_0.out.1 _ e_.symm).1.2) rfl))))))
     rw [← Ny589.out] at ho
     have n0_:=Aside0.mk (IsS112.grown (by repeat (((with_reducible (exact HI0.out))))) hg (IsS112.own_ne HI0.out HL582_0.out (by decide)))
     have n1_:=Aside0.mk (blk_grown (g:=gb569) (o:=.cells #[.slice none 0 0] 42 (0,0)) (by exact BK569.out) hg (Kd.R_ne HL582_0.out BK569.out (by decide)))
     have n2_:=Aside0.mk (blk_grown (g:=gb575) (o:=.cells #[.slice (some ⟨go25,0,none⟩) t570.length co14] 42 (0,0)) (by exact BK575.out) hg (Kd.R_ne HL582_0.out BK575.out (by decide)))
     have n3_:=Aside0.mk (Kd.R_grown2 (by exact HO585.out) rfl hg (fun k_ e_ => (HL582_0.out.1 k_ e_).2))
     have n4_:=Aside0.mk (below_weaken (by repeat (((with_reducible (exact HB.out))))) HL.out hb)
     have n5_:=Aside0.mk (KeepBut.trans (by repeat (((with_reducible (exact HK.out))))) (KeepBut.of_grown hg g) (Kd.R_base2 HL582_0.out))
     have n6_:=Aside0.mk (Kd.H_grown (Kd.H_widen (by repeat (exact HH25.out))) hg (fun k_ e_ => .inl (UU25.out.1 k_ e_)))
     have n7_:=Aside0.mk (ho)
     clear HI0
     clear BK569
     clear BK575
     clear HO585
     clear HB
     clear HK
     clear HH25
     clear HO572
     clear UU25
     clear HL582_0
     have HI0:=n0_
     have BK569:=n1_
     have BK575:=n2_
     have HO585:=n3_
     have HB:=n4_
     have HK:=n5_
     have HH25:=n6_
     have HO591:=n7_
     clear n0_ n1_ n2_ n3_ n4_ n5_ n6_ n7_
     clear ho hb hg hat
     have p10 : 0 ≤ (t576 : Int):=of_decide_eq_true (by (with_reducible assumption))
     have q10 : (t576 : Int) < ((t570.length : Int) : Int):=of_decide_eq_true (by (with_reducible assumption))
     replace p10:=eq_true p10
     replace q10:=eq_true q10
     obtain ⟨Ao29,co29,eo29⟩:=Kd.R_slice HO591.out
     (subst eo29)
     obtain ⟨_,_,hraw27,_,_,hcc27,_⟩:=Kd.H_raw HH25.out (of_decide_eq_true (by (with_reducible assumption))) (by have h_ : (t576 : Int) < ((t570.length : Int) : Int):=of_decide_eq_true (by (with_reducible assumption)); (exact h_))
     obtain ⟨_,hfr27⟩:=Kd.H_at HH25.out (of_decide_eq_true (by (with_reducible assumption))) (by have h_ : (t576 : Int) < ((t570.length : Int) : Int):=of_decide_eq_true (by (with_reducible assumption)); (exact h_))
     have hx27_0:=hcc27 0 _ rfl
     have hf27_0:=hfr27 0
     (try simp only [Nat.add_zero] at hx27_0 hf27_0)
     (try rw [show ((Kd.slice 3 (Kd.int .i64))).sz = 1 from rfl,Nat.mul_one] at hx27_0)
     (try rw [show ((Kd.slice 3 (Kd.int .i64))).sz = 1 from rfl,Nat.mul_one] at hf27_0)
     have HP27:=Kd.S_seg0 HH25.out (of_decide_eq_true (by (with_reducible assumption))) (by have h_ : (t576 : Int) < ((t570.length : Int) : Int):=of_decide_eq_true (by (with_reducible assumption)); (exact h_)) (seg:=[.slice Ao29 y589.length co29]) (j:=0) (show 1 ≤ 1 from by decide) (x':=y589) (Kd.M_row HO591.out) (fun _ hk => hk)
     (try simp only [show ((Kd.slice 3 (Kd.int .i64))).sz = 1 from rfl,Nat.mul_one,Nat.add_zero] at HP27)
     clear hcc27 hfr27
     have HN0_go25:=Aside0.mk (show g ≠ go25 from by have h_:=IsS112.own_ne HI0.out hraw27 (by decide); intro e_; exact h_ (by rw [e_]; rfl))
     have HNB569_go25:=Aside0.mk (show gb569 ≠ go25 from by have h_:=Kd.R_ne hraw27 BK569.out (by decide); intro e_; exact h_ (by rw [e_]; rfl))
     have HNB575_go25:=Aside0.mk (show gb575 ≠ go25 from by have h_:=Kd.R_ne hraw27 BK575.out (by decide); intro e_; exact h_ (by rw [e_]; rfl))
     have HS27:=HP27.1
     rw [← Ny592.out] at HS27
     have HQ27:=Aside0.mk HS27
     obtain ⟨_,hgg27⟩:=Kd.R_typed hraw27 go25 rfl
     have GG27_:=Aside0.mk hgg27
     clear HP27 HS27 hgg27
     refine hK.out _ _ ⟨(blk_cell BK575.out 0).trans rfl,HS1_⟩ (fun hHeld => ?_)
     clear hK K
     refine norm_ (a':=?_) ?_ ?_
     rotate_left
     ·show Act.put _ (some 29) _ = _
      simp only [Act.put,List.setIfInBounds_toArray,List.set_cons_zero,List.set_cons_succ,i64_w,i32_w]
      rfl
     refine pure_ (i:=13) (N:=some 30) (v:=?_) (a':=?_) (bf4c 15 16383) rfl rfl (any_of HT_.out (by kernel_rfl)) (fun _ _ _ h => h) (Or.inl ⟨by rfl,?_⟩) ?_ ?_
     rotate_left
     ·intro w'
      go_simp
      with_reducible rfl
     rotate_left
     ·simp only [Act.put,List.setIfInBounds_toArray,List.set_cons_zero,List.set_cons_succ,i64_w,i32_w]
      rfl
     refine last_ (i:=14) (N:=none) (bf4c 15 32767) rfl rfl (one_of HT_.out (by kernel_rfl)) (by decide) (fun K hK => ?_)
     refine skip_ (w1:=?_) (by rfl) rfl ?_ ?_
     rotate_left
     ·go_simp
      rfl
     refine hK.out _ _ ?_
     clear hK K
     refine done_ (done_of HT_.out (by kernel_rfl)) ?_
     have n0_ : Aside0 (Kd.R (Kd.int .i64) 3 (w26.setCell ⟨go25,(t576 : Int).toNat,none⟩ (.slice Ao29 y589.length co29)) w.heap.size (fun _ => True) (.slice Ao23 y583.length co23) y583):=⟨by exact Kd.R_mono (Kd.R_far (p:=⟨go25,(t576 : Int).toNat,none⟩) (Kd.R_types HO585.out GG27_.out (by decide)) (fun _ hk => hk.2) (.slice Ao29 y589.length co29)) (fun _ hk => trivial)⟩
     have n1_ : Aside0 (Kd.S (Kd.slice 3 (Kd.int .i64)) 24 (w26.setCell ⟨go25,(t576 : Int).toNat,none⟩ (.slice Ao29 y589.length co29)) w.heap.size (fun k_ => some k_ ≠ (.slice Ao23 y583.length co23 : Value).ownBlock) (.slice (some ⟨go25,0,none⟩) t570.length co14) y592):=⟨by exact HQ27.out⟩
     have n2_ : Aside0 ((w26.setCell ⟨go25,(t576 : Int).toNat,none⟩ (.slice Ao29 y589.length co29)).heap[gb569]? = some (.cells #[.slice none 0 0] 42 (0,0))):=⟨by refine blk_far ?_ HNB569_go25.out _; exact BK569.out⟩
     have n3_ : Aside0 ((w26.setCell ⟨go25,(t576 : Int).toNat,none⟩ (.slice Ao29 y589.length co29)).heap[gb575]? = some (.cells #[.slice (some ⟨go25,0,none⟩) t570.length co14] 42 (0,0))):=⟨by refine blk_far ?_ HNB575_go25.out _; exact BK575.out⟩
     have n4_ : Aside0 (IsS112 w0 (w26.setCell ⟨go25,(t576 : Int).toNat,none⟩ (.slice Ao29 y589.length co29)) g s0_0 t587 t588):=⟨by repeat (with_reducible first|exact HI0.out|refine IsS112.far ?_ HN0_go25.out _)⟩
     have n5_ : Aside0 (KeepBut w (w26.setCell ⟨go25,(t576 : Int).toNat,none⟩ (.slice Ao29 y589.length co29)) g none):=⟨by repeat (with_reducible first|exact HK.out|refine keep_far ?_ GB25.out _)⟩
     have n6_ : Aside0 (Below w0.heap.size w0 (w26.setCell ⟨go25,(t576 : Int).toNat,none⟩ (.slice Ao29 y589.length co29))):=⟨by repeat (((with_reducible first|exact HB.out|refine below_set ?_ (Nat.le_trans HL.out GB25.out))))⟩
     (try clear HO585)
     (try clear HO572)
     (try clear BK569)
     (try clear BK575)
     (try clear HI0)
     (try clear HK)
     (try clear HB)
     generalize (w26.setCell ⟨go25,(t576 : Int).toNat,none⟩ (.slice Ao29 y589.length co29)) = w30 at n0_ n1_ n2_ n3_ n4_ n5_ n6_ ⊢
     have HO585:=n0_
     have HO572:=n1_
     have BK569:=n2_
     have BK575:=n3_
     have HI0:=n4_
     have HK:=n5_
     have HB:=n6_
     clear n0_ n1_ n2_ n3_ n4_ n5_ n6_
     have hcz31_0 : w30.cell? ⟨gb575,0,none⟩ = some (.slice (some ⟨go25,0,none⟩) t570.length co14):=(blk_cell BK575.out 0).trans rfl
     have hfz31_0:=blk_frozen BK575.out 0
     have hnb32:=NB569_0.out
     have hnc32:=NB0_569.out
     have hcz33_0 : w30.cell? ⟨gb569,0,none⟩ = some (.slice none 0 0):=(blk_cell BK569.out 0).trans rfl
     have hfz33_0:=blk_frozen BK569.out 0
     try go_wp2
     refine bodyPost_ret (results_cell_row rfl _ _ gb569 42 #[.slice (some ⟨go25,0,none⟩) t570.length co14] (0,0) _ rfl (by refine blk_put (cs:=#[.slice none 0 0]) ?_ 0 _ rfl; exact BK569.out) Try.underlying42 rfl (by kernel_rfl)) rfl ?_
     exact ⟨_,by (rfl),by exact Kd.S_mono (Kd.S_far (p:=⟨gb569,0,none⟩) (Kd.S_types HO572.out BK569.out (by decide)) (fun _ hk => hk.2) (.slice (some ⟨go25,0,none⟩) t570.length co14)) (fun _ hk => trivial),by repeat (with_reducible first|exact HI0.out|refine IsS112.far ?_ NB0_569.out _),by repeat (with_reducible first|exact HB.out|refine below_set ?_ GE569.out),by repeat (with_reducible first|exact HK.out|refine keep_far ?_ GW569.out _)⟩
    ·rw [if_neg c9] at H
     exact absurd H (by simp)
   ·rw [if_neg c7] at H
    exact absurd H (by simp)
  ·rw [if_neg c6] at H
   exact absurd H (by simp)
 ·rw [if_neg c5] at H
  have c5b0 : (t579 == 0) = false:=beq_eq_false_iff_ne.mpr c5
  have c5b1 : (t579 != 0) = true:=bne_iff_ne.mpr c5
  by_cases c34 : t579 = 1
  ·rw [if_pos c34] at H
   have c34b0 : (t579 == 1) = true:=beq_iff_eq.mpr c34
   have c34b1 : (t579 != 1) = false:=bne_eq_false_iff_eq.mpr c34
   clear c34
   obtain ⟨y593,hy593⟩ : ∃ y_ : List Int,y_ = ([21,22,23,24,25] : List Int):=⟨_,rfl⟩
   replace H : (if 0 ≤ t576 then (if t576 < (t570.length : Int) then (some ((t570.set (t576 : Int).toNat y593),t580,t581)) else (none)) else (none)) = some (r1,r2,r3):=by (rw [hy593]; with_reducible exact H)
   have Ny593:=Aside0.mk hy593
   clear hy593
   by_cases c35 : 0 ≤ t576
   ·rw [if_pos c35] at H
    have c35b0 : decide (0 ≤ t576) = true:=decide_eq_true c35
    clear c35
    by_cases c36 : t576 < (t570.length : Int)
    ·rw [if_pos c36] at H
     have c36b0 : decide (t576 < (t570.length : Int)) = true:=decide_eq_true c36
     clear c36
     obtain ⟨y596,hy596⟩ : ∃ y_ : List (List Int),y_ = (t570.set (t576 : Int).toNat y593):=⟨_,rfl⟩
     replace H : (some (y596,t580,t581)) = some (r1,r2,r3):=by (rw [hy596]; with_reducible exact H)
     have Ny596:=Aside0.mk hy596
     clear hy596
     simp only [Option.some.injEq,Prod.mk.injEq] at H
     obtain ⟨rfl,rfl,rfl⟩:=H
     have hcz47_0 : w19.cell? ⟨gb575,0,none⟩ = some (.slice Ao14 t570.length co14):=(blk_cell BK575.out 0).trans rfl
     have hfz47_0:=blk_frozen BK575.out 0
     go_wp2_with (first|((with_reducible refine gate_dst (N:=36) rfl ?_); refine Kd.R_lit (Kd.int .i64) _ 3 ?hg (N:=36) ?hd (xs:=([21,22,23,24,25] : List Int)) (inner:=[.int .i64 21,.int .i64 22,.int .i64 23,.int .i64 24,.int .i64 25]) (ok:=fun _ => True) (okp:=fun _ => True) ?hr ?hp (fun _ hk => hk) trivial (Below.refl _ _) (Nat.le_refl _) (by simp) ?_; (case hd => rfl); (case hg => rfl); (case hr => (go_simp; done)); (case hp => exact (Reps.one (show Kd.M (Kd.int .i64) _ _ _ 21 [.int .i64 21] from rfl) (Reps.one (show Kd.M (Kd.int .i64) _ _ _ 22 [.int .i64 22] from rfl) (Reps.one (show Kd.M (Kd.int .i64) _ _ _ 23 [.int .i64 23] from rfl) (Reps.one (show Kd.M (Kd.int .i64) _ _ _ 24 [.int .i64 24] from rfl) (Reps.one (show Kd.M (Kd.int .i64) _ _ _ 25 [.int .i64 25] from rfl) (Reps.none _ _))))))); intro v594 w48 ho49 hb hg_ hnew_; clear hg_ hnew_; (rw [← Ny593.out] at ho49); have n0_:=Aside0.mk (Kd.S_elder' (by exact HO572.out) (Kd.R_base ho49) hb); have n1_:=Aside0.mk (Kd.R_lower ho49 (keep_size (w:=w) (g:=g) (row:=none) (by repeat (((with_reducible (exact HK.out))))))); have n2_:=Aside0.mk (IsS112.below (by repeat (((with_reducible (exact HI0.out))))) hb); have n3_:=Aside0.mk (blk_below (g:=gb569) (o:=.cells #[.slice none 0 0] 42 (0,0)) (by exact BK569.out) hb); have n4_:=Aside0.mk (blk_below (g:=gb575) (o:=.cells #[.slice Ao14 t570.length co14] 42 (0,0)) (by exact BK575.out) hb); have n5_:=Aside0.mk (KeepBut.trans (by repeat (((with_reducible (exact HK.out))))) (KeepBut.of_below hb g none) (.inl rfl)); have n6_:=Aside0.mk (below_step (by repeat (((with_reducible (exact HB.out))))) hb); clear HO572; clear HI0; clear BK569; clear BK575; clear HK; clear HB; have HO572:=n0_; have HO595:=n1_; have HI0:=n2_; have BK569:=n3_; have BK575:=n4_; have HK:=n5_; have HB:=n6_; clear n0_ n1_ n2_ n3_ n4_ n5_ n6_; clear hb ho49; have p37 : 0 ≤ (t576 : Int):=of_decide_eq_true (by (with_reducible assumption)); have q37 : (t576 : Int) < ((t570.length : Int) : Int):=of_decide_eq_true (by (with_reducible assumption)); obtain ⟨go37,co37,eo37,gb37,gl37,cl37,HG37⟩:=Kd.S_form HO572.out (by omega); (cases eo37); have GB37:=Aside0.mk gb37; have GG37:=Aside0.mk HG37; clear gb37 gl37 HG37; obtain ⟨_,ce37,hcl37,hM37,hcc37,hfr37,_,_⟩:=Kd.S_elem HO572.out [] (t576 : Int) p37 q37; obtain ⟨ve37_0,rfl,ge37_0⟩:=hM37; have hx37_0:=hcc37 0 _ rfl; have hf37_0:=hfr37 0; (try simp only [show ((Kd.slice 3 (Kd.int .i64))).sz = 1 from rfl,Nat.mul_one,Nat.add_zero] at hx37_0); (try simp only [show ((Kd.slice 3 (Kd.int .i64))).sz = 1 from rfl,Nat.mul_one,Nat.add_zero] at hf37_0); (try clear hcl37); (try clear hcc37); (try clear hfr37); (try clear hM37); replace p37:=eq_true p37; replace q37:=eq_true q37; have n_:=Aside0.mk (Kd.S_mono (ok':=(fun k_ => some k_ ≠ (v594 : Value).ownBlock)) HO572.out (fun k_ hk => hk.2)); clear HO572; have HO572:=n_; clear n_; have HX50:=Aside0.mk (show Kd.S (Kd.slice 3 (Kd.int .i64)) 24 w48 w.heap.size (fun k_ => (fun _ => True) k_ ∧ ¬ ((fun k_ => some k_ = (v594 : Value).ownBlock)) k_) (.slice (some ⟨go37,0,none⟩) t570.length co14) t570 from (by exact Kd.S_mono HO572.out (fun k_ hk => ⟨trivial,fun e_ => hk e_⟩))); obtain ⟨oki50,ce50,hcl50,hM50,hcc50,hfr50,hoki50,hH50⟩:=Kd.S_elem HX50.out [] (t576 : Int) (of_decide_eq_true (by (with_reducible assumption))) (by have h_ : (t576 : Int) < ((t570.length : Int) : Int):=of_decide_eq_true (by (with_reducible assumption)); (exact h_)); obtain ⟨ve50_0,rfl,ge50_0⟩:=hM50; have HP50:=Kd.S_seg hH50 (of_decide_eq_true (by (with_reducible assumption))) (by have h_ : (t576 : Int) < ((t570.length : Int) : Int):=of_decide_eq_true (by (with_reducible assumption)); (exact h_)) (seg:=[v594]) (j:=0) (show 1 ≤ 1 from by decide) (x':=y593) (Kd.M_row (Kd.R_mono (Kd.R_tight rfl (Kd.R_mono (ok':=fun k_ => (fun _ => True) k_ ∧ k_ ≠ go37) (Kd.R_apart' (HO595.out) (Kd.S_typed HO572.out) (by decide)) (fun k_ hk => ⟨trivial,fun e_ => (hk.2) (by rw [e_]; rfl)⟩))) (fun _ h_ => Or.inr (h_)))) (fun _ hk => hk) (fun k_ hk_ => ((Kd.R_mono (ok':=fun k_ => (fun _ => True) k_ ∧ k_ ≠ go37) (Kd.R_apart' (HO595.out) (Kd.S_typed HO572.out) (by decide)) (fun k_ hk => ⟨trivial,fun e_ => (hk.2) (by rw [e_]; rfl)⟩))).1 k_ hk_.symm); have hx50_0:=hcc50 0 _ rfl; (try simp only [show ((Kd.slice 3 (Kd.int .i64))).sz = 1 from rfl,Nat.mul_one,Nat.add_zero] at hx50_0); have hf50_0:=hfr50 0; (try simp only [show ((Kd.slice 3 (Kd.int .i64))).sz = 1 from rfl,Nat.mul_one,Nat.add_zero] at hf50_0); (try clear hcl50); (try clear hcc50); (try clear hfr50); (try clear hM50); (try clear hoki50); (try clear hH50); (try simp only [show ((Kd.slice 3 (Kd.int .i64))).sz = 1 from rfl,Nat.mul_one,Nat.add_zero] at HP50))|((with_reducible refine gate_store (t:=24) (p:=37) rfl ?_); refine store_event (t:=24) (p:=37) (v:=?vo_w51) (w1:=(w48.setCell ⟨go37,(t576 : Int).toNat,none⟩ (v594))) ?hg ?ho ?hn ?hr ?_; (case ho => rfl); (case hg => rfl); (case hn => rfl); (case hr => (obtain ⟨A_,c_,e_⟩:=Kd.R_slice HO595.out; rw [e_]; go_simp; done)); intro w51 hw; have hg : w48.grownBy w51 (some go37):=(by rw [hw]; exact HP50.2); have hp_ : Kd.S (Kd.slice 3 (Kd.int .i64)) 24 w51 w.heap.size (fun _ => True) (.slice (some ⟨go37,0,none⟩) t570.length co14) y596:=(by rw [hw,Ny596.out]; exact HP50.1); clear HP50; have n0_:=Aside0.mk (IsS112.grown (by repeat (((with_reducible (exact HI0.out))))) hg (IsS112.own_neS HI0.out HO572.out (by decide))); have n1_:=Aside0.mk (blk_grown (g:=gb569) (o:=.cells #[.slice none 0 0] 42 (0,0)) (by exact BK569.out) hg (Kd.S_ne HO572.out BK569.out (by decide))); have n2_:=Aside0.mk (hp_); have n3_:=Aside0.mk (blk_grown (g:=gb575) (o:=.cells #[.slice (some ⟨go37,0,none⟩) t570.length co14] 42 (0,0)) (by exact BK575.out) hg (Kd.S_ne HO572.out BK575.out (by decide))); have n4_:=Aside0.mk ((by rw [hw]; exact below_set (HB.out) (Nat.le_trans HL.out GB37.out) : Below w0.heap.size w0 w51)); have n5_:=Aside0.mk (KeepBut.trans (by repeat (((with_reducible (exact HK.out))))) (KeepBut.of_grown hg g) (Kd.S_base2 HO572.out)); clear HI0; clear BK569; clear HO572; clear BK575; clear HB; clear HK; clear HO595; have HI0:=n0_; have BK569:=n1_; have HO572:=n2_; have BK575:=n3_; have HB:=n4_; have HK:=n5_; clear n0_ n1_ n2_ n3_ n4_ n5_; clear hg hw hp_; have hcz52_0 : w51.cell? ⟨gb575,0,none⟩ = some (.slice (some ⟨go37,0,none⟩) t570.length co14):=(blk_cell BK575.out 0).trans rfl; have hfz52_0:=blk_frozen BK575.out 0; have hnb53:=NB569_0.out; have hnc53:=NB0_569.out; have hcz54_0 : w51.cell? ⟨gb569,0,none⟩ = some (.slice none 0 0):=(blk_cell BK569.out 0).trans rfl; have hfz54_0:=blk_frozen BK569.out 0))
     refine bodyPost_ret (results_cell_row rfl _ _ gb569 42 #[.slice (some ⟨go37,0,none⟩) t570.length co14] (0,0) _ rfl (by refine blk_put (cs:=#[.slice none 0 0]) ?_ 0 _ rfl; exact BK569.out) Try.underlying42 rfl (by kernel_rfl)) rfl ?_
     exact ⟨_,by (rfl),by exact Kd.S_mono (Kd.S_far (p:=⟨gb569,0,none⟩) (Kd.S_types HO572.out BK569.out (by decide)) (fun _ hk => hk.2) (.slice (some ⟨go37,0,none⟩) t570.length co14)) (fun _ hk => trivial),by repeat (with_reducible first|exact HI0.out|refine IsS112.far ?_ NB0_569.out _),by repeat (with_reducible first|exact HB.out|refine below_set ?_ GE569.out),by repeat (with_reducible first|exact HK.out|refine keep_far ?_ GW569.out _)⟩
    ·rw [if_neg c36] at H
     exact absurd H (by simp)
   ·rw [if_neg c35] at H
    exact absurd H (by simp)
  ·rw [if_neg c34] at H
   have c34b0 : (t579 == 1) = false:=beq_eq_false_iff_ne.mpr c34
   have c34b1 : (t579 != 1) = true:=bne_iff_ne.mpr c34
   by_cases c55 : t579 = 2
   ·rw [if_pos c55] at H
    have c55b0 : (t579 == 2) = true:=beq_iff_eq.mpr c55
    have c55b1 : (t579 != 2) = false:=bne_eq_false_iff_eq.mpr c55
    clear c55
    obtain ⟨y597,hy597⟩ : ∃ y_ : List (List Int),y_ = (([] : List (List Int))):=⟨_,rfl⟩
    replace H : (some (y597,t580,t581)) = some (r1,r2,r3):=by (rw [hy597]; with_reducible exact H)
    have Ny597:=Aside0.mk hy597
    clear hy597
    simp only [Option.some.injEq,Prod.mk.injEq] at H
    obtain ⟨rfl,rfl,rfl⟩:=H
    go_wp2_with ((((with_reducible refine gate_dst (N:=40) rfl ?_); refine Kd.S_lit (Kd.slice 3 (Kd.int .i64)) _ 24 ?hg (N:=40) ?hd (xs:=([] : List (List Int))) (inner:=[]) (ok:=fun _ => True) (okp:=fun _ => True) ?hr ?hp (fun _ hk => hk) trivial (Below.refl _ _) (Nat.le_refl _) (by simp) ?_; (case hd => rfl); (case hg => rfl); (case hr => (go_simp; done)); (case hp => exact (Reps.none _ _)); intro v598 w65 ho66 hb hg_ hnew_; clear hg_ hnew_; (rw [← Ny597.out] at ho66); have n0_:=Aside0.mk (Kd.S_elder' (by exact HO572.out) (Kd.S_base ho66) hb); have n1_:=Aside0.mk (Kd.S_lower (Kd.S_new' ho66 (Kd.S_lt (by exact HO572.out))) (keep_size (w:=w) (g:=g) (row:=none) (by repeat (((with_reducible (exact HK.out))))))); have n2_:=Aside0.mk (IsS112.below (by repeat (((with_reducible (exact HI0.out))))) hb); have n3_:=Aside0.mk (blk_below (g:=gb569) (o:=.cells #[.slice none 0 0] 42 (0,0)) (by exact BK569.out) hb); have n4_:=Aside0.mk (blk_below (g:=gb575) (o:=.cells #[.slice Ao14 t570.length co14] 42 (0,0)) (by exact BK575.out) hb); have n5_:=Aside0.mk (KeepBut.trans (by repeat (((with_reducible (exact HK.out))))) (KeepBut.of_below hb g none) (.inl rfl)); have n6_:=Aside0.mk (below_step (by repeat (((with_reducible (exact HB.out))))) hb); clear HO572; clear HI0; clear BK569; clear BK575; clear HK; clear HB; have HO572:=n0_; have HO599:=n1_; have HI0:=n2_; have BK569:=n3_; have BK575:=n4_; have HK:=n5_; have HB:=n6_; clear n0_ n1_ n2_ n3_ n4_ n5_ n6_; clear hb ho66; obtain ⟨Ao67,co67,eo67⟩:=Kd.S_slice HO599.out; subst eo67; have hcz68_0 : w65.cell? ⟨gb575,0,none⟩ = some (.slice Ao14 t570.length co14):=(blk_cell BK575.out 0).trans rfl; have hfz68_0:=blk_frozen BK575.out 0; have hnb69:=NB569_0.out; have hnc69:=NB0_569.out; have hcz70_0 : w65.cell? ⟨gb569,0,none⟩ = some (.slice none 0 0):=(blk_cell BK569.out 0).trans rfl; have hfz70_0:=blk_frozen BK569.out 0)))
    refine bodyPost_ret (results_cell_row rfl _ _ gb569 42 #[.slice Ao67 y597.length co67] (0,0) _ rfl (by refine blk_put (cs:=#[.slice none 0 0]) ?_ 0 _ rfl; refine blk_far ?_ NB569_575.out _; exact BK569.out) Try.underlying42 rfl (by kernel_rfl)) rfl ?_
    exact ⟨_,by (rfl),by exact Kd.S_mono (Kd.S_far (p:=⟨gb569,0,none⟩) (Kd.S_far (p:=⟨gb575,0,none⟩) (Kd.S_types (Kd.S_types HO599.out BK575.out (by decide)) BK569.out (by decide)) (fun _ hk => hk.1.2) (.slice Ao67 y597.length co67)) (fun _ hk => hk.2) (.slice Ao67 y597.length co67)) (fun _ hk => trivial),by repeat (with_reducible first|exact HI0.out|refine IsS112.far ?_ NB0_569.out _|refine IsS112.far ?_ NB0_575.out _),by repeat (with_reducible first|exact HB.out|refine below_set ?_ GE569.out|refine below_set ?_ GE575.out),by repeat (with_reducible first|exact HK.out|refine keep_far ?_ GW569.out _|refine keep_far ?_ GW575.out _)⟩
   ·rw [if_neg c55] at H
    have c55b0 : (t579 == 2) = false:=beq_eq_false_iff_ne.mpr c55
    have c55b1 : (t579 != 2) = true:=bne_iff_ne.mpr c55
    by_cases c71 : t579 = 3
    ·rw [if_pos c71] at H
     have c71b0 : (t579 == 3) = true:=beq_iff_eq.mpr c71
     have c71b1 : (t579 != 3) = false:=bne_eq_false_iff_eq.mpr c71
     clear c71
     have H':=Aside0.mk H
     clear H
     try go_wp2
     go_loopg [5] k (fun kq v5 w' => ∃ (x5_1 : Int) (x1001_1 : Int) (x1002_1 : Int) (x576000_1 : List (List Int)) (u576000 : Value),v5 = .int .i64 x5_1 ∧ Aside0 (spec_l1Cur_anyYard.l0 kq x5_1 s0_0 x1001_1 x1002_1 x576000_1 = some (r1,r2,r3)) ∧ Aside0 (kq ≤ k) ∧ Aside0 (Kd.S (Kd.slice 3 (Kd.int .i64)) 24 w' w.heap.size (fun _ => True) u576000 x576000_1) ∧ Aside0 (w'.heap[gb569]? = some (.cells #[(.slice none 0 0)] 42 (0,0))) ∧ Aside0 (w'.heap[gb575]? = some (.cells #[u576000] 42 (0,0))) ∧ Aside0 (IsS112 w0 w' g s0_0 x1001_1 x1002_1) ∧ Aside0 (KeepBut w w' g none) ∧ Aside0 (Below w0.heap.size w0 w'))
     case atStart => exact ⟨(0),(t580),(t581),(t570),(.slice Ao14 t570.length co14),(by (rfl)),H',⟨Nat.le_refl _⟩,⟨by exact HO572.out⟩,⟨by exact BK569.out⟩,⟨by exact BK575.out⟩,⟨by repeat (((with_reducible (exact HI0.out))))⟩,⟨by repeat (((with_reducible (exact HK.out))))⟩,⟨by repeat (((with_reducible (exact HB.out))))⟩⟩
     case round =>
      clear H'
      try clear c1
      try clear p1
      try clear q1
      try clear c2
      try clear p2
      try clear hx2
      try clear hf2
      try clear c3
      try clear p3
      try clear q3
      try clear hx3
      try clear hf3
      try clear c4
      try clear c5
      try clear c5b0
      try clear c5b1
      try clear p5
      try clear q5
      try clear hx5
      try clear hf5
      try clear c6
      try clear c6b0
      try clear c7
      try clear c7b0
      try clear c9
      try clear p10
      try clear q10
      try clear c11
      try clear c15
      try clear c16
      try clear c25
      try clear c27
      try clear hx27
      try clear hf27
      try clear c32
      try clear c34
      try clear c34b0
      try clear c34b1
      try clear c35
      try clear c35b0
      try clear c36
      try clear c36b0
      try clear c37
      try clear p37
      try clear q37
      try clear hx37
      try clear hf37
      try clear c42
      try clear c43
      try clear c50
      try clear hx50
      try clear hf50
      try clear c53
      try clear c55
      try clear c55b0
      try clear c55b1
      try clear c58
      try clear p58
      try clear q58
      try clear hx58
      try clear c60
      try clear c61
      try clear c69
      try clear c71
      try clear c71b0
      try clear c71b1
      try clear c76
      try clear c77
      try clear hcz17_0
      try clear hcz31_0
      try clear hcz33_0
      try clear hcz44_0
      try clear hcz47_0
      try clear hcz52_0
      try clear hcz54_0
      try clear hcz62_0
      try clear hcz68_0
      try clear hcz70_0
      try clear hcz17_0
      try clear hfz17_0
      try clear hfz31_0
      try clear hfz33_0
      try clear hfz44_0
      try clear hfz47_0
      try clear hfz52_0
      try clear hfz54_0
      try clear hfz62_0
      try clear hfz68_0
      try clear hfz70_0
      try clear hfz17_0
      try clear hx27_0
      try clear hx37_0
      try clear hx50_0
      try clear hx582_0
      try clear p10
      try clear p37
      try clear p582
      try clear q10
      try clear q37
      try clear q582
      obtain ⟨x5_1,x1001_1,x1002_1,x576000_1,u576000,rfl,HA,HK1,HO_576000,BK569,BK575,HI0,HK,HB⟩:=hrel
      cases gk with
      | zero => exact absurd HA.out (by simp [spec_l1Cur_anyYard.l0])
      | succ k1 =>
       have H:=HA.out
       clear HA
       simp only [spec_l1Cur_anyYard.l0] at H
       replace H:=Option.bind_eq_some_iff.mp H
       obtain ⟨⟨t600,t601,t602⟩,A810,H⟩:=H
       replace H : (if (x576000_1.length : Int) < (wrap64 (6 + t600)) then (if x5_1 < 8 then (if x576000_1.length < 5864062014805 then (spec_l1Cur_anyYard.l0 k1 (wrap64 (x5_1 + 1)) s0_0 t601 t602 (x576000_1 ++ [(([wrap64 (40 + x5_1)] : List Int))])) else (none)) else (some (x576000_1,t601,t602))) else (some (x576000_1,t601,t602))) = some (r1,r2,r3):=H
       have A81:=Aside0.mk A810
       clear A810
       by_cases c82 : (x576000_1.length : Int) < (wrap64 (6 + t600))
       ·rw [if_pos c82] at H
        have c82b0 : decide ((x576000_1.length : Int) < (wrap64 (6 + t600))) = true:=decide_eq_true c82
        clear c82
        by_cases c83 : x5_1 < 8
        ·rw [if_pos c83] at H
         have c83b0 : decide (x5_1 < 8) = true:=decide_eq_true c83
         clear c83
         obtain ⟨y603,hy603⟩ : ∃ y_ : List Int,y_ = (([wrap64 (40 + x5_1)] : List Int)):=⟨_,rfl⟩
         replace H : (if x576000_1.length < 5864062014805 then (spec_l1Cur_anyYard.l0 k1 (wrap64 (x5_1 + 1)) s0_0 t601 t602 (x576000_1 ++ [y603])) else (none)) = some (r1,r2,r3):=by (rw [hy603]; with_reducible exact H)
         have Ny603:=Aside0.mk hy603
         clear hy603
         by_cases c84 : x576000_1.length < 5864062014805
         ·rw [if_pos c84] at H
          have LMc84:=Aside0.mk c84
          clear c84
          obtain ⟨y606,hy606⟩ : ∃ y_ : List (List Int),y_ = (x576000_1 ++ [y603]):=⟨_,rfl⟩
          replace H : (spec_l1Cur_anyYard.l0 k1 (wrap64 (x5_1 + 1)) s0_0 t601 t602 y606) = some (r1,r2,r3):=by (rw [hy606]; with_reducible exact H)
          have Ny606:=Aside0.mk hy606
          clear hy606
          have H':=Aside0.mk H
          clear H
          try go_wp2
          have n0_:=Aside0.mk (Kd.S_drew HO_576000.out)
          have n1_:=Aside0.mk (blk_drew BK569.out)
          have n2_:=Aside0.mk (blk_drew BK575.out)
          have n3_:=Aside0.mk (IsS112.drew HI0.out)
          have n4_:=Aside0.mk (keep_drew HK.out)
          have n5_:=Aside0.mk (below_drew1 HB.out)
          clear HO_576000
          clear BK569
          clear BK575
          clear HI0
          clear HK
          clear HB
          have HO_576000:=n0_
          have BK569:=n1_
          have BK575:=n2_
          have HI0:=n3_
          have HK:=n4_
          have HB:=n5_
          clear n0_ n1_ n2_ n3_ n4_ n5_
          obtain ⟨Ao86,co86,eo86⟩:=Kd.S_slice HO_576000.out
          (subst eo86)
          refine start_ (n:=11) (S:=fun w' => w'.cell? ⟨gb575,0,none⟩ = some (.slice Ao86 x576000_1.length co86)) (ds:=[]) (bf4c 11 0) (by kernel_rfl) rfl rfl ((blk_cell BK575.out 0).trans rfl) (fun hHeld => ?_); refine with_tabW spec_l1Cur_anyYard.tab12 spec_l1Cur_anyYard.bits12 (fun HT_ HW_ => ?_)
          generalize wr.drew = w85 at HO_576000 BK569 BK575 HI0 HK HB hHeld ⊢
          refine pure_ (i:=0) (N:=some 44) (v:=?_) (a':=?_) (bf4c 11 1) rfl rfl (any_of HT_.out (by kernel_rfl)) (fun _ _ _ h => h) (Or.inl ⟨by rfl,?_⟩) ?_ ?_
          rotate_left
          ·intro w'
           go_simp
           with_reducible rfl
          rotate_left
          ·simp only [Act.put,List.setIfInBounds_toArray,List.set_cons_zero,List.set_cons_succ,i64_w,i32_w]
           rfl
          refine pure_ (i:=3) (N:=some 47) (v:=?_) (a':=?_) (bf4c 11 9) rfl rfl (any_of HT_.out (by kernel_rfl)) (fun _ _ _ h => h) (Or.inl ⟨by rfl,?_⟩) ?_ ?_
          rotate_left
          ·intro w'
           go_simp
           with_reducible rfl
          rotate_left
          ·simp only [Act.put,List.setIfInBounds_toArray,List.set_cons_zero,List.set_cons_succ,i64_w,i32_w]
           rfl
          refine take_ (i:=1) (N:=some 45) (v:=?_) (a':=?_) (bf4c 11 11) rfl rfl (take_ofW HT_.out HW_.out (by kernel_rfl)) (fun _ _ _ h => h) (Or.inl ⟨by rfl,?_⟩) hHeld ?_ ?_
          rotate_left
          ·intro w' s0
           go_simp
           with_reducible rfl
          rotate_left
          ·simp only [Act.put,List.setIfInBounds_toArray,List.set_cons_zero,List.set_cons_succ,i64_w,i32_w]
           rfl
          refine pure_ (i:=2) (N:=some 46) (v:=?_) (a':=?_) (bf4c 11 15) rfl rfl (any_of HT_.out (by kernel_rfl)) (fun _ _ _ h => h) (Or.inl ⟨by rfl,?_⟩) ?_ ?_
          rotate_left
          ·intro w'
           go_simp
           with_reducible rfl
          rotate_left
          ·simp only [Act.put,List.setIfInBounds_toArray,List.set_cons_zero,List.set_cons_succ,i64_w,i32_w]
           rfl
          refine one_ (i:=4) (N:=some 48) (bf4c 11 31) rfl rfl (one_of HT_.out (by kernel_rfl)) (by decide) (fun K hK => ?_)
          refine goes_ Try.func97 (by kernel_rfl) rfl #[.pointer (some ⟨g,0,none⟩),.int .i64 2] (by rfl) rfl rfl (by (try simp only [List.map_toArray,List.map_cons,List.map_nil]); (rfl)) ?_
          with_reducible refine (spec_l1Cur_pick.calls g s0_0 x1001_1 x1002_1 2 t600 t601 t602 w0 _ ?side1 ?side2 A81.out).mono ?_
          (case side1 => repeat (((with_reducible (exact HI0.out)))))
          (case side2 => repeat (((with_reducible (exact HB.out)))))
          rintro e w87 ⟨rfl,hi,hb,hk⟩
          refine ⟨_,rfl,?_⟩
          have n0_:=Aside0.mk (Kd.S_mono (Kd.S_keep (IsS112.apartS (show IsS112 w0 _ g s0_0 x1001_1 x1002_1 from by repeat (((with_reducible (exact HI0.out))))) (by exact HO_576000.out) (by decide)) hk (fun _ h => h.2)) (fun _ h => h.1))
          have n1_:=Aside0.mk (KeepBut.blk hk (g':=gb569) (o:=.cells #[.slice none 0 0] 42 (0,0)) (by exact BK569.out) NB569_0.out (by simp))
          have n2_:=Aside0.mk (KeepBut.blk hk (g':=gb575) (o:=.cells #[.slice Ao86 x576000_1.length co86] 42 (0,0)) (by exact BK575.out) NB575_0.out (by simp))
          have n3_:=Aside0.mk (KeepBut.trans (by repeat (((with_reducible (exact HK.out))))) hk (.inl rfl))
          have n4_:=Aside0.mk (hb)
          have n5_:=Aside0.mk (hi)
          clear HO_576000
          clear BK569
          clear BK575
          clear HK
          clear HB
          clear HI0
          have HO_576000:=n0_
          have BK569:=n1_
          have BK575:=n2_
          have HK:=n3_
          have HB:=n4_
          have HI0:=n5_
          clear n0_ n1_ n2_ n3_ n4_ n5_
          (try clear hb)
          (try clear hb2)
          (try clear hk)
          (try clear hi)
          refine hK.out _ _ ((blk_cell BK575.out 0).trans rfl) (fun hHeld => ?_)
          clear hK K
          refine norm_ (a':=?_) ?_ ?_
          rotate_left
          ·show Act.put _ (some 48) _ = _
           simp only [Act.put,List.setIfInBounds_toArray,List.set_cons_zero,List.set_cons_succ,i64_w,i32_w]
           rfl
          refine pure_ (i:=5) (N:=some 49) (v:=?_) (a':=?_) (bf4c 11 63) rfl rfl (any_of HT_.out (by kernel_rfl)) (fun _ _ _ h => h) (Or.inl ⟨by rfl,?_⟩) ?_ ?_
          rotate_left
          ·intro w'
           go_simp
           with_reducible rfl
          rotate_left
          ·simp only [Act.put,List.setIfInBounds_toArray,List.set_cons_zero,List.set_cons_succ,i64_w,i32_w]
           rfl
          refine pure_ (i:=6) (N:=some 50) (v:=?_) (a':=?_) (bf4c 11 127) rfl rfl (any_of HT_.out (by kernel_rfl)) (fun _ _ _ h => h) (Or.inl ⟨by rfl,?_⟩) ?_ ?_
          rotate_left
          ·intro w'
           go_simp
           with_reducible rfl
          rotate_left
          ·simp only [Act.put,List.setIfInBounds_toArray,List.set_cons_zero,List.set_cons_succ,i64_w,i32_w]
           rfl
          refine pure_ (i:=7) (N:=some 51) (v:=?_) (a':=?_) (bf4c 11 255) rfl rfl (any_of HT_.out (by kernel_rfl)) (fun _ _ _ h => h) (Or.inl ⟨by rfl,?_⟩) ?_ ?_
          rotate_left
          ·intro w'
           go_simp
           with_reducible rfl
          rotate_left
          ·simp only [Act.put,List.setIfInBounds_toArray,List.set_cons_zero,List.set_cons_succ,i64_w,i32_w]
           rfl
          refine pure_ (i:=8) (N:=some 52) (v:=?_) (a':=?_) (bf4c 11 511) rfl rfl (any_of HT_.out (by kernel_rfl)) (fun _ _ _ h => h) (Or.inl ⟨by rfl,?_⟩) ?_ ?_
          rotate_left
          ·intro w'
           go_simp
           with_reducible rfl
          rotate_left
          ·simp only [Act.put,List.setIfInBounds_toArray,List.set_cons_zero,List.set_cons_succ,i64_w,i32_w]
           rfl
          refine pure_ (i:=9) (N:=some 53) (v:=?_) (a':=?_) (bf4c 11 1023) rfl rfl (any_of HT_.out (by kernel_rfl)) (fun _ _ _ h => h) (Or.inl ⟨by rfl,?_⟩) ?_ ?_
          rotate_left
          ·intro w'
           go_simp
           with_reducible rfl
          rotate_left
          ·simp only [Act.put,List.setIfInBounds_toArray,List.set_cons_zero,List.set_cons_succ,i64_w,i32_w]
           rfl
          refine pure_ (i:=10) (N:=some 54) (v:=?_) (a':=?_) (bf4c 11 2047) rfl rfl (any_of HT_.out (by kernel_rfl)) (fun _ _ _ h => h) (Or.inl ⟨by rfl,?_⟩) ?_ ?_
          rotate_left
          ·intro w'
           go_simp
           with_reducible rfl
          rotate_left
          ·simp only [Act.put,List.setIfInBounds_toArray,List.set_cons_zero,List.set_cons_succ,i64_w,i32_w]
           rfl
          refine done_ (done_of HT_.out (by kernel_rfl)) ?_
          have hnb88:=NB575_569.out
          have hnc88:=NB569_575.out
          have hnb89:=NB575_0.out
          have hnc89:=NB0_575.out
          have hcz90_0 : w87.cell? ⟨gb575,0,none⟩ = some (.slice Ao86 x576000_1.length co86):=(blk_cell BK575.out 0).trans rfl
          have hfz90_0:=blk_frozen BK575.out 0
          try go_wp2_with (first|((with_reducible refine gate_dst (N:=61) rfl ?_); refine Kd.R_lit (Kd.int .i64) _ 3 ?hg (N:=61) ?hd (xs:=([wrap64 (40 + x5_1)] : List Int)) (inner:=[.int .i64 (wrap64 (40 + x5_1))]) (ok:=fun _ => True) (okp:=fun _ => True) ?hr ?hp (fun _ hk => hk) trivial (Below.refl _ _) (Nat.le_refl _) (by simp) ?_; (case hd => rfl); (case hg => rfl); (case hr => (go_simp; done)); (case hp => exact (Reps.one (show Kd.M (Kd.int .i64) _ _ _ (wrap64 (40 + x5_1)) [.int .i64 (wrap64 (40 + x5_1))] from rfl) (Reps.none _ _))); intro v604 w91 ho92 hb hg_ hnew_; clear hg_ hnew_; (rw [← Ny603.out] at ho92); have n0_:=Aside0.mk (Kd.S_elder' (by exact HO_576000.out) (Kd.R_base ho92) hb); have n1_:=Aside0.mk (Kd.R_lower ho92 (keep_size (w:=w) (g:=g) (row:=none) (by repeat (((with_reducible (exact HK.out))))))); have n2_:=Aside0.mk (blk_below (g:=gb569) (o:=.cells #[.slice none 0 0] 42 (0,0)) (by exact BK569.out) hb); have n3_:=Aside0.mk (blk_below (g:=gb575) (o:=.cells #[.slice Ao86 x576000_1.length co86] 42 (0,0)) (by exact BK575.out) hb); have n4_:=Aside0.mk (IsS112.below (by repeat (((with_reducible (exact HI0.out))))) hb); have n5_:=Aside0.mk (KeepBut.trans (by repeat (((with_reducible (exact HK.out))))) (KeepBut.of_below hb g none) (.inl rfl)); have n6_:=Aside0.mk (below_step (by repeat (((with_reducible (exact HB.out))))) hb); clear HO_576000; clear BK569; clear BK575; clear HI0; clear HK; clear HB; have HO_576000:=n0_; have HO605:=n1_; have BK569:=n2_; have BK575:=n3_; have HI0:=n4_; have HK:=n5_; have HB:=n6_; clear n0_ n1_ n2_ n3_ n4_ n5_ n6_; clear hb ho92; obtain ⟨Ao94,co94,eo94⟩:=Kd.R_slice HO605.out; subst eo94)|((with_reducible refine gate_builtin (b:=.append) (xs:=#[.tmp 58,.tmp 62]) rfl ?_); at_builtin; refine Kd.S_append (Kd.slice 3 (Kd.int .i64)) w.heap.size rfl (.tmp 58) (.tmp 62) 38 24 (.slice none 0 0) 24 rfl Try.underlying38 info24 rfl (by decide) (by omega) (.slice Ao86 x576000_1.length co86) x576000_1 y603 [.slice Ao94 y603.length co94] (fun _ => True) (fun k_ => some k_ = (.slice Ao94 y603.length co94 : Value).ownBlock) rfl rfl ?aP (fun k_ hk_ => ((Kd.R_mono (ok':=fun k_ => (fun _ => True) k_ ∧ some k_ ≠ (.slice Ao86 x576000_1.length co86 : Value).ownBlock) (Kd.R_apart' (HO605.out) (Kd.S_typed HO_576000.out) (by decide)) (fun k_ hk => ⟨trivial,hk.2⟩))).1 k_ hk_.symm) ?aF ?aO (Below.refl _ _) ?aS ?aL ?_; (case aP => exact Kd.M_row (Kd.R_mono (Kd.R_tight rfl (Kd.R_mono (ok':=fun k_ => (fun _ => True) k_ ∧ some k_ ≠ (.slice Ao86 x576000_1.length co86 : Value).ownBlock) (Kd.R_apart' (HO605.out) (Kd.S_typed HO_576000.out) (by decide)) (fun k_ hk => ⟨trivial,hk.2⟩))) (fun _ h_ => h_))); (case aF => exact (fun _ _ => trivial)); (case aO => exact (by exact Kd.S_mono HO_576000.out (fun k_ hk => ⟨trivial,fun e_ => hk.2 e_⟩))); (case aS => exact (keep_size (w:=w) (g:=g) (row:=none) (by repeat (((with_reducible (exact HK.out))))))); (case aL => have:=LMc84.out; omega); intro v607 w93 ho hb hg hat; rw [← Ny606.out] at ho; have n0_:=Aside0.mk (blk_grown (g:=gb569) (o:=.cells #[.slice none 0 0] 42 (0,0)) (by exact BK569.out) hg (Kd.S_ne HO_576000.out BK569.out (by decide))); have n1_:=Aside0.mk (blk_grown (g:=gb575) (o:=.cells #[.slice Ao86 x576000_1.length co86] 42 (0,0)) (by exact BK575.out) hg (Kd.S_ne HO_576000.out BK575.out (by decide))); have n2_:=Aside0.mk (IsS112.grown (by repeat (((with_reducible (exact HI0.out))))) hg (IsS112.own_neS HI0.out HO_576000.out (by decide))); have n3_:=Aside0.mk (below_weaken (by repeat (((with_reducible (exact HB.out))))) HL.out hb); have n4_:=Aside0.mk (KeepBut.trans (by repeat (((with_reducible (exact HK.out))))) (KeepBut.of_grown hg g) (Kd.S_base2 HO_576000.out)); have n5_:=Aside0.mk (ho); clear BK569; clear BK575; clear HI0; clear HB; clear HK; clear HO_576000; clear HO605; have BK569:=n0_; have BK575:=n1_; have HI0:=n2_; have HB:=n3_; have HK:=n4_; have HO608:=n5_; clear n0_ n1_ n2_ n3_ n4_ n5_; clear ho hb hg hat; obtain ⟨Ao95,co95,eo95⟩:=Kd.S_slice HO608.out; subst eo95; have hcz96_0 : w93.cell? ⟨gb575,0,none⟩ = some (.slice Ao86 x576000_1.length co86):=(blk_cell BK575.out 0).trans rfl; have hfz96_0:=blk_frozen BK575.out 0))
          go_roundg k1
          case measure => have:=HK1.out; omega
          case rel => exact ⟨(wrap64 (x5_1 + 1)),(t601),(t602),(y606),(.slice Ao95 y606.length co95),(by (rfl)),H',⟨by have:=HK1.out; omega⟩,⟨by exact Kd.S_mono (Kd.S_far (p:=⟨gb575,0,none⟩) (Kd.S_types HO608.out BK575.out (by decide)) (fun _ hk => hk.2) (.slice Ao95 y606.length co95)) (fun _ hk => trivial)⟩,⟨by refine blk_far ?_ NB569_575.out _; exact BK569.out⟩,⟨by refine blk_put (cs:=#[.slice Ao86 x576000_1.length co86]) ?_ 0 _ rfl; exact BK575.out⟩,⟨by repeat (with_reducible first|exact HI0.out|refine IsS112.far ?_ NB0_575.out _)⟩,⟨by repeat (with_reducible first|exact HK.out|refine keep_far ?_ GW575.out _)⟩,⟨by repeat (with_reducible first|exact HB.out|refine below_set ?_ GE575.out)⟩⟩
         ·rw [if_neg c84] at H
          exact absurd H (by simp)
        ·rw [if_neg c83] at H
         have c83b0 : decide (x5_1 < 8) = false:=decide_eq_false c83
         clear c83
         simp only [Option.some.injEq,Prod.mk.injEq] at H
         obtain ⟨rfl,rfl,rfl⟩:=H
         try go_wp2
         have n0_:=Aside0.mk (Kd.S_drew HO_576000.out)
         have n1_:=Aside0.mk (blk_drew BK569.out)
         have n2_:=Aside0.mk (blk_drew BK575.out)
         have n3_:=Aside0.mk (IsS112.drew HI0.out)
         have n4_:=Aside0.mk (keep_drew HK.out)
         have n5_:=Aside0.mk (below_drew1 HB.out)
         clear HO_576000
         clear BK569
         clear BK575
         clear HI0
         clear HK
         clear HB
         have HO_576000:=n0_
         have BK569:=n1_
         have BK575:=n2_
         have HI0:=n3_
         have HK:=n4_
         have HB:=n5_
         clear n0_ n1_ n2_ n3_ n4_ n5_
         obtain ⟨Ao98,co98,eo98⟩:=Kd.S_slice HO_576000.out
         (subst eo98)
         refine start_ (n:=11) (S:=fun w' => w'.cell? ⟨gb575,0,none⟩ = some (.slice Ao98 x576000_1.length co98)) (ds:=[]) (bf4c 11 0) (by kernel_rfl) rfl rfl ((blk_cell BK575.out 0).trans rfl) (fun hHeld => ?_); refine with_tabW spec_l1Cur_anyYard.tab12 spec_l1Cur_anyYard.bits12 (fun HT_ HW_ => ?_)
         generalize wr.drew = w97 at HO_576000 BK569 BK575 HI0 HK HB hHeld ⊢
         refine pure_ (i:=0) (N:=some 44) (v:=?_) (a':=?_) (bf4c 11 1) rfl rfl (any_of HT_.out (by kernel_rfl)) (fun _ _ _ h => h) (Or.inl ⟨by rfl,?_⟩) ?_ ?_
         rotate_left
         ·intro w'
          go_simp
          with_reducible rfl
         rotate_left
         ·simp only [Act.put,List.setIfInBounds_toArray,List.set_cons_zero,List.set_cons_succ,i64_w,i32_w]
          rfl
         refine pure_ (i:=3) (N:=some 47) (v:=?_) (a':=?_) (bf4c 11 9) rfl rfl (any_of HT_.out (by kernel_rfl)) (fun _ _ _ h => h) (Or.inl ⟨by rfl,?_⟩) ?_ ?_
         rotate_left
         ·intro w'
          go_simp
          with_reducible rfl
         rotate_left
         ·simp only [Act.put,List.setIfInBounds_toArray,List.set_cons_zero,List.set_cons_succ,i64_w,i32_w]
          rfl
         refine take_ (i:=1) (N:=some 45) (v:=?_) (a':=?_) (bf4c 11 11) rfl rfl (take_ofW HT_.out HW_.out (by kernel_rfl)) (fun _ _ _ h => h) (Or.inl ⟨by rfl,?_⟩) hHeld ?_ ?_
         rotate_left
         ·intro w' s0
          go_simp
          with_reducible rfl
         rotate_left
         ·simp only [Act.put,List.setIfInBounds_toArray,List.set_cons_zero,List.set_cons_succ,i64_w,i32_w]
          rfl
         refine pure_ (i:=2) (N:=some 46) (v:=?_) (a':=?_) (bf4c 11 15) rfl rfl (any_of HT_.out (by kernel_rfl)) (fun _ _ _ h => h) (Or.inl ⟨by rfl,?_⟩) ?_ ?_
         rotate_left
         ·intro w'
          go_simp
          with_reducible rfl
         rotate_left
         ·simp only [Act.put,List.setIfInBounds_toArray,List.set_cons_zero,List.set_cons_succ,i64_w,i32_w]
          rfl
         refine one_ (i:=4) (N:=some 48) (bf4c 11 31) rfl rfl (one_of HT_.out (by kernel_rfl)) (by decide) (fun K hK => ?_)
         refine goes_ Try.func97 (by kernel_rfl) rfl #[.pointer (some ⟨g,0,none⟩),.int .i64 2] (by rfl) rfl rfl (by (try simp only [List.map_toArray,List.map_cons,List.map_nil]); (rfl)) ?_
         with_reducible refine (spec_l1Cur_pick.calls g s0_0 x1001_1 x1002_1 2 t600 t601 t602 w0 _ ?side1 ?side2 A81.out).mono ?_
         (case side1 => repeat (((with_reducible (exact HI0.out)))))
         (case side2 => repeat (((with_reducible (exact HB.out)))))
         rintro e w99 ⟨rfl,hi,hb,hk⟩
         refine ⟨_,rfl,?_⟩
         have n0_:=Aside0.mk (Kd.S_mono (Kd.S_keep (IsS112.apartS (show IsS112 w0 _ g s0_0 x1001_1 x1002_1 from by repeat (((with_reducible (exact HI0.out))))) (by exact HO_576000.out) (by decide)) hk (fun _ h => h.2)) (fun _ h => h.1))
         have n1_:=Aside0.mk (KeepBut.blk hk (g':=gb569) (o:=.cells #[.slice none 0 0] 42 (0,0)) (by exact BK569.out) NB569_0.out (by simp))
         have n2_:=Aside0.mk (KeepBut.blk hk (g':=gb575) (o:=.cells #[.slice Ao98 x576000_1.length co98] 42 (0,0)) (by exact BK575.out) NB575_0.out (by simp))
         have n3_:=Aside0.mk (KeepBut.trans (by repeat (((with_reducible (exact HK.out))))) hk (.inl rfl))
         have n4_:=Aside0.mk (hb)
         have n5_:=Aside0.mk (hi)
         clear HO_576000
         clear BK569
         clear BK575
         clear HK
         clear HB
         clear HI0
         have HO_576000:=n0_
         have BK569:=n1_
         have BK575:=n2_
         have HK:=n3_
         have HB:=n4_
         have HI0:=n5_
         clear n0_ n1_ n2_ n3_ n4_ n5_
         (try clear hb)
         (try clear hb2)
         (try clear hk)
         (try clear hi)
         refine hK.out _ _ ((blk_cell BK575.out 0).trans rfl) (fun hHeld => ?_)
         clear hK K
         refine norm_ (a':=?_) ?_ ?_
         rotate_left
         ·show Act.put _ (some 48) _ = _
          simp only [Act.put,List.setIfInBounds_toArray,List.set_cons_zero,List.set_cons_succ,i64_w,i32_w]
          rfl
         refine pure_ (i:=5) (N:=some 49) (v:=?_) (a':=?_) (bf4c 11 63) rfl rfl (any_of HT_.out (by kernel_rfl)) (fun _ _ _ h => h) (Or.inl ⟨by rfl,?_⟩) ?_ ?_
         rotate_left
         ·intro w'
          go_simp
          with_reducible rfl
         rotate_left
         ·simp only [Act.put,List.setIfInBounds_toArray,List.set_cons_zero,List.set_cons_succ,i64_w,i32_w]
          rfl
         refine pure_ (i:=6) (N:=some 50) (v:=?_) (a':=?_) (bf4c 11 127) rfl rfl (any_of HT_.out (by kernel_rfl)) (fun _ _ _ h => h) (Or.inl ⟨by rfl,?_⟩) ?_ ?_
         rotate_left
         ·intro w'
          go_simp
          with_reducible rfl
         rotate_left
         ·simp only [Act.put,List.setIfInBounds_toArray,List.set_cons_zero,List.set_cons_succ,i64_w,i32_w]
          rfl
         refine pure_ (i:=7) (N:=some 51) (v:=?_) (a':=?_) (bf4c 11 255) rfl rfl (any_of HT_.out (by kernel_rfl)) (fun _ _ _ h => h) (Or.inl ⟨by rfl,?_⟩) ?_ ?_
         rotate_left
         ·intro w'
          go_simp
          with_reducible rfl
         rotate_left
         ·simp only [Act.put,List.setIfInBounds_toArray,List.set_cons_zero,List.set_cons_succ,i64_w,i32_w]
          rfl
         refine pure_ (i:=8) (N:=some 52) (v:=?_) (a':=?_) (bf4c 11 511) rfl rfl (any_of HT_.out (by kernel_rfl)) (fun _ _ _ h => h) (Or.inl ⟨by rfl,?_⟩) ?_ ?_
         rotate_left
         ·intro w'
          go_simp
          with_reducible rfl
         rotate_left
         ·simp only [Act.put,List.setIfInBounds_toArray,List.set_cons_zero,List.set_cons_succ,i64_w,i32_w]
          rfl
         refine pure_ (i:=9) (N:=some 53) (v:=?_) (a':=?_) (bf4c 11 1023) rfl rfl (any_of HT_.out (by kernel_rfl)) (fun _ _ _ h => h) (Or.inl ⟨by rfl,?_⟩) ?_ ?_
         rotate_left
         ·intro w'
          go_simp
          with_reducible rfl
         rotate_left
         ·simp only [Act.put,List.setIfInBounds_toArray,List.set_cons_zero,List.set_cons_succ,i64_w,i32_w]
          rfl
         refine pure_ (i:=10) (N:=some 54) (v:=?_) (a':=?_) (bf4c 11 2047) rfl rfl (any_of HT_.out (by kernel_rfl)) (fun _ _ _ h => h) (Or.inl ⟨by rfl,?_⟩) ?_ ?_
         rotate_left
         ·intro w'
          go_simp
          with_reducible rfl
         rotate_left
         ·simp only [Act.put,List.setIfInBounds_toArray,List.set_cons_zero,List.set_cons_succ,i64_w,i32_w]
          rfl
         refine done_ (done_of HT_.out (by kernel_rfl)) ?_
         have hnb100:=NB575_569.out
         have hnc100:=NB569_575.out
         have hnb101:=NB575_0.out
         have hnc101:=NB0_575.out
         have hcz102_0 : w99.cell? ⟨gb575,0,none⟩ = some (.slice Ao98 x576000_1.length co98):=(blk_cell BK575.out 0).trans rfl
         have hfz102_0:=blk_frozen BK575.out 0
         have hnb103:=NB569_0.out
         have hnc103:=NB0_569.out
         have hcz104_0 : w99.cell? ⟨gb569,0,none⟩ = some (.slice none 0 0):=(blk_cell BK569.out 0).trans rfl
         have hfz104_0:=blk_frozen BK569.out 0
         try go_wp2
         refine bodyPost_ret (results_cell_row rfl _ _ gb569 42 #[.slice Ao98 x576000_1.length co98] (0,0) _ rfl (by refine blk_put (cs:=#[.slice none 0 0]) ?_ 0 _ rfl; exact BK569.out) Try.underlying42 rfl (by kernel_rfl)) rfl ?_
         exact ⟨_,by (rfl),by exact Kd.S_mono (Kd.S_far (p:=⟨gb569,0,none⟩) (Kd.S_types HO_576000.out BK569.out (by decide)) (fun _ hk => hk.2) (.slice Ao98 x576000_1.length co98)) (fun _ hk => trivial),by repeat (with_reducible first|exact HI0.out|refine IsS112.far ?_ NB0_569.out _),by repeat (with_reducible first|exact HB.out|refine below_set ?_ GE569.out),by repeat (with_reducible first|exact HK.out|refine keep_far ?_ GW569.out _)⟩
       ·rw [if_neg c82] at H
        have c82b0 : decide ((x576000_1.length : Int) < (wrap64 (6 + t600))) = false:=decide_eq_false c82
        clear c82
        simp only [Option.some.injEq,Prod.mk.injEq] at H
        obtain ⟨rfl,rfl,rfl⟩:=H
        try go_wp2
        have n0_:=Aside0.mk (Kd.S_drew HO_576000.out)
        have n1_:=Aside0.mk (blk_drew BK569.out)
        have n2_:=Aside0.mk (blk_drew BK575.out)
        have n3_:=Aside0.mk (IsS112.drew HI0.out)
        have n4_:=Aside0.mk (keep_drew HK.out)
        have n5_:=Aside0.mk (below_drew1 HB.out)
        clear HO_576000
        clear BK569
        clear BK575
        clear HI0
        clear HK
        clear HB
        have HO_576000:=n0_
        have BK569:=n1_
        have BK575:=n2_
        have HI0:=n3_
        have HK:=n4_
        have HB:=n5_
        clear n0_ n1_ n2_ n3_ n4_ n5_
        obtain ⟨Ao106,co106,eo106⟩:=Kd.S_slice HO_576000.out
        (subst eo106)
        refine start_ (n:=11) (S:=fun w' => w'.cell? ⟨gb575,0,none⟩ = some (.slice Ao106 x576000_1.length co106)) (ds:=[]) (bf4c 11 0) (by kernel_rfl) rfl rfl ((blk_cell BK575.out 0).trans rfl) (fun hHeld => ?_); refine with_tabW spec_l1Cur_anyYard.tab12 spec_l1Cur_anyYard.bits12 (fun HT_ HW_ => ?_)
        generalize wr.drew = w105 at HO_576000 BK569 BK575 HI0 HK HB hHeld ⊢
        refine pure_ (i:=0) (N:=some 44) (v:=?_) (a':=?_) (bf4c 11 1) rfl rfl (any_of HT_.out (by kernel_rfl)) (fun _ _ _ h => h) (Or.inl ⟨by rfl,?_⟩) ?_ ?_
        rotate_left
        ·intro w'
         go_simp
         with_reducible rfl
        rotate_left
        ·simp only [Act.put,List.setIfInBounds_toArray,List.set_cons_zero,List.set_cons_succ,i64_w,i32_w]
         rfl
        refine pure_ (i:=3) (N:=some 47) (v:=?_) (a':=?_) (bf4c 11 9) rfl rfl (any_of HT_.out (by kernel_rfl)) (fun _ _ _ h => h) (Or.inl ⟨by rfl,?_⟩) ?_ ?_
        rotate_left
        ·intro w'
         go_simp
         with_reducible rfl
        rotate_left
        ·simp only [Act.put,List.setIfInBounds_toArray,List.set_cons_zero,List.set_cons_succ,i64_w,i32_w]
         rfl
        refine take_ (i:=1) (N:=some 45) (v:=?_) (a':=?_) (bf4c 11 11) rfl rfl (take_ofW HT_.out HW_.out (by kernel_rfl)) (fun _ _ _ h => h) (Or.inl ⟨by rfl,?_⟩) hHeld ?_ ?_
        rotate_left
        ·intro w' s0
         go_simp
         with_reducible rfl
        rotate_left
        ·simp only [Act.put,List.setIfInBounds_toArray,List.set_cons_zero,List.set_cons_succ,i64_w,i32_w]
         rfl
        refine pure_ (i:=2) (N:=some 46) (v:=?_) (a':=?_) (bf4c 11 15) rfl rfl (any_of HT_.out (by kernel_rfl)) (fun _ _ _ h => h) (Or.inl ⟨by rfl,?_⟩) ?_ ?_
        rotate_left
        ·intro w'
         go_simp
         with_reducible rfl
        rotate_left
        ·simp only [Act.put,List.setIfInBounds_toArray,List.set_cons_zero,List.set_cons_succ,i64_w,i32_w]
         rfl
        refine one_ (i:=4) (N:=some 48) (bf4c 11 31) rfl rfl (one_of HT_.out (by kernel_rfl)) (by decide) (fun K hK => ?_)
        refine goes_ Try.func97 (by kernel_rfl) rfl #[.pointer (some ⟨g,0,none⟩),.int .i64 2] (by rfl) rfl rfl (by (try simp only [List.map_toArray,List.map_cons,List.map_nil]); (rfl)) ?_
        with_reducible refine (spec_l1Cur_pick.calls g s0_0 x1001_1 x1002_1 2 t600 t601 t602 w0 _ ?side1 ?side2 A81.out).mono ?_
        (case side1 => repeat (((with_reducible (exact HI0.out)))))
        (case side2 => repeat (((with_reducible (exact HB.out)))))
        rintro e w107 ⟨rfl,hi,hb,hk⟩
        refine ⟨_,rfl,?_⟩
        have n0_:=Aside0.mk (Kd.S_mono (Kd.S_keep (IsS112.apartS (show IsS112 w0 _ g s0_0 x1001_1 x1002_1 from by repeat (((with_reducible (exact HI0.out))))) (by exact HO_576000.out) (by decide)) hk (fun _ h => h.2)) (fun _ h => h.1))
        have n1_:=Aside0.mk (KeepBut.blk hk (g':=gb569) (o:=.cells #[.slice none 0 0] 42 (0,0)) (by exact BK569.out) NB569_0.out (by simp))
        have n2_:=Aside0.mk (KeepBut.blk hk (g':=gb575) (o:=.cells #[.slice Ao106 x576000_1.length co106] 42 (0,0)) (by exact BK575.out) NB575_0.out (by simp))
        have n3_:=Aside0.mk (KeepBut.trans (by repeat (((with_reducible (exact HK.out))))) hk (.inl rfl))
        have n4_:=Aside0.mk (hb)
        have n5_:=Aside0.mk (hi)
        clear HO_576000
        clear BK569
        clear BK575
        clear HK
        clear HB
        clear HI0
        have HO_576000:=n0_
        have BK569:=n1_
        have BK575:=n2_
        have HK:=n3_
        have HB:=n4_
        have HI0:=n5_
        clear n0_ n1_ n2_ n3_ n4_ n5_
        (try clear hb)
        (try clear hb2)
        (try clear hk)
        (try clear hi)
        refine hK.out _ _ ((blk_cell BK575.out 0).trans rfl) (fun hHeld => ?_)
        clear hK K
        refine norm_ (a':=?_) ?_ ?_
        rotate_left
        ·show Act.put _ (some 48) _ = _
         simp only [Act.put,List.setIfInBounds_toArray,List.set_cons_zero,List.set_cons_succ,i64_w,i32_w]
         rfl
        refine pure_ (i:=5) (N:=some 49) (v:=?_) (a':=?_) (bf4c 11 63) rfl rfl (any_of HT_.out (by kernel_rfl)) (fun _ _ _ h => h) (Or.inl ⟨by rfl,?_⟩) ?_ ?_
        rotate_left
        ·intro w'
         go_simp
         with_reducible rfl
        rotate_left
        ·simp only [Act.put,List.setIfInBounds_toArray,List.set_cons_zero,List.set_cons_succ,i64_w,i32_w]
         rfl
        refine pure_ (i:=6) (N:=some 50) (v:=?_) (a':=?_) (bf4c 11 127) rfl rfl (any_of HT_.out (by kernel_rfl)) (fun _ _ _ h => h) (Or.inl ⟨by rfl,?_⟩) ?_ ?_
        rotate_left
        ·intro w'
         go_simp
         with_reducible rfl
        rotate_left
        ·simp only [Act.put,List.setIfInBounds_toArray,List.set_cons_zero,List.set_cons_succ,i64_w,i32_w]
         rfl
        refine pure_ (i:=7) (N:=some 51) (v:=?_) (a':=?_) (bf4c 11 255) rfl rfl (any_of HT_.out (by kernel_rfl)) (fun _ _ _ h => h) (Or.inl ⟨by rfl,?_⟩) ?_ ?_
        rotate_left
        ·intro w'
         go_simp
         with_reducible rfl
        rotate_left
        ·simp only [Act.put,List.setIfInBounds_toArray,List.set_cons_zero,List.set_cons_succ,i64_w,i32_w]
         rfl
        refine pure_ (i:=8) (N:=some 52) (v:=undef) (a':=?_) (bf4c 11 511) rfl rfl (any_of HT_.out (by kernel_rfl)) (fun _ _ _ h => h) (Or.inr ⟨by rfl,rfl⟩) ?_ ?_
        rotate_left
        ·simp only [Act.put,List.setIfInBounds_toArray,List.set_cons_zero,List.set_cons_succ,i64_w,i32_w]
         rfl
        refine pure_ (i:=9) (N:=some 53) (v:=undef) (a':=?_) (bf4c 11 1023) rfl rfl (any_of HT_.out (by kernel_rfl)) (fun _ _ _ h => h) (Or.inr ⟨by rfl,rfl⟩) ?_ ?_
        rotate_left
        ·simp only [Act.put,List.setIfInBounds_toArray,List.set_cons_zero,List.set_cons_succ,i64_w,i32_w]
         rfl
        refine pure_ (i:=10) (N:=some 54) (v:=?_) (a':=?_) (bf4c 11 2047) rfl rfl (any_of HT_.out (by kernel_rfl)) (fun _ _ _ h => h) (Or.inl ⟨by rfl,?_⟩) ?_ ?_
        rotate_left
        ·intro w'
         go_simp
         with_reducible rfl
        rotate_left
        ·simp only [Act.put,List.setIfInBounds_toArray,List.set_cons_zero,List.set_cons_succ,i64_w,i32_w]
         rfl
        refine done_ (done_of HT_.out (by kernel_rfl)) ?_
        have hnb108:=NB575_569.out
        have hnc108:=NB569_575.out
        have hnb109:=NB575_0.out
        have hnc109:=NB0_575.out
        have hcz110_0 : w107.cell? ⟨gb575,0,none⟩ = some (.slice Ao106 x576000_1.length co106):=(blk_cell BK575.out 0).trans rfl
        have hfz110_0:=blk_frozen BK575.out 0
        have hnb111:=NB569_0.out
        have hnc111:=NB0_569.out
        have hcz112_0 : w107.cell? ⟨gb569,0,none⟩ = some (.slice none 0 0):=(blk_cell BK569.out 0).trans rfl
        have hfz112_0:=blk_frozen BK569.out 0
        try go_wp2
        refine bodyPost_ret (results_cell_row rfl _ _ gb569 42 #[.slice Ao106 x576000_1.length co106] (0,0) _ rfl (by refine blk_put (cs:=#[.slice none 0 0]) ?_ 0 _ rfl; exact BK569.out) Try.underlying42 rfl (by kernel_rfl)) rfl ?_
        exact ⟨_,by (rfl),by exact Kd.S_mono (Kd.S_far (p:=⟨gb569,0,none⟩) (Kd.S_types HO_576000.out BK569.out (by decide)) (fun _ hk => hk.2) (.slice Ao106 x576000_1.length co106)) (fun _ hk => trivial),by repeat (with_reducible first|exact HI0.out|refine IsS112.far ?_ NB0_569.out _),by repeat (with_reducible first|exact HB.out|refine below_set ?_ GE569.out),by repeat (with_reducible first|exact HK.out|refine keep_far ?_ GW569.out _)⟩
    ·rw [if_neg c71] at H
     have c71b0 : (t579 == 3) = false:=beq_eq_false_iff_ne.mpr c71
     have c71b1 : (t579 != 3) = true:=bne_iff_ne.mpr c71
     simp only [Option.some.injEq,Prod.mk.injEq] at H
     obtain ⟨rfl,rfl,rfl⟩:=H
     have hcz122_0 : w19.cell? ⟨gb575,0,none⟩ = some (.slice Ao14 t570.length co14):=(blk_cell BK575.out 0).trans rfl
     have hfz122_0:=blk_frozen BK575.out 0
     have hnb123:=NB569_0.out
     have hnc123:=NB0_569.out
     have hcz124_0 : w19.cell? ⟨gb569,0,none⟩ = some (.slice none 0 0):=(blk_cell BK569.out 0).trans rfl
     have hfz124_0:=blk_frozen BK569.out 0
     try go_wp2
     refine bodyPost_ret (results_cell_row rfl _ _ gb569 42 #[.slice Ao14 t570.length co14] (0,0) _ rfl (by refine blk_put (cs:=#[.slice none 0 0]) ?_ 0 _ rfl; exact BK569.out) Try.underlying42 rfl (by kernel_rfl)) rfl ?_
     exact ⟨_,by (rfl),by exact Kd.S_mono (Kd.S_far (p:=⟨gb569,0,none⟩) (Kd.S_types HO572.out BK569.out (by decide)) (fun _ hk => hk.2) (.slice Ao14 t570.length co14)) (fun _ hk => trivial),by repeat (with_reducible first|exact HI0.out|refine IsS112.far ?_ NB0_569.out _),by repeat (with_reducible first|exact HB.out|refine below_set ?_ GE569.out),by repeat (with_reducible first|exact HK.out|refine keep_far ?_ GW569.out _)⟩

end Go.Proofs.Ytlldonokjgoajaa.X
