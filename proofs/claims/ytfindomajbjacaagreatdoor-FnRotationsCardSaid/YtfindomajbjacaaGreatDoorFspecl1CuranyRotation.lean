-- Written by a program of ours (wip/bin/xprint.py,over the kit's print.py) out of the translation. Not trusted: Lean checks it.
import Derived.Test.YtfindomajbjacaaGreatDoorX0
import Derived.Test.YtfindomajbjacaaGreatDoorFbCur
import Derived.Test.YtfindomajbjacaaGreatDoorFspecl1Currotation
namespace Go.Proofs.YtfindomajbjacaaGreatDoor.X
open Go.RowKit Go.Proofs.YtfindomajbjacaaGreatDoorW.PrintWords Go.Proofs.YtfindomajbjacaaGreatDoorW.PrintLast Go.Proofs.YtfindomajbjacaaGreatDoorW.PrintMore
def lbdc0 : Nat → Nat → List Bool
 | 0,_ => []
 | n+1,m => (m%2==1) :: lbdc0 n (m/2)
def bdc0 (n m : Nat) : Array Bool := ⟨lbdc0 n m⟩
attribute [local go_sem] max2_int min2_int max_two min_two max_three min_three max_four min_four   -- for this text's walks alone
set_option linter.unusedVariables false
set_option linter.unusedSimpArgs false

/-! ### spec_l1Cur_anyRotation: function 45 -/
def spec_l1Cur_anyRotation.l0 : Nat → List Int → Int → Int → List Int → List Int → Option (List Int × List Int × Int × Int)
 | 0,_,_,_,_,_ => none
 | k + 1,x1000,x1001,x1002,x210000,x210001 => (spec_l1Cur_pick.f x1000 x1001 x1002 2).bind fun bt234 => (if (x210000.length : Int) < (wrap64 (12 + bt234.1)) then (if x210000.length < 17592186044416 then (if x210001.length < 17592186044416 then (spec_l1Cur_anyRotation.l0 k x1000 bt234.2.1 bt234.2.2 (x210000 ++ [7 + ((x210000.length : Int) % 2)]) (x210001 ++ [1])) else (none)) else (none)) else (some (x210000,x210001,bt234.2.1,bt234.2.2)))
def spec_l1Cur_anyRotation.f (k : Nat) (s0_0 : List Int) (s0_1 : Int) (s0_2 : Int) : Option (List Int × List Int × Int × Int):=(spec_l1Cur_rotation.f k s0_0 s0_1 s0_2).bind fun bt201 => ((spec_l1Cur_pick.f s0_0 bt201.2.2.1 bt201.2.2.2 (bt201.1.length : Int)).bind fun bt210 => ((spec_l1Cur_pick.f s0_0 bt210.2.1 bt210.2.2 30).bind fun bt213 => (if bt213.1 = 0 then (if 0 < (bt201.1.length : Int) then ((spec_l1Cur_among.f s0_0 bt213.2.1 bt213.2.2 ([0,9,10,rd bt201.1 0] : List Int)).bind fun bt220 => (if 0 ≤ bt210.1 then (if bt210.1 < (bt201.1.length : Int) then (some ((bt201.1.set (bt210.1 : Int).toNat bt220.1),bt201.2.1,bt220.2.1,bt220.2.2)) else (none)) else (none))) else (none)) else (if bt213.1 = 1 then ((spec_l1Cur_among.f s0_0 bt213.2.1 bt213.2.2 ([0,40,41] : List Int)).bind fun bt227 => (if 0 ≤ bt210.1 then (if bt210.1 < (bt201.2.1.length : Int) then (some (bt201.1,(bt201.2.1.set (bt210.1 : Int).toNat bt227.1),bt227.2.1,bt227.2.2)) else (none)) else (none))) else (if bt213.1 = 2 then (if 1 ≤ (bt201.2.1.length : Int) then (some (bt201.1,(bt201.2.1.drop (1 : Int).toNat),bt213.2.1,bt213.2.2)) else (none)) else (if bt213.1 = 3 then (some (([] : List Int),([] : List Int),bt213.2.1,bt213.2.2)) else (if bt213.1 = 4 then (spec_l1Cur_anyRotation.l0 k s0_0 bt213.2.1 bt213.2.2 bt201.1 bt201.2.1) else (some (bt201.1,bt201.2.1,bt213.2.1,bt213.2.2)))))))))
theorem spec_l1Cur_anyRotation.mono_l : ∀ k,(∀ y0 y1 y2 y3 y4,LeO (spec_l1Cur_anyRotation.l0 k y0 y1 y2 y3 y4) (spec_l1Cur_anyRotation.l0 (k + 1) y0 y1 y2 y3 y4))
 | 0 => fun _ _ _ _ _ r h => by simp [spec_l1Cur_anyRotation.l0] at h
 | k + 1 => by
  have ih0:=spec_l1Cur_anyRotation.mono_l k
  ·intro y0 y1 y2 y3 y4
   unfold spec_l1Cur_anyRotation.l0
   repeat' first
   | (with_reducible exact ih0 _ _ _ _ _)
   | (with_reducible exact spec_l1Cur_rotation.mono _ _ _ _)
   | (with_reducible exact LeO.refl _)
   | (with_reducible exact LeO.none _)
   | (with_reducible refine LeO.ite ?_ ?_)
   | (with_reducible refine LeO.bind ?_ (fun _ => ?_))
   | exact ih0 _ _ _ _ _
   | exact spec_l1Cur_rotation.mono _ _ _ _
   | exact LeO.none _
   | refine LeO.ite ?_ ?_
   | refine LeO.bind ?_ (fun _ => ?_)
theorem spec_l1Cur_anyRotation.mono : ∀ a0 a1 a2 k,LeO (spec_l1Cur_anyRotation.f k a0 a1 a2) (spec_l1Cur_anyRotation.f (k + 1) a0 a1 a2):=by
 intro a0 a1 a2 k
 have ih0:=spec_l1Cur_anyRotation.mono_l k
 unfold spec_l1Cur_anyRotation.f
 repeat' first
   | (with_reducible exact ih0 _ _ _ _ _)
   | (with_reducible exact spec_l1Cur_rotation.mono _ _ _ _)
   | (with_reducible exact LeO.refl _)
   | (with_reducible exact LeO.none _)
   | (with_reducible refine LeO.ite ?_ ?_)
   | (with_reducible refine LeO.bind ?_ (fun _ => ?_))
   | exact ih0 _ _ _ _ _
   | exact spec_l1Cur_rotation.mono _ _ _ _
   | exact LeO.none _
   | refine LeO.ite ?_ ?_
   | refine LeO.bind ?_ (fun _ => ?_)
def spec_l1Cur_anyRotation.T5 : Bool × List (List Nat × List Nat):=(true,[([],[]),([0],[0]),([],[]),([],[]),([],[]),([4],[4]),([5],[5]),([6],[6]),([7],[7]),([3,8],[3,8]),([1,2,0,1,2,3,4,5,6,7,8,9],[1,2]),([10,9,9,0,1,2,3,4,5,6,7,8,9],[9,10])])
def spec_l1Cur_anyRotation.B5 : List Nat:=[0,1,0,0,0,16,48,112,240,504,1023,2047]
theorem spec_l1Cur_anyRotation.tab5 : rtab .any (opsOf Tryz.f45 5) = spec_l1Cur_anyRotation.T5:=by kernel_rfl
theorem spec_l1Cur_anyRotation.bits5 : waitsOk spec_l1Cur_anyRotation.T5.2 spec_l1Cur_anyRotation.B5 = true:=by kernel_rfl
def spec_l1Cur_anyRotation.T7 : Bool × List (List Nat × List Nat):=(true,[([],[]),([0],[0]),([],[]),([],[]),([],[]),([3,4],[3,4]),([1,2,0,1,2,3,4,5],[1,2]),([6,5,5,0,1,2,3,4,5],[5,6])])
def spec_l1Cur_anyRotation.B7 : List Nat:=[0,1,0,0,0,24,63,127]
theorem spec_l1Cur_anyRotation.tab7 : rtab .any (opsOf Tryz.f45 7) = spec_l1Cur_anyRotation.T7:=by kernel_rfl
theorem spec_l1Cur_anyRotation.bits7 : waitsOk spec_l1Cur_anyRotation.T7.2 spec_l1Cur_anyRotation.B7 = true:=by kernel_rfl
set_option maxHeartbeats 8000000 in
set_option maxRecDepth 100000 in
theorem spec_l1Cur_anyRotation.calls (k : Nat) (g : Nat) (s0_0 : List Int) (s0_1 : Int) (s0_2 : Int) (r1 : List Int) (r2 : List Int) (r3 : Int) (r4 : Int) (w0 w : World) (hI : IsS69 w0 w g s0_0 s0_1 s0_2) (hB : Below w0.heap.size w0 w) (h : spec_l1Cur_anyRotation.f k s0_0 s0_1 s0_2 = some (r1,r2,r3,r4)) :
  Calls Tryz.prog 45 #[.pointer (some ⟨g,0,none⟩)] w fun e w' => ∃ v0_ v1_ : Value,e = .returned (.agg #[v0_,v1_]) ∧ Kd.R (Kd.int .i64) 3 w' w.heap.size (fun k_ => some k_ ≠ (v1_ : Value).ownBlock) v0_ r1 ∧ Kd.Q (Kd.int .i64) 3 w' w.heap.size (fun k_ => some k_ ≠ (v0_ : Value).ownBlock) v1_ r2 ∧ IsS69 w0 w' g s0_0 r3 r4 ∧ Below w0.heap.size w0 w' ∧ KeepBut w w' g none:=by
 have hu26:=Tryz.underlying26
 have HI0:=Aside0.mk hI
 have HK:=Aside0.mk (KeepBut.refl w g none)
 have HL:=Aside0.mk hB.size
 clear hI
 have HW0:=Aside0.mk hB.size
 have HB:=Aside0.mk hB
 clear hB
 have H : ((spec_l1Cur_rotation.f k s0_0 s0_1 s0_2).bind fun bt201 => ((spec_l1Cur_pick.f s0_0 bt201.2.2.1 bt201.2.2.2 (bt201.1.length : Int)).bind fun bt210 => ((spec_l1Cur_pick.f s0_0 bt210.2.1 bt210.2.2 30).bind fun bt213 => (if bt213.1 = 0 then (if 0 < (bt201.1.length : Int) then ((spec_l1Cur_among.f s0_0 bt213.2.1 bt213.2.2 ([0,9,10,rd bt201.1 0] : List Int)).bind fun bt220 => (if 0 ≤ bt210.1 then (if bt210.1 < (bt201.1.length : Int) then (some ((bt201.1.set (bt210.1 : Int).toNat bt220.1),bt201.2.1,bt220.2.1,bt220.2.2)) else (none)) else (none))) else (none)) else (if bt213.1 = 1 then ((spec_l1Cur_among.f s0_0 bt213.2.1 bt213.2.2 ([0,40,41] : List Int)).bind fun bt227 => (if 0 ≤ bt210.1 then (if bt210.1 < (bt201.2.1.length : Int) then (some (bt201.1,(bt201.2.1.set (bt210.1 : Int).toNat bt227.1),bt227.2.1,bt227.2.2)) else (none)) else (none))) else (if bt213.1 = 2 then (if 1 ≤ (bt201.2.1.length : Int) then (some (bt201.1,(bt201.2.1.drop (1 : Int).toNat),bt213.2.1,bt213.2.2)) else (none)) else (if bt213.1 = 3 then (some (([] : List Int),([] : List Int),bt213.2.1,bt213.2.2)) else (if bt213.1 = 4 then (spec_l1Cur_anyRotation.l0 k s0_0 bt213.2.1 bt213.2.2 bt201.1 bt201.2.1) else (some (bt201.1,bt201.2.1,bt213.2.1,bt213.2.2)))))))))) = some (r1,r2,r3,r4):=h
 clear h
 replace H:=Option.bind_eq_some_iff.mp H
 obtain ⟨⟨t201,t204,t207,t208⟩,A20,H⟩:=H
 replace H : ((spec_l1Cur_pick.f s0_0 t207 t208 (t201.length : Int)).bind fun bt210 => ((spec_l1Cur_pick.f s0_0 bt210.2.1 bt210.2.2 30).bind fun bt213 => (if bt213.1 = 0 then (if 0 < (t201.length : Int) then ((spec_l1Cur_among.f s0_0 bt213.2.1 bt213.2.2 ([0,9,10,rd t201 0] : List Int)).bind fun bt220 => (if 0 ≤ bt210.1 then (if bt210.1 < (t201.length : Int) then (some ((t201.set (bt210.1 : Int).toNat bt220.1),t204,bt220.2.1,bt220.2.2)) else (none)) else (none))) else (none)) else (if bt213.1 = 1 then ((spec_l1Cur_among.f s0_0 bt213.2.1 bt213.2.2 ([0,40,41] : List Int)).bind fun bt227 => (if 0 ≤ bt210.1 then (if bt210.1 < (t204.length : Int) then (some (t201,(t204.set (bt210.1 : Int).toNat bt227.1),bt227.2.1,bt227.2.2)) else (none)) else (none))) else (if bt213.1 = 2 then (if 1 ≤ (t204.length : Int) then (some (t201,(t204.drop (1 : Int).toNat),bt213.2.1,bt213.2.2)) else (none)) else (if bt213.1 = 3 then (some (([] : List Int),([] : List Int),bt213.2.1,bt213.2.2)) else (if bt213.1 = 4 then (spec_l1Cur_anyRotation.l0 k s0_0 bt213.2.1 bt213.2.2 t201 t204) else (some (t201,t204,bt213.2.1,bt213.2.2))))))))) = some (r1,r2,r3,r4):=H
 have A2:=Aside0.mk A20
 clear A20
 replace H:=Option.bind_eq_some_iff.mp H
 obtain ⟨⟨t210,t211,t212⟩,A30,H⟩:=H
 replace H : ((spec_l1Cur_pick.f s0_0 t211 t212 30).bind fun bt213 => (if bt213.1 = 0 then (if 0 < (t201.length : Int) then ((spec_l1Cur_among.f s0_0 bt213.2.1 bt213.2.2 ([0,9,10,rd t201 0] : List Int)).bind fun bt220 => (if 0 ≤ t210 then (if t210 < (t201.length : Int) then (some ((t201.set (t210 : Int).toNat bt220.1),t204,bt220.2.1,bt220.2.2)) else (none)) else (none))) else (none)) else (if bt213.1 = 1 then ((spec_l1Cur_among.f s0_0 bt213.2.1 bt213.2.2 ([0,40,41] : List Int)).bind fun bt227 => (if 0 ≤ t210 then (if t210 < (t204.length : Int) then (some (t201,(t204.set (t210 : Int).toNat bt227.1),bt227.2.1,bt227.2.2)) else (none)) else (none))) else (if bt213.1 = 2 then (if 1 ≤ (t204.length : Int) then (some (t201,(t204.drop (1 : Int).toNat),bt213.2.1,bt213.2.2)) else (none)) else (if bt213.1 = 3 then (some (([] : List Int),([] : List Int),bt213.2.1,bt213.2.2)) else (if bt213.1 = 4 then (spec_l1Cur_anyRotation.l0 k s0_0 bt213.2.1 bt213.2.2 t201 t204) else (some (t201,t204,bt213.2.1,bt213.2.2)))))))) = some (r1,r2,r3,r4):=H
 have A3:=Aside0.mk A30
 clear A30
 replace H:=Option.bind_eq_some_iff.mp H
 obtain ⟨⟨t213,t214,t215⟩,A40,H⟩:=H
 replace H : (if t213 = 0 then (if 0 < (t201.length : Int) then ((spec_l1Cur_among.f s0_0 t214 t215 ([0,9,10,rd t201 0] : List Int)).bind fun bt220 => (if 0 ≤ t210 then (if t210 < (t201.length : Int) then (some ((t201.set (t210 : Int).toNat bt220.1),t204,bt220.2.1,bt220.2.2)) else (none)) else (none))) else (none)) else (if t213 = 1 then ((spec_l1Cur_among.f s0_0 t214 t215 ([0,40,41] : List Int)).bind fun bt227 => (if 0 ≤ t210 then (if t210 < (t204.length : Int) then (some (t201,(t204.set (t210 : Int).toNat bt227.1),bt227.2.1,bt227.2.2)) else (none)) else (none))) else (if t213 = 2 then (if 1 ≤ (t204.length : Int) then (some (t201,(t204.drop (1 : Int).toNat),t214,t215)) else (none)) else (if t213 = 3 then (some (([] : List Int),([] : List Int),t214,t215)) else (if t213 = 4 then (spec_l1Cur_anyRotation.l0 k s0_0 t214 t215 t201 t204) else (some (t201,t204,t214,t215))))))) = some (r1,r2,r3,r4):=H
 have A4:=Aside0.mk A40
 clear A40
 have HF_:=Aside0.mk H
 clear H
 go_enter Tryz.func45,Tryz.ntmps45
 go_upto_region 4 with (first|((with_reducible refine gate_dst (N:=2) rfl ?_); refine box_event ?hg (N:=2) ?hd (cs:=#[.slice none 0 0,.slice none 0 0]) (t:=26) ?hr ?_; (case hd => rfl); (case hg => rfl); (case hr => (go_simp; done)); intro gb200 hg w11 hbox hb; have n0_:=Aside0.mk (IsS69.below (by repeat (((with_reducible (exact HI0.out))))) hb); have n1_:=Aside0.mk (KeepBut.trans (by repeat (((with_reducible (exact HK.out))))) (KeepBut.of_below hb g none) (.inl rfl)); have n2_:=Aside0.mk (below_step (by repeat (((with_reducible (exact HB.out))))) hb); have n3_:=Aside0.mk (hbox); have n4_:=Aside0.mk ((by rw [hg]; exact (keep_size (w:=w) (g:=g) (row:=none) (by repeat (((with_reducible (exact HK.out)))))) : w.heap.size ≤ gb200)); have n5_:=Aside0.mk ((Nat.le_trans HW0.out (by rw [hg]; exact (keep_size (w:=w) (g:=g) (row:=none) (by repeat (((with_reducible (exact HK.out)))))) : w.heap.size ≤ gb200) : w0.heap.size ≤ gb200)); have n6_:=Aside0.mk ((by rw [hg]; exact Nat.ne_of_lt (IsS69.lt (show IsS69 w0 _ g s0_0 s0_1 s0_2 from by repeat (((with_reducible (exact HI0.out)))))) : g ≠ gb200)); have n7_:=Aside0.mk ((by rw [hg]; exact Nat.ne_of_gt (IsS69.lt (show IsS69 w0 _ g s0_0 s0_1 s0_2 from by repeat (((with_reducible (exact HI0.out)))))) : gb200 ≠ g)); clear HI0; clear HK; clear HB; have HI0:=n0_; have HK:=n1_; have HB:=n2_; have BK200:=n3_; have GW200:=n4_; have GE200:=n5_; have NB0_200:=n6_; have NB200_0:=n7_; clear n0_ n1_ n2_ n3_ n4_ n5_ n6_ n7_; clear hb hbox hg)|((with_reducible refine gate_callee (f:=50) rfl ?_); refine goesL_ (some 6) rfl rfl Tryz.func50 (by kernel_rfl) rfl #[.pointer (some ⟨g,0,none⟩)] rfl (by (try simp only [List.map_toArray,List.map_cons,List.map_nil]); (rfl)) ?_; (with_reducible refine (spec_l1Cur_rotation.calls k g s0_0 s0_1 s0_2 t201 t204 t207 t208 w0 _ ?side1 ?side2 A2.out).mono ?_); (case side1 => repeat (((with_reducible (exact HI0.out))))); (case side2 => repeat (((with_reducible (exact HB.out))))); rintro e w12 ⟨v202,v205,rfl,ho0,ho1,hi,hb,hk⟩; refine ⟨_,rfl,?_⟩; have n0_:=Aside0.mk (KeepBut.blk hk (g':=gb200) (o:=.cells #[.slice none 0 0,.slice none 0 0] 26 (0,0)) (by exact BK200.out) NB200_0.out (by simp)); have n1_:=Aside0.mk (Kd.R_lower ho0 (keep_size (w:=w) (g:=g) (row:=none) (by repeat (((with_reducible (exact HK.out))))))); have n2_:=Aside0.mk (Kd.R_lower ho1 (keep_size (w:=w) (g:=g) (row:=none) (by repeat (((with_reducible (exact HK.out))))))); have n3_:=Aside0.mk (KeepBut.trans (by repeat (((with_reducible (exact HK.out))))) hk (.inl rfl)); have n4_:=Aside0.mk (hb); have n5_:=Aside0.mk (hi); clear BK200; clear HK; clear HB; clear HI0; have BK200:=n0_; have HO203:=n1_; have HO206:=n2_; have HK:=n3_; have HB:=n4_; have HI0:=n5_; clear n0_ n1_ n2_ n3_ n4_ n5_; (try clear hb); (try clear hb2); (try clear hk); (try clear hi); (try clear ho0); (try clear ho1))|((with_reducible refine gate_dst (N:=3) rfl ?_); refine box_event ?hg (N:=3) ?hd (cs:=#[.slice none 0 0,.slice none 0 0]) (t:=26) ?hr ?_; (case hd => rfl); (case hg => rfl); (case hr => (go_simp; done)); intro gb209 hg w13 hbox hb; have n0_:=Aside0.mk (Kd.R_below (by exact HO203.out) hb); have n1_:=Aside0.mk (Kd.R_below (by exact HO206.out) hb); have n2_:=Aside0.mk (IsS69.below (by repeat (((with_reducible (exact HI0.out))))) hb); have n3_:=Aside0.mk (blk_below (g:=gb200) (o:=.cells #[.slice none 0 0,.slice none 0 0] 26 (0,0)) (by exact BK200.out) hb); have n4_:=Aside0.mk (KeepBut.trans (by repeat (((with_reducible (exact HK.out))))) (KeepBut.of_below hb g none) (.inl rfl)); have n5_:=Aside0.mk (below_step (by repeat (((with_reducible (exact HB.out))))) hb); have n6_:=Aside0.mk (hbox); have n7_:=Aside0.mk ((by rw [hg]; exact (keep_size (w:=w) (g:=g) (row:=none) (by repeat (((with_reducible (exact HK.out)))))) : w.heap.size ≤ gb209)); have n8_:=Aside0.mk ((Nat.le_trans HW0.out (by rw [hg]; exact (keep_size (w:=w) (g:=g) (row:=none) (by repeat (((with_reducible (exact HK.out)))))) : w.heap.size ≤ gb209) : w0.heap.size ≤ gb209)); have n9_:=Aside0.mk ((by rw [hg]; exact Nat.ne_of_lt (blk_lt (g:=gb200) (o:=.cells #[.slice none 0 0,.slice none 0 0] 26 (0,0)) (by exact BK200.out)) : gb200 ≠ gb209)); have n10_:=Aside0.mk ((by rw [hg]; exact Nat.ne_of_gt (blk_lt (g:=gb200) (o:=.cells #[.slice none 0 0,.slice none 0 0] 26 (0,0)) (by exact BK200.out)) : gb209 ≠ gb200)); have n11_:=Aside0.mk ((by rw [hg]; exact Nat.ne_of_lt (IsS69.lt (show IsS69 w0 _ g s0_0 t207 t208 from by repeat (((with_reducible (exact HI0.out)))))) : g ≠ gb209)); have n12_:=Aside0.mk ((by rw [hg]; exact Nat.ne_of_gt (IsS69.lt (show IsS69 w0 _ g s0_0 t207 t208 from by repeat (((with_reducible (exact HI0.out)))))) : gb209 ≠ g)); clear HO203; clear HO206; clear HI0; clear BK200; clear HK; clear HB; have HO203:=n0_; have HO206:=n1_; have HI0:=n2_; have BK200:=n3_; have HK:=n4_; have HB:=n5_; have BK209:=n6_; have GW209:=n7_; have GE209:=n8_; have NB200_209:=n9_; have NB209_200:=n10_; have NB0_209:=n11_; have NB209_0:=n12_; clear n0_ n1_ n2_ n3_ n4_ n5_ n6_ n7_ n8_ n9_ n10_ n11_ n12_; clear hb hbox hg; obtain ⟨Ao14,co14,eo14⟩:=Kd.R_slice HO203.out; subst eo14; have hnb15:=NB209_200.out; have hnc15:=NB200_209.out; have hnb16:=NB209_0.out; have hnc16:=NB0_209.out; have hcz17_0 : w13.cell? ⟨gb209,0,none⟩ = some (.slice none 0 0):=(blk_cell BK209.out 0).trans rfl; have hcz17_1 : w13.cell? ⟨gb209,1,none⟩ = some (.slice none 0 0):=(blk_cell BK209.out 1).trans rfl; have hfz17_0:=blk_frozen BK209.out 0; have hfz17_1:=blk_frozen BK209.out 1; obtain ⟨Ao18,co18,eo18⟩:=Kd.R_slice HO206.out; subst eo18)|((with_reducible refine gate_callee (f:=47) rfl ?_); refine goesL_ (some 11) rfl rfl Tryz.func47 (by kernel_rfl) rfl #[.pointer (some ⟨g,0,none⟩),.int .i64 (t201.length : Int)] rfl (by (try simp only [List.map_toArray,List.map_cons,List.map_nil]); (rfl)) ?_; (with_reducible refine (spec_l1Cur_pick.calls g s0_0 t207 t208 (t201.length : Int) t210 t211 t212 w0 _ ?side1 ?side2 A3.out).mono ?_); (case side1 => repeat (with_reducible first|exact HI0.out|refine IsS69.far ?_ NB0_209.out _)); (case side2 => repeat (with_reducible first|exact HB.out|refine below_set ?_ GE209.out)); rintro e w19 ⟨rfl,hi,hb,hk⟩; refine ⟨_,rfl,?_⟩; have n0_:=Aside0.mk (KeepBut.blk hk (g':=gb200) (o:=.cells #[.slice none 0 0,.slice none 0 0] 26 (0,0)) (by refine blk_far ?_ NB200_209.out _; refine blk_far ?_ NB200_209.out _; exact BK200.out) NB200_0.out (by simp)); have n1_:=Aside0.mk (Kd.R_mono (Kd.R_keep (IsS69.apart (show IsS69 w0 _ g s0_0 t207 t208 from by repeat (with_reducible first|exact HI0.out|refine IsS69.far ?_ NB0_209.out _)) (by exact (Kd.R_mono (Kd.R_far (p:=⟨gb209,1,none⟩) (Kd.R_far (p:=⟨gb209,0,none⟩) (Kd.R_types HO203.out BK209.out (by decide)) (fun _ hk => hk.2) (.slice Ao14 t201.length co14)) (fun _ hk => hk.2) (.slice Ao18 t204.length co18)) (fun _ h_ => h_.1))) (by decide)) hk (fun _ h => h.2)) (fun _ h => h.1)); have n2_:=Aside0.mk (Kd.R_mono (Kd.R_keep (IsS69.apart (show IsS69 w0 _ g s0_0 t207 t208 from by repeat (with_reducible first|exact HI0.out|refine IsS69.far ?_ NB0_209.out _)) (by exact (Kd.R_mono (Kd.R_far (p:=⟨gb209,1,none⟩) (Kd.R_far (p:=⟨gb209,0,none⟩) (Kd.R_types HO206.out BK209.out (by decide)) (fun _ hk => hk.2) (.slice Ao14 t201.length co14)) (fun _ hk => hk.2) (.slice Ao18 t204.length co18)) (fun _ h_ => h_.1))) (by decide)) hk (fun _ h => h.2)) (fun _ h => h.1)); have n3_:=Aside0.mk (KeepBut.blk hk (g':=gb209) (o:=.cells #[.slice Ao14 t201.length co14,.slice Ao18 t204.length co18] 26 (0,0)) (by refine blk_put (cs:=#[.slice Ao14 t201.length co14,.slice none 0 0]) ?_ 1 _ rfl; refine blk_put (cs:=#[.slice none 0 0,.slice none 0 0]) ?_ 0 _ rfl; exact BK209.out) NB209_0.out (by simp)); have n4_:=Aside0.mk (KeepBut.trans (by repeat (with_reducible first|exact HK.out|refine keep_far ?_ GW209.out _)) hk (.inl rfl)); have n5_:=Aside0.mk (hb); have n6_:=Aside0.mk (hi); clear BK200; clear HO203; clear HO206; clear BK209; clear HK; clear HB; clear HI0; have BK200:=n0_; have HO203:=n1_; have HO206:=n2_; have BK209:=n3_; have HK:=n4_; have HB:=n5_; have HI0:=n6_; clear n0_ n1_ n2_ n3_ n4_ n5_ n6_; (try clear hb); (try clear hb2); (try clear hk); (try clear hi))|((with_reducible refine gate_callee (f:=47) rfl ?_); refine goesL_ (some 13) rfl rfl Tryz.func47 (by kernel_rfl) rfl #[.pointer (some ⟨g,0,none⟩),.int .i64 30] rfl (by (try simp only [List.map_toArray,List.map_cons,List.map_nil]); (rfl)) ?_; (with_reducible refine (spec_l1Cur_pick.calls g s0_0 t211 t212 30 t213 t214 t215 w0 _ ?side1 ?side2 A4.out).mono ?_); (case side1 => repeat (((with_reducible (exact HI0.out))))); (case side2 => repeat (((with_reducible (exact HB.out))))); rintro e w20 ⟨rfl,hi,hb,hk⟩; refine ⟨_,rfl,?_⟩; have n0_:=Aside0.mk (KeepBut.blk hk (g':=gb200) (o:=.cells #[.slice none 0 0,.slice none 0 0] 26 (0,0)) (by exact BK200.out) NB200_0.out (by simp)); have n1_:=Aside0.mk (Kd.R_mono (Kd.R_keep (IsS69.apart (show IsS69 w0 _ g s0_0 t211 t212 from by repeat (((with_reducible (exact HI0.out))))) (by exact HO203.out) (by decide)) hk (fun _ h => h.2)) (fun _ h => h.1)); have n2_:=Aside0.mk (Kd.R_mono (Kd.R_keep (IsS69.apart (show IsS69 w0 _ g s0_0 t211 t212 from by repeat (((with_reducible (exact HI0.out))))) (by exact HO206.out) (by decide)) hk (fun _ h => h.2)) (fun _ h => h.1)); have n3_:=Aside0.mk (KeepBut.blk hk (g':=gb209) (o:=.cells #[.slice Ao14 t201.length co14,.slice Ao18 t204.length co18] 26 (0,0)) (by exact BK209.out) NB209_0.out (by simp)); have n4_:=Aside0.mk (KeepBut.trans (by repeat (((with_reducible (exact HK.out))))) hk (.inl rfl)); have n5_:=Aside0.mk (hb); have n6_:=Aside0.mk (hi); clear BK200; clear HO203; clear HO206; clear BK209; clear HK; clear HB; clear HI0; have BK200:=n0_; have HO203:=n1_; have HO206:=n2_; have BK209:=n3_; have HK:=n4_; have HB:=n5_; have HI0:=n6_; clear n0_ n1_ n2_ n3_ n4_ n5_ n6_; (try clear hb); (try clear hb2); (try clear hk); (try clear hi)))
 have H:=HF_.out
 clear HF_
 by_cases c5 : t213 = 0
 ·rw [if_pos c5] at H
  have c5b0 : (t213 == 0) = true:=beq_iff_eq.mpr c5
  have c5b1 : (t213 != 0) = false:=bne_eq_false_iff_eq.mpr c5
  clear c5
  by_cases c6 : 0 < (t201.length : Int)
  ·rw [if_pos c6] at H
   have c6b0 : decide (0 < (t201.length : Int)) = true:=decide_eq_true c6
   have c6b1 : decide (0 < t201.length) = true:=decide_eq_true (by omega)
   clear c6
   obtain ⟨y217,hy217⟩ : ∃ y_ : List Int,y_ = ([0,9,10,rd t201 0] : List Int):=⟨_,rfl⟩
   replace H : ((spec_l1Cur_among.f s0_0 t214 t215 y217).bind fun bt220 => (if 0 ≤ t210 then (if t210 < (t201.length : Int) then (some ((t201.set (t210 : Int).toNat bt220.1),t204,bt220.2.1,bt220.2.2)) else (none)) else (none))) = some (r1,r2,r3,r4):=by (rw [hy217]; with_reducible exact H)
   have Ny217:=Aside0.mk hy217
   clear hy217
   replace H:=Option.bind_eq_some_iff.mp H
   obtain ⟨⟨t220,t221,t222⟩,A70,H⟩:=H
   replace H : (if 0 ≤ t210 then (if t210 < (t201.length : Int) then (some ((t201.set (t210 : Int).toNat t220),t204,t221,t222)) else (none)) else (none)) = some (r1,r2,r3,r4):=H
   have A7:=Aside0.mk A70
   clear A70
   by_cases c8 : 0 ≤ t210
   ·rw [if_pos c8] at H
    have c8b0 : decide (0 ≤ t210) = true:=decide_eq_true c8
    clear c8
    by_cases c9 : t210 < (t201.length : Int)
    ·rw [if_pos c9] at H
     have c9b0 : decide (t210 < (t201.length : Int)) = true:=decide_eq_true c9
     clear c9
     obtain ⟨y223,hy223⟩ : ∃ y_ : List Int,y_ = (t201.set (t210 : Int).toNat t220):=⟨_,rfl⟩
     replace H : (some (y223,t204,t221,t222)) = some (r1,r2,r3,r4):=by (rw [hy223]; with_reducible exact H)
     have Ny223:=Aside0.mk hy223
     clear hy223
     simp only [Option.some.injEq,Prod.mk.injEq] at H
     obtain ⟨rfl,rfl,rfl,rfl⟩:=H
     try go_wp2
     have n0_:=Aside0.mk (Kd.R_drew HO203.out)
     have n1_:=Aside0.mk (Kd.R_drew HO206.out)
     have n2_:=Aside0.mk (blk_drew BK200.out)
     have n3_:=Aside0.mk (blk_drew BK209.out)
     have n4_:=Aside0.mk (IsS69.drew HI0.out)
     have n5_:=Aside0.mk (keep_drew HK.out)
     have n6_:=Aside0.mk (below_drew1 HB.out)
     clear HO203
     clear HO206
     clear BK200
     clear BK209
     clear HI0
     clear HK
     clear HB
     have HO203:=n0_
     have HO206:=n1_
     have BK200:=n2_
     have BK209:=n3_
     have HI0:=n4_
     have HK:=n5_
     have HB:=n6_
     clear n0_ n1_ n2_ n3_ n4_ n5_ n6_
     have p216 : 0 ≤ (0 : Int):=(by omega)
     have q216 : 0 < (t201.length : Int):=of_decide_eq_true (by (with_reducible assumption))
     obtain ⟨ad216,e216,hx216_0⟩:=Kd.at_int (Kd.R_reads' HO203.out).2.2 0 p216 q216
     cases e216
     have qi216 : (0 < t201.length) = True:=eq_true (by omega)
     (try rw [show (0 : Int).toNat = 0 from rfl] at hx216_0)
     (try rw [Addr.add_zero'] at hx216_0)
     replace p216:=eq_true p216
     replace q216:=eq_true q216
     refine start_ (n:=12) (S:=fun w' => w'.cell? ⟨gb209,0,none⟩ = some (.slice (some ad216) t201.length co14) ∧ w'.cell? ⟨gb209,1,none⟩ = some (.slice Ao18 t204.length co18) ∧ w'.cell? ad216 = some (.int .i64 (rd t201 0))) (ds:=[11]) (bdc0 12 0) (by kernel_rfl) rfl rfl ⟨(blk_cell BK209.out 0).trans rfl,(blk_cell BK209.out 1).trans rfl,hx216_0⟩ (fun hHeld => ?_); refine with_tabW spec_l1Cur_anyRotation.tab5 spec_l1Cur_anyRotation.bits5 (fun HT_ HW_ => ?_)
     generalize w20.drew = w21 at HO203 HO206 BK200 BK209 HI0 HK HB hx216_0 hHeld ⊢
     refine pure_ (i:=0) (N:=some 16) (v:=?_) (a':=?_) (bdc0 12 1) rfl rfl (any_of HT_.out (by kernel_rfl)) (fun _ _ _ h => h) (Or.inl ⟨by rfl,?_⟩) ?_ ?_
     rotate_left
     ·intro w'
      go_simp
      with_reducible rfl
     rotate_left
     ·simp only [Act.put,List.setIfInBounds_toArray,List.set_cons_zero,List.set_cons_succ,i64_w,i32_w]
      rfl
     refine pure_ (i:=2) (N:=some 18) (v:=?_) (a':=?_) (bdc0 12 5) rfl rfl (any_of HT_.out (by kernel_rfl)) (fun _ _ _ h => h) (Or.inl ⟨by rfl,?_⟩) ?_ ?_
     rotate_left
     ·intro w'
      go_simp
      with_reducible rfl
     rotate_left
     ·simp only [Act.put,List.setIfInBounds_toArray,List.set_cons_zero,List.set_cons_succ,i64_w,i32_w]
      rfl
     refine pure_ (i:=3) (N:=some 19) (v:=?_) (a':=?_) (bdc0 12 13) rfl rfl (any_of HT_.out (by kernel_rfl)) (fun _ _ _ h => h) (Or.inl ⟨by rfl,?_⟩) ?_ ?_
     rotate_left
     ·intro w'
      go_simp
      with_reducible rfl
     rotate_left
     ·simp only [Act.put,List.setIfInBounds_toArray,List.set_cons_zero,List.set_cons_succ,i64_w,i32_w]
      rfl
     refine pure_ (i:=4) (N:=some 20) (v:=?_) (a':=?_) (bdc0 12 29) rfl rfl (any_of HT_.out (by kernel_rfl)) (fun _ _ _ h => h) (Or.inl ⟨by rfl,?_⟩) ?_ ?_
     rotate_left
     ·intro w'
      go_simp
      with_reducible rfl
     rotate_left
     ·simp only [Act.put,List.setIfInBounds_toArray,List.set_cons_zero,List.set_cons_succ,i64_w,i32_w]
      rfl
     refine take_ (i:=1) (N:=some 17) (v:=?_) (a':=?_) (bdc0 12 31) rfl rfl (take_ofW HT_.out HW_.out (by kernel_rfl)) (fun _ _ _ h => h) (Or.inl ⟨by rfl,?_⟩) hHeld ?_ ?_
     rotate_left
     ·rintro w' ⟨s0,s1,s2⟩
      go_simp
      with_reducible rfl
     rotate_left
     ·simp only [Act.put,List.setIfInBounds_toArray,List.set_cons_zero,List.set_cons_succ,i64_w,i32_w]
      rfl
     refine take_ (i:=5) (N:=some 21) (v:=?_) (a':=?_) (bdc0 12 63) rfl rfl (take_ofW HT_.out HW_.out (by kernel_rfl)) (fun _ _ _ h => h) (Or.inl ⟨by rfl,?_⟩) hHeld ?_ ?_
     rotate_left
     ·rintro w' ⟨s0,s1,s2⟩
      go_simp
      with_reducible rfl
     rotate_left
     ·simp only [Act.put,List.setIfInBounds_toArray,List.set_cons_zero,List.set_cons_succ,i64_w,i32_w]
      rfl
     refine pure_ (i:=6) (N:=some 22) (v:=?_) (a':=?_) (bdc0 12 127) rfl rfl (any_of HT_.out (by kernel_rfl)) (fun _ _ _ h => h) (Or.inl ⟨by rfl,?_⟩) ?_ ?_
     rotate_left
     ·intro w'
      go_simp
      with_reducible rfl
     rotate_left
     ·simp only [Act.put,List.setIfInBounds_toArray,List.set_cons_zero,List.set_cons_succ,i64_w,i32_w]
      rfl
     refine take_ (i:=7) (N:=some 23) (v:=?_) (a':=?_) (bdc0 12 255) rfl rfl (take_ofW HT_.out HW_.out (by kernel_rfl)) (fun _ _ _ h => h) (Or.inl ⟨by rfl,?_⟩) hHeld ?_ ?_
     rotate_left
     ·rintro w' ⟨s0,s1,s2⟩
      go_simp
      with_reducible rfl
     rotate_left
     ·simp only [Act.put,List.setIfInBounds_toArray,List.set_cons_zero,List.set_cons_succ,i64_w,i32_w]
      rfl
     refine one_ (i:=8) (N:=some 24) (bdc0 12 511) rfl rfl (one_of HT_.out (by kernel_rfl)) (by decide) (fun K hK => ?_)
     refine Kd.R_lit_step (Kd.int .i64) _ 3 ?hg (N:=24) ?hd (xs:=([0,9,10,rd t201 0] : List Int)) (inner:=[.int .i64 0,.int .i64 9,.int .i64 10,.int .i64 (rd t201 0)]) (ok:=fun _ => True) (okp:=fun _ => True) ?hr ?hp (fun _ hk => hk) trivial (Below.refl _ _) (Nat.le_refl _) (by simp) ?_; (case hd => rfl); (case hg => rfl); (case hr => (go_simp; done)); (case hp => exact (Reps.one (show Kd.M (Kd.int .i64) _ _ _ 0 [.int .i64 0] from rfl) (Reps.one (show Kd.M (Kd.int .i64) _ _ _ 9 [.int .i64 9] from rfl) (Reps.one (show Kd.M (Kd.int .i64) _ _ _ 10 [.int .i64 10] from rfl) (Reps.one (show Kd.M (Kd.int .i64) _ _ _ (rd t201 0) [.int .i64 (rd t201 0)] from rfl) (Reps.none _ _))))))
     intro v218 w22 ho23 hb hg_ hnew_
     have HS2_:=(hb.cell (World.block_lt_of_cell? _ _ (hHeld.2.2))).trans (hHeld.2.2)
     clear hg_ hnew_
     (rw [← Ny217.out] at ho23)
     have n0_:=Aside0.mk (Kd.R_elder' (by exact HO203.out) (Kd.R_base ho23) hb)
     have n1_:=Aside0.mk (Kd.R_elder' (by exact HO206.out) (Kd.R_base ho23) hb)
     have n2_:=Aside0.mk (Kd.R_lower (Kd.R_new' (Kd.R_new' ho23 (Kd.R_lt (by exact HO203.out))) (Kd.R_lt (by exact HO206.out))) (keep_size (w:=w) (g:=g) (row:=none) (by repeat (((with_reducible (exact HK.out)))))))
     have n3_:=Aside0.mk (IsS69.below (by repeat (((with_reducible (exact HI0.out))))) hb)
     have n4_:=Aside0.mk (blk_below (g:=gb200) (o:=.cells #[.slice none 0 0,.slice none 0 0] 26 (0,0)) (by exact BK200.out) hb)
     have n5_:=Aside0.mk (blk_below (g:=gb209) (o:=.cells #[.slice (some ad216) t201.length co14,.slice Ao18 t204.length co18] 26 (0,0)) (by exact BK209.out) hb)
     have n6_:=Aside0.mk (KeepBut.trans (by repeat (((with_reducible (exact HK.out))))) (KeepBut.of_below hb g none) (.inl rfl))
     have n7_:=Aside0.mk (below_step (by repeat (((with_reducible (exact HB.out))))) hb)
     clear HO203
     clear HO206
     clear HI0
     clear BK200
     clear BK209
     clear HK
     clear HB
     have HO203:=n0_
     have HO206:=n1_
     have HO219:=n2_
     have HI0:=n3_
     have BK200:=n4_
     have BK209:=n5_
     have HK:=n6_
     have HB:=n7_
     clear n0_ n1_ n2_ n3_ n4_ n5_ n6_ n7_
     clear hb ho23
     obtain ⟨Ao24,co24,eo24⟩:=Kd.R_slice HO219.out
     (subst eo24)
     refine hK.out _ _ ⟨(blk_cell BK209.out 0).trans rfl,(blk_cell BK209.out 1).trans rfl,HS2_⟩ (fun hHeld => ?_)
     clear hK K
     refine norm_ (a':=?_) ?_ ?_
     rotate_left
     ·show Act.put _ (some 24) _ = _
      simp only [Act.put,List.setIfInBounds_toArray,List.set_cons_zero,List.set_cons_succ,i64_w,i32_w]
      rfl
     refine one_ (i:=9) (N:=some 25) (bdc0 12 1023) rfl rfl (one_of HT_.out (by kernel_rfl)) (by decide) (fun K hK => ?_)
     refine goes_ Tryz.func48 (by kernel_rfl) rfl #[.pointer (some ⟨g,0,none⟩),.slice Ao24 y217.length co24] (by rfl) rfl rfl (by (try simp only [List.map_toArray,List.map_cons,List.map_nil]); (rfl)) ?_
     with_reducible refine (spec_l1Cur_among.calls g s0_0 t214 t215 _ _ y217 t220 t221 t222 w0 _ ?side1 ?side2 ?side3 ?side4 ?side5 A7.out).mono ?_
     (case side1 => repeat (((with_reducible (exact HI0.out)))))
     (case side2 => repeat (((with_reducible (exact HB.out)))))
     (case side3 => repeat ((exact (Kd.R_reads' HO219.out).2.2)))
     (case side4 => exact (Kd.R_reads' HO219.out).2.1)
     (case side5 => exact far_slice (IsS69.own_ne HI0.out HO219.out (by decide)))
     rintro e w25 ⟨rfl,hi,hb,hk⟩
     have HS2_:=keep_cell hk (hHeld.2.2) (by (exact Kd.own_blk (IsS69.own_ne HI0.out HO203.out (by decide))))
     refine ⟨_,rfl,?_⟩
     have n0_:=Aside0.mk (KeepBut.blk hk (g':=gb200) (o:=.cells #[.slice none 0 0,.slice none 0 0] 26 (0,0)) (by exact BK200.out) NB200_0.out (by simp))
     have n1_:=Aside0.mk (Kd.R_mono (Kd.R_keep (IsS69.apart (show IsS69 w0 _ g s0_0 t214 t215 from by repeat (((with_reducible (exact HI0.out))))) (by exact HO203.out) (by decide)) hk (fun _ h => h.2)) (fun _ h => h.1))
     have n2_:=Aside0.mk (Kd.R_mono (Kd.R_keep (IsS69.apart (show IsS69 w0 _ g s0_0 t214 t215 from by repeat (((with_reducible (exact HI0.out))))) (by exact HO206.out) (by decide)) hk (fun _ h => h.2)) (fun _ h => h.1))
     have n3_:=Aside0.mk (KeepBut.blk hk (g':=gb209) (o:=.cells #[.slice (some ad216) t201.length co14,.slice Ao18 t204.length co18] 26 (0,0)) (by exact BK209.out) NB209_0.out (by simp))
     have n4_:=Aside0.mk (Kd.R_mono (Kd.R_keep (IsS69.apart (show IsS69 w0 _ g s0_0 t214 t215 from by repeat (((with_reducible (exact HI0.out))))) (by exact HO219.out) (by decide)) hk (fun _ h => h.2)) (fun _ h => h.1))
     have n5_:=Aside0.mk (KeepBut.trans (by repeat (((with_reducible (exact HK.out))))) hk (.inl rfl))
     have n6_:=Aside0.mk (hb)
     have n7_:=Aside0.mk (hi)
     clear BK200
     clear HO203
     clear HO206
     clear BK209
     clear HO219
     clear HK
     clear HB
     clear HI0
     have BK200:=n0_
     have HO203:=n1_
     have HO206:=n2_
     have BK209:=n3_
     have HO219:=n4_
     have HK:=n5_
     have HB:=n6_
     have HI0:=n7_
     clear n0_ n1_ n2_ n3_ n4_ n5_ n6_ n7_
     (try clear hb)
     (try clear hb2)
     (try clear hk)
     (try clear hi)
     have p10 : 0 ≤ (t210 : Int):=of_decide_eq_true (by (with_reducible assumption))
     have q10 : (t210 : Int) < ((t201.length : Int) : Int):=of_decide_eq_true (by (with_reducible assumption))
     obtain ⟨go10,co10,eo10,gb10,gl10,cl10,HG10⟩:=Kd.R_form HO203.out (by omega)
     (cases eo10)
     have GB10:=Aside0.mk gb10
     have GG10:=Aside0.mk HG10
     clear gb10 gl10 HG10
     (skip)
     obtain ⟨hx10_0,hf10_0⟩:=Kd.R_celln 0 HO203.out (t210 : Int) p10 q10
     replace p10:=eq_true p10
     replace q10:=eq_true q10
     have HN0_go10:=Aside0.mk (show g ≠ go10 from by have h_:=IsS69.own_ne HI0.out HO203.out (by decide); intro e_; exact h_ (by rw [e_]; rfl))
     have HP26:=Kd.R_putn HO203.out (t210 : Int) t220
     rw [← Ny223.out] at HP26
     have HQ26:=Aside0.mk HP26
     clear HP26
     refine hK.out _ _ ⟨(blk_cell BK209.out 0).trans rfl,(blk_cell BK209.out 1).trans rfl,HS2_⟩ (fun hHeld => ?_)
     clear hK K
     refine norm_ (a':=?_) ?_ ?_
     rotate_left
     ·show Act.put _ (some 25) _ = _
      simp only [Act.put,List.setIfInBounds_toArray,List.set_cons_zero,List.set_cons_succ,i64_w,i32_w]
      rfl
     refine pure_ (i:=10) (N:=some 26) (v:=?_) (a':=?_) (bdc0 12 2047) rfl rfl (any_of HT_.out (by kernel_rfl)) (fun _ _ _ h => h) (Or.inl ⟨by rfl,?_⟩) ?_ ?_
     rotate_left
     ·intro w'
      go_simp
      with_reducible rfl
     rotate_left
     ·simp only [Act.put,List.setIfInBounds_toArray,List.set_cons_zero,List.set_cons_succ,i64_w,i32_w]
      rfl
     refine last_ (i:=11) (N:=none) (bdc0 12 4095) rfl rfl (one_of HT_.out (by kernel_rfl)) (by decide) (fun K hK => ?_)
     refine skip_ (w1:=?_) (by rfl) rfl ?_ ?_
     rotate_left
     ·go_simp
      rfl
     refine hK.out _ _ ?_
     clear hK K
     refine done_ (done_of HT_.out (by kernel_rfl)) ?_
     have n0_ : Aside0 (Kd.R (Kd.int .i64) 3 (w25.setCell ⟨go10,(t210 : Int).toNat,none⟩ (.int .i64 t220)) w.heap.size (fun k_ => some k_ ≠ (.slice Ao18 t204.length co18 : Value).ownBlock ∧ some k_ ≠ (.slice Ao24 y217.length co24 : Value).ownBlock) (.slice (some ⟨go10,0,none⟩) t201.length co14) y223):=⟨by exact HQ26.out⟩
     have n1_ : Aside0 (Kd.R (Kd.int .i64) 3 (w25.setCell ⟨go10,(t210 : Int).toNat,none⟩ (.int .i64 t220)) w.heap.size (fun k_ => some k_ ≠ (.slice (some ⟨go10,0,none⟩) t201.length co14 : Value).ownBlock ∧ some k_ ≠ (.slice Ao24 y217.length co24 : Value).ownBlock) (.slice Ao18 t204.length co18) t204):=⟨by exact Kd.R_mono (Kd.R_far (p:=⟨go10,(t210 : Int).toNat,none⟩) (Kd.R_mono HO206.out (fun k_ hk => (⟨hk,fun e_ => hk.1 (by rw [e_]; rfl)⟩ : _ ∧ k_ ≠ go10))) (fun _ hk => hk.2) (.int .i64 t220)) (fun _ hk => ⟨hk.1.1,hk.1.2⟩)⟩
     have n2_ : Aside0 (Kd.R (Kd.int .i64) 3 (w25.setCell ⟨go10,(t210 : Int).toNat,none⟩ (.int .i64 t220)) w.heap.size (fun k_ => some k_ ≠ (.slice (some ⟨go10,0,none⟩) t201.length co14 : Value).ownBlock ∧ some k_ ≠ (.slice Ao18 t204.length co18 : Value).ownBlock) (.slice Ao24 y217.length co24) y217):=⟨by exact Kd.R_mono (Kd.R_far (p:=⟨go10,(t210 : Int).toNat,none⟩) (Kd.R_mono HO219.out (fun k_ hk => (⟨hk,fun e_ => hk.1.2 (by rw [e_]; rfl)⟩ : _ ∧ k_ ≠ go10))) (fun _ hk => hk.2) (.int .i64 t220)) (fun _ hk => ⟨hk.1.1.2,hk.1.2⟩)⟩
     have n3_ : Aside0 ((w25.setCell ⟨go10,(t210 : Int).toNat,none⟩ (.int .i64 t220)).heap[gb200]? = some (.cells #[.slice none 0 0,.slice none 0 0] 26 (0,0))):=⟨by refine blk_far ?_ (by have h_:=Kd.R_ne HO203.out BK200.out (by decide); intro e_; exact h_ (by rw [e_]; rfl)) _; exact BK200.out⟩
     have n4_ : Aside0 ((w25.setCell ⟨go10,(t210 : Int).toNat,none⟩ (.int .i64 t220)).heap[gb209]? = some (.cells #[.slice (some ⟨go10,0,none⟩) t201.length co14,.slice Ao18 t204.length co18] 26 (0,0))):=⟨by refine blk_far ?_ (by have h_:=Kd.R_ne HO203.out BK209.out (by decide); intro e_; exact h_ (by rw [e_]; rfl)) _; exact BK209.out⟩
     have n5_ : Aside0 (IsS69 w0 (w25.setCell ⟨go10,(t210 : Int).toNat,none⟩ (.int .i64 t220)) g s0_0 t221 t222):=⟨by repeat (with_reducible first|exact HI0.out|refine IsS69.far ?_ HN0_go10.out _)⟩
     have n6_ : Aside0 (KeepBut w (w25.setCell ⟨go10,(t210 : Int).toNat,none⟩ (.int .i64 t220)) g none):=⟨by repeat (with_reducible first|exact HK.out|refine keep_far ?_ GB10.out _)⟩
     have n7_ : Aside0 (Below w0.heap.size w0 (w25.setCell ⟨go10,(t210 : Int).toNat,none⟩ (.int .i64 t220))):=⟨by repeat (((with_reducible first|exact HB.out|refine below_set ?_ (Nat.le_trans HL.out GB10.out))))⟩
     (try clear HO203)
     (try clear HO206)
     (try clear HO219)
     (try clear BK200)
     (try clear BK209)
     (try clear HI0)
     (try clear HK)
     (try clear HB)
     generalize (w25.setCell ⟨go10,(t210 : Int).toNat,none⟩ (.int .i64 t220)) = w27 at n0_ n1_ n2_ n3_ n4_ n5_ n6_ n7_ ⊢
     have HO203:=n0_
     have HO206:=n1_
     have HO219:=n2_
     have BK200:=n3_
     have BK209:=n4_
     have HI0:=n5_
     have HK:=n6_
     have HB:=n7_
     clear n0_ n1_ n2_ n3_ n4_ n5_ n6_ n7_
     have hcz28_0 : w27.cell? ⟨gb209,0,none⟩ = some (.slice (some ⟨go10,0,none⟩) t201.length co14):=(blk_cell BK209.out 0).trans rfl
     have hcz28_1 : w27.cell? ⟨gb209,1,none⟩ = some (.slice Ao18 t204.length co18):=(blk_cell BK209.out 1).trans rfl
     have hfz28_0:=blk_frozen BK209.out 0
     have hfz28_1:=blk_frozen BK209.out 1
     have hnb29:=NB200_0.out
     have hnc29:=NB0_200.out
     have hcz30_0 : w27.cell? ⟨gb200,0,none⟩ = some (.slice none 0 0):=(blk_cell BK200.out 0).trans rfl
     have hcz30_1 : w27.cell? ⟨gb200,1,none⟩ = some (.slice none 0 0):=(blk_cell BK200.out 1).trans rfl
     have hfz30_0:=blk_frozen BK200.out 0
     have hfz30_1:=blk_frozen BK200.out 1
     try go_wp2
     refine bodyPost_ret (results_cell_row rfl _ _ gb200 26 #[.slice (some ⟨go10,0,none⟩) t201.length co14,.slice Ao18 t204.length co18] (0,0) _ rfl (by refine blk_put (cs:=#[.slice (some ⟨go10,0,none⟩) t201.length co14,.slice none 0 0]) ?_ 1 _ rfl; refine blk_put (cs:=#[.slice none 0 0,.slice none 0 0]) ?_ 0 _ rfl; exact BK200.out) Tryz.underlying26 rfl (by kernel_rfl)) rfl ?_
     exact ⟨_,_,by (rfl),by exact Kd.R_mono (Kd.R_far (p:=⟨gb200,1,none⟩) (Kd.R_far (p:=⟨gb200,0,none⟩) (Kd.R_types HO203.out BK200.out (by decide)) (fun _ hk => hk.2) (.slice (some ⟨go10,0,none⟩) t201.length co14)) (fun _ hk => hk.2) (.slice Ao18 t204.length co18)) (fun _ hk => hk.1.1),Kd.Q_of_R (by exact Kd.R_mono (Kd.R_far (p:=⟨gb200,1,none⟩) (Kd.R_far (p:=⟨gb200,0,none⟩) (Kd.R_types HO206.out BK200.out (by decide)) (fun _ hk => hk.2) (.slice (some ⟨go10,0,none⟩) t201.length co14)) (fun _ hk => hk.2) (.slice Ao18 t204.length co18)) (fun _ hk => hk.1.1)),by repeat (with_reducible first|exact HI0.out|refine IsS69.far ?_ NB0_200.out _),by repeat (with_reducible first|exact HB.out|refine below_set ?_ GE200.out),by repeat (with_reducible first|exact HK.out|refine keep_far ?_ GW200.out _)⟩
    ·rw [if_neg c9] at H
     exact absurd H (by simp)
   ·rw [if_neg c8] at H
    exact absurd H (by simp)
  ·rw [if_neg c6] at H
   exact absurd H (by simp)
 ·rw [if_neg c5] at H
  have c5b0 : (t213 == 0) = false:=beq_eq_false_iff_ne.mpr c5
  have c5b1 : (t213 != 0) = true:=bne_iff_ne.mpr c5
  by_cases c31 : t213 = 1
  ·rw [if_pos c31] at H
   have c31b0 : (t213 == 1) = true:=beq_iff_eq.mpr c31
   have c31b1 : (t213 != 1) = false:=bne_eq_false_iff_eq.mpr c31
   clear c31
   obtain ⟨y224,hy224⟩ : ∃ y_ : List Int,y_ = ([0,40,41] : List Int):=⟨_,rfl⟩
   replace H : ((spec_l1Cur_among.f s0_0 t214 t215 y224).bind fun bt227 => (if 0 ≤ t210 then (if t210 < (t204.length : Int) then (some (t201,(t204.set (t210 : Int).toNat bt227.1),bt227.2.1,bt227.2.2)) else (none)) else (none))) = some (r1,r2,r3,r4):=by (rw [hy224]; with_reducible exact H)
   have Ny224:=Aside0.mk hy224
   clear hy224
   replace H:=Option.bind_eq_some_iff.mp H
   obtain ⟨⟨t227,t228,t229⟩,A320,H⟩:=H
   replace H : (if 0 ≤ t210 then (if t210 < (t204.length : Int) then (some (t201,(t204.set (t210 : Int).toNat t227),t228,t229)) else (none)) else (none)) = some (r1,r2,r3,r4):=H
   have A32:=Aside0.mk A320
   clear A320
   by_cases c33 : 0 ≤ t210
   ·rw [if_pos c33] at H
    have c33b0 : decide (0 ≤ t210) = true:=decide_eq_true c33
    clear c33
    by_cases c34 : t210 < (t204.length : Int)
    ·rw [if_pos c34] at H
     have c34b0 : decide (t210 < (t204.length : Int)) = true:=decide_eq_true c34
     clear c34
     obtain ⟨y230,hy230⟩ : ∃ y_ : List Int,y_ = (t204.set (t210 : Int).toNat t227):=⟨_,rfl⟩
     replace H : (some (t201,y230,t228,t229)) = some (r1,r2,r3,r4):=by (rw [hy230]; with_reducible exact H)
     have Ny230:=Aside0.mk hy230
     clear hy230
     simp only [Option.some.injEq,Prod.mk.injEq] at H
     obtain ⟨rfl,rfl,rfl,rfl⟩:=H
     try go_wp2
     have n0_:=Aside0.mk (Kd.R_drew HO203.out)
     have n1_:=Aside0.mk (Kd.R_drew HO206.out)
     have n2_:=Aside0.mk (blk_drew BK200.out)
     have n3_:=Aside0.mk (blk_drew BK209.out)
     have n4_:=Aside0.mk (IsS69.drew HI0.out)
     have n5_:=Aside0.mk (keep_drew HK.out)
     have n6_:=Aside0.mk (below_drew1 HB.out)
     clear HO203
     clear HO206
     clear BK200
     clear BK209
     clear HI0
     clear HK
     clear HB
     have HO203:=n0_
     have HO206:=n1_
     have BK200:=n2_
     have BK209:=n3_
     have HI0:=n4_
     have HK:=n5_
     have HB:=n6_
     clear n0_ n1_ n2_ n3_ n4_ n5_ n6_
     refine start_ (n:=8) (S:=fun w' => w'.cell? ⟨gb209,0,none⟩ = some (.slice Ao14 t201.length co14) ∧ w'.cell? ⟨gb209,1,none⟩ = some (.slice Ao18 t204.length co18)) (ds:=[7]) #[false,false,false,false,false,false,false,false] (by kernel_rfl) rfl rfl ⟨(blk_cell BK209.out 0).trans rfl,(blk_cell BK209.out 1).trans rfl⟩ (fun hHeld => ?_); refine with_tabW spec_l1Cur_anyRotation.tab7 spec_l1Cur_anyRotation.bits7 (fun HT_ HW_ => ?_)
     generalize w20.drew = w46 at HO203 HO206 BK200 BK209 HI0 HK HB hHeld ⊢
     refine pure_ (i:=0) (N:=some 29) (v:=?_) (a':=?_) #[true,false,false,false,false,false,false,false] rfl rfl (any_of HT_.out (by kernel_rfl)) (fun _ _ _ h => h) (Or.inl ⟨by rfl,?_⟩) ?_ ?_
     rotate_left
     ·intro w'
      go_simp
      with_reducible rfl
     rotate_left
     ·simp only [Act.put,List.setIfInBounds_toArray,List.set_cons_zero,List.set_cons_succ,i64_w,i32_w]
      rfl
     refine pure_ (i:=2) (N:=some 31) (v:=?_) (a':=?_) #[true,false,true,false,false,false,false,false] rfl rfl (any_of HT_.out (by kernel_rfl)) (fun _ _ _ h => h) (Or.inl ⟨by rfl,?_⟩) ?_ ?_
     rotate_left
     ·intro w'
      go_simp
      with_reducible rfl
     rotate_left
     ·simp only [Act.put,List.setIfInBounds_toArray,List.set_cons_zero,List.set_cons_succ,i64_w,i32_w]
      rfl
     refine pure_ (i:=3) (N:=some 32) (v:=?_) (a':=?_) #[true,false,true,true,false,false,false,false] rfl rfl (any_of HT_.out (by kernel_rfl)) (fun _ _ _ h => h) (Or.inl ⟨by rfl,?_⟩) ?_ ?_
     rotate_left
     ·intro w'
      go_simp
      with_reducible rfl
     rotate_left
     ·simp only [Act.put,List.setIfInBounds_toArray,List.set_cons_zero,List.set_cons_succ,i64_w,i32_w]
      rfl
     refine take_ (i:=1) (N:=some 30) (v:=?_) (a':=?_) #[true,true,true,true,false,false,false,false] rfl rfl (take_ofW HT_.out HW_.out (by kernel_rfl)) (fun _ _ _ h => h) (Or.inl ⟨by rfl,?_⟩) hHeld ?_ ?_
     rotate_left
     ·rintro w' ⟨s0,s1⟩
      go_simp
      with_reducible rfl
     rotate_left
     ·simp only [Act.put,List.setIfInBounds_toArray,List.set_cons_zero,List.set_cons_succ,i64_w,i32_w]
      rfl
     refine one_ (i:=4) (N:=some 33) #[true,true,true,true,true,false,false,false] rfl rfl (one_of HT_.out (by kernel_rfl)) (by decide) (fun K hK => ?_)
     refine Kd.R_lit_step (Kd.int .i64) _ 3 ?hg (N:=33) ?hd (xs:=([0,40,41] : List Int)) (inner:=[.int .i64 0,.int .i64 40,.int .i64 41]) (ok:=fun _ => True) (okp:=fun _ => True) ?hr ?hp (fun _ hk => hk) trivial (Below.refl _ _) (Nat.le_refl _) (by simp) ?_; (case hd => rfl); (case hg => rfl); (case hr => (go_simp; done)); (case hp => exact (Reps.one (show Kd.M (Kd.int .i64) _ _ _ 0 [.int .i64 0] from rfl) (Reps.one (show Kd.M (Kd.int .i64) _ _ _ 40 [.int .i64 40] from rfl) (Reps.one (show Kd.M (Kd.int .i64) _ _ _ 41 [.int .i64 41] from rfl) (Reps.none _ _)))))
     intro v225 w47 ho48 hb hg_ hnew_
     clear hg_ hnew_
     (rw [← Ny224.out] at ho48)
     have n0_:=Aside0.mk (Kd.R_elder' (by exact HO203.out) (Kd.R_base ho48) hb)
     have n1_:=Aside0.mk (Kd.R_elder' (by exact HO206.out) (Kd.R_base ho48) hb)
     have n2_:=Aside0.mk (Kd.R_lower (Kd.R_new' (Kd.R_new' ho48 (Kd.R_lt (by exact HO203.out))) (Kd.R_lt (by exact HO206.out))) (keep_size (w:=w) (g:=g) (row:=none) (by repeat (((with_reducible (exact HK.out)))))))
     have n3_:=Aside0.mk (IsS69.below (by repeat (((with_reducible (exact HI0.out))))) hb)
     have n4_:=Aside0.mk (blk_below (g:=gb200) (o:=.cells #[.slice none 0 0,.slice none 0 0] 26 (0,0)) (by exact BK200.out) hb)
     have n5_:=Aside0.mk (blk_below (g:=gb209) (o:=.cells #[.slice Ao14 t201.length co14,.slice Ao18 t204.length co18] 26 (0,0)) (by exact BK209.out) hb)
     have n6_:=Aside0.mk (KeepBut.trans (by repeat (((with_reducible (exact HK.out))))) (KeepBut.of_below hb g none) (.inl rfl))
     have n7_:=Aside0.mk (below_step (by repeat (((with_reducible (exact HB.out))))) hb)
     clear HO203
     clear HO206
     clear HI0
     clear BK200
     clear BK209
     clear HK
     clear HB
     have HO203:=n0_
     have HO206:=n1_
     have HO226:=n2_
     have HI0:=n3_
     have BK200:=n4_
     have BK209:=n5_
     have HK:=n6_
     have HB:=n7_
     clear n0_ n1_ n2_ n3_ n4_ n5_ n6_ n7_
     clear hb ho48
     obtain ⟨Ao49,co49,eo49⟩:=Kd.R_slice HO226.out
     (subst eo49)
     refine hK.out _ _ ⟨(blk_cell BK209.out 0).trans rfl,(blk_cell BK209.out 1).trans rfl⟩ (fun hHeld => ?_)
     clear hK K
     refine norm_ (a':=?_) ?_ ?_
     rotate_left
     ·show Act.put _ (some 33) _ = _
      simp only [Act.put,List.setIfInBounds_toArray,List.set_cons_zero,List.set_cons_succ,i64_w,i32_w]
      rfl
     refine one_ (i:=5) (N:=some 34) #[true,true,true,true,true,true,false,false] rfl rfl (one_of HT_.out (by kernel_rfl)) (by decide) (fun K hK => ?_)
     refine goes_ Tryz.func48 (by kernel_rfl) rfl #[.pointer (some ⟨g,0,none⟩),.slice Ao49 y224.length co49] (by rfl) rfl rfl (by (try simp only [List.map_toArray,List.map_cons,List.map_nil]); (rfl)) ?_
     with_reducible refine (spec_l1Cur_among.calls g s0_0 t214 t215 _ _ y224 t227 t228 t229 w0 _ ?side1 ?side2 ?side3 ?side4 ?side5 A32.out).mono ?_
     (case side1 => repeat (((with_reducible (exact HI0.out)))))
     (case side2 => repeat (((with_reducible (exact HB.out)))))
     (case side3 => repeat ((exact (Kd.R_reads' HO226.out).2.2)))
     (case side4 => exact (Kd.R_reads' HO226.out).2.1)
     (case side5 => exact far_slice (IsS69.own_ne HI0.out HO226.out (by decide)))
     rintro e w50 ⟨rfl,hi,hb,hk⟩
     refine ⟨_,rfl,?_⟩
     have n0_:=Aside0.mk (KeepBut.blk hk (g':=gb200) (o:=.cells #[.slice none 0 0,.slice none 0 0] 26 (0,0)) (by exact BK200.out) NB200_0.out (by simp))
     have n1_:=Aside0.mk (Kd.R_mono (Kd.R_keep (IsS69.apart (show IsS69 w0 _ g s0_0 t214 t215 from by repeat (((with_reducible (exact HI0.out))))) (by exact HO203.out) (by decide)) hk (fun _ h => h.2)) (fun _ h => h.1))
     have n2_:=Aside0.mk (Kd.R_mono (Kd.R_keep (IsS69.apart (show IsS69 w0 _ g s0_0 t214 t215 from by repeat (((with_reducible (exact HI0.out))))) (by exact HO206.out) (by decide)) hk (fun _ h => h.2)) (fun _ h => h.1))
     have n3_:=Aside0.mk (KeepBut.blk hk (g':=gb209) (o:=.cells #[.slice Ao14 t201.length co14,.slice Ao18 t204.length co18] 26 (0,0)) (by exact BK209.out) NB209_0.out (by simp))
     have n4_:=Aside0.mk (Kd.R_mono (Kd.R_keep (IsS69.apart (show IsS69 w0 _ g s0_0 t214 t215 from by repeat (((with_reducible (exact HI0.out))))) (by exact HO226.out) (by decide)) hk (fun _ h => h.2)) (fun _ h => h.1))
     have n5_:=Aside0.mk (KeepBut.trans (by repeat (((with_reducible (exact HK.out))))) hk (.inl rfl))
     have n6_:=Aside0.mk (hb)
     have n7_:=Aside0.mk (hi)
     clear BK200
     clear HO203
     clear HO206
     clear BK209
     clear HO226
     clear HK
     clear HB
     clear HI0
     have BK200:=n0_
     have HO203:=n1_
     have HO206:=n2_
     have BK209:=n3_
     have HO226:=n4_
     have HK:=n5_
     have HB:=n6_
     have HI0:=n7_
     clear n0_ n1_ n2_ n3_ n4_ n5_ n6_ n7_
     (try clear hb)
     (try clear hb2)
     (try clear hk)
     (try clear hi)
     have p35 : 0 ≤ (t210 : Int):=of_decide_eq_true (by (with_reducible assumption))
     have q35 : (t210 : Int) < ((t204.length : Int) : Int):=of_decide_eq_true (by (with_reducible assumption))
     obtain ⟨go35,co35,eo35,gb35,gl35,cl35,HG35⟩:=Kd.R_form HO206.out (by omega)
     (cases eo35)
     have GB35:=Aside0.mk gb35
     have GG35:=Aside0.mk HG35
     clear gb35 gl35 HG35
     obtain ⟨hx35_0,hf35_0⟩:=Kd.R_celln 0 HO206.out (t210 : Int) p35 q35
     replace p35:=eq_true p35
     replace q35:=eq_true q35
     have HN0_go35:=Aside0.mk (show g ≠ go35 from by have h_:=IsS69.own_ne HI0.out HO206.out (by decide); intro e_; exact h_ (by rw [e_]; rfl))
     have HP51:=Kd.R_putn HO206.out (t210 : Int) t227
     rw [← Ny230.out] at HP51
     have HQ51:=Aside0.mk HP51
     clear HP51
     refine hK.out _ _ ⟨(blk_cell BK209.out 0).trans rfl,(blk_cell BK209.out 1).trans rfl⟩ (fun hHeld => ?_)
     clear hK K
     refine norm_ (a':=?_) ?_ ?_
     rotate_left
     ·show Act.put _ (some 34) _ = _
      simp only [Act.put,List.setIfInBounds_toArray,List.set_cons_zero,List.set_cons_succ,i64_w,i32_w]
      rfl
     refine pure_ (i:=6) (N:=some 35) (v:=?_) (a':=?_) #[true,true,true,true,true,true,true,false] rfl rfl (any_of HT_.out (by kernel_rfl)) (fun _ _ _ h => h) (Or.inl ⟨by rfl,?_⟩) ?_ ?_
     rotate_left
     ·intro w'
      go_simp
      with_reducible rfl
     rotate_left
     ·simp only [Act.put,List.setIfInBounds_toArray,List.set_cons_zero,List.set_cons_succ,i64_w,i32_w]
      rfl
     refine last_ (i:=7) (N:=none) #[true,true,true,true,true,true,true,true] rfl rfl (one_of HT_.out (by kernel_rfl)) (by decide) (fun K hK => ?_)
     refine skip_ (w1:=?_) (by rfl) rfl ?_ ?_
     rotate_left
     ·go_simp
      rfl
     refine hK.out _ _ ?_
     clear hK K
     refine done_ (done_of HT_.out (by kernel_rfl)) ?_
     have n0_ : Aside0 (Kd.R (Kd.int .i64) 3 (w50.setCell ⟨go35,(t210 : Int).toNat,none⟩ (.int .i64 t227)) w.heap.size (fun k_ => some k_ ≠ (.slice (some ⟨go35,0,none⟩) t204.length co18 : Value).ownBlock ∧ some k_ ≠ (.slice Ao49 y224.length co49 : Value).ownBlock) (.slice Ao14 t201.length co14) t201):=⟨by exact Kd.R_mono (Kd.R_far (p:=⟨go35,(t210 : Int).toNat,none⟩) (Kd.R_mono HO203.out (fun k_ hk => (⟨hk,fun e_ => hk.1 (by rw [e_]; rfl)⟩ : _ ∧ k_ ≠ go35))) (fun _ hk => hk.2) (.int .i64 t227)) (fun _ hk => ⟨hk.1.1,hk.1.2⟩)⟩
     have n1_ : Aside0 (Kd.R (Kd.int .i64) 3 (w50.setCell ⟨go35,(t210 : Int).toNat,none⟩ (.int .i64 t227)) w.heap.size (fun k_ => some k_ ≠ (.slice Ao14 t201.length co14 : Value).ownBlock ∧ some k_ ≠ (.slice Ao49 y224.length co49 : Value).ownBlock) (.slice (some ⟨go35,0,none⟩) t204.length co18) y230):=⟨by exact HQ51.out⟩
     have n2_ : Aside0 (Kd.R (Kd.int .i64) 3 (w50.setCell ⟨go35,(t210 : Int).toNat,none⟩ (.int .i64 t227)) w.heap.size (fun k_ => some k_ ≠ (.slice Ao14 t201.length co14 : Value).ownBlock ∧ some k_ ≠ (.slice (some ⟨go35,0,none⟩) t204.length co18 : Value).ownBlock) (.slice Ao49 y224.length co49) y224):=⟨by exact Kd.R_mono (Kd.R_far (p:=⟨go35,(t210 : Int).toNat,none⟩) (Kd.R_mono HO226.out (fun k_ hk => (⟨hk,fun e_ => hk.2 (by rw [e_]; rfl)⟩ : _ ∧ k_ ≠ go35))) (fun _ hk => hk.2) (.int .i64 t227)) (fun _ hk => ⟨hk.1.1.2,hk.1.2⟩)⟩
     have n3_ : Aside0 ((w50.setCell ⟨go35,(t210 : Int).toNat,none⟩ (.int .i64 t227)).heap[gb200]? = some (.cells #[.slice none 0 0,.slice none 0 0] 26 (0,0))):=⟨by refine blk_far ?_ (by have h_:=Kd.R_ne HO206.out BK200.out (by decide); intro e_; exact h_ (by rw [e_]; rfl)) _; exact BK200.out⟩
     have n4_ : Aside0 ((w50.setCell ⟨go35,(t210 : Int).toNat,none⟩ (.int .i64 t227)).heap[gb209]? = some (.cells #[.slice Ao14 t201.length co14,.slice (some ⟨go35,0,none⟩) t204.length co18] 26 (0,0))):=⟨by refine blk_far ?_ (by have h_:=Kd.R_ne HO206.out BK209.out (by decide); intro e_; exact h_ (by rw [e_]; rfl)) _; exact BK209.out⟩
     have n5_ : Aside0 (IsS69 w0 (w50.setCell ⟨go35,(t210 : Int).toNat,none⟩ (.int .i64 t227)) g s0_0 t228 t229):=⟨by repeat (with_reducible first|exact HI0.out|refine IsS69.far ?_ HN0_go35.out _)⟩
     have n6_ : Aside0 (KeepBut w (w50.setCell ⟨go35,(t210 : Int).toNat,none⟩ (.int .i64 t227)) g none):=⟨by repeat (with_reducible first|exact HK.out|refine keep_far ?_ GB35.out _)⟩
     have n7_ : Aside0 (Below w0.heap.size w0 (w50.setCell ⟨go35,(t210 : Int).toNat,none⟩ (.int .i64 t227))):=⟨by repeat (((with_reducible first|exact HB.out|refine below_set ?_ (Nat.le_trans HL.out GB35.out))))⟩
     (try clear HO203)
     (try clear HO206)
     (try clear HO226)
     (try clear BK200)
     (try clear BK209)
     (try clear HI0)
     (try clear HK)
     (try clear HB)
     generalize (w50.setCell ⟨go35,(t210 : Int).toNat,none⟩ (.int .i64 t227)) = w52 at n0_ n1_ n2_ n3_ n4_ n5_ n6_ n7_ ⊢
     have HO203:=n0_
     have HO206:=n1_
     have HO226:=n2_
     have BK200:=n3_
     have BK209:=n4_
     have HI0:=n5_
     have HK:=n6_
     have HB:=n7_
     clear n0_ n1_ n2_ n3_ n4_ n5_ n6_ n7_
     have hcz53_0 : w52.cell? ⟨gb209,0,none⟩ = some (.slice Ao14 t201.length co14):=(blk_cell BK209.out 0).trans rfl
     have hcz53_1 : w52.cell? ⟨gb209,1,none⟩ = some (.slice (some ⟨go35,0,none⟩) t204.length co18):=(blk_cell BK209.out 1).trans rfl
     have hfz53_0:=blk_frozen BK209.out 0
     have hfz53_1:=blk_frozen BK209.out 1
     have hnb54:=NB200_0.out
     have hnc54:=NB0_200.out
     have hcz55_0 : w52.cell? ⟨gb200,0,none⟩ = some (.slice none 0 0):=(blk_cell BK200.out 0).trans rfl
     have hcz55_1 : w52.cell? ⟨gb200,1,none⟩ = some (.slice none 0 0):=(blk_cell BK200.out 1).trans rfl
     have hfz55_0:=blk_frozen BK200.out 0
     have hfz55_1:=blk_frozen BK200.out 1
     try go_wp2
     refine bodyPost_ret (results_cell_row rfl _ _ gb200 26 #[.slice Ao14 t201.length co14,.slice (some ⟨go35,0,none⟩) t204.length co18] (0,0) _ rfl (by refine blk_put (cs:=#[.slice Ao14 t201.length co14,.slice none 0 0]) ?_ 1 _ rfl; refine blk_put (cs:=#[.slice none 0 0,.slice none 0 0]) ?_ 0 _ rfl; exact BK200.out) Tryz.underlying26 rfl (by kernel_rfl)) rfl ?_
     exact ⟨_,_,by (rfl),by exact Kd.R_mono (Kd.R_far (p:=⟨gb200,1,none⟩) (Kd.R_far (p:=⟨gb200,0,none⟩) (Kd.R_types HO203.out BK200.out (by decide)) (fun _ hk => hk.2) (.slice Ao14 t201.length co14)) (fun _ hk => hk.2) (.slice (some ⟨go35,0,none⟩) t204.length co18)) (fun _ hk => hk.1.1),Kd.Q_of_R (by exact Kd.R_mono (Kd.R_far (p:=⟨gb200,1,none⟩) (Kd.R_far (p:=⟨gb200,0,none⟩) (Kd.R_types HO206.out BK200.out (by decide)) (fun _ hk => hk.2) (.slice Ao14 t201.length co14)) (fun _ hk => hk.2) (.slice (some ⟨go35,0,none⟩) t204.length co18)) (fun _ hk => hk.1.1)),by repeat (with_reducible first|exact HI0.out|refine IsS69.far ?_ NB0_200.out _),by repeat (with_reducible first|exact HB.out|refine below_set ?_ GE200.out),by repeat (with_reducible first|exact HK.out|refine keep_far ?_ GW200.out _)⟩
    ·rw [if_neg c34] at H
     exact absurd H (by simp)
   ·rw [if_neg c33] at H
    exact absurd H (by simp)
  ·rw [if_neg c31] at H
   have c31b0 : (t213 == 1) = false:=beq_eq_false_iff_ne.mpr c31
   have c31b1 : (t213 != 1) = true:=bne_iff_ne.mpr c31
   by_cases c56 : t213 = 2
   ·rw [if_pos c56] at H
    have c56b0 : (t213 == 2) = true:=beq_iff_eq.mpr c56
    have c56b1 : (t213 != 2) = false:=bne_eq_false_iff_eq.mpr c56
    clear c56
    by_cases c57 : 1 ≤ (t204.length : Int)
    ·rw [if_pos c57] at H
     have c57b0:=eq_true c57
     have c57b1 : decide (1 ≤ (t204.length : Int)) = true:=decide_eq_true c57
     clear c57
     obtain ⟨y231,hy231⟩ : ∃ y_ : List Int,y_ = (t204.drop (1 : Int).toNat):=⟨_,rfl⟩
     replace H : (some (t201,y231,t214,t215)) = some (r1,r2,r3,r4):=by (rw [hy231]; with_reducible exact H)
     have Ny231:=Aside0.mk hy231
     clear hy231
     simp only [Option.some.injEq,Prod.mk.injEq] at H
     obtain ⟨rfl,rfl,rfl,rfl⟩:=H
     have hcz68_0 : w20.cell? ⟨gb209,0,none⟩ = some (.slice Ao14 t201.length co14):=(blk_cell BK209.out 0).trans rfl
     have hcz68_1 : w20.cell? ⟨gb209,1,none⟩ = some (.slice Ao18 t204.length co18):=(blk_cell BK209.out 1).trans rfl
     have hfz68_0:=blk_frozen BK209.out 0
     have hfz68_1:=blk_frozen BK209.out 1
     have q69 : (1 : Int) ≤ ((t204.length : Int) : Int):=of_decide_eq_true (by (with_reducible assumption))
     obtain ⟨i069,hi069,_,hsz69,_⟩:=info_parts info3
     have hcut69:=cut_from (P:=Tryz.prog) 24 3 .i64 Tryz.underlying24 hi069 1 hsz69 Ao18 t204.length co18 1 (by omega) q69
     have hr69:=Kd.Q_drop (k:=(1 : Int).toNat) (Kd.Q_of_R HO206.out) (by omega)
     obtain ⟨A69,hA69⟩ : ∃ A1,A1 = (if co18 = (1 : Int).toNat then Ao18 else (Ao18 : Option Addr).map (·.add ((1 : Int).toNat * 1))):=⟨_,rfl⟩
     obtain ⟨c69,hc69⟩ : ∃ c1,c1 = co18 - (1 : Int).toNat:=⟨_,rfl⟩
     have hy69 : y231.length = t204.length - (1 : Int).toNat:=(by rw [Ny231.out,List.length_drop])
     rw [← Ny231.out] at hr69
     rw [← hy69,← hA69,← hc69] at hcut69
     replace hr69 : Kd.Q (Kd.int .i64) 3 w20 w.heap.size (fun k_ => some k_ ≠ (.slice Ao14 t201.length co14 : Value).ownBlock) (.slice A69 y231.length c69) y231:=(by rw [hA69,hc69,hy69]; exact hr69)
     have HE69 : Aside0 ((Value.slice A69 y231.length c69).ownBlock = (.slice Ao18 t204.length co18 : Value).ownBlock):=⟨by rw [hA69]; split <;> (cases (Ao18 : Option Addr) <;> rfl)⟩
     clear hy69 hi069 hsz69 HO206 hA69 hc69
     have HO233:=Aside0.mk hr69
     clear hr69
     replace q69:=eq_true q69
     have n_:=Aside0.mk (Kd.R_mono (ok':=fun k_ => some k_ ≠ (.slice A69 y231.length c69 : Value).ownBlock) HO203.out (fun k_ hk => (by rw [HE69.out]; exact hk)))
     clear HO203
     have HO203:=n_
     clear n_
     have hnb70:=NB200_0.out
     have hnc70:=NB0_200.out
     have hcz71_0 : w20.cell? ⟨gb200,0,none⟩ = some (.slice none 0 0):=(blk_cell BK200.out 0).trans rfl
     have hcz71_1 : w20.cell? ⟨gb200,1,none⟩ = some (.slice none 0 0):=(blk_cell BK200.out 1).trans rfl
     have hfz71_0:=blk_frozen BK200.out 0
     have hfz71_1:=blk_frozen BK200.out 1
     try go_wp2
     refine bodyPost_ret (results_cell_row rfl _ _ gb200 26 #[.slice Ao14 t201.length co14,.slice A69 y231.length c69] (0,0) _ rfl (by refine blk_put (cs:=#[.slice Ao14 t201.length co14,.slice none 0 0]) ?_ 1 _ rfl; refine blk_put (cs:=#[.slice none 0 0,.slice none 0 0]) ?_ 0 _ rfl; refine blk_far ?_ NB200_209.out _; exact BK200.out) Tryz.underlying26 rfl (by kernel_rfl)) rfl ?_
     exact ⟨_,_,by (rfl),by exact Kd.R_mono (Kd.R_far (p:=⟨gb200,1,none⟩) (Kd.R_far (p:=⟨gb200,0,none⟩) (Kd.R_far (p:=⟨gb209,1,none⟩) (Kd.R_types (Kd.R_types HO203.out BK209.out (by decide)) BK200.out (by decide)) (fun _ hk => hk.1.2) (.slice A69 y231.length c69)) (fun _ hk => hk.2) (.slice Ao14 t201.length co14)) (fun _ hk => hk.2) (.slice A69 y231.length c69)) (fun _ hk => hk.1.1),by exact Kd.Q_mono (Kd.Q_far (p:=⟨gb200,1,none⟩) (Kd.Q_far (p:=⟨gb200,0,none⟩) (Kd.Q_far (p:=⟨gb209,1,none⟩) (Kd.Q_types (Kd.Q_types HO233.out BK209.out (by decide)) BK200.out (by decide)) (fun _ hk => hk.1.2) (.slice A69 y231.length c69)) (fun _ hk => hk.2) (.slice Ao14 t201.length co14)) (fun _ hk => hk.2) (.slice A69 y231.length c69)) (fun _ hk => hk.1.1),by repeat (with_reducible first|exact HI0.out|refine IsS69.far ?_ NB0_200.out _|refine IsS69.far ?_ NB0_209.out _),by repeat (with_reducible first|exact HB.out|refine below_set ?_ GE200.out|refine below_set ?_ GE209.out),by repeat (with_reducible first|exact HK.out|refine keep_far ?_ GW200.out _|refine keep_far ?_ GW209.out _)⟩
    ·rw [if_neg c57] at H
     exact absurd H (by simp)
   ·rw [if_neg c56] at H
    have c56b0 : (t213 == 2) = false:=beq_eq_false_iff_ne.mpr c56
    have c56b1 : (t213 != 2) = true:=bne_iff_ne.mpr c56
    by_cases c72 : t213 = 3
    ·rw [if_pos c72] at H
     have c72b0 : (t213 == 3) = true:=beq_iff_eq.mpr c72
     have c72b1 : (t213 != 3) = false:=bne_eq_false_iff_eq.mpr c72
     clear c72
     simp only [Option.some.injEq,Prod.mk.injEq] at H
     obtain ⟨rfl,rfl,rfl,rfl⟩:=H
     have hnb83:=NB200_0.out
     have hnc83:=NB0_200.out
     have hcz84_0 : w20.cell? ⟨gb200,0,none⟩ = some (.slice none 0 0):=(blk_cell BK200.out 0).trans rfl
     have hcz84_1 : w20.cell? ⟨gb200,1,none⟩ = some (.slice none 0 0):=(blk_cell BK200.out 1).trans rfl
     have hfz84_0:=blk_frozen BK200.out 0
     have hfz84_1:=blk_frozen BK200.out 1
     try go_wp2
     refine bodyPost_ret (results_cell_row rfl _ _ gb200 26 #[.slice none 0 0,.slice none 0 0] (0,0) _ rfl (by refine blk_put (cs:=#[.slice none 0 0,.slice none 0 0]) ?_ 1 _ rfl; refine blk_put (cs:=#[.slice none 0 0,.slice none 0 0]) ?_ 0 _ rfl; exact BK200.out) Tryz.underlying26 rfl (by kernel_rfl)) rfl ?_
     exact ⟨_,_,by (rfl),by (exact Kd.R_nil _ _ _ _ _),Kd.Q_of_R (by (exact Kd.R_nil _ _ _ _ _)),by repeat (with_reducible first|exact HI0.out|refine IsS69.far ?_ NB0_200.out _),by repeat (with_reducible first|exact HB.out|refine below_set ?_ GE200.out),by repeat (with_reducible first|exact HK.out|refine keep_far ?_ GW200.out _)⟩
    ·rw [if_neg c72] at H
     have c72b0 : (t213 == 3) = false:=beq_eq_false_iff_ne.mpr c72
     have c72b1 : (t213 != 3) = true:=bne_iff_ne.mpr c72
     by_cases c85 : t213 = 4
     ·rw [if_pos c85] at H
      have c85b0 : (t213 == 4) = true:=beq_iff_eq.mpr c85
      have c85b1 : (t213 != 4) = false:=bne_eq_false_iff_eq.mpr c85
      clear c85
      have H':=Aside0.mk H
      clear H
      try go_wp2
      go_loopg [] k (fun kq w' => ∃ (x1001_1 : Int) (x1002_1 : Int) (x210000_1 : List Int) (x210001_1 : List Int) (u210000 : Value) (u210001 : Value),Aside0 (spec_l1Cur_anyRotation.l0 kq s0_0 x1001_1 x1002_1 x210000_1 x210001_1 = some (r1,r2,r3,r4)) ∧ Aside0 (kq ≤ k) ∧ Aside0 (Kd.R (Kd.int .i64) 3 w' w.heap.size (fun k_ => some k_ ≠ (u210001 : Value).ownBlock) u210000 x210000_1) ∧ Aside0 (Kd.Q (Kd.int .i64) 3 w' w.heap.size (fun k_ => some k_ ≠ (u210000 : Value).ownBlock) u210001 x210001_1) ∧ Aside0 (w'.heap[gb200]? = some (.cells #[(.slice none 0 0),(.slice none 0 0)] 26 (0,0))) ∧ Aside0 (w'.heap[gb209]? = some (.cells #[u210000,u210001] 26 (0,0))) ∧ Aside0 (IsS69 w0 w' g s0_0 x1001_1 x1002_1) ∧ Aside0 (KeepBut w w' g none) ∧ Aside0 (Below w0.heap.size w0 w'))
      case atStart => exact ⟨(t214),(t215),(t201),(t204),(.slice Ao14 t201.length co14),(.slice Ao18 t204.length co18),H',⟨Nat.le_refl _⟩,⟨by exact HO203.out⟩,⟨Kd.Q_of_R (by exact HO206.out)⟩,⟨by exact BK200.out⟩,⟨by exact BK209.out⟩,⟨by repeat (((with_reducible (exact HI0.out))))⟩,⟨by repeat (((with_reducible (exact HK.out))))⟩,⟨by repeat (((with_reducible (exact HB.out))))⟩⟩
      case round =>
       clear H'
       try clear c1
       try clear p1
       try clear q1
       try clear hx1
       try clear hf1
       try clear c2
       try clear p2
       try clear q2
       try clear hx2
       try clear qi2
       try clear c3
       try clear p3
       try clear q3
       try clear hx3
       try clear hf3
       try clear c4
       try clear c5
       try clear c5b0
       try clear c5b1
       try clear c6
       try clear c6b0
       try clear c6b1
       try clear q6
       try clear c7
       try clear c8
       try clear c8b0
       try clear c9
       try clear c9b0
       try clear p10
       try clear q10
       try clear hx10
       try clear hf10
       try clear c15
       try clear c16
       try clear p21
       try clear q21
       try clear hx21
       try clear qi21
       try clear c29
       try clear c31
       try clear c31b0
       try clear c31b1
       try clear c33
       try clear c33b0
       try clear c34
       try clear c34b0
       try clear p35
       try clear q35
       try clear hx35
       try clear hf35
       try clear c40
       try clear c41
       try clear c45
       try clear c47
       try clear c48
       try clear c50
       try clear c54
       try clear c56
       try clear c56b0
       try clear c56b1
       try clear c57
       try clear c57b0
       try clear c57b1
       try clear c62
       try clear c63
       try clear c69
       try clear q69
       try clear c70
       try clear c72
       try clear c72b0
       try clear c72b1
       try clear c77
       try clear c78
       try clear c83
       try clear c85
       try clear c85b0
       try clear c85b1
       try clear c90
       try clear c91
       try clear hcz17_0
       try clear hcz17_1
       try clear hcz28_0
       try clear hcz28_1
       try clear hcz30_0
       try clear hcz30_1
       try clear hcz42_0
       try clear hcz42_1
       try clear hcz53_0
       try clear hcz53_1
       try clear hcz55_0
       try clear hcz55_1
       try clear hcz64_0
       try clear hcz64_1
       try clear hcz68_0
       try clear hcz68_1
       try clear hcz71_0
       try clear hcz71_1
       try clear hcz79_0
       try clear hcz79_1
       try clear hcz84_0
       try clear hcz84_1
       try clear hcz17_0
       try clear hcz17_1
       try clear hfz17_0
       try clear hfz17_1
       try clear hfz28_0
       try clear hfz28_1
       try clear hfz30_0
       try clear hfz30_1
       try clear hfz42_0
       try clear hfz42_1
       try clear hfz53_0
       try clear hfz53_1
       try clear hfz55_0
       try clear hfz55_1
       try clear hfz64_0
       try clear hfz64_1
       try clear hfz68_0
       try clear hfz68_1
       try clear hfz71_0
       try clear hfz71_1
       try clear hfz79_0
       try clear hfz79_1
       try clear hfz84_0
       try clear hfz84_1
       try clear hfz17_0
       try clear hfz17_1
       try clear hx10_0
       try clear hx216_0
       try clear hx35_0
       try clear p10
       try clear p216
       try clear p35
       try clear q10
       try clear q216
       try clear q35
       try clear q69
       obtain ⟨x1001_1,x1002_1,x210000_1,x210001_1,u210000,u210001,HA,HK1,HO_210000,HO_210001,BK200,BK209,HI0,HK,HB⟩:=hrel
       cases gk with
       | zero => exact absurd HA.out (by simp [spec_l1Cur_anyRotation.l0])
       | succ k1 =>
        have H:=HA.out
        clear HA
        simp only [spec_l1Cur_anyRotation.l0] at H
        replace H:=Option.bind_eq_some_iff.mp H
        obtain ⟨⟨t234,t235,t236⟩,A960,H⟩:=H
        replace H : (if (x210000_1.length : Int) < (wrap64 (12 + t234)) then (if x210000_1.length < 17592186044416 then (if x210001_1.length < 17592186044416 then (spec_l1Cur_anyRotation.l0 k1 s0_0 t235 t236 (x210000_1 ++ [7 + ((x210000_1.length : Int) % 2)]) (x210001_1 ++ [1])) else (none)) else (none)) else (some (x210000_1,x210001_1,t235,t236))) = some (r1,r2,r3,r4):=H
        have A96:=Aside0.mk A960
        clear A960
        by_cases c97 : (x210000_1.length : Int) < (wrap64 (12 + t234))
        ·rw [if_pos c97] at H
         have c97b0 : decide ((x210000_1.length : Int) < (wrap64 (12 + t234))) = true:=decide_eq_true c97
         clear c97
         by_cases c98 : x210000_1.length < 17592186044416
         ·rw [if_pos c98] at H
          have LMc98:=Aside0.mk c98
          clear c98
          obtain ⟨y237,hy237⟩ : ∃ y_ : List Int,y_ = (x210000_1 ++ [7 + ((x210000_1.length : Int) % 2)]):=⟨_,rfl⟩
          replace H : (if x210001_1.length < 17592186044416 then (spec_l1Cur_anyRotation.l0 k1 s0_0 t235 t236 y237 (x210001_1 ++ [1])) else (none)) = some (r1,r2,r3,r4):=by (rw [hy237]; with_reducible exact H)
          have Ny237:=Aside0.mk hy237
          clear hy237
          by_cases c99 : x210001_1.length < 17592186044416
          ·rw [if_pos c99] at H
           have LMc99:=Aside0.mk c99
           clear c99
           obtain ⟨y240,hy240⟩ : ∃ y_ : List Int,y_ = (x210001_1 ++ [1]):=⟨_,rfl⟩
           replace H : (spec_l1Cur_anyRotation.l0 k1 s0_0 t235 t236 y237 y240) = some (r1,r2,r3,r4):=by (rw [hy240]; with_reducible exact H)
           have Ny240:=Aside0.mk hy240
           clear hy240
           have H':=Aside0.mk H
           clear H
           try go_wp2
           have n0_:=Aside0.mk (Kd.R_drew HO_210000.out)
           have n1_:=Aside0.mk (Kd.Q_drew HO_210001.out)
           have n2_:=Aside0.mk (blk_drew BK200.out)
           have n3_:=Aside0.mk (blk_drew BK209.out)
           have n4_:=Aside0.mk (IsS69.drew HI0.out)
           have n5_:=Aside0.mk (keep_drew HK.out)
           have n6_:=Aside0.mk (below_drew1 HB.out)
           clear HO_210000
           clear HO_210001
           clear BK200
           clear BK209
           clear HI0
           clear HK
           clear HB
           have HO_210000:=n0_
           have HO_210001:=n1_
           have BK200:=n2_
           have BK209:=n3_
           have HI0:=n4_
           have HK:=n5_
           have HB:=n6_
           clear n0_ n1_ n2_ n3_ n4_ n5_ n6_
           obtain ⟨Ao101,co101,eo101⟩:=Kd.R_slice HO_210000.out
           (subst eo101)
           refine start_ (n:=7) (S:=fun w' => w'.cell? ⟨gb209,0,none⟩ = some (.slice Ao101 x210000_1.length co101) ∧ w'.cell? ⟨gb209,1,none⟩ = some (u210001)) (ds:=[]) #[false,false,false,false,false,false,false] (by kernel_rfl) rfl rfl ⟨(blk_cell BK209.out 0).trans rfl,(blk_cell BK209.out 1).trans rfl⟩ (fun hHeld => ?_)
           generalize wr.drew = w100 at HO_210000 HO_210001 BK200 BK209 HI0 HK HB hHeld ⊢
           refine pure_ (i:=0) (N:=some 47) (v:=?_) (a':=?_) #[true,false,false,false,false,false,false] rfl rfl (by kernel_rfl) (fun _ _ _ h => h) (Or.inl ⟨by rfl,?_⟩) ?_ ?_
           rotate_left
           ·intro w'
            go_simp
            with_reducible rfl
           rotate_left
           ·simp only [Act.put,List.setIfInBounds_toArray,List.set_cons_zero,List.set_cons_succ,i64_w,i32_w]
            rfl
           refine pure_ (i:=3) (N:=some 50) (v:=?_) (a':=?_) #[true,false,false,true,false,false,false] rfl rfl (by kernel_rfl) (fun _ _ _ h => h) (Or.inl ⟨by rfl,?_⟩) ?_ ?_
           rotate_left
           ·intro w'
            go_simp
            with_reducible rfl
           rotate_left
           ·simp only [Act.put,List.setIfInBounds_toArray,List.set_cons_zero,List.set_cons_succ,i64_w,i32_w]
            rfl
           refine take_ (i:=1) (N:=some 48) (v:=?_) (a':=?_) #[true,true,false,true,false,false,false] rfl rfl (by kernel_rfl) (fun _ _ _ h => h) (Or.inl ⟨by rfl,?_⟩) hHeld ?_ ?_
           rotate_left
           ·rintro w' ⟨s0,s1⟩
            go_simp
            with_reducible rfl
           rotate_left
           ·simp only [Act.put,List.setIfInBounds_toArray,List.set_cons_zero,List.set_cons_succ,i64_w,i32_w]
            rfl
           refine pure_ (i:=2) (N:=some 49) (v:=?_) (a':=?_) #[true,true,true,true,false,false,false] rfl rfl (by kernel_rfl) (fun _ _ _ h => h) (Or.inl ⟨by rfl,?_⟩) ?_ ?_
           rotate_left
           ·intro w'
            go_simp
            with_reducible rfl
           rotate_left
           ·simp only [Act.put,List.setIfInBounds_toArray,List.set_cons_zero,List.set_cons_succ,i64_w,i32_w]
            rfl
           refine one_ (i:=4) (N:=some 51) #[true,true,true,true,true,false,false] rfl rfl (by kernel_rfl) (by decide) (fun K hK => ?_)
           refine goes_ Tryz.func47 (by kernel_rfl) rfl #[.pointer (some ⟨g,0,none⟩),.int .i64 2] (by rfl) rfl rfl (by (try simp only [List.map_toArray,List.map_cons,List.map_nil]); (rfl)) ?_
           with_reducible refine (spec_l1Cur_pick.calls g s0_0 x1001_1 x1002_1 2 t234 t235 t236 w0 _ ?side1 ?side2 A96.out).mono ?_
           (case side1 => repeat (((with_reducible (exact HI0.out)))))
           (case side2 => repeat (((with_reducible (exact HB.out)))))
           rintro e w102 ⟨rfl,hi,hb,hk⟩
           refine ⟨_,rfl,?_⟩
           have n0_:=Aside0.mk (Kd.R_mono (Kd.R_keep (IsS69.apart (show IsS69 w0 _ g s0_0 x1001_1 x1002_1 from by repeat (((with_reducible (exact HI0.out))))) (by exact HO_210000.out) (by decide)) hk (fun _ h => h.2)) (fun _ h => h.1))
           have n1_:=Aside0.mk (Kd.Q_mono (Kd.Q_keep (IsS69.apartQ (show IsS69 w0 _ g s0_0 x1001_1 x1002_1 from by repeat (((with_reducible (exact HI0.out))))) (by exact HO_210001.out) (by decide)) hk (fun _ h => h.2)) (fun _ h => h.1))
           have n2_:=Aside0.mk (KeepBut.blk hk (g':=gb200) (o:=.cells #[.slice none 0 0,.slice none 0 0] 26 (0,0)) (by exact BK200.out) NB200_0.out (by simp))
           have n3_:=Aside0.mk (KeepBut.blk hk (g':=gb209) (o:=.cells #[.slice Ao101 x210000_1.length co101,u210001] 26 (0,0)) (by exact BK209.out) NB209_0.out (by simp))
           have n4_:=Aside0.mk (KeepBut.trans (by repeat (((with_reducible (exact HK.out))))) hk (.inl rfl))
           have n5_:=Aside0.mk (hb)
           have n6_:=Aside0.mk (hi)
           clear HO_210000
           clear HO_210001
           clear BK200
           clear BK209
           clear HK
           clear HB
           clear HI0
           have HO_210000:=n0_
           have HO_210001:=n1_
           have BK200:=n2_
           have BK209:=n3_
           have HK:=n4_
           have HB:=n5_
           have HI0:=n6_
           clear n0_ n1_ n2_ n3_ n4_ n5_ n6_
           (try clear hb)
           (try clear hb2)
           (try clear hk)
           (try clear hi)
           refine hK.out _ _ ⟨(blk_cell BK209.out 0).trans rfl,(blk_cell BK209.out 1).trans rfl⟩ (fun hHeld => ?_)
           clear hK K
           refine norm_ (a':=?_) ?_ ?_
           rotate_left
           ·show Act.put _ (some 51) _ = _
            simp only [Act.put,List.setIfInBounds_toArray,List.set_cons_zero,List.set_cons_succ,i64_w,i32_w]
            rfl
           refine pure_ (i:=5) (N:=some 52) (v:=?_) (a':=?_) #[true,true,true,true,true,true,false] rfl rfl (by kernel_rfl) (fun _ _ _ h => h) (Or.inl ⟨by rfl,?_⟩) ?_ ?_
           rotate_left
           ·intro w'
            go_simp
            with_reducible rfl
           rotate_left
           ·simp only [Act.put,List.setIfInBounds_toArray,List.set_cons_zero,List.set_cons_succ,i64_w,i32_w]
            rfl
           refine pure_ (i:=6) (N:=some 53) (v:=?_) (a':=?_) #[true,true,true,true,true,true,true] rfl rfl (by kernel_rfl) (fun _ _ _ h => h) (Or.inl ⟨by rfl,?_⟩) ?_ ?_
           rotate_left
           ·intro w'
            go_simp
            with_reducible rfl
           rotate_left
           ·simp only [Act.put,List.setIfInBounds_toArray,List.set_cons_zero,List.set_cons_succ,i64_w,i32_w]
            rfl
           refine done_ (by kernel_rfl) ?_
           have hnb103:=NB209_200.out
           have hnc103:=NB200_209.out
           have hnb104:=NB209_0.out
           have hnc104:=NB0_209.out
           have hcz105_0 : w102.cell? ⟨gb209,0,none⟩ = some (.slice Ao101 x210000_1.length co101):=(blk_cell BK209.out 0).trans rfl
           have hcz105_1 : w102.cell? ⟨gb209,1,none⟩ = some (u210001):=(blk_cell BK209.out 1).trans rfl
           have hfz105_0:=blk_frozen BK209.out 0
           have hfz105_1:=blk_frozen BK209.out 1
           try go_wp2_with (first|((with_reducible refine gate_builtin (b:=.append) (xs:=#[.tmp 55,.tmp 61]) rfl ?_); at_builtin; refine Kd.R_append (Kd.int .i64) w.heap.size rfl (.tmp 55) (.tmp 61) 24 3 (.int .i64 0) 8 rfl Tryz.underlying24 info3 rfl (by decide) (by omega) (.slice Ao101 x210000_1.length co101) x210000_1 (7 + ((x210000_1.length : Int) % 2)) [.int .i64 (7 + ((x210000_1.length : Int) % 2))] (fun k_ => some k_ ≠ (u210001 : Value).ownBlock) (fun _ => False) rfl rfl ?aP (fun _ hk => hk.elim) ?aF ?aO (Below.refl _ _) ?aS ?aL ?_; (case aP => exact rfl); (case aF => exact (fun k_ hk => Kd.fresh' (Kd.Q_lt (by exact HO_210001.out)) k_ hk)); (case aO => exact (by exact HO_210000.out)); (case aS => exact (keep_size (w:=w) (g:=g) (row:=none) (by repeat (((with_reducible (exact HK.out))))))); (case aL => have:=LMc98.out; omega); intro v238 w106 ho hb hg hat; rw [← Ny237.out] at ho; have n0_:=Aside0.mk (Kd.Q_after (ok:=(fun _ => True)) (by exact Kd.Q_mono HO_210001.out (fun _ hk => ⟨trivial,hk⟩)) hg hat); have n1_:=Aside0.mk (blk_grown (g:=gb200) (o:=.cells #[.slice none 0 0,.slice none 0 0] 26 (0,0)) (by exact BK200.out) hg (Kd.R_ne HO_210000.out BK200.out (by decide))); have n2_:=Aside0.mk (blk_grown (g:=gb209) (o:=.cells #[.slice Ao101 x210000_1.length co101,u210001] 26 (0,0)) (by exact BK209.out) hg (Kd.R_ne HO_210000.out BK209.out (by decide))); have n3_:=Aside0.mk (IsS69.grown (show IsS69 w0 _ g s0_0 t235 t236 from by repeat (((with_reducible (exact HI0.out))))) hg (IsS69.own_ne HI0.out HO_210000.out (by decide))); have n4_:=Aside0.mk (below_weaken (by repeat (((with_reducible (exact HB.out))))) HL.out hb); have n5_:=Aside0.mk (KeepBut.trans (by repeat (((with_reducible (exact HK.out))))) (KeepBut.of_grown hg g) (Kd.R_base2 HO_210000.out)); have n6_:=Aside0.mk (ho); clear HO_210001; clear BK200; clear BK209; clear HI0; clear HB; clear HK; clear HO_210000; have HO_210001:=n0_; have BK200:=n1_; have BK209:=n2_; have HI0:=n3_; have HB:=n4_; have HK:=n5_; have HO239:=n6_; clear n0_ n1_ n2_ n3_ n4_ n5_ n6_; clear ho hb hg hat; obtain ⟨Ao107,co107,eo107⟩:=Kd.R_slice HO239.out; subst eo107; have hcz108_0 : w106.cell? ⟨gb209,0,none⟩ = some (.slice Ao101 x210000_1.length co101):=(blk_cell BK209.out 0).trans rfl; have hcz108_1 : w106.cell? ⟨gb209,1,none⟩ = some (u210001):=(blk_cell BK209.out 1).trans rfl; have hfz108_0:=blk_frozen BK209.out 0; have hfz108_1:=blk_frozen BK209.out 1)|((with_reducible refine gate_builtin (b:=.append) (xs:=#[.tmp 65,.tmp 66]) rfl ?_); at_builtin; refine Kd.Q_append (Kd.int .i64) w.heap.size rfl (.tmp 65) (.tmp 66) 24 3 (.int .i64 0) 8 rfl Tryz.underlying24 info3 rfl (by decide) (by omega) u210001 x210001_1 1 [.int .i64 1] (fun k_ => some k_ ≠ (.slice Ao107 y237.length co107 : Value).ownBlock) (fun _ => False) rfl (by (go_simp; done)) ?aP (fun _ hk => hk.elim) ?aF ?aO (Below.refl _ _) ?aS ?aL ?_; (case aP => exact rfl); (case aF => exact (fun k_ hk => Kd.fresh' (Kd.R_lt (by exact (Kd.R_mono (Kd.R_far (p:=⟨gb209,0,none⟩) (Kd.R_types HO239.out BK209.out (by decide)) (fun _ hk => hk.2) (.slice Ao107 y237.length co107)) (fun _ h_ => h_.1)))) k_ hk)); (case aO => exact (by exact Kd.Q_mono (Kd.Q_far (p:=⟨gb209,0,none⟩) (Kd.Q_types HO_210001.out BK209.out (by decide)) (fun _ hk => hk.2) (.slice Ao107 y237.length co107)) (fun _ hk => hk.1.2))); (case aS => exact (keep_size (w:=w) (g:=g) (row:=none) (by repeat (with_reducible first|exact HK.out|refine keep_far ?_ GW209.out _)))); (case aL => have:=LMc99.out; omega); intro v241 w109 ho hb hg hat; rw [← Ny240.out] at ho; have n0_:=Aside0.mk (blk_grown (g:=gb200) (o:=.cells #[.slice none 0 0,.slice none 0 0] 26 (0,0)) (by refine blk_far ?_ NB200_209.out _; exact BK200.out) hg (Kd.Q_ne HO_210001.out BK200.out (by decide))); have n1_:=Aside0.mk (blk_grown (g:=gb209) (o:=.cells #[.slice Ao107 y237.length co107,u210001] 26 (0,0)) (by refine blk_put (cs:=#[.slice Ao101 x210000_1.length co101,u210001]) ?_ 0 _ rfl; exact BK209.out) hg (Kd.Q_ne HO_210001.out BK209.out (by decide))); have n2_:=Aside0.mk (IsS69.grown (show IsS69 w0 _ g s0_0 t235 t236 from by repeat (with_reducible first|exact HI0.out|refine IsS69.far ?_ NB0_209.out _)) hg (IsS69.own_neQ HI0.out HO_210001.out (by decide))); have n3_:=Aside0.mk (Kd.R_after (ok:=(fun _ => True)) (by exact Kd.R_mono (Kd.R_far (p:=⟨gb209,0,none⟩) (Kd.R_types HO239.out BK209.out (by decide)) (fun _ hk => hk.2) (.slice Ao107 y237.length co107)) (fun _ hk => ⟨trivial,hk.1⟩)) hg hat); have n4_:=Aside0.mk (below_weaken (by repeat (with_reducible first|exact HB.out|refine below_set ?_ GE209.out)) HL.out hb); have n5_:=Aside0.mk (KeepBut.trans (by repeat (with_reducible first|exact HK.out|refine keep_far ?_ GW209.out _)) (KeepBut.of_grown hg g) (Kd.Q_base2 HO_210001.out)); have n6_:=Aside0.mk (ho); clear BK200; clear BK209; clear HI0; clear HO239; clear HB; clear HK; clear HO_210001; have BK200:=n0_; have BK209:=n1_; have HI0:=n2_; have HO239:=n3_; have HB:=n4_; have HK:=n5_; have HO242:=n6_; clear n0_ n1_ n2_ n3_ n4_ n5_ n6_; clear ho hb hg hat; obtain ⟨Ao110,co110,eo110,_⟩:=Kd.Q_slice HO242.out; subst eo110; have hcz111_0 : w109.cell? ⟨gb209,0,none⟩ = some (.slice Ao107 y237.length co107):=(blk_cell BK209.out 0).trans rfl; have hcz111_1 : w109.cell? ⟨gb209,1,none⟩ = some (u210001):=(blk_cell BK209.out 1).trans rfl; have hfz111_0:=blk_frozen BK209.out 0; have hfz111_1:=blk_frozen BK209.out 1))
           go_roundg k1
           case measure => have:=HK1.out; omega
           case rel => exact ⟨(t235),(t236),(y237),(y240),(.slice Ao107 y237.length co107),(.slice Ao110 y240.length co110),H',⟨by have:=HK1.out; omega⟩,⟨by exact Kd.R_mono (Kd.R_far (p:=⟨gb209,1,none⟩) (Kd.R_types HO239.out BK209.out (by decide)) (fun _ hk => hk.2) (.slice Ao110 y240.length co110)) (fun _ hk => hk.1.2)⟩,⟨by exact Kd.Q_mono (Kd.Q_far (p:=⟨gb209,1,none⟩) (Kd.Q_types HO242.out BK209.out (by decide)) (fun _ hk => hk.2) (.slice Ao110 y240.length co110)) (fun _ hk => hk.1)⟩,⟨by refine blk_far ?_ NB200_209.out _; exact BK200.out⟩,⟨by refine blk_put (cs:=#[.slice Ao107 y237.length co107,u210001]) ?_ 1 _ rfl; exact BK209.out⟩,⟨by repeat (with_reducible first|exact HI0.out|refine IsS69.far ?_ NB0_209.out _)⟩,⟨by repeat (with_reducible first|exact HK.out|refine keep_far ?_ GW209.out _)⟩,⟨by repeat (with_reducible first|exact HB.out|refine below_set ?_ GE209.out)⟩⟩
          ·rw [if_neg c99] at H
           exact absurd H (by simp)
         ·rw [if_neg c98] at H
          exact absurd H (by simp)
        ·rw [if_neg c97] at H
         have c97b0 : decide ((x210000_1.length : Int) < (wrap64 (12 + t234))) = false:=decide_eq_false c97
         clear c97
         simp only [Option.some.injEq,Prod.mk.injEq] at H
         obtain ⟨rfl,rfl,rfl,rfl⟩:=H
         try go_wp2
         have n0_:=Aside0.mk (Kd.R_drew HO_210000.out)
         have n1_:=Aside0.mk (Kd.Q_drew HO_210001.out)
         have n2_:=Aside0.mk (blk_drew BK200.out)
         have n3_:=Aside0.mk (blk_drew BK209.out)
         have n4_:=Aside0.mk (IsS69.drew HI0.out)
         have n5_:=Aside0.mk (keep_drew HK.out)
         have n6_:=Aside0.mk (below_drew1 HB.out)
         clear HO_210000
         clear HO_210001
         clear BK200
         clear BK209
         clear HI0
         clear HK
         clear HB
         have HO_210000:=n0_
         have HO_210001:=n1_
         have BK200:=n2_
         have BK209:=n3_
         have HI0:=n4_
         have HK:=n5_
         have HB:=n6_
         clear n0_ n1_ n2_ n3_ n4_ n5_ n6_
         obtain ⟨Ao113,co113,eo113⟩:=Kd.R_slice HO_210000.out
         (subst eo113)
         refine start_ (n:=7) (S:=fun w' => w'.cell? ⟨gb209,0,none⟩ = some (.slice Ao113 x210000_1.length co113) ∧ w'.cell? ⟨gb209,1,none⟩ = some (u210001)) (ds:=[]) #[false,false,false,false,false,false,false] (by kernel_rfl) rfl rfl ⟨(blk_cell BK209.out 0).trans rfl,(blk_cell BK209.out 1).trans rfl⟩ (fun hHeld => ?_)
         generalize wr.drew = w112 at HO_210000 HO_210001 BK200 BK209 HI0 HK HB hHeld ⊢
         refine pure_ (i:=0) (N:=some 47) (v:=?_) (a':=?_) #[true,false,false,false,false,false,false] rfl rfl (by kernel_rfl) (fun _ _ _ h => h) (Or.inl ⟨by rfl,?_⟩) ?_ ?_
         rotate_left
         ·intro w'
          go_simp
          with_reducible rfl
         rotate_left
         ·simp only [Act.put,List.setIfInBounds_toArray,List.set_cons_zero,List.set_cons_succ,i64_w,i32_w]
          rfl
         refine pure_ (i:=3) (N:=some 50) (v:=?_) (a':=?_) #[true,false,false,true,false,false,false] rfl rfl (by kernel_rfl) (fun _ _ _ h => h) (Or.inl ⟨by rfl,?_⟩) ?_ ?_
         rotate_left
         ·intro w'
          go_simp
          with_reducible rfl
         rotate_left
         ·simp only [Act.put,List.setIfInBounds_toArray,List.set_cons_zero,List.set_cons_succ,i64_w,i32_w]
          rfl
         refine take_ (i:=1) (N:=some 48) (v:=?_) (a':=?_) #[true,true,false,true,false,false,false] rfl rfl (by kernel_rfl) (fun _ _ _ h => h) (Or.inl ⟨by rfl,?_⟩) hHeld ?_ ?_
         rotate_left
         ·rintro w' ⟨s0,s1⟩
          go_simp
          with_reducible rfl
         rotate_left
         ·simp only [Act.put,List.setIfInBounds_toArray,List.set_cons_zero,List.set_cons_succ,i64_w,i32_w]
          rfl
         refine pure_ (i:=2) (N:=some 49) (v:=?_) (a':=?_) #[true,true,true,true,false,false,false] rfl rfl (by kernel_rfl) (fun _ _ _ h => h) (Or.inl ⟨by rfl,?_⟩) ?_ ?_
         rotate_left
         ·intro w'
          go_simp
          with_reducible rfl
         rotate_left
         ·simp only [Act.put,List.setIfInBounds_toArray,List.set_cons_zero,List.set_cons_succ,i64_w,i32_w]
          rfl
         refine one_ (i:=4) (N:=some 51) #[true,true,true,true,true,false,false] rfl rfl (by kernel_rfl) (by decide) (fun K hK => ?_)
         refine goes_ Tryz.func47 (by kernel_rfl) rfl #[.pointer (some ⟨g,0,none⟩),.int .i64 2] (by rfl) rfl rfl (by (try simp only [List.map_toArray,List.map_cons,List.map_nil]); (rfl)) ?_
         with_reducible refine (spec_l1Cur_pick.calls g s0_0 x1001_1 x1002_1 2 t234 t235 t236 w0 _ ?side1 ?side2 A96.out).mono ?_
         (case side1 => repeat (((with_reducible (exact HI0.out)))))
         (case side2 => repeat (((with_reducible (exact HB.out)))))
         rintro e w114 ⟨rfl,hi,hb,hk⟩
         refine ⟨_,rfl,?_⟩
         have n0_:=Aside0.mk (Kd.R_mono (Kd.R_keep (IsS69.apart (show IsS69 w0 _ g s0_0 x1001_1 x1002_1 from by repeat (((with_reducible (exact HI0.out))))) (by exact HO_210000.out) (by decide)) hk (fun _ h => h.2)) (fun _ h => h.1))
         have n1_:=Aside0.mk (Kd.Q_mono (Kd.Q_keep (IsS69.apartQ (show IsS69 w0 _ g s0_0 x1001_1 x1002_1 from by repeat (((with_reducible (exact HI0.out))))) (by exact HO_210001.out) (by decide)) hk (fun _ h => h.2)) (fun _ h => h.1))
         have n2_:=Aside0.mk (KeepBut.blk hk (g':=gb200) (o:=.cells #[.slice none 0 0,.slice none 0 0] 26 (0,0)) (by exact BK200.out) NB200_0.out (by simp))
         have n3_:=Aside0.mk (KeepBut.blk hk (g':=gb209) (o:=.cells #[.slice Ao113 x210000_1.length co113,u210001] 26 (0,0)) (by exact BK209.out) NB209_0.out (by simp))
         have n4_:=Aside0.mk (KeepBut.trans (by repeat (((with_reducible (exact HK.out))))) hk (.inl rfl))
         have n5_:=Aside0.mk (hb)
         have n6_:=Aside0.mk (hi)
         clear HO_210000
         clear HO_210001
         clear BK200
         clear BK209
         clear HK
         clear HB
         clear HI0
         have HO_210000:=n0_
         have HO_210001:=n1_
         have BK200:=n2_
         have BK209:=n3_
         have HK:=n4_
         have HB:=n5_
         have HI0:=n6_
         clear n0_ n1_ n2_ n3_ n4_ n5_ n6_
         (try clear hb)
         (try clear hb2)
         (try clear hk)
         (try clear hi)
         refine hK.out _ _ ⟨(blk_cell BK209.out 0).trans rfl,(blk_cell BK209.out 1).trans rfl⟩ (fun hHeld => ?_)
         clear hK K
         refine norm_ (a':=?_) ?_ ?_
         rotate_left
         ·show Act.put _ (some 51) _ = _
          simp only [Act.put,List.setIfInBounds_toArray,List.set_cons_zero,List.set_cons_succ,i64_w,i32_w]
          rfl
         refine pure_ (i:=5) (N:=some 52) (v:=?_) (a':=?_) #[true,true,true,true,true,true,false] rfl rfl (by kernel_rfl) (fun _ _ _ h => h) (Or.inl ⟨by rfl,?_⟩) ?_ ?_
         rotate_left
         ·intro w'
          go_simp
          with_reducible rfl
         rotate_left
         ·simp only [Act.put,List.setIfInBounds_toArray,List.set_cons_zero,List.set_cons_succ,i64_w,i32_w]
          rfl
         refine pure_ (i:=6) (N:=some 53) (v:=?_) (a':=?_) #[true,true,true,true,true,true,true] rfl rfl (by kernel_rfl) (fun _ _ _ h => h) (Or.inl ⟨by rfl,?_⟩) ?_ ?_
         rotate_left
         ·intro w'
          go_simp
          with_reducible rfl
         rotate_left
         ·simp only [Act.put,List.setIfInBounds_toArray,List.set_cons_zero,List.set_cons_succ,i64_w,i32_w]
          rfl
         refine done_ (by kernel_rfl) ?_
         have hnb115:=NB209_200.out
         have hnc115:=NB200_209.out
         have hnb116:=NB209_0.out
         have hnc116:=NB0_209.out
         have hcz117_0 : w114.cell? ⟨gb209,0,none⟩ = some (.slice Ao113 x210000_1.length co113):=(blk_cell BK209.out 0).trans rfl
         have hcz117_1 : w114.cell? ⟨gb209,1,none⟩ = some (u210001):=(blk_cell BK209.out 1).trans rfl
         have hfz117_0:=blk_frozen BK209.out 0
         have hfz117_1:=blk_frozen BK209.out 1
         have hnb118:=NB200_0.out
         have hnc118:=NB0_200.out
         have hcz119_0 : w114.cell? ⟨gb200,0,none⟩ = some (.slice none 0 0):=(blk_cell BK200.out 0).trans rfl
         have hcz119_1 : w114.cell? ⟨gb200,1,none⟩ = some (.slice none 0 0):=(blk_cell BK200.out 1).trans rfl
         have hfz119_0:=blk_frozen BK200.out 0
         have hfz119_1:=blk_frozen BK200.out 1
         obtain ⟨Ao120,co120,eo120,_⟩:=Kd.Q_slice HO_210001.out
         subst eo120
         try go_wp2
         refine bodyPost_ret (results_cell_row rfl _ _ gb200 26 #[.slice Ao113 x210000_1.length co113,.slice Ao120 x210001_1.length co120] (0,0) _ rfl (by refine blk_put (cs:=#[.slice Ao113 x210000_1.length co113,.slice none 0 0]) ?_ 1 _ rfl; refine blk_put (cs:=#[.slice none 0 0,.slice none 0 0]) ?_ 0 _ rfl; exact BK200.out) Tryz.underlying26 rfl (by kernel_rfl)) rfl ?_
         exact ⟨_,_,by (rfl),by exact Kd.R_mono (Kd.R_far (p:=⟨gb200,1,none⟩) (Kd.R_far (p:=⟨gb200,0,none⟩) (Kd.R_types HO_210000.out BK200.out (by decide)) (fun _ hk => hk.2) (.slice Ao113 x210000_1.length co113)) (fun _ hk => hk.2) (.slice Ao120 x210001_1.length co120)) (fun _ hk => hk.1),by exact Kd.Q_mono (Kd.Q_far (p:=⟨gb200,1,none⟩) (Kd.Q_far (p:=⟨gb200,0,none⟩) (Kd.Q_types HO_210001.out BK200.out (by decide)) (fun _ hk => hk.2) (.slice Ao113 x210000_1.length co113)) (fun _ hk => hk.2) (.slice Ao120 x210001_1.length co120)) (fun _ hk => hk.1),by repeat (with_reducible first|exact HI0.out|refine IsS69.far ?_ NB0_200.out _),by repeat (with_reducible first|exact HB.out|refine below_set ?_ GE200.out),by repeat (with_reducible first|exact HK.out|refine keep_far ?_ GW200.out _)⟩
     ·rw [if_neg c85] at H
      have c85b0 : (t213 == 4) = false:=beq_eq_false_iff_ne.mpr c85
      have c85b1 : (t213 != 4) = true:=bne_iff_ne.mpr c85
      simp only [Option.some.injEq,Prod.mk.injEq] at H
      obtain ⟨rfl,rfl,rfl,rfl⟩:=H
      have hcz131_0 : w20.cell? ⟨gb209,0,none⟩ = some (.slice Ao14 t201.length co14):=(blk_cell BK209.out 0).trans rfl
      have hcz131_1 : w20.cell? ⟨gb209,1,none⟩ = some (.slice Ao18 t204.length co18):=(blk_cell BK209.out 1).trans rfl
      have hfz131_0:=blk_frozen BK209.out 0
      have hfz131_1:=blk_frozen BK209.out 1
      have hnb132:=NB200_0.out
      have hnc132:=NB0_200.out
      have hcz133_0 : w20.cell? ⟨gb200,0,none⟩ = some (.slice none 0 0):=(blk_cell BK200.out 0).trans rfl
      have hcz133_1 : w20.cell? ⟨gb200,1,none⟩ = some (.slice none 0 0):=(blk_cell BK200.out 1).trans rfl
      have hfz133_0:=blk_frozen BK200.out 0
      have hfz133_1:=blk_frozen BK200.out 1
      try go_wp2
      refine bodyPost_ret (results_cell_row rfl _ _ gb200 26 #[.slice Ao14 t201.length co14,.slice Ao18 t204.length co18] (0,0) _ rfl (by refine blk_put (cs:=#[.slice Ao14 t201.length co14,.slice none 0 0]) ?_ 1 _ rfl; refine blk_put (cs:=#[.slice none 0 0,.slice none 0 0]) ?_ 0 _ rfl; exact BK200.out) Tryz.underlying26 rfl (by kernel_rfl)) rfl ?_
      exact ⟨_,_,by (rfl),by exact Kd.R_mono (Kd.R_far (p:=⟨gb200,1,none⟩) (Kd.R_far (p:=⟨gb200,0,none⟩) (Kd.R_types HO203.out BK200.out (by decide)) (fun _ hk => hk.2) (.slice Ao14 t201.length co14)) (fun _ hk => hk.2) (.slice Ao18 t204.length co18)) (fun _ hk => hk.1),Kd.Q_of_R (by exact Kd.R_mono (Kd.R_far (p:=⟨gb200,1,none⟩) (Kd.R_far (p:=⟨gb200,0,none⟩) (Kd.R_types HO206.out BK200.out (by decide)) (fun _ hk => hk.2) (.slice Ao14 t201.length co14)) (fun _ hk => hk.2) (.slice Ao18 t204.length co18)) (fun _ hk => hk.1)),by repeat (with_reducible first|exact HI0.out|refine IsS69.far ?_ NB0_200.out _),by repeat (with_reducible first|exact HB.out|refine below_set ?_ GE200.out),by repeat (with_reducible first|exact HK.out|refine keep_far ?_ GW200.out _)⟩

end Go.Proofs.YtfindomajbjacaaGreatDoor.X
