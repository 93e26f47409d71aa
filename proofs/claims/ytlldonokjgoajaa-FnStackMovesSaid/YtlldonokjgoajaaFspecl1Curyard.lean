-- Written by a program of ours (wip/bin/xprint.py,over the kit's print.py) out of the translation. Not trusted: Lean checks it.
import Derived.Test.YtlldonokjgoajaaX0
import Derived.Test.YtlldonokjgoajaaFbCur
import Derived.Test.YtlldonokjgoajaaFbYard
import Derived.Test.YtlldonokjgoajaaGl5Move
namespace Go.Proofs.Ytlldonokjgoajaa.X
open Go.RowKit Go.Proofs.YtlldonokjgoajaaW.PrintWords Go.Proofs.YtlldonokjgoajaaW.PrintLast Go.Proofs.YtlldonokjgoajaaW.PrintMore
def lbfc4 : Nat → Nat → List Bool
 | 0,_ => []
 | n+1,m => (m%2==1) :: lbfc4 n (m/2)
def bfc4 (n m : Nat) : Array Bool := ⟨lbfc4 n m⟩
attribute [local go_sem] max2_int min2_int max_two min_two max_three min_three max_four min_four   -- for this text's walks alone
set_option linter.unusedVariables false
set_option linter.unusedSimpArgs false

/-! ### spec_l1Cur_yard: function 167 -/
mutual
def spec_l1Cur_yard.l0 : Nat → Int → List Int → Int → Int → List (List Int) → Option ((List (List Int)) × Int × Int)
 | 0,_,_,_,_,_ => none
 | k + 1,x4,x1000,x1001,x1002,x531000 => if x4 > 0 then (if x531000.length < 5864062014805 then (spec_l1Cur_yard.l0 k (wrap64 (x4 - 1)) x1000 x1001 x1002 (x531000 ++ [([] : List Int)])) else (none)) else ((spec_l1Cur_pick.f x1000 x1001 x1002 8).bind fun bt540 => (spec_l1Cur_yard.l1 k (wrap64 (1 + bt540.1)) x1000 bt540.2.1 bt540.2.2 x531000))
def spec_l1Cur_yard.l1 : Nat → Int → List Int → Int → Int → List (List Int) → Option ((List (List Int)) × Int × Int)
 | 0,_,_,_,_,_ => none
 | k + 1,x5,x1000,x1001,x1002,x531000 => if x5 > 0 then ((spec_l1Cur_pick.f x1000 x1001 x1002 (x531000.length : Int)).bind fun bt543 => (if 0 ≤ bt543.1 then (if bt543.1 < (x531000.length : Int) then (if ((rd_L2 x531000 bt543.1).length : Int) < 4 then (if (rd_L2 x531000 bt543.1).length < 17592186044416 then (spec_l1Cur_yard.l1 k (wrap64 (x5 - 1)) x1000 bt543.2.1 bt543.2.2 (x531000.set (bt543.1 : Int).toNat ((rd_L2 x531000 bt543.1) ++ [x5]))) else (none)) else (spec_l1Cur_yard.l1 k (wrap64 (x5 - 1)) x1000 bt543.2.1 bt543.2.2 x531000)) else (none)) else (none))) else ((spec_l1Cur_pick.f x1000 x1001 x1002 4).bind fun bt552 => (spec_l1Cur_yard.l2 k bt552.1 x1000 bt552.2.1 bt552.2.2 x531000))
def spec_l1Cur_yard.l2 : Nat → Int → List Int → Int → Int → List (List Int) → Option ((List (List Int)) × Int × Int)
 | 0,_,_,_,_,_ => none
 | k + 1,x7,x1000,x1001,x1002,x531000 => if x7 > 0 then ((spec_l1Cur_pick.f x1000 x1001 x1002 (x531000.length : Int)).bind fun bt558 => ((spec_l1Cur_pick.f x1000 bt558.2.1 bt558.2.2 (x531000.length : Int)).bind fun bt561 => (if bt558.1 = bt561.1 then (spec_l1Cur_yard.l2 k (wrap64 (x7 - 1)) x1000 bt561.2.1 bt561.2.2 x531000) else (if 0 ≤ bt558.1 then (if bt558.1 < (x531000.length : Int) then (if ((rd_L2 x531000 bt558.1).length : Int) > 0 then (if 0 ≤ bt561.1 then (if bt561.1 < (x531000.length : Int) then (if ((rd_L2 x531000 bt561.1).length : Int) < 4 then ((spec_l5Move.f k x531000 bt558.1 bt561.1).bind fun t566 => (spec_l1Cur_yard.l2 k (wrap64 (x7 - 1)) x1000 bt561.2.1 bt561.2.2 t566)) else (spec_l1Cur_yard.l2 k (wrap64 (x7 - 1)) x1000 bt561.2.1 bt561.2.2 x531000)) else (none)) else (none)) else (spec_l1Cur_yard.l2 k (wrap64 (x7 - 1)) x1000 bt561.2.1 bt561.2.2 x531000)) else (none)) else (none))))) else ((spec_l5Own.f k x531000).bind fun t555 => (some (t555,x1001,x1002)))
end
def spec_l1Cur_yard.f (k : Nat) (s0_0 : List Int) (s0_1 : Int) (s0_2 : Int) : Option ((List (List Int)) × Int × Int):=(spec_l1Cur_pick.f s0_0 s0_1 s0_2 4).bind fun bt531 => (spec_l1Cur_yard.l0 k (wrap64 (1 + bt531.1)) s0_0 bt531.2.1 bt531.2.2 ([] : List (List Int)))
theorem spec_l1Cur_yard.mono_l : ∀ k,(∀ y0 y1 y2 y3 y4,LeO (spec_l1Cur_yard.l0 k y0 y1 y2 y3 y4) (spec_l1Cur_yard.l0 (k + 1) y0 y1 y2 y3 y4)) ∧ (∀ y0 y1 y2 y3 y4,LeO (spec_l1Cur_yard.l1 k y0 y1 y2 y3 y4) (spec_l1Cur_yard.l1 (k + 1) y0 y1 y2 y3 y4)) ∧ (∀ y0 y1 y2 y3 y4,LeO (spec_l1Cur_yard.l2 k y0 y1 y2 y3 y4) (spec_l1Cur_yard.l2 (k + 1) y0 y1 y2 y3 y4))
 | 0 => ⟨fun _ _ _ _ _ r h => by simp [spec_l1Cur_yard.l0] at h,fun _ _ _ _ _ r h => by simp [spec_l1Cur_yard.l1] at h,fun _ _ _ _ _ r h => by simp [spec_l1Cur_yard.l2] at h⟩
 | k + 1 => by
  obtain ⟨ih0,ih1,ih2⟩:=spec_l1Cur_yard.mono_l k
  refine ⟨?_,?_,?_⟩
  ·intro y0 y1 y2 y3 y4
   unfold spec_l1Cur_yard.l0
   repeat' first
   | (with_reducible exact ih0 _ _ _ _ _)
   | (with_reducible exact ih1 _ _ _ _ _)
   | (with_reducible exact ih2 _ _ _ _ _)
   | (with_reducible exact spec_l5Move.mono _ _ _ _)
   | (with_reducible exact spec_l5Own.mono _ _)
   | (with_reducible exact LeO.refl _)
   | (with_reducible exact LeO.none _)
   | (with_reducible refine LeO.ite ?_ ?_)
   | (with_reducible refine LeO.bind ?_ (fun _ => ?_))
   | exact ih0 _ _ _ _ _
   | exact ih1 _ _ _ _ _
   | exact ih2 _ _ _ _ _
   | exact spec_l5Move.mono _ _ _ _
   | exact spec_l5Own.mono _ _
   | exact LeO.none _
   | refine LeO.ite ?_ ?_
   | refine LeO.bind ?_ (fun _ => ?_)
  ·intro y0 y1 y2 y3 y4
   unfold spec_l1Cur_yard.l1
   repeat' first
   | (with_reducible exact ih0 _ _ _ _ _)
   | (with_reducible exact ih1 _ _ _ _ _)
   | (with_reducible exact ih2 _ _ _ _ _)
   | (with_reducible exact spec_l5Move.mono _ _ _ _)
   | (with_reducible exact spec_l5Own.mono _ _)
   | (with_reducible exact LeO.refl _)
   | (with_reducible exact LeO.none _)
   | (with_reducible refine LeO.ite ?_ ?_)
   | (with_reducible refine LeO.bind ?_ (fun _ => ?_))
   | exact ih0 _ _ _ _ _
   | exact ih1 _ _ _ _ _
   | exact ih2 _ _ _ _ _
   | exact spec_l5Move.mono _ _ _ _
   | exact spec_l5Own.mono _ _
   | exact LeO.none _
   | refine LeO.ite ?_ ?_
   | refine LeO.bind ?_ (fun _ => ?_)
  ·intro y0 y1 y2 y3 y4
   unfold spec_l1Cur_yard.l2
   repeat' first
   | (with_reducible exact ih0 _ _ _ _ _)
   | (with_reducible exact ih1 _ _ _ _ _)
   | (with_reducible exact ih2 _ _ _ _ _)
   | (with_reducible exact spec_l5Move.mono _ _ _ _)
   | (with_reducible exact spec_l5Own.mono _ _)
   | (with_reducible exact LeO.refl _)
   | (with_reducible exact LeO.none _)
   | (with_reducible refine LeO.ite ?_ ?_)
   | (with_reducible refine LeO.bind ?_ (fun _ => ?_))
   | exact ih0 _ _ _ _ _
   | exact ih1 _ _ _ _ _
   | exact ih2 _ _ _ _ _
   | exact spec_l5Move.mono _ _ _ _
   | exact spec_l5Own.mono _ _
   | exact LeO.none _
   | refine LeO.ite ?_ ?_
   | refine LeO.bind ?_ (fun _ => ?_)
theorem spec_l1Cur_yard.mono : ∀ a0 a1 a2 k,LeO (spec_l1Cur_yard.f k a0 a1 a2) (spec_l1Cur_yard.f (k + 1) a0 a1 a2):=by
 intro a0 a1 a2 k
 obtain ⟨ih0,ih1,ih2⟩:=spec_l1Cur_yard.mono_l k
 unfold spec_l1Cur_yard.f
 repeat' first
   | (with_reducible exact ih0 _ _ _ _ _)
   | (with_reducible exact ih1 _ _ _ _ _)
   | (with_reducible exact ih2 _ _ _ _ _)
   | (with_reducible exact spec_l5Move.mono _ _ _ _)
   | (with_reducible exact spec_l5Own.mono _ _)
   | (with_reducible exact LeO.refl _)
   | (with_reducible exact LeO.none _)
   | (with_reducible refine LeO.ite ?_ ?_)
   | (with_reducible refine LeO.bind ?_ (fun _ => ?_))
   | exact ih0 _ _ _ _ _
   | exact ih1 _ _ _ _ _
   | exact ih2 _ _ _ _ _
   | exact spec_l5Move.mono _ _ _ _
   | exact spec_l5Own.mono _ _
   | exact LeO.none _
   | refine LeO.ite ?_ ?_
   | refine LeO.bind ?_ (fun _ => ?_)
def spec_l1Cur_yard.T11 : Bool × List (List Nat × List Nat):=(true,[([],[]),([0],[0]),([],[]),([],[]),([3],[3]),([],[]),([4,5],[4,5]),([6],[6]),([],[]),([8],[8]),([7,9],[7,9]),([1,2,0,1,2,3,4,5,6,7,8,9,10],[1,2]),([11,10,10,0,1,2,3,4,5,6,7,8,9,10],[10,11])])
def spec_l1Cur_yard.B11 : List Nat:=[0,1,0,0,8,0,56,120,0,256,1016,2047,4095]
theorem spec_l1Cur_yard.tab11 : rtab .any (opsOf Try.f167 11) = spec_l1Cur_yard.T11:=by kernel_rfl
theorem spec_l1Cur_yard.bits11 : waitsOk spec_l1Cur_yard.T11.2 spec_l1Cur_yard.B11 = true:=by kernel_rfl
def spec_l1Cur_yard.T15 : Bool × List (List Nat × List Nat):=(true,[([],[]),([],[]),([1],[1]),([2],[2]),([0,3],[0,3]),([],[]),([],[]),([6],[6]),([7],[7]),([5,8,4],[5,8]),([4,9,0,1,2,3,4],[4]),([9,10,0,1,2,3,4,5,6,7,8,9,10],[9])])
def spec_l1Cur_yard.B15 : List Nat:=[0,0,2,6,15,0,0,64,192,511,1023,2047]
theorem spec_l1Cur_yard.tab15 : rtab .any (opsOf Try.f167 15) = spec_l1Cur_yard.T15:=by kernel_rfl
theorem spec_l1Cur_yard.bits15 : waitsOk spec_l1Cur_yard.T15.2 spec_l1Cur_yard.B15 = true:=by kernel_rfl
set_option maxHeartbeats 8000000 in
set_option maxRecDepth 100000 in
theorem spec_l1Cur_yard.calls (k : Nat) (g : Nat) (s0_0 : List Int) (s0_1 : Int) (s0_2 : Int) (r1 : List (List Int)) (r2 : Int) (r3 : Int) (w0 w : World) (hI : IsS112 w0 w g s0_0 s0_1 s0_2) (hB : Below w0.heap.size w0 w) (h : spec_l1Cur_yard.f k s0_0 s0_1 s0_2 = some (r1,r2,r3)) :
  Calls Try.prog 167 #[.pointer (some ⟨g,0,none⟩)] w fun e w' => ∃ v0_ : Value,e = .returned (.agg #[v0_]) ∧ Kd.S (Kd.slice 3 (Kd.int .i64)) 24 w' w.heap.size (fun _ => True) v0_ r1 ∧ IsS112 w0 w' g s0_0 r2 r3 ∧ Below w0.heap.size w0 w' ∧ KeepBut w w' g none:=by
 have hu42:=Try.underlying42
 have HI0:=Aside0.mk hI
 have HK:=Aside0.mk (KeepBut.refl w g none)
 have HL:=Aside0.mk hB.size
 clear hI
 have HW0:=Aside0.mk hB.size
 have HB:=Aside0.mk hB
 clear hB
 have H : ((spec_l1Cur_pick.f s0_0 s0_1 s0_2 4).bind fun bt531 => (spec_l1Cur_yard.l0 k (wrap64 (1 + bt531.1)) s0_0 bt531.2.1 bt531.2.2 ([] : List (List Int)))) = some (r1,r2,r3):=h
 clear h
 replace H:=Option.bind_eq_some_iff.mp H
 obtain ⟨⟨t531,t532,t533⟩,A20,H⟩:=H
 replace H : (spec_l1Cur_yard.l0 k (wrap64 (1 + t531)) s0_0 t532 t533 ([] : List (List Int))) = some (r1,r2,r3):=H
 have A2:=Aside0.mk A20
 clear A20
 have H':=Aside0.mk H
 clear H
 go_enter Try.func167,Try.ntmps167
 go_wp2_with (first|((with_reducible refine gate_dst (N:=2) rfl ?_); (try (refine gate_guard (by rfl) ?_; dsimp only)); refine box_event ?hg (N:=2) ?hd (cs:=#[.slice none 0 0]) (t:=42) ?hr ?_; (case hd => rfl); (case hg => rfl); (case hr => (go_simp; done)); intro gb529 hg w3 hbox hb; have n0_:=Aside0.mk (IsS112.below (by repeat (((with_reducible (exact HI0.out))))) hb); have n1_:=Aside0.mk (KeepBut.trans (by repeat (((with_reducible (exact HK.out))))) (KeepBut.of_below hb g none) (.inl rfl)); have n2_:=Aside0.mk (below_step (by repeat (((with_reducible (exact HB.out))))) hb); have n3_:=Aside0.mk (hbox); have n4_:=Aside0.mk ((by rw [hg]; exact (keep_size (w:=w) (g:=g) (row:=none) (by repeat (((with_reducible (exact HK.out)))))) : w.heap.size ≤ gb529)); have n5_:=Aside0.mk ((Nat.le_trans HW0.out (by rw [hg]; exact (keep_size (w:=w) (g:=g) (row:=none) (by repeat (((with_reducible (exact HK.out)))))) : w.heap.size ≤ gb529) : w0.heap.size ≤ gb529)); have n6_:=Aside0.mk ((by rw [hg]; exact Nat.ne_of_lt (IsS112.lt (show IsS112 w0 _ g s0_0 s0_1 s0_2 from by repeat (((with_reducible (exact HI0.out)))))) : g ≠ gb529)); have n7_:=Aside0.mk ((by rw [hg]; exact Nat.ne_of_gt (IsS112.lt (show IsS112 w0 _ g s0_0 s0_1 s0_2 from by repeat (((with_reducible (exact HI0.out)))))) : gb529 ≠ g)); clear HI0; clear HK; clear HB; have HI0:=n0_; have HK:=n1_; have HB:=n2_; have BK529:=n3_; have GW529:=n4_; have GE529:=n5_; have NB0_529:=n6_; have NB529_0:=n7_; clear n0_ n1_ n2_ n3_ n4_ n5_ n6_ n7_; clear hb hbox hg)|((with_reducible refine gate_dst (N:=3) rfl ?_); (try (refine gate_guard (by rfl) ?_; dsimp only)); refine box_event ?hg (N:=3) ?hd (cs:=#[.slice none 0 0]) (t:=42) ?hr ?_; (case hd => rfl); (case hg => rfl); (case hr => (go_simp; done)); intro gb530 hg w4 hbox hb; have n0_:=Aside0.mk (IsS112.below (by repeat (((with_reducible (exact HI0.out))))) hb); have n1_:=Aside0.mk (blk_below (g:=gb529) (o:=.cells #[.slice none 0 0] 42 (0,0)) (by exact BK529.out) hb); have n2_:=Aside0.mk (KeepBut.trans (by repeat (((with_reducible (exact HK.out))))) (KeepBut.of_below hb g none) (.inl rfl)); have n3_:=Aside0.mk (below_step (by repeat (((with_reducible (exact HB.out))))) hb); have n4_:=Aside0.mk (hbox); have n5_:=Aside0.mk ((by rw [hg]; exact (keep_size (w:=w) (g:=g) (row:=none) (by repeat (((with_reducible (exact HK.out)))))) : w.heap.size ≤ gb530)); have n6_:=Aside0.mk ((Nat.le_trans HW0.out (by rw [hg]; exact (keep_size (w:=w) (g:=g) (row:=none) (by repeat (((with_reducible (exact HK.out)))))) : w.heap.size ≤ gb530) : w0.heap.size ≤ gb530)); have n7_:=Aside0.mk ((by rw [hg]; exact Nat.ne_of_lt (blk_lt (g:=gb529) (o:=.cells #[.slice none 0 0] 42 (0,0)) (by exact BK529.out)) : gb529 ≠ gb530)); have n8_:=Aside0.mk ((by rw [hg]; exact Nat.ne_of_gt (blk_lt (g:=gb529) (o:=.cells #[.slice none 0 0] 42 (0,0)) (by exact BK529.out)) : gb530 ≠ gb529)); have n9_:=Aside0.mk ((by rw [hg]; exact Nat.ne_of_lt (IsS112.lt (show IsS112 w0 _ g s0_0 s0_1 s0_2 from by repeat (((with_reducible (exact HI0.out)))))) : g ≠ gb530)); have n10_:=Aside0.mk ((by rw [hg]; exact Nat.ne_of_gt (IsS112.lt (show IsS112 w0 _ g s0_0 s0_1 s0_2 from by repeat (((with_reducible (exact HI0.out)))))) : gb530 ≠ g)); clear HI0; clear BK529; clear HK; clear HB; have HI0:=n0_; have BK529:=n1_; have HK:=n2_; have HB:=n3_; have BK530:=n4_; have GW530:=n5_; have GE530:=n6_; have NB529_530:=n7_; have NB530_529:=n8_; have NB0_530:=n9_; have NB530_0:=n10_; clear n0_ n1_ n2_ n3_ n4_ n5_ n6_ n7_ n8_ n9_ n10_; clear hb hbox hg; have hnb5:=NB530_529.out; have hnc5:=NB529_530.out; have hnb6:=NB530_0.out; have hnc6:=NB0_530.out; have hcz7_0 : w4.cell? ⟨gb530,0,none⟩ = some (.slice none 0 0):=(blk_cell BK530.out 0).trans rfl; have hfz7_0:=blk_frozen BK530.out 0)|((with_reducible refine gate_callee (f:=97) rfl ?_); refine goesL_ (some 12) rfl rfl Try.func97 (by kernel_rfl) rfl #[.pointer (some ⟨g,0,none⟩),.int .i64 4] rfl (by (try simp only [List.map_toArray,List.map_cons,List.map_nil]); (rfl)) ?_; (with_reducible refine (spec_l1Cur_pick.calls g s0_0 s0_1 s0_2 4 t531 t532 t533 w0 _ ?side1 ?side2 A2.out).mono ?_); (case side1 => repeat (with_reducible first|exact HI0.out|refine IsS112.far ?_ NB0_530.out _)); (case side2 => repeat (with_reducible first|exact HB.out|refine below_set ?_ GE530.out)); rintro e w8 ⟨rfl,hi,hb,hk⟩; refine ⟨_,rfl,?_⟩; have n0_:=Aside0.mk (KeepBut.blk hk (g':=gb529) (o:=.cells #[.slice none 0 0] 42 (0,0)) (by refine blk_far ?_ NB529_530.out _; exact BK529.out) NB529_0.out (by simp)); have n1_:=Aside0.mk (KeepBut.blk hk (g':=gb530) (o:=.cells #[.slice none 0 0] 42 (0,0)) (by refine blk_put (cs:=#[.slice none 0 0]) ?_ 0 _ rfl; exact BK530.out) NB530_0.out (by simp)); have n2_:=Aside0.mk (KeepBut.trans (by repeat (with_reducible first|exact HK.out|refine keep_far ?_ GW530.out _)) hk (.inl rfl)); have n3_:=Aside0.mk (hb); have n4_:=Aside0.mk (hi); clear BK529; clear BK530; clear HK; clear HB; clear HI0; have BK529:=n0_; have BK530:=n1_; have HK:=n2_; have HB:=n3_; have HI0:=n4_; clear n0_ n1_ n2_ n3_ n4_; (try clear hb); (try clear hb2); (try clear hk); (try clear hi)))
 go_loopg [4] k (fun kq v4 w' => ∃ (x4_1 : Int) (x531000_1 : List (List Int)) (u531000 : Value),v4 = .int .i64 x4_1 ∧ Aside0 (spec_l1Cur_yard.l0 kq x4_1 s0_0 t532 t533 x531000_1 = some (r1,r2,r3)) ∧ Aside0 (kq ≤ k) ∧ Aside0 (Kd.S (Kd.slice 3 (Kd.int .i64)) 24 w' w.heap.size (fun _ => True) u531000 x531000_1) ∧ Aside0 (w'.heap[gb529]? = some (.cells #[(.slice none 0 0)] 42 (0,0))) ∧ Aside0 (w'.heap[gb530]? = some (.cells #[u531000] 42 (0,0))) ∧ Aside0 (IsS112 w0 w' g s0_0 t532 t533) ∧ Aside0 (KeepBut w w' g none) ∧ Aside0 (Below w0.heap.size w0 w'))
 case atStart => exact ⟨(wrap64 (1 + t531)),(([] : List (List Int))),(.slice none 0 0),(by (rfl)),H',⟨Nat.le_refl _⟩,⟨by (exact Kd.S_nil _ _ _ _ _)⟩,⟨by exact BK529.out⟩,⟨by exact BK530.out⟩,⟨by repeat (((with_reducible (exact HI0.out))))⟩,⟨by repeat (((with_reducible (exact HK.out))))⟩,⟨by repeat (((with_reducible (exact HB.out))))⟩⟩
 case round =>
  clear H'
  try clear c1
  try clear p2
  try clear c5
  try clear c6
  try clear p6
  try clear hcz7_0
  try clear hfz7_0
  obtain ⟨x4_1,x531000_1,u531000,rfl,HA,HK1,HO_531000,BK529,BK530,HI0,HK,HB⟩:=hrel
  cases gk with
  | zero => exact absurd HA.out (by simp [spec_l1Cur_yard.l0])
  | succ k1 =>
   have H:=HA.out
   clear HA
   simp only [spec_l1Cur_yard.l0] at H
   by_cases c9 : x4_1 > 0
   ·rw [if_pos c9] at H
    have c9b0 : decide (0 < x4_1) = true:=decide_eq_true c9
    clear c9
    obtain ⟨y534,hy534⟩ : ∃ y_ : List Int,y_ = ([] : List Int):=⟨_,rfl⟩
    replace H : (if x531000_1.length < 5864062014805 then (spec_l1Cur_yard.l0 k1 (wrap64 (x4_1 - 1)) s0_0 t532 t533 (x531000_1 ++ [y534])) else (none)) = some (r1,r2,r3):=by (rw [hy534]; with_reducible exact H)
    have Ny534:=Aside0.mk hy534
    clear hy534
    by_cases c10 : x531000_1.length < 5864062014805
    ·rw [if_pos c10] at H
     have LMc10:=Aside0.mk c10
     clear c10
     obtain ⟨y537,hy537⟩ : ∃ y_ : List (List Int),y_ = (x531000_1 ++ [y534]):=⟨_,rfl⟩
     replace H : (spec_l1Cur_yard.l0 k1 (wrap64 (x4_1 - 1)) s0_0 t532 t533 y537) = some (r1,r2,r3):=by (rw [hy537]; with_reducible exact H)
     have Ny537:=Aside0.mk hy537
     clear hy537
     have H':=Aside0.mk H
     clear H
     have hnb11:=NB530_529.out
     have hnc11:=NB529_530.out
     have hnb12:=NB530_0.out
     have hnc12:=NB0_530.out
     have hcz13_0 : wr.cell? ⟨gb530,0,none⟩ = some (u531000):=(blk_cell BK530.out 0).trans rfl
     have hfz13_0:=blk_frozen BK530.out 0
     go_wp2_with (first|((with_reducible refine gate_dst (N:=20) rfl ?_); (try (refine gate_guard (by rfl) ?_; dsimp only)); refine Kd.R_lit (Kd.int .i64) _ 3 ?hg (N:=20) ?hd (xs:=([] : List Int)) (inner:=[]) (ok:=fun _ => True) (okp:=fun _ => True) ?hr ?hp (fun _ hk => hk) trivial (Below.refl _ _) (Nat.le_refl _) (by simp) ?_; (case hd => rfl); (case hg => rfl); (case hr => (go_simp; done)); (case hp => exact (Reps.none _ _)); intro v535 w14 ho15 hb hg_ hnew_; clear hg_ hnew_; (rw [← Ny534.out] at ho15); have n0_:=Aside0.mk (Kd.S_elder' (by exact HO_531000.out) (Kd.R_base ho15) hb); have n1_:=Aside0.mk (Kd.R_lower ho15 (keep_size (w:=w) (g:=g) (row:=none) (by repeat (((with_reducible (exact HK.out))))))); have n2_:=Aside0.mk (blk_below (g:=gb529) (o:=.cells #[.slice none 0 0] 42 (0,0)) (by exact BK529.out) hb); have n3_:=Aside0.mk (blk_below (g:=gb530) (o:=.cells #[u531000] 42 (0,0)) (by exact BK530.out) hb); have n4_:=Aside0.mk (IsS112.below (by repeat (((with_reducible (exact HI0.out))))) hb); have n5_:=Aside0.mk (KeepBut.trans (by repeat (((with_reducible (exact HK.out))))) (KeepBut.of_below hb g none) (.inl rfl)); have n6_:=Aside0.mk (below_step (by repeat (((with_reducible (exact HB.out))))) hb); clear HO_531000; clear BK529; clear BK530; clear HI0; clear HK; clear HB; have HO_531000:=n0_; have HO536:=n1_; have BK529:=n2_; have BK530:=n3_; have HI0:=n4_; have HK:=n5_; have HB:=n6_; clear n0_ n1_ n2_ n3_ n4_ n5_ n6_; clear hb ho15; obtain ⟨Ao17,co17,eo17⟩:=Kd.R_slice HO536.out; subst eo17)|((with_reducible refine gate_builtin (b:=.append) (xs:=#[.tmp 19,.tmp 21]) rfl ?_); (try (refine gate_guard (by rfl) ?_; dsimp only)); at_builtin; refine Kd.S_append (Kd.slice 3 (Kd.int .i64)) w.heap.size rfl (.tmp 19) (.tmp 21) 38 24 (.slice none 0 0) 24 rfl Try.underlying38 info24 rfl (by decide) (by omega) u531000 x531000_1 y534 [.slice Ao17 y534.length co17] (fun _ => True) (fun k_ => some k_ = (.slice Ao17 y534.length co17 : Value).ownBlock) rfl rfl ?aP (fun k_ hk_ => ((Kd.R_mono (ok':=fun k_ => (fun _ => True) k_ ∧ some k_ ≠ (u531000 : Value).ownBlock) (Kd.R_apart' (HO536.out) (Kd.S_typed HO_531000.out) (by decide)) (fun k_ hk => ⟨trivial,hk.2⟩))).1 k_ hk_.symm) ?aF ?aO (Below.refl _ _) ?aS ?aL ?_; (case aP => exact Kd.M_row (Kd.R_mono (Kd.R_tight rfl (Kd.R_mono (ok':=fun k_ => (fun _ => True) k_ ∧ some k_ ≠ (u531000 : Value).ownBlock) (Kd.R_apart' (HO536.out) (Kd.S_typed HO_531000.out) (by decide)) (fun k_ hk => ⟨trivial,hk.2⟩))) (fun _ h_ => h_))); (case aF => exact (fun _ _ => trivial)); (case aO => exact (by exact Kd.S_mono HO_531000.out (fun k_ hk => ⟨trivial,fun e_ => hk.2 e_⟩))); (case aS => exact (keep_size (w:=w) (g:=g) (row:=none) (by repeat (((with_reducible (exact HK.out))))))); (case aL => have:=LMc10.out; omega); intro v538 w16 ho hb hg hat; rw [← Ny537.out] at ho; have n0_:=Aside0.mk (blk_grown (g:=gb529) (o:=.cells #[.slice none 0 0] 42 (0,0)) (by exact BK529.out) hg (Kd.S_ne HO_531000.out BK529.out (by decide))); have n1_:=Aside0.mk (blk_grown (g:=gb530) (o:=.cells #[u531000] 42 (0,0)) (by exact BK530.out) hg (Kd.S_ne HO_531000.out BK530.out (by decide))); have n2_:=Aside0.mk (IsS112.grown (by repeat (((with_reducible (exact HI0.out))))) hg (IsS112.own_neS HI0.out HO_531000.out (by decide))); have n3_:=Aside0.mk (below_weaken (by repeat (((with_reducible (exact HB.out))))) HL.out hb); have n4_:=Aside0.mk (KeepBut.trans (by repeat (((with_reducible (exact HK.out))))) (KeepBut.of_grown hg g) (Kd.S_base2 HO_531000.out)); have n5_:=Aside0.mk (ho); clear BK529; clear BK530; clear HI0; clear HB; clear HK; clear HO_531000; clear HO536; have BK529:=n0_; have BK530:=n1_; have HI0:=n2_; have HB:=n3_; have HK:=n4_; have HO539:=n5_; clear n0_ n1_ n2_ n3_ n4_ n5_; clear ho hb hg hat; obtain ⟨Ao18,co18,eo18⟩:=Kd.S_slice HO539.out; subst eo18; have hcz19_0 : w16.cell? ⟨gb530,0,none⟩ = some (u531000):=(blk_cell BK530.out 0).trans rfl; have hfz19_0:=blk_frozen BK530.out 0))
     go_roundg k1
     case measure => have:=HK1.out; omega
     case rel => exact ⟨(wrap64 (x4_1 - 1)),(y537),(.slice Ao18 y537.length co18),(by (rfl)),H',⟨by have:=HK1.out; omega⟩,⟨by exact Kd.S_mono (Kd.S_far (p:=⟨gb530,0,none⟩) (Kd.S_types HO539.out BK530.out (by decide)) (fun _ hk => hk.2) (.slice Ao18 y537.length co18)) (fun _ hk => trivial)⟩,⟨by refine blk_far ?_ NB529_530.out _; exact BK529.out⟩,⟨by refine blk_put (cs:=#[u531000]) ?_ 0 _ rfl; exact BK530.out⟩,⟨by repeat (with_reducible first|exact HI0.out|refine IsS112.far ?_ NB0_530.out _)⟩,⟨by repeat (with_reducible first|exact HK.out|refine keep_far ?_ GW530.out _)⟩,⟨by repeat (with_reducible first|exact HB.out|refine below_set ?_ GE530.out)⟩⟩
    ·rw [if_neg c10] at H
     exact absurd H (by simp)
   ·rw [if_neg c9] at H
    have c9b0 : decide (0 < x4_1) = false:=decide_eq_false c9
    clear c9
    replace H:=Option.bind_eq_some_iff.mp H
    obtain ⟨⟨t540,t541,t542⟩,A200,H⟩:=H
    replace H : (spec_l1Cur_yard.l1 k1 (wrap64 (1 + t540)) s0_0 t541 t542 x531000_1) = some (r1,r2,r3):=H
    have A20:=Aside0.mk A200
    clear A200
    have H':=Aside0.mk H
    clear H
    go_wp2_with ((((with_reducible refine gate_callee (f:=97) rfl ?_); refine goesL_ (some 25) rfl rfl Try.func97 (by kernel_rfl) rfl #[.pointer (some ⟨g,0,none⟩),.int .i64 8] rfl (by (try simp only [List.map_toArray,List.map_cons,List.map_nil]); (rfl)) ?_; (with_reducible refine (spec_l1Cur_pick.calls g s0_0 t532 t533 8 t540 t541 t542 w0 _ ?side1 ?side2 A20.out).mono ?_); (case side1 => repeat (((with_reducible (exact HI0.out))))); (case side2 => repeat (((with_reducible (exact HB.out))))); rintro e w21 ⟨rfl,hi,hb,hk⟩; refine ⟨_,rfl,?_⟩; have n0_:=Aside0.mk (Kd.S_mono (Kd.S_keep (IsS112.apartS (show IsS112 w0 _ g s0_0 t532 t533 from by repeat (((with_reducible (exact HI0.out))))) (by exact HO_531000.out) (by decide)) hk (fun _ h => h.2)) (fun _ h => h.1)); have n1_:=Aside0.mk (KeepBut.blk hk (g':=gb529) (o:=.cells #[.slice none 0 0] 42 (0,0)) (by exact BK529.out) NB529_0.out (by simp)); have n2_:=Aside0.mk (KeepBut.blk hk (g':=gb530) (o:=.cells #[u531000] 42 (0,0)) (by exact BK530.out) NB530_0.out (by simp)); have n3_:=Aside0.mk (KeepBut.trans (by repeat (((with_reducible (exact HK.out))))) hk (.inl rfl)); have n4_:=Aside0.mk (hb); have n5_:=Aside0.mk (hi); clear HO_531000; clear BK529; clear BK530; clear HK; clear HB; clear HI0; have HO_531000:=n0_; have BK529:=n1_; have BK530:=n2_; have HK:=n3_; have HB:=n4_; have HI0:=n5_; clear n0_ n1_ n2_ n3_ n4_ n5_; (try clear hb); (try clear hb2); (try clear hk); (try clear hi))))
    go_loopg [5] k1 (fun kq v5 w' => ∃ (x5_2 : Int) (x1001_2 : Int) (x1002_2 : Int) (x531000_2 : List (List Int)) (u531000 : Value),v5 = .int .i64 x5_2 ∧ Aside0 (spec_l1Cur_yard.l1 kq x5_2 s0_0 x1001_2 x1002_2 x531000_2 = some (r1,r2,r3)) ∧ Aside0 (kq ≤ k1) ∧ Aside0 (Kd.S (Kd.slice 3 (Kd.int .i64)) 24 w' w.heap.size (fun _ => True) u531000 x531000_2) ∧ Aside0 (w'.heap[gb529]? = some (.cells #[(.slice none 0 0)] 42 (0,0))) ∧ Aside0 (w'.heap[gb530]? = some (.cells #[u531000] 42 (0,0))) ∧ Aside0 (IsS112 w0 w' g s0_0 x1001_2 x1002_2) ∧ Aside0 (KeepBut w w' g none) ∧ Aside0 (Below w0.heap.size w0 w'))
    case atStart => exact ⟨(wrap64 (1 + t540)),(t541),(t542),(x531000_1),(u531000),(by (rfl)),H',⟨Nat.le_refl _⟩,⟨by exact HO_531000.out⟩,⟨by exact BK529.out⟩,⟨by exact BK530.out⟩,⟨by repeat (((with_reducible (exact HI0.out))))⟩,⟨by repeat (((with_reducible (exact HK.out))))⟩,⟨by repeat (((with_reducible (exact HB.out))))⟩⟩
    case round =>
     clear H'
     try clear c1
     try clear p2
     try clear c5
     try clear c6
     try clear p6
     try clear c9
     try clear c9b0
     try clear c10
     try clear c11
     try clear c12
     try clear c16
     try clear hcz13_0
     try clear hcz19_0
     try clear hcz7_0
     try clear hfz13_0
     try clear hfz19_0
     try clear hfz7_0
     try clear p2
     try clear p6
     obtain ⟨x5_2,x1001_2,x1002_2,x531000_2,u531000,rfl,HA,HK2,HO_531000,BK529,BK530,HI0,HK,HB⟩:=hrel
     cases gk with
     | zero => exact absurd HA.out (by simp [spec_l1Cur_yard.l1])
     | succ k2 =>
      have H:=HA.out
      clear HA
      simp only [spec_l1Cur_yard.l1] at H
      by_cases c22 : x5_2 > 0
      ·rw [if_pos c22] at H
       have c22b0 : decide (0 < x5_2) = true:=decide_eq_true c22
       clear c22
       replace H:=Option.bind_eq_some_iff.mp H
       obtain ⟨⟨t543,t544,t545⟩,A230,H⟩:=H
       replace H : (if 0 ≤ t543 then (if t543 < (x531000_2.length : Int) then (if ((rd_L2 x531000_2 t543).length : Int) < 4 then (if (rd_L2 x531000_2 t543).length < 17592186044416 then (spec_l1Cur_yard.l1 k2 (wrap64 (x5_2 - 1)) s0_0 t544 t545 (x531000_2.set (t543 : Int).toNat ((rd_L2 x531000_2 t543) ++ [x5_2]))) else (none)) else (spec_l1Cur_yard.l1 k2 (wrap64 (x5_2 - 1)) s0_0 t544 t545 x531000_2)) else (none)) else (none)) = some (r1,r2,r3):=H
       have A23:=Aside0.mk A230
       clear A230
       by_cases c24 : 0 ≤ t543
       ·rw [if_pos c24] at H
        have c24b0 : decide (0 ≤ t543) = true:=decide_eq_true c24
        clear c24
        by_cases c25 : t543 < (x531000_2.length : Int)
        ·rw [if_pos c25] at H
         have c25b0 : decide (t543 < (x531000_2.length : Int)) = true:=decide_eq_true c25
         clear c25
         by_cases c26 : ((rd_L2 x531000_2 t543).length : Int) < 4
         ·rw [if_pos c26] at H
          have c26b0 : decide (((rd_L2 x531000_2 t543).length : Int) < 4) = true:=decide_eq_true c26
          have c26b1 : decide ((rd_L2 x531000_2 t543).length < 4) = true:=decide_eq_true (by omega)
          clear c26
          by_cases c27 : (rd_L2 x531000_2 t543).length < 17592186044416
          ·rw [if_pos c27] at H
           have LMc27:=Aside0.mk c27
           clear c27
           obtain ⟨y548,hy548⟩ : ∃ y_ : List Int,y_ = ((rd_L2 x531000_2 t543) ++ [x5_2]):=⟨_,rfl⟩
           replace H : (spec_l1Cur_yard.l1 k2 (wrap64 (x5_2 - 1)) s0_0 t544 t545 (x531000_2.set (t543 : Int).toNat y548)) = some (r1,r2,r3):=by (rw [hy548]; with_reducible exact H)
           have Ny548:=Aside0.mk hy548
           clear hy548
           obtain ⟨y551,hy551⟩ : ∃ y_ : List (List Int),y_ = (x531000_2.set (t543 : Int).toNat y548):=⟨_,rfl⟩
           replace H : (spec_l1Cur_yard.l1 k2 (wrap64 (x5_2 - 1)) s0_0 t544 t545 y551) = some (r1,r2,r3):=by (rw [hy551]; with_reducible exact H)
           have Ny551:=Aside0.mk hy551
           clear hy551
           have H':=Aside0.mk H
           clear H
           have hnb29:=NB530_529.out
           have hnc29:=NB529_530.out
           have hnb30:=NB530_0.out
           have hnc30:=NB0_530.out
           have hcz31_0 : wr.cell? ⟨gb530,0,none⟩ = some (u531000):=(blk_cell BK530.out 0).trans rfl
           have hfz31_0:=blk_frozen BK530.out 0
           obtain ⟨Ao32,co32,eo32⟩:=Kd.S_slice HO_531000.out
           subst eo32
           try go_wp2_with ((((with_reducible refine gate_callee (f:=97) rfl ?_); refine goesL_ (some 35) rfl rfl Try.func97 (by kernel_rfl) rfl #[.pointer (some ⟨g,0,none⟩),.int .i64 (x531000_2.length : Int)] rfl (by (try simp only [List.map_toArray,List.map_cons,List.map_nil]); (rfl)) ?_; (with_reducible refine (spec_l1Cur_pick.calls g s0_0 x1001_2 x1002_2 (x531000_2.length : Int) t543 t544 t545 w0 _ ?side1 ?side2 A23.out).mono ?_); (case side1 => repeat (((with_reducible (exact HI0.out))))); (case side2 => repeat (((with_reducible (exact HB.out))))); rintro e w33 ⟨rfl,hi,hb,hk⟩; refine ⟨_,rfl,?_⟩; have n0_:=Aside0.mk (Kd.S_mono (Kd.S_keep (IsS112.apartS (show IsS112 w0 _ g s0_0 x1001_2 x1002_2 from by repeat (((with_reducible (exact HI0.out))))) (by exact HO_531000.out) (by decide)) hk (fun _ h => h.2)) (fun _ h => h.1)); have n1_:=Aside0.mk (KeepBut.blk hk (g':=gb529) (o:=.cells #[.slice none 0 0] 42 (0,0)) (by exact BK529.out) NB529_0.out (by simp)); have n2_:=Aside0.mk (KeepBut.blk hk (g':=gb530) (o:=.cells #[.slice Ao32 x531000_2.length co32] 42 (0,0)) (by exact BK530.out) NB530_0.out (by simp)); have n3_:=Aside0.mk (KeepBut.trans (by repeat (((with_reducible (exact HK.out))))) hk (.inl rfl)); have n4_:=Aside0.mk (hb); have n5_:=Aside0.mk (hi); clear HO_531000; clear BK529; clear BK530; clear HK; clear HB; clear HI0; have HO_531000:=n0_; have BK529:=n1_; have BK530:=n2_; have HK:=n3_; have HB:=n4_; have HI0:=n5_; clear n0_ n1_ n2_ n3_ n4_ n5_; (try clear hb); (try clear hb2); (try clear hk); (try clear hi); have hcz34_0 : w33.cell? ⟨gb530,0,none⟩ = some (.slice Ao32 x531000_2.length co32):=(blk_cell BK530.out 0).trans rfl; have hfz34_0:=blk_frozen BK530.out 0; have p546 : 0 ≤ (t543 : Int):=of_decide_eq_true (by (with_reducible assumption)); have q546 : t543 < (x531000_2.length : Int):=of_decide_eq_true (by (with_reducible assumption)); obtain ⟨ad546,A546_0,c546_0,e546,hx546_0,hl546_0,hi546_0⟩:=at_L2 (Kd.S_reads' HO_531000.out).2.2 t543 p546 q546; cases e546; obtain ⟨ce546,hce546,hMe546,hcc546⟩:=Kd.S_get HO_531000.out [] t543 p546 (by (exact q546)); obtain ⟨ve546_0,rfl,ge546_0⟩:=hMe546; have hv546_0:=hcc546 0 _ rfl; rw [Nat.add_zero,show ((Kd.slice 3 (Kd.int .i64))).sz = 1 from rfl,Nat.mul_one] at hv546_0; replace hv546_0:=Option.some.inj (hv546_0.symm.trans hx546_0); rw [hv546_0] at ge546_0; have HL546_0:=Aside0.mk (show Kd.R (Kd.int .i64) 3 _ _ _ _ (rd_L2 x531000_2 t543) from ge546_0); clear hv546_0 ge546_0; have HX546_0:=Aside0.mk hx546_0; clear hcc546 hce546; have HR546_0:=Aside0.mk hi546_0; have HC546_0:=Aside0.mk hl546_0; clear hi546_0 hl546_0; replace p546:=eq_true p546; replace q546:=eq_true q546)))
           have n0_:=Aside0.mk (Kd.S_drew HO_531000.out)
           have n1_:=Aside0.mk (Kd.R_drew HL546_0.out)
           have n2_:=Aside0.mk (blk_drew BK529.out)
           have n3_:=Aside0.mk (blk_drew BK530.out)
           have n4_:=Aside0.mk (Kd.C_drew HR546_0.out)
           have n5_:=Aside0.mk (IsS112.drew HI0.out)
           have n6_:=Aside0.mk (keep_drew HK.out)
           have n7_:=Aside0.mk (below_drew1 HB.out)
           clear HO_531000
           clear HL546_0
           clear BK529
           clear BK530
           clear HR546_0
           clear HI0
           clear HK
           clear HB
           have HO_531000:=n0_
           have HL546_0:=n1_
           have BK529:=n2_
           have BK530:=n3_
           have HR546_0:=n4_
           have HI0:=n5_
           have HK:=n6_
           have HB:=n7_
           clear n0_ n1_ n2_ n3_ n4_ n5_ n6_ n7_
           have p547 : 0 ≤ (t543 : Int):=of_decide_eq_true (by (with_reducible assumption))
           have q547 : t543 < (x531000_2.length : Int):=of_decide_eq_true (by (with_reducible assumption))
           obtain ⟨ad547,A547_0,c547_0,e547,hx547_0,hl547_0,hi547_0⟩:=at_L2 (Kd.S_reads' HO_531000.out).2.2 t543 p547 q547
           obtain rfl : ad546 = ad547:=(by injection e547)
           obtain ⟨ce547,hce547,hMe547,hcc547⟩:=Kd.S_get HO_531000.out [] t543 p547 (by (exact q547))
           obtain ⟨ve547_0,rfl,ge547_0⟩:=hMe547
           have hv547_0:=hcc547 0 _ rfl
           rw [Nat.add_zero,show ((Kd.slice 3 (Kd.int .i64))).sz = 1 from rfl,Nat.mul_one] at hv547_0
           replace hv547_0:=Option.some.inj (hv547_0.symm.trans hx547_0)
           rw [hv547_0] at ge547_0
           have HL547_0:=Aside0.mk (show Kd.R (Kd.int .i64) 3 _ _ _ _ (rd_L2 x531000_2 t543) from ge547_0)
           clear hv547_0 ge547_0
           have HX547_0:=Aside0.mk hx547_0
           clear hcc547 hce547
           have HR547_0:=Aside0.mk hi547_0
           have HC547_0:=Aside0.mk hl547_0
           clear hi547_0 hl547_0
           replace p547:=eq_true p547
           replace q547:=eq_true q547
           obtain ⟨go36,co36,eo36,gb36,gl36,cl36,HG36⟩:=Kd.S_form HO_531000.out (by have h_ : (t543 : Int) < ((x531000_2.length : Int) : Int):=of_decide_eq_true (by (with_reducible assumption)); have h2_ : 0 ≤ (t543 : Int):=(of_decide_eq_true (by (with_reducible assumption))); omega)
           (cases eo36)
           have GB36:=Aside0.mk gb36
           have GG36:=Aside0.mk HG36
           clear gb36 gl36 HG36
           (simp only [add_plain] at hx546_0)
           (simp only [add_plain] at hx547_0)
           obtain ⟨oki36,ce36,hcl36,hM36,hcc36,_,_,hH36⟩:=Kd.S_elem HO_531000.out [] (t543 : Int) (of_decide_eq_true (by (with_reducible assumption))) (by have h_ : (t543 : Int) < ((x531000_2.length : Int) : Int):=of_decide_eq_true (by (with_reducible assumption)); (exact h_))
           obtain ⟨ve36_0,rfl,ge36_0⟩:=hM36
           have hv36:=hcc36 0 _ rfl
           have hX36:=HX547_0.out
           (try simp only [add_plain] at hX36)
           (try simp only [Nat.add_zero] at hv36)
           (try rw [show ((Kd.slice 3 (Kd.int .i64))).sz = 1 from rfl,Nat.mul_one] at hv36)
           replace hv36:=Option.some.inj (hv36.symm.trans hX36)
           subst hv36
           clear hX36 hcc36 hcl36
           have UU36:=Aside0.mk (show Kd.R (Kd.int .i64) 3 _ w.heap.size oki36 (.slice A547_0 (rd_L2 x531000_2 t543).length c547_0) (rd_L2 x531000_2 t543) from ge36_0)
           have HH36:=Aside0.mk hH36
           have HN36:=Aside0.mk (Kd.S_reads' HO_531000.out).1
           clear hH36 ge36_0
           refine start_ (n:=13) (S:=fun w' => w'.cell? ⟨gb530,0,none⟩ = some (.slice (some ⟨go36,0,none⟩) x531000_2.length co32) ∧ w'.cell? ⟨go36,(t543).toNat,none⟩ = some (.slice A547_0 (rd_L2 x531000_2 t543).length c547_0)) (ds:=[12]) (bfc4 13 0) (by kernel_rfl) rfl rfl ⟨(blk_cell BK530.out 0).trans rfl,hx547_0⟩ (fun hHeld => ?_); refine with_tabW spec_l1Cur_yard.tab11 spec_l1Cur_yard.bits11 (fun HT_ HW_ => ?_)
           generalize w33.drew = w35 at HO_531000 HL546_0 BK529 BK530 HR546_0 HI0 HK HB GG36 HH36 HL547_0 HR547_0 HX547_0 UU36 hx546_0 hx547_0 hHeld ⊢
           refine pure_ (i:=0) (N:=some 43) (v:=?_) (a':=?_) (bfc4 13 1) rfl rfl (any_of HT_.out (by kernel_rfl)) (fun _ _ _ h => h) (Or.inl ⟨by rfl,?_⟩) ?_ ?_
           rotate_left
           ·intro w'
            go_simp
            with_reducible rfl
           rotate_left
           ·simp only [Act.put,List.setIfInBounds_toArray,List.set_cons_zero,List.set_cons_succ,i64_w,i32_w]
            rfl
           refine pure_ (i:=2) (N:=some 45) (v:=?_) (a':=?_) (bfc4 13 5) rfl rfl (any_of HT_.out (by kernel_rfl)) (fun _ _ _ h => h) (Or.inl ⟨by rfl,?_⟩) ?_ ?_
           rotate_left
           ·intro w'
            go_simp
            with_reducible rfl
           rotate_left
           ·simp only [Act.put,List.setIfInBounds_toArray,List.set_cons_zero,List.set_cons_succ,i64_w,i32_w]
            rfl
           refine pure_ (i:=3) (N:=some 46) (v:=?_) (a':=?_) (bfc4 13 13) rfl rfl (any_of HT_.out (by kernel_rfl)) (fun _ _ _ h => h) (Or.inl ⟨by rfl,?_⟩) ?_ ?_
           rotate_left
           ·intro w'
            go_simp
            with_reducible rfl
           rotate_left
           ·simp only [Act.put,List.setIfInBounds_toArray,List.set_cons_zero,List.set_cons_succ,i64_w,i32_w]
            rfl
           refine pure_ (i:=5) (N:=some 48) (v:=?_) (a':=?_) (bfc4 13 45) rfl rfl (any_of HT_.out (by kernel_rfl)) (fun _ _ _ h => h) (Or.inl ⟨by rfl,?_⟩) ?_ ?_
           rotate_left
           ·intro w'
            go_simp
            with_reducible rfl
           rotate_left
           ·simp only [Act.put,List.setIfInBounds_toArray,List.set_cons_zero,List.set_cons_succ,i64_w,i32_w]
            rfl
           refine pure_ (i:=8) (N:=some 51) (v:=?_) (a':=?_) (bfc4 13 301) rfl rfl (any_of HT_.out (by kernel_rfl)) (fun _ _ _ h => h) (Or.inl ⟨by rfl,?_⟩) ?_ ?_
           rotate_left
           ·intro w'
            go_simp
            with_reducible rfl
           rotate_left
           ·simp only [Act.put,List.setIfInBounds_toArray,List.set_cons_zero,List.set_cons_succ,i64_w,i32_w]
            rfl
           refine take_ (i:=1) (N:=some 44) (v:=?_) (a':=?_) (bfc4 13 303) rfl rfl (take_ofW HT_.out HW_.out (by kernel_rfl)) (fun _ _ _ h => h) (Or.inl ⟨by rfl,?_⟩) hHeld ?_ ?_
           rotate_left
           ·rintro w' ⟨s0,s1⟩
            go_simp
            with_reducible rfl
           rotate_left
           ·simp only [Act.put,List.setIfInBounds_toArray,List.set_cons_zero,List.set_cons_succ,i64_w,i32_w]
            rfl
           refine take_ (i:=4) (N:=some 47) (v:=?_) (a':=?_) (bfc4 13 319) rfl rfl (take_ofW HT_.out HW_.out (by kernel_rfl)) (fun _ _ _ h => h) (Or.inl ⟨by rfl,?_⟩) hHeld ?_ ?_
           rotate_left
           ·rintro w' ⟨s0,s1⟩
            go_simp
            with_reducible rfl
           rotate_left
           ·simp only [Act.put,List.setIfInBounds_toArray,List.set_cons_zero,List.set_cons_succ,i64_w,i32_w]
            rfl
           refine pure_ (i:=6) (N:=some 49) (v:=?_) (a':=?_) (bfc4 13 383) rfl rfl (any_of HT_.out (by kernel_rfl)) (fun _ _ _ h => h) (Or.inl ⟨by rfl,?_⟩) ?_ ?_
           rotate_left
           ·intro w'
            go_simp
            with_reducible rfl
           rotate_left
           ·simp only [Act.put,List.setIfInBounds_toArray,List.set_cons_zero,List.set_cons_succ,i64_w,i32_w]
            rfl
           refine take_ (i:=7) (N:=some 50) (v:=?_) (a':=?_) (bfc4 13 511) rfl rfl (take_ofW HT_.out HW_.out (by kernel_rfl)) (fun _ _ _ h => h) (Or.inl ⟨by rfl,?_⟩) hHeld ?_ ?_
           rotate_left
           ·rintro w' ⟨s0,s1⟩
            go_simp
            with_reducible rfl
           rotate_left
           ·simp only [Act.put,List.setIfInBounds_toArray,List.set_cons_zero,List.set_cons_succ,i64_w,i32_w]
            rfl
           refine one_ (i:=9) (N:=some 52) (bfc4 13 1023) rfl rfl (one_of HT_.out (by kernel_rfl)) (by decide) (fun K hK => ?_)
           refine value_ (w1:=?_) (v:=?_) (by rfl) rfl ?_ ?_
           rotate_left 2
           ·go_simp
            constructor
            ·rfl
            ·rfl
           refine hK.out _ _ ⟨(blk_cell (blk_alloc BK530.out _) 0).trans rfl,(World.cell?_alloc_lt _ _ _ (World.block_lt_of_cell? _ _ (hHeld.2))).trans (hHeld.2)⟩ (fun hHeld => ?_)
           clear hK K
           refine norm_ (a':=?_) ?_ ?_
           rotate_left
           ·show Act.put _ (some 52) _ = _
            simp only [Act.put,List.setIfInBounds_toArray,List.set_cons_zero,List.set_cons_succ,i64_w,i32_w]
            rfl
           refine one_ (i:=10) (N:=some 53) (bfc4 13 2047) rfl rfl (one_of HT_.out (by kernel_rfl)) (by decide) (fun K hK => ?_)
           refine Kd.R_append_step (Kd.int .i64) w.heap.size (by rfl) (.tmp 50) (.tmp 52) 24 3 (.int .i64 0) 8 rfl Try.underlying24 info3 rfl (by decide) (by omega) (.slice A547_0 (rd_L2 x531000_2 t543).length c547_0) (rd_L2 x531000_2 t543) x5_2 [.int .i64 x5_2] (fun k_ => oki36 k_ ∨ (fun _ => True) k_ ∧ w35.heap.size ≤ k_) (fun _ => False) rfl rfl ?aP (fun _ hk => hk.elim) ?aF ?aO (Below.refl _ _) ?aS ?aL ?_
           (case aP => exact rfl)
           (case aF => exact (fun k_ hk => .inr ⟨trivial,hk⟩))
           (case aO => exact (by exact Kd.R_mono UU36.out (fun _ hk => .inl hk)))
           (case aS => exact (keep_size (w:=w) (g:=g) (row:=none) (by repeat (((with_reducible (exact HK.out)))))))
           (case aL => have:=LMc27.out; omega)
           intro v549 w37 ho hb hg hat
           ((have HS1_:=cell_grown hg (cell_unalloc (hHeld.2) (by (exact Kd.S_lt HO_531000.out _ rfl))) (by (exact (fun e_ => ((HL547_0.out.1 _ e_.symm).2) rfl)))))
           rw [← Ny548.out] at ho
           have n0_:=Aside0.mk (blk_grown (g:=gb529) (o:=.cells #[.slice none 0 0] 42 (0,0)) (by exact BK529.out) hg (Kd.R_ne HL547_0.out BK529.out (by decide)))
           have n1_:=Aside0.mk (blk_grown (g:=gb530) (o:=.cells #[.slice (some ⟨go36,0,none⟩) x531000_2.length co32] 42 (0,0)) (by exact BK530.out) hg (Kd.R_ne HL547_0.out BK530.out (by decide)))
           have n2_:=Aside0.mk (IsS112.grown (by repeat (((with_reducible (exact HI0.out))))) hg (IsS112.own_ne HI0.out HL547_0.out (by decide)))
           have n3_:=Aside0.mk (below_weaken (by repeat (((with_reducible (exact HB.out))))) HL.out hb)
           have n4_:=Aside0.mk (KeepBut.trans (by repeat (((with_reducible (exact HK.out))))) (KeepBut.of_grown hg g) (Kd.R_base2 HL547_0.out))
           have n5_:=Aside0.mk (Kd.H_grown (Kd.H_widen (by repeat (exact HH36.out))) hg (fun k_ e_ => .inl (UU36.out.1 k_ e_)))
           have n6_:=Aside0.mk (ho)
           clear BK529
           clear BK530
           clear HI0
           clear HB
           clear HK
           clear HH36
           clear HO_531000
           clear UU36
           clear HL546_0
           clear HL547_0
           have BK529:=n0_
           have BK530:=n1_
           have HI0:=n2_
           have HB:=n3_
           have HK:=n4_
           have HH36:=n5_
           have HO550:=n6_
           clear n0_ n1_ n2_ n3_ n4_ n5_ n6_
           clear ho hb hg hat
           have p28 : 0 ≤ (t543 : Int):=of_decide_eq_true (by (with_reducible assumption))
           have q28 : (t543 : Int) < ((x531000_2.length : Int) : Int):=of_decide_eq_true (by (with_reducible assumption))
           replace p28:=eq_true p28
           replace q28:=eq_true q28
           obtain ⟨Ao40,co40,eo40⟩:=Kd.R_slice HO550.out
           (subst eo40)
           obtain ⟨_,_,hraw38,_,_,hcc38,_⟩:=Kd.H_raw HH36.out (of_decide_eq_true (by (with_reducible assumption))) (by have h_ : (t543 : Int) < ((x531000_2.length : Int) : Int):=of_decide_eq_true (by (with_reducible assumption)); (exact h_))
           obtain ⟨_,hfr38⟩:=Kd.H_at HH36.out (of_decide_eq_true (by (with_reducible assumption))) (by have h_ : (t543 : Int) < ((x531000_2.length : Int) : Int):=of_decide_eq_true (by (with_reducible assumption)); (exact h_))
           have hx38_0:=hcc38 0 _ rfl
           have hf38_0:=hfr38 0
           (try simp only [Nat.add_zero] at hx38_0 hf38_0)
           (try rw [show ((Kd.slice 3 (Kd.int .i64))).sz = 1 from rfl,Nat.mul_one] at hx38_0)
           (try rw [show ((Kd.slice 3 (Kd.int .i64))).sz = 1 from rfl,Nat.mul_one] at hf38_0)
           have HP38:=Kd.S_seg0 HH36.out (of_decide_eq_true (by (with_reducible assumption))) (by have h_ : (t543 : Int) < ((x531000_2.length : Int) : Int):=of_decide_eq_true (by (with_reducible assumption)); (exact h_)) (seg:=[.slice Ao40 y548.length co40]) (j:=0) (show 1 ≤ 1 from by decide) (x':=y548) (Kd.M_row HO550.out) (fun _ hk => hk)
           (try simp only [show ((Kd.slice 3 (Kd.int .i64))).sz = 1 from rfl,Nat.mul_one,Nat.add_zero] at HP38)
           clear hcc38 hfr38
           have HN0_go36:=Aside0.mk (show g ≠ go36 from by have h_:=IsS112.own_ne HI0.out hraw38 (by decide); intro e_; exact h_ (by rw [e_]; rfl))
           have HNB529_go36:=Aside0.mk (show gb529 ≠ go36 from by have h_:=Kd.R_ne hraw38 BK529.out (by decide); intro e_; exact h_ (by rw [e_]; rfl))
           have HNB530_go36:=Aside0.mk (show gb530 ≠ go36 from by have h_:=Kd.R_ne hraw38 BK530.out (by decide); intro e_; exact h_ (by rw [e_]; rfl))
           have HS38:=HP38.1
           rw [← Ny551.out] at HS38
           have HQ38:=Aside0.mk HS38
           obtain ⟨_,hgg38⟩:=Kd.R_typed hraw38 go36 rfl
           have GG38_:=Aside0.mk hgg38
           clear HP38 HS38 hgg38
           refine hK.out _ _ ⟨(blk_cell BK530.out 0).trans rfl,HS1_⟩ (fun hHeld => ?_)
           clear hK K
           refine norm_ (a':=?_) ?_ ?_
           rotate_left
           ·show Act.put _ (some 53) _ = _
            simp only [Act.put,List.setIfInBounds_toArray,List.set_cons_zero,List.set_cons_succ,i64_w,i32_w]
            rfl
           refine pure_ (i:=11) (N:=some 54) (v:=?_) (a':=?_) (bfc4 13 4095) rfl rfl (any_of HT_.out (by kernel_rfl)) (fun _ _ _ h => h) (Or.inl ⟨by rfl,?_⟩) ?_ ?_
           rotate_left
           ·intro w'
            go_simp
            with_reducible rfl
           rotate_left
           ·simp only [Act.put,List.setIfInBounds_toArray,List.set_cons_zero,List.set_cons_succ,i64_w,i32_w]
            rfl
           refine last_ (i:=12) (N:=none) (bfc4 13 8191) rfl rfl (one_of HT_.out (by kernel_rfl)) (by decide) (fun K hK => ?_)
           refine skip_ (w1:=?_) (by rfl) rfl ?_ ?_
           rotate_left
           ·go_simp
            rfl
           refine hK.out _ _ ?_
           clear hK K
           refine done_ (done_of HT_.out (by kernel_rfl)) ?_
           try go_wp2
           go_roundg k2
           case measure => have:=HK1.out; have:=HK2.out; omega
           case rel => exact ⟨(wrap64 (x5_2 - 1)),(t544),(t545),(y551),(.slice (some ⟨go36,0,none⟩) x531000_2.length co32),(by (rfl)),H',⟨by have:=HK1.out; have:=HK2.out; omega⟩,⟨by exact HQ38.out⟩,⟨by refine blk_far ?_ HNB529_go36.out _; exact BK529.out⟩,⟨by refine blk_far ?_ HNB530_go36.out _; exact BK530.out⟩,⟨by repeat (with_reducible first|exact HI0.out|refine IsS112.far ?_ HN0_go36.out _)⟩,⟨by repeat (with_reducible first|exact HK.out|refine keep_far ?_ GB36.out _)⟩,⟨by repeat (((with_reducible first|exact HB.out|refine below_set ?_ (Nat.le_trans HL.out GB36.out))))⟩⟩
          ·rw [if_neg c27] at H
           exact absurd H (by simp)
         ·rw [if_neg c26] at H
          have c26b0 : decide (((rd_L2 x531000_2 t543).length : Int) < 4) = false:=decide_eq_false c26
          have c26b1 : decide ((rd_L2 x531000_2 t543).length < 4) = false:=decide_eq_false (by omega)
          clear c26
          have H':=Aside0.mk H
          clear H
          have hnb41:=NB530_529.out
          have hnc41:=NB529_530.out
          have hnb42:=NB530_0.out
          have hnc42:=NB0_530.out
          have hcz43_0 : wr.cell? ⟨gb530,0,none⟩ = some (u531000):=(blk_cell BK530.out 0).trans rfl
          have hfz43_0:=blk_frozen BK530.out 0
          obtain ⟨Ao44,co44,eo44⟩:=Kd.S_slice HO_531000.out
          subst eo44
          go_wp2_with ((((with_reducible refine gate_callee (f:=97) rfl ?_); refine goesL_ (some 35) rfl rfl Try.func97 (by kernel_rfl) rfl #[.pointer (some ⟨g,0,none⟩),.int .i64 (x531000_2.length : Int)] rfl (by (try simp only [List.map_toArray,List.map_cons,List.map_nil]); (rfl)) ?_; (with_reducible refine (spec_l1Cur_pick.calls g s0_0 x1001_2 x1002_2 (x531000_2.length : Int) t543 t544 t545 w0 _ ?side1 ?side2 A23.out).mono ?_); (case side1 => repeat (((with_reducible (exact HI0.out))))); (case side2 => repeat (((with_reducible (exact HB.out))))); rintro e w45 ⟨rfl,hi,hb,hk⟩; refine ⟨_,rfl,?_⟩; have n0_:=Aside0.mk (Kd.S_mono (Kd.S_keep (IsS112.apartS (show IsS112 w0 _ g s0_0 x1001_2 x1002_2 from by repeat (((with_reducible (exact HI0.out))))) (by exact HO_531000.out) (by decide)) hk (fun _ h => h.2)) (fun _ h => h.1)); have n1_:=Aside0.mk (KeepBut.blk hk (g':=gb529) (o:=.cells #[.slice none 0 0] 42 (0,0)) (by exact BK529.out) NB529_0.out (by simp)); have n2_:=Aside0.mk (KeepBut.blk hk (g':=gb530) (o:=.cells #[.slice Ao44 x531000_2.length co44] 42 (0,0)) (by exact BK530.out) NB530_0.out (by simp)); have n3_:=Aside0.mk (KeepBut.trans (by repeat (((with_reducible (exact HK.out))))) hk (.inl rfl)); have n4_:=Aside0.mk (hb); have n5_:=Aside0.mk (hi); clear HO_531000; clear BK529; clear BK530; clear HK; clear HB; clear HI0; have HO_531000:=n0_; have BK529:=n1_; have BK530:=n2_; have HK:=n3_; have HB:=n4_; have HI0:=n5_; clear n0_ n1_ n2_ n3_ n4_ n5_; (try clear hb); (try clear hb2); (try clear hk); (try clear hi); have hcz46_0 : w45.cell? ⟨gb530,0,none⟩ = some (.slice Ao44 x531000_2.length co44):=(blk_cell BK530.out 0).trans rfl; have hfz46_0:=blk_frozen BK530.out 0; have p546 : 0 ≤ (t543 : Int):=of_decide_eq_true (by (with_reducible assumption)); have q546 : t543 < (x531000_2.length : Int):=of_decide_eq_true (by (with_reducible assumption)); obtain ⟨ad546,A546_0,c546_0,e546,hx546_0,hl546_0,hi546_0⟩:=at_L2 (Kd.S_reads' HO_531000.out).2.2 t543 p546 q546; cases e546; obtain ⟨ce546,hce546,hMe546,hcc546⟩:=Kd.S_get HO_531000.out [] t543 p546 (by (exact q546)); obtain ⟨ve546_0,rfl,ge546_0⟩:=hMe546; have hv546_0:=hcc546 0 _ rfl; rw [Nat.add_zero,show ((Kd.slice 3 (Kd.int .i64))).sz = 1 from rfl,Nat.mul_one] at hv546_0; replace hv546_0:=Option.some.inj (hv546_0.symm.trans hx546_0); rw [hv546_0] at ge546_0; have HL546_0:=Aside0.mk (show Kd.R (Kd.int .i64) 3 _ _ _ _ (rd_L2 x531000_2 t543) from ge546_0); clear hv546_0 ge546_0; have HX546_0:=Aside0.mk hx546_0; clear hcc546 hce546; have HR546_0:=Aside0.mk hi546_0; have HC546_0:=Aside0.mk hl546_0; clear hi546_0 hl546_0; replace p546:=eq_true p546; replace q546:=eq_true q546)))
          go_roundg k2
          case measure => have:=HK1.out; have:=HK2.out; omega
          case rel => exact ⟨(wrap64 (x5_2 - 1)),(t544),(t545),(x531000_2),(.slice (some ad546) x531000_2.length co44),(by (rfl)),H',⟨by have:=HK1.out; have:=HK2.out; omega⟩,⟨by exact HO_531000.out⟩,⟨by exact BK529.out⟩,⟨by exact BK530.out⟩,⟨by repeat (((with_reducible (exact HI0.out))))⟩,⟨by repeat (((with_reducible (exact HK.out))))⟩,⟨by repeat (((with_reducible (exact HB.out))))⟩⟩
        ·rw [if_neg c25] at H
         exact absurd H (by simp)
       ·rw [if_neg c24] at H
        exact absurd H (by simp)
      ·rw [if_neg c22] at H
       have c22b0 : decide (0 < x5_2) = false:=decide_eq_false c22
       clear c22
       replace H:=Option.bind_eq_some_iff.mp H
       obtain ⟨⟨t552,t553,t554⟩,A470,H⟩:=H
       replace H : (spec_l1Cur_yard.l2 k2 t552 s0_0 t553 t554 x531000_2) = some (r1,r2,r3):=H
       have A47:=Aside0.mk A470
       clear A470
       have H':=Aside0.mk H
       clear H
       go_wp2_with ((((with_reducible refine gate_callee (f:=97) rfl ?_); refine goesL_ (some 56) rfl rfl Try.func97 (by kernel_rfl) rfl #[.pointer (some ⟨g,0,none⟩),.int .i64 4] rfl (by (try simp only [List.map_toArray,List.map_cons,List.map_nil]); (rfl)) ?_; (with_reducible refine (spec_l1Cur_pick.calls g s0_0 x1001_2 x1002_2 4 t552 t553 t554 w0 _ ?side1 ?side2 A47.out).mono ?_); (case side1 => repeat (((with_reducible (exact HI0.out))))); (case side2 => repeat (((with_reducible (exact HB.out))))); rintro e w48 ⟨rfl,hi,hb,hk⟩; refine ⟨_,rfl,?_⟩; have n0_:=Aside0.mk (Kd.S_mono (Kd.S_keep (IsS112.apartS (show IsS112 w0 _ g s0_0 x1001_2 x1002_2 from by repeat (((with_reducible (exact HI0.out))))) (by exact HO_531000.out) (by decide)) hk (fun _ h => h.2)) (fun _ h => h.1)); have n1_:=Aside0.mk (KeepBut.blk hk (g':=gb529) (o:=.cells #[.slice none 0 0] 42 (0,0)) (by exact BK529.out) NB529_0.out (by simp)); have n2_:=Aside0.mk (KeepBut.blk hk (g':=gb530) (o:=.cells #[u531000] 42 (0,0)) (by exact BK530.out) NB530_0.out (by simp)); have n3_:=Aside0.mk (KeepBut.trans (by repeat (((with_reducible (exact HK.out))))) hk (.inl rfl)); have n4_:=Aside0.mk (hb); have n5_:=Aside0.mk (hi); clear HO_531000; clear BK529; clear BK530; clear HK; clear HB; clear HI0; have HO_531000:=n0_; have BK529:=n1_; have BK530:=n2_; have HK:=n3_; have HB:=n4_; have HI0:=n5_; clear n0_ n1_ n2_ n3_ n4_ n5_; (try clear hb); (try clear hb2); (try clear hk); (try clear hi))))
       go_loopg [7] k2 (fun kq v7 w' => ∃ (x7_3 : Int) (x1001_3 : Int) (x1002_3 : Int) (x531000_3 : List (List Int)) (u531000 : Value),v7 = .int .i64 x7_3 ∧ Aside0 (spec_l1Cur_yard.l2 kq x7_3 s0_0 x1001_3 x1002_3 x531000_3 = some (r1,r2,r3)) ∧ Aside0 (kq ≤ k2) ∧ Aside0 (Kd.S (Kd.slice 3 (Kd.int .i64)) 24 w' w.heap.size (fun _ => True) u531000 x531000_3) ∧ Aside0 (w'.heap[gb529]? = some (.cells #[(.slice none 0 0)] 42 (0,0))) ∧ Aside0 (w'.heap[gb530]? = some (.cells #[u531000] 42 (0,0))) ∧ Aside0 (IsS112 w0 w' g s0_0 x1001_3 x1002_3) ∧ Aside0 (KeepBut w w' g none) ∧ Aside0 (Below w0.heap.size w0 w'))
       case atStart => exact ⟨(t552),(t553),(t554),(x531000_2),(u531000),(by (rfl)),H',⟨Nat.le_refl _⟩,⟨by exact HO_531000.out⟩,⟨by exact BK529.out⟩,⟨by exact BK530.out⟩,⟨by repeat (((with_reducible (exact HI0.out))))⟩,⟨by repeat (((with_reducible (exact HK.out))))⟩,⟨by repeat (((with_reducible (exact HB.out))))⟩⟩
       case round =>
        clear H'
        try clear c1
        try clear c2
        try clear p2
        try clear q2
        try clear c3
        try clear hx3
        try clear hf3
        try clear c4
        try clear c5
        try clear p5
        try clear q5
        try clear hx5
        try clear c6
        try clear p6
        try clear c9
        try clear c9b0
        try clear c10
        try clear c11
        try clear c12
        try clear c16
        try clear c22
        try clear c22b0
        try clear c24
        try clear c24b0
        try clear c25
        try clear c25b0
        try clear c26
        try clear c26b0
        try clear c26b1
        try clear c27
        try clear p28
        try clear q28
        try clear c29
        try clear c30
        try clear c36
        try clear c38
        try clear hx38
        try clear hf38
        try clear c41
        try clear c42
        try clear hcz13_0
        try clear hcz19_0
        try clear hcz31_0
        try clear hcz34_0
        try clear hcz43_0
        try clear hcz46_0
        try clear hcz7_0
        try clear hfz13_0
        try clear hfz19_0
        try clear hfz31_0
        try clear hfz34_0
        try clear hfz43_0
        try clear hfz46_0
        try clear hfz7_0
        try clear hx38_0
        try clear hx546_0
        try clear hx547_0
        try clear p2
        try clear p28
        try clear p546
        try clear p547
        try clear p6
        try clear q28
        try clear q546
        try clear q547
        obtain ⟨x7_3,x1001_3,x1002_3,x531000_3,u531000,rfl,HA,HK3,HO_531000,BK529,BK530,HI0,HK,HB⟩:=hrel
        cases gk with
        | zero => exact absurd HA.out (by simp [spec_l1Cur_yard.l2])
        | succ k3 =>
         have H:=HA.out
         clear HA
         simp only [spec_l1Cur_yard.l2] at H
         by_cases c49 : x7_3 > 0
         ·rw [if_pos c49] at H
          have c49b0 : decide (0 < x7_3) = true:=decide_eq_true c49
          clear c49
          replace H:=Option.bind_eq_some_iff.mp H
          obtain ⟨⟨t558,t559,t560⟩,A500,H⟩:=H
          replace H : ((spec_l1Cur_pick.f s0_0 t559 t560 (x531000_3.length : Int)).bind fun bt561 => (if t558 = bt561.1 then (spec_l1Cur_yard.l2 k3 (wrap64 (x7_3 - 1)) s0_0 bt561.2.1 bt561.2.2 x531000_3) else (if 0 ≤ t558 then (if t558 < (x531000_3.length : Int) then (if ((rd_L2 x531000_3 t558).length : Int) > 0 then (if 0 ≤ bt561.1 then (if bt561.1 < (x531000_3.length : Int) then (if ((rd_L2 x531000_3 bt561.1).length : Int) < 4 then ((spec_l5Move.f k3 x531000_3 t558 bt561.1).bind fun t566 => (spec_l1Cur_yard.l2 k3 (wrap64 (x7_3 - 1)) s0_0 bt561.2.1 bt561.2.2 t566)) else (spec_l1Cur_yard.l2 k3 (wrap64 (x7_3 - 1)) s0_0 bt561.2.1 bt561.2.2 x531000_3)) else (none)) else (none)) else (spec_l1Cur_yard.l2 k3 (wrap64 (x7_3 - 1)) s0_0 bt561.2.1 bt561.2.2 x531000_3)) else (none)) else (none)))) = some (r1,r2,r3):=H
          have A50:=Aside0.mk A500
          clear A500
          replace H:=Option.bind_eq_some_iff.mp H
          obtain ⟨⟨t561,t562,t563⟩,A510,H⟩:=H
          replace H : (if t558 = t561 then (spec_l1Cur_yard.l2 k3 (wrap64 (x7_3 - 1)) s0_0 t562 t563 x531000_3) else (if 0 ≤ t558 then (if t558 < (x531000_3.length : Int) then (if ((rd_L2 x531000_3 t558).length : Int) > 0 then (if 0 ≤ t561 then (if t561 < (x531000_3.length : Int) then (if ((rd_L2 x531000_3 t561).length : Int) < 4 then ((spec_l5Move.f k3 x531000_3 t558 t561).bind fun t566 => (spec_l1Cur_yard.l2 k3 (wrap64 (x7_3 - 1)) s0_0 t562 t563 t566)) else (spec_l1Cur_yard.l2 k3 (wrap64 (x7_3 - 1)) s0_0 t562 t563 x531000_3)) else (none)) else (none)) else (spec_l1Cur_yard.l2 k3 (wrap64 (x7_3 - 1)) s0_0 t562 t563 x531000_3)) else (none)) else (none))) = some (r1,r2,r3):=H
          have A51:=Aside0.mk A510
          clear A510
          by_cases c52 : t558 = t561
          ·rw [if_pos c52] at H
           have c52b0 : (t558 == t561) = true:=beq_iff_eq.mpr c52
           have c52b1 : (t558 != t561) = false:=bne_eq_false_iff_eq.mpr c52
           clear c52
           have H':=Aside0.mk H
           clear H
           try go_wp2
           have n0_:=Aside0.mk (Kd.S_drew HO_531000.out)
           have n1_:=Aside0.mk (blk_drew BK529.out)
           have n2_:=Aside0.mk (blk_drew BK530.out)
           have n3_:=Aside0.mk (IsS112.drew HI0.out)
           have n4_:=Aside0.mk (keep_drew HK.out)
           have n5_:=Aside0.mk (below_drew1 HB.out)
           clear HO_531000
           clear BK529
           clear BK530
           clear HI0
           clear HK
           clear HB
           have HO_531000:=n0_
           have BK529:=n1_
           have BK530:=n2_
           have HI0:=n3_
           have HK:=n4_
           have HB:=n5_
           clear n0_ n1_ n2_ n3_ n4_ n5_
           obtain ⟨Ao54,co54,eo54⟩:=Kd.S_slice HO_531000.out
           (subst eo54)
           refine start_ (n:=12) (S:=fun w' => w'.cell? ⟨gb530,0,none⟩ = some (.slice Ao54 x531000_3.length co54)) (ds:=[]) (bfc4 12 0) (by kernel_rfl) rfl rfl ((blk_cell BK530.out 0).trans rfl) (fun hHeld => ?_); refine with_tabW spec_l1Cur_yard.tab15 spec_l1Cur_yard.bits15 (fun HT_ HW_ => ?_)
           generalize wr.drew = w53 at HO_531000 BK529 BK530 HI0 HK HB hHeld ⊢
           refine pure_ (i:=0) (N:=some 61) (v:=?_) (a':=?_) (bfc4 12 1) rfl rfl (any_of HT_.out (by kernel_rfl)) (fun _ _ _ h => h) (Or.inl ⟨by rfl,?_⟩) ?_ ?_
           rotate_left
           ·intro w'
            go_simp
            with_reducible rfl
           rotate_left
           ·simp only [Act.put,List.setIfInBounds_toArray,List.set_cons_zero,List.set_cons_succ,i64_w,i32_w]
            rfl
           refine pure_ (i:=1) (N:=some 62) (v:=?_) (a':=?_) (bfc4 12 3) rfl rfl (any_of HT_.out (by kernel_rfl)) (fun _ _ _ h => h) (Or.inl ⟨by rfl,?_⟩) ?_ ?_
           rotate_left
           ·intro w'
            go_simp
            with_reducible rfl
           rotate_left
           ·simp only [Act.put,List.setIfInBounds_toArray,List.set_cons_zero,List.set_cons_succ,i64_w,i32_w]
            rfl
           refine pure_ (i:=5) (N:=some 66) (v:=?_) (a':=?_) (bfc4 12 35) rfl rfl (any_of HT_.out (by kernel_rfl)) (fun _ _ _ h => h) (Or.inl ⟨by rfl,?_⟩) ?_ ?_
           rotate_left
           ·intro w'
            go_simp
            with_reducible rfl
           rotate_left
           ·simp only [Act.put,List.setIfInBounds_toArray,List.set_cons_zero,List.set_cons_succ,i64_w,i32_w]
            rfl
           refine pure_ (i:=6) (N:=some 67) (v:=?_) (a':=?_) (bfc4 12 99) rfl rfl (any_of HT_.out (by kernel_rfl)) (fun _ _ _ h => h) (Or.inl ⟨by rfl,?_⟩) ?_ ?_
           rotate_left
           ·intro w'
            go_simp
            with_reducible rfl
           rotate_left
           ·simp only [Act.put,List.setIfInBounds_toArray,List.set_cons_zero,List.set_cons_succ,i64_w,i32_w]
            rfl
           refine take_ (i:=2) (N:=some 63) (v:=?_) (a':=?_) (bfc4 12 103) rfl rfl (take_ofW HT_.out HW_.out (by kernel_rfl)) (fun _ _ _ h => h) (Or.inl ⟨by rfl,?_⟩) hHeld ?_ ?_
           rotate_left
           ·intro w' s0
            go_simp
            with_reducible rfl
           rotate_left
           ·simp only [Act.put,List.setIfInBounds_toArray,List.set_cons_zero,List.set_cons_succ,i64_w,i32_w]
            rfl
           refine pure_ (i:=3) (N:=some 64) (v:=?_) (a':=?_) (bfc4 12 111) rfl rfl (any_of HT_.out (by kernel_rfl)) (fun _ _ _ h => h) (Or.inl ⟨by rfl,?_⟩) ?_ ?_
           rotate_left
           ·intro w'
            go_simp
            with_reducible rfl
           rotate_left
           ·simp only [Act.put,List.setIfInBounds_toArray,List.set_cons_zero,List.set_cons_succ,i64_w,i32_w]
            rfl
           refine take_ (i:=7) (N:=some 68) (v:=?_) (a':=?_) (bfc4 12 239) rfl rfl (take_ofW HT_.out HW_.out (by kernel_rfl)) (fun _ _ _ h => h) (Or.inl ⟨by rfl,?_⟩) hHeld ?_ ?_
           rotate_left
           ·intro w' s0
            go_simp
            with_reducible rfl
           rotate_left
           ·simp only [Act.put,List.setIfInBounds_toArray,List.set_cons_zero,List.set_cons_succ,i64_w,i32_w]
            rfl
           refine pure_ (i:=8) (N:=some 69) (v:=?_) (a':=?_) (bfc4 12 495) rfl rfl (any_of HT_.out (by kernel_rfl)) (fun _ _ _ h => h) (Or.inl ⟨by rfl,?_⟩) ?_ ?_
           rotate_left
           ·intro w'
            go_simp
            with_reducible rfl
           rotate_left
           ·simp only [Act.put,List.setIfInBounds_toArray,List.set_cons_zero,List.set_cons_succ,i64_w,i32_w]
            rfl
           refine one_ (i:=4) (N:=some 65) (bfc4 12 511) rfl rfl (one_of HT_.out (by kernel_rfl)) (by decide) (fun K hK => ?_)
           refine goes_ Try.func97 (by kernel_rfl) rfl #[.pointer (some ⟨g,0,none⟩),.int .i64 (x531000_3.length : Int)] (by rfl) rfl rfl (by (try simp only [List.map_toArray,List.map_cons,List.map_nil]); (rfl)) ?_
           with_reducible refine (spec_l1Cur_pick.calls g s0_0 x1001_3 x1002_3 (x531000_3.length : Int) t558 t559 t560 w0 _ ?side1 ?side2 A50.out).mono ?_
           (case side1 => repeat (((with_reducible (exact HI0.out)))))
           (case side2 => repeat (((with_reducible (exact HB.out)))))
           rintro e w55 ⟨rfl,hi,hb,hk⟩
           refine ⟨_,rfl,?_⟩
           have n0_:=Aside0.mk (Kd.S_mono (Kd.S_keep (IsS112.apartS (show IsS112 w0 _ g s0_0 x1001_3 x1002_3 from by repeat (((with_reducible (exact HI0.out))))) (by exact HO_531000.out) (by decide)) hk (fun _ h => h.2)) (fun _ h => h.1))
           have n1_:=Aside0.mk (KeepBut.blk hk (g':=gb529) (o:=.cells #[.slice none 0 0] 42 (0,0)) (by exact BK529.out) NB529_0.out (by simp))
           have n2_:=Aside0.mk (KeepBut.blk hk (g':=gb530) (o:=.cells #[.slice Ao54 x531000_3.length co54] 42 (0,0)) (by exact BK530.out) NB530_0.out (by simp))
           have n3_:=Aside0.mk (KeepBut.trans (by repeat (((with_reducible (exact HK.out))))) hk (.inl rfl))
           have n4_:=Aside0.mk (hb)
           have n5_:=Aside0.mk (hi)
           clear HO_531000
           clear BK529
           clear BK530
           clear HK
           clear HB
           clear HI0
           have HO_531000:=n0_
           have BK529:=n1_
           have BK530:=n2_
           have HK:=n3_
           have HB:=n4_
           have HI0:=n5_
           clear n0_ n1_ n2_ n3_ n4_ n5_
           (try clear hb)
           (try clear hb2)
           (try clear hk)
           (try clear hi)
           refine hK.out _ _ ((blk_cell BK530.out 0).trans rfl) (fun hHeld => ?_)
           clear hK K
           refine norm_ (a':=?_) ?_ ?_
           rotate_left
           ·show Act.put _ (some 65) _ = _
            simp only [Act.put,List.setIfInBounds_toArray,List.set_cons_zero,List.set_cons_succ,i64_w,i32_w]
            rfl
           refine one_ (i:=9) (N:=some 70) (bfc4 12 1023) rfl rfl (one_of HT_.out (by kernel_rfl)) (by decide) (fun K hK => ?_)
           refine goes_ Try.func97 (by kernel_rfl) rfl #[.pointer (some ⟨g,0,none⟩),.int .i64 (x531000_3.length : Int)] (by rfl) rfl rfl (by (try simp only [List.map_toArray,List.map_cons,List.map_nil]); (rfl)) ?_
           with_reducible refine (spec_l1Cur_pick.calls g s0_0 t559 t560 (x531000_3.length : Int) t561 t562 t563 w0 _ ?side1 ?side2 A51.out).mono ?_
           (case side1 => repeat (((with_reducible (exact HI0.out)))))
           (case side2 => repeat (((with_reducible (exact HB.out)))))
           rintro e w56 ⟨rfl,hi,hb,hk⟩
           refine ⟨_,rfl,?_⟩
           have n0_:=Aside0.mk (Kd.S_mono (Kd.S_keep (IsS112.apartS (show IsS112 w0 _ g s0_0 t559 t560 from by repeat (((with_reducible (exact HI0.out))))) (by exact HO_531000.out) (by decide)) hk (fun _ h => h.2)) (fun _ h => h.1))
           have n1_:=Aside0.mk (KeepBut.blk hk (g':=gb529) (o:=.cells #[.slice none 0 0] 42 (0,0)) (by exact BK529.out) NB529_0.out (by simp))
           have n2_:=Aside0.mk (KeepBut.blk hk (g':=gb530) (o:=.cells #[.slice Ao54 x531000_3.length co54] 42 (0,0)) (by exact BK530.out) NB530_0.out (by simp))
           have n3_:=Aside0.mk (KeepBut.trans (by repeat (((with_reducible (exact HK.out))))) hk (.inl rfl))
           have n4_:=Aside0.mk (hb)
           have n5_:=Aside0.mk (hi)
           clear HO_531000
           clear BK529
           clear BK530
           clear HK
           clear HB
           clear HI0
           have HO_531000:=n0_
           have BK529:=n1_
           have BK530:=n2_
           have HK:=n3_
           have HB:=n4_
           have HI0:=n5_
           clear n0_ n1_ n2_ n3_ n4_ n5_
           (try clear hb)
           (try clear hb2)
           (try clear hk)
           (try clear hi)
           refine hK.out _ _ ((blk_cell BK530.out 0).trans rfl) (fun hHeld => ?_)
           clear hK K
           refine norm_ (a':=?_) ?_ ?_
           rotate_left
           ·show Act.put _ (some 70) _ = _
            simp only [Act.put,List.setIfInBounds_toArray,List.set_cons_zero,List.set_cons_succ,i64_w,i32_w]
            rfl
           refine pure_ (i:=10) (N:=some 8) (v:=?_) (a':=?_) (bfc4 12 2047) rfl rfl (any_of HT_.out (by kernel_rfl)) (fun _ _ _ h => h) (Or.inl ⟨by rfl,?_⟩) ?_ ?_
           rotate_left
           ·intro w'
            go_simp
            with_reducible rfl
           rotate_left
           ·simp only [Act.put,List.setIfInBounds_toArray,List.set_cons_zero,List.set_cons_succ,i64_w,i32_w]
            rfl
           refine pure_ (i:=11) (N:=some 9) (v:=?_) (a':=?_) (bfc4 12 4095) rfl rfl (any_of HT_.out (by kernel_rfl)) (fun _ _ _ h => h) (Or.inl ⟨by rfl,?_⟩) ?_ ?_
           rotate_left
           ·intro w'
            go_simp
            with_reducible rfl
           rotate_left
           ·simp only [Act.put,List.setIfInBounds_toArray,List.set_cons_zero,List.set_cons_succ,i64_w,i32_w]
            rfl
           refine done_ (done_of HT_.out (by kernel_rfl)) ?_
           try go_wp2
           go_roundg k3
           case measure => have:=HK1.out; have:=HK2.out; have:=HK3.out; omega
           case rel => exact ⟨(wrap64 (x7_3 - 1)),(t562),(t563),(x531000_3),(.slice Ao54 x531000_3.length co54),(by (rfl)),H',⟨by have:=HK1.out; have:=HK2.out; have:=HK3.out; omega⟩,⟨by exact HO_531000.out⟩,⟨by exact BK529.out⟩,⟨by exact BK530.out⟩,⟨by repeat (((with_reducible (exact HI0.out))))⟩,⟨by repeat (((with_reducible (exact HK.out))))⟩,⟨by repeat (((with_reducible (exact HB.out))))⟩⟩
          ·rw [if_neg c52] at H
           have c52b0 : (t558 == t561) = false:=beq_eq_false_iff_ne.mpr c52
           have c52b1 : (t558 != t561) = true:=bne_iff_ne.mpr c52
           by_cases c57 : 0 ≤ t558
           ·rw [if_pos c57] at H
            have c57b0 : decide (0 ≤ t558) = true:=decide_eq_true c57
            clear c57
            by_cases c58 : t558 < (x531000_3.length : Int)
            ·rw [if_pos c58] at H
             have c58b0 : decide (t558 < (x531000_3.length : Int)) = true:=decide_eq_true c58
             clear c58
             by_cases c59 : ((rd_L2 x531000_3 t558).length : Int) > 0
             ·rw [if_pos c59] at H
              have c59b0 : decide (0 < ((rd_L2 x531000_3 t558).length : Int)) = true:=decide_eq_true c59
              have c59b1 : decide (0 < (rd_L2 x531000_3 t558).length) = true:=decide_eq_true (by omega)
              clear c59
              by_cases c60 : 0 ≤ t561
              ·rw [if_pos c60] at H
               have c60b0 : decide (0 ≤ t561) = true:=decide_eq_true c60
               clear c60
               by_cases c61 : t561 < (x531000_3.length : Int)
               ·rw [if_pos c61] at H
                have c61b0 : decide (t561 < (x531000_3.length : Int)) = true:=decide_eq_true c61
                clear c61
                have HF_:=Aside0.mk H
                clear H
                try go_wp2
                have n0_:=Aside0.mk (Kd.S_drew HO_531000.out)
                have n1_:=Aside0.mk (blk_drew BK529.out)
                have n2_:=Aside0.mk (blk_drew BK530.out)
                have n3_:=Aside0.mk (IsS112.drew HI0.out)
                have n4_:=Aside0.mk (keep_drew HK.out)
                have n5_:=Aside0.mk (below_drew1 HB.out)
                clear HO_531000
                clear BK529
                clear BK530
                clear HI0
                clear HK
                clear HB
                have HO_531000:=n0_
                have BK529:=n1_
                have BK530:=n2_
                have HI0:=n3_
                have HK:=n4_
                have HB:=n5_
                clear n0_ n1_ n2_ n3_ n4_ n5_
                obtain ⟨Ao65,co65,eo65⟩:=Kd.S_slice HO_531000.out
                (subst eo65)
                refine start_ (n:=12) (S:=fun w' => w'.cell? ⟨gb530,0,none⟩ = some (.slice Ao65 x531000_3.length co65)) (ds:=[]) (bfc4 12 0) (by kernel_rfl) rfl rfl ((blk_cell BK530.out 0).trans rfl) (fun hHeld => ?_); refine with_tabW spec_l1Cur_yard.tab15 spec_l1Cur_yard.bits15 (fun HT_ HW_ => ?_)
                generalize wr.drew = w64 at HO_531000 BK529 BK530 HI0 HK HB hHeld ⊢
                refine pure_ (i:=0) (N:=some 61) (v:=?_) (a':=?_) (bfc4 12 1) rfl rfl (any_of HT_.out (by kernel_rfl)) (fun _ _ _ h => h) (Or.inl ⟨by rfl,?_⟩) ?_ ?_
                rotate_left
                ·intro w'
                 go_simp
                 with_reducible rfl
                rotate_left
                ·simp only [Act.put,List.setIfInBounds_toArray,List.set_cons_zero,List.set_cons_succ,i64_w,i32_w]
                 rfl
                refine pure_ (i:=1) (N:=some 62) (v:=?_) (a':=?_) (bfc4 12 3) rfl rfl (any_of HT_.out (by kernel_rfl)) (fun _ _ _ h => h) (Or.inl ⟨by rfl,?_⟩) ?_ ?_
                rotate_left
                ·intro w'
                 go_simp
                 with_reducible rfl
                rotate_left
                ·simp only [Act.put,List.setIfInBounds_toArray,List.set_cons_zero,List.set_cons_succ,i64_w,i32_w]
                 rfl
                refine pure_ (i:=5) (N:=some 66) (v:=?_) (a':=?_) (bfc4 12 35) rfl rfl (any_of HT_.out (by kernel_rfl)) (fun _ _ _ h => h) (Or.inl ⟨by rfl,?_⟩) ?_ ?_
                rotate_left
                ·intro w'
                 go_simp
                 with_reducible rfl
                rotate_left
                ·simp only [Act.put,List.setIfInBounds_toArray,List.set_cons_zero,List.set_cons_succ,i64_w,i32_w]
                 rfl
                refine pure_ (i:=6) (N:=some 67) (v:=?_) (a':=?_) (bfc4 12 99) rfl rfl (any_of HT_.out (by kernel_rfl)) (fun _ _ _ h => h) (Or.inl ⟨by rfl,?_⟩) ?_ ?_
                rotate_left
                ·intro w'
                 go_simp
                 with_reducible rfl
                rotate_left
                ·simp only [Act.put,List.setIfInBounds_toArray,List.set_cons_zero,List.set_cons_succ,i64_w,i32_w]
                 rfl
                refine take_ (i:=2) (N:=some 63) (v:=?_) (a':=?_) (bfc4 12 103) rfl rfl (take_ofW HT_.out HW_.out (by kernel_rfl)) (fun _ _ _ h => h) (Or.inl ⟨by rfl,?_⟩) hHeld ?_ ?_
                rotate_left
                ·intro w' s0
                 go_simp
                 with_reducible rfl
                rotate_left
                ·simp only [Act.put,List.setIfInBounds_toArray,List.set_cons_zero,List.set_cons_succ,i64_w,i32_w]
                 rfl
                refine pure_ (i:=3) (N:=some 64) (v:=?_) (a':=?_) (bfc4 12 111) rfl rfl (any_of HT_.out (by kernel_rfl)) (fun _ _ _ h => h) (Or.inl ⟨by rfl,?_⟩) ?_ ?_
                rotate_left
                ·intro w'
                 go_simp
                 with_reducible rfl
                rotate_left
                ·simp only [Act.put,List.setIfInBounds_toArray,List.set_cons_zero,List.set_cons_succ,i64_w,i32_w]
                 rfl
                refine take_ (i:=7) (N:=some 68) (v:=?_) (a':=?_) (bfc4 12 239) rfl rfl (take_ofW HT_.out HW_.out (by kernel_rfl)) (fun _ _ _ h => h) (Or.inl ⟨by rfl,?_⟩) hHeld ?_ ?_
                rotate_left
                ·intro w' s0
                 go_simp
                 with_reducible rfl
                rotate_left
                ·simp only [Act.put,List.setIfInBounds_toArray,List.set_cons_zero,List.set_cons_succ,i64_w,i32_w]
                 rfl
                refine pure_ (i:=8) (N:=some 69) (v:=?_) (a':=?_) (bfc4 12 495) rfl rfl (any_of HT_.out (by kernel_rfl)) (fun _ _ _ h => h) (Or.inl ⟨by rfl,?_⟩) ?_ ?_
                rotate_left
                ·intro w'
                 go_simp
                 with_reducible rfl
                rotate_left
                ·simp only [Act.put,List.setIfInBounds_toArray,List.set_cons_zero,List.set_cons_succ,i64_w,i32_w]
                 rfl
                refine one_ (i:=4) (N:=some 65) (bfc4 12 511) rfl rfl (one_of HT_.out (by kernel_rfl)) (by decide) (fun K hK => ?_)
                refine goes_ Try.func97 (by kernel_rfl) rfl #[.pointer (some ⟨g,0,none⟩),.int .i64 (x531000_3.length : Int)] (by rfl) rfl rfl (by (try simp only [List.map_toArray,List.map_cons,List.map_nil]); (rfl)) ?_
                with_reducible refine (spec_l1Cur_pick.calls g s0_0 x1001_3 x1002_3 (x531000_3.length : Int) t558 t559 t560 w0 _ ?side1 ?side2 A50.out).mono ?_
                (case side1 => repeat (((with_reducible (exact HI0.out)))))
                (case side2 => repeat (((with_reducible (exact HB.out)))))
                rintro e w66 ⟨rfl,hi,hb,hk⟩
                refine ⟨_,rfl,?_⟩
                have n0_:=Aside0.mk (Kd.S_mono (Kd.S_keep (IsS112.apartS (show IsS112 w0 _ g s0_0 x1001_3 x1002_3 from by repeat (((with_reducible (exact HI0.out))))) (by exact HO_531000.out) (by decide)) hk (fun _ h => h.2)) (fun _ h => h.1))
                have n1_:=Aside0.mk (KeepBut.blk hk (g':=gb529) (o:=.cells #[.slice none 0 0] 42 (0,0)) (by exact BK529.out) NB529_0.out (by simp))
                have n2_:=Aside0.mk (KeepBut.blk hk (g':=gb530) (o:=.cells #[.slice Ao65 x531000_3.length co65] 42 (0,0)) (by exact BK530.out) NB530_0.out (by simp))
                have n3_:=Aside0.mk (KeepBut.trans (by repeat (((with_reducible (exact HK.out))))) hk (.inl rfl))
                have n4_:=Aside0.mk (hb)
                have n5_:=Aside0.mk (hi)
                clear HO_531000
                clear BK529
                clear BK530
                clear HK
                clear HB
                clear HI0
                have HO_531000:=n0_
                have BK529:=n1_
                have BK530:=n2_
                have HK:=n3_
                have HB:=n4_
                have HI0:=n5_
                clear n0_ n1_ n2_ n3_ n4_ n5_
                (try clear hb)
                (try clear hb2)
                (try clear hk)
                (try clear hi)
                refine hK.out _ _ ((blk_cell BK530.out 0).trans rfl) (fun hHeld => ?_)
                clear hK K
                refine norm_ (a':=?_) ?_ ?_
                rotate_left
                ·show Act.put _ (some 65) _ = _
                 simp only [Act.put,List.setIfInBounds_toArray,List.set_cons_zero,List.set_cons_succ,i64_w,i32_w]
                 rfl
                refine one_ (i:=9) (N:=some 70) (bfc4 12 1023) rfl rfl (one_of HT_.out (by kernel_rfl)) (by decide) (fun K hK => ?_)
                refine goes_ Try.func97 (by kernel_rfl) rfl #[.pointer (some ⟨g,0,none⟩),.int .i64 (x531000_3.length : Int)] (by rfl) rfl rfl (by (try simp only [List.map_toArray,List.map_cons,List.map_nil]); (rfl)) ?_
                with_reducible refine (spec_l1Cur_pick.calls g s0_0 t559 t560 (x531000_3.length : Int) t561 t562 t563 w0 _ ?side1 ?side2 A51.out).mono ?_
                (case side1 => repeat (((with_reducible (exact HI0.out)))))
                (case side2 => repeat (((with_reducible (exact HB.out)))))
                rintro e w67 ⟨rfl,hi,hb,hk⟩
                refine ⟨_,rfl,?_⟩
                have n0_:=Aside0.mk (Kd.S_mono (Kd.S_keep (IsS112.apartS (show IsS112 w0 _ g s0_0 t559 t560 from by repeat (((with_reducible (exact HI0.out))))) (by exact HO_531000.out) (by decide)) hk (fun _ h => h.2)) (fun _ h => h.1))
                have n1_:=Aside0.mk (KeepBut.blk hk (g':=gb529) (o:=.cells #[.slice none 0 0] 42 (0,0)) (by exact BK529.out) NB529_0.out (by simp))
                have n2_:=Aside0.mk (KeepBut.blk hk (g':=gb530) (o:=.cells #[.slice Ao65 x531000_3.length co65] 42 (0,0)) (by exact BK530.out) NB530_0.out (by simp))
                have n3_:=Aside0.mk (KeepBut.trans (by repeat (((with_reducible (exact HK.out))))) hk (.inl rfl))
                have n4_:=Aside0.mk (hb)
                have n5_:=Aside0.mk (hi)
                clear HO_531000
                clear BK529
                clear BK530
                clear HK
                clear HB
                clear HI0
                have HO_531000:=n0_
                have BK529:=n1_
                have BK530:=n2_
                have HK:=n3_
                have HB:=n4_
                have HI0:=n5_
                clear n0_ n1_ n2_ n3_ n4_ n5_
                (try clear hb)
                (try clear hb2)
                (try clear hk)
                (try clear hi)
                refine hK.out _ _ ((blk_cell BK530.out 0).trans rfl) (fun hHeld => ?_)
                clear hK K
                refine norm_ (a':=?_) ?_ ?_
                rotate_left
                ·show Act.put _ (some 70) _ = _
                 simp only [Act.put,List.setIfInBounds_toArray,List.set_cons_zero,List.set_cons_succ,i64_w,i32_w]
                 rfl
                refine pure_ (i:=10) (N:=some 8) (v:=?_) (a':=?_) (bfc4 12 2047) rfl rfl (any_of HT_.out (by kernel_rfl)) (fun _ _ _ h => h) (Or.inl ⟨by rfl,?_⟩) ?_ ?_
                rotate_left
                ·intro w'
                 go_simp
                 with_reducible rfl
                rotate_left
                ·simp only [Act.put,List.setIfInBounds_toArray,List.set_cons_zero,List.set_cons_succ,i64_w,i32_w]
                 rfl
                refine pure_ (i:=11) (N:=some 9) (v:=?_) (a':=?_) (bfc4 12 4095) rfl rfl (any_of HT_.out (by kernel_rfl)) (fun _ _ _ h => h) (Or.inl ⟨by rfl,?_⟩) ?_ ?_
                rotate_left
                ·intro w'
                 go_simp
                 with_reducible rfl
                rotate_left
                ·simp only [Act.put,List.setIfInBounds_toArray,List.set_cons_zero,List.set_cons_succ,i64_w,i32_w]
                 rfl
                refine done_ (done_of HT_.out (by kernel_rfl)) ?_
                have H:=HF_.out
                clear HF_
                by_cases c62 : ((rd_L2 x531000_3 t561).length : Int) < 4
                ·rw [if_pos c62] at H
                 have c62b0 : decide (((rd_L2 x531000_3 t561).length : Int) < 4) = true:=decide_eq_true c62
                 have c62b1 : decide ((rd_L2 x531000_3 t561).length < 4) = true:=decide_eq_true (by omega)
                 clear c62
                 replace H:=Option.bind_eq_some_iff.mp H
                 obtain ⟨t566,A630,H⟩:=H
                 replace H : (spec_l1Cur_yard.l2 k3 (wrap64 (x7_3 - 1)) s0_0 t562 t563 t566) = some (r1,r2,r3):=H
                 have A63:=Aside0.mk A630
                 clear A630
                 have H':=Aside0.mk H
                 clear H
                 have hnb68:=NB530_529.out
                 have hnc68:=NB529_530.out
                 have hnb69:=NB530_0.out
                 have hnc69:=NB0_530.out
                 have hcz70_0 : w67.cell? ⟨gb530,0,none⟩ = some (.slice Ao65 x531000_3.length co65):=(blk_cell BK530.out 0).trans rfl
                 have hfz70_0:=blk_frozen BK530.out 0
                 have p564 : 0 ≤ (t558 : Int):=of_decide_eq_true (by (with_reducible assumption))
                 have q564 : t558 < (x531000_3.length : Int):=of_decide_eq_true (by (with_reducible assumption))
                 obtain ⟨ad564,A564_0,c564_0,e564,hx564_0,hl564_0,hi564_0⟩:=at_L2 (Kd.S_reads' HO_531000.out).2.2 t558 p564 q564
                 cases e564
                 obtain ⟨ce564,hce564,hMe564,hcc564⟩:=Kd.S_get HO_531000.out [] t558 p564 (by (exact q564))
                 obtain ⟨ve564_0,rfl,ge564_0⟩:=hMe564
                 have hv564_0:=hcc564 0 _ rfl
                 rw [Nat.add_zero,show ((Kd.slice 3 (Kd.int .i64))).sz = 1 from rfl,Nat.mul_one] at hv564_0
                 replace hv564_0:=Option.some.inj (hv564_0.symm.trans hx564_0)
                 rw [hv564_0] at ge564_0
                 have HL564_0:=Aside0.mk (show Kd.R (Kd.int .i64) 3 _ _ _ _ (rd_L2 x531000_3 t558) from ge564_0)
                 clear hv564_0 ge564_0
                 have HX564_0:=Aside0.mk hx564_0
                 clear hcc564 hce564
                 have HR564_0:=Aside0.mk hi564_0
                 have HC564_0:=Aside0.mk hl564_0
                 clear hi564_0 hl564_0
                 replace p564:=eq_true p564
                 replace q564:=eq_true q564
                 have p565 : 0 ≤ (t561 : Int):=of_decide_eq_true (by (with_reducible assumption))
                 have q565 : t561 < (x531000_3.length : Int):=of_decide_eq_true (by (with_reducible assumption))
                 obtain ⟨ad565,A565_0,c565_0,e565,hx565_0,hl565_0,hi565_0⟩:=at_L2 (Kd.S_reads' HO_531000.out).2.2 t561 p565 q565
                 obtain rfl : ad564 = ad565:=(by injection e565)
                 obtain ⟨ce565,hce565,hMe565,hcc565⟩:=Kd.S_get HO_531000.out [] t561 p565 (by (exact q565))
                 obtain ⟨ve565_0,rfl,ge565_0⟩:=hMe565
                 have hv565_0:=hcc565 0 _ rfl
                 rw [Nat.add_zero,show ((Kd.slice 3 (Kd.int .i64))).sz = 1 from rfl,Nat.mul_one] at hv565_0
                 replace hv565_0:=Option.some.inj (hv565_0.symm.trans hx565_0)
                 rw [hv565_0] at ge565_0
                 have HL565_0:=Aside0.mk (show Kd.R (Kd.int .i64) 3 _ _ _ _ (rd_L2 x531000_3 t561) from ge565_0)
                 clear hv565_0 ge565_0
                 have HX565_0:=Aside0.mk hx565_0
                 clear hcc565 hce565
                 have HR565_0:=Aside0.mk hi565_0
                 have HC565_0:=Aside0.mk hl565_0
                 clear hi565_0 hl565_0
                 replace p565:=eq_true p565
                 replace q565:=eq_true q565
                 try go_wp2_with ((((with_reducible refine gate_callee (f:=105) rfl ?_); refine goesL_ (some 95) rfl rfl Try.func105 (by kernel_rfl) rfl #[.agg #[.slice (some ad564) x531000_3.length co65],.int .i64 t558,.int .i64 t561] rfl (by (try simp only [List.map_toArray,List.map_cons,List.map_nil]); (rfl)) ?_; (with_reducible refine (spec_l5Move.calls k3 _ _ x531000_3 t558 t561 t566 _ ?side1 ?side2 A63.out).mono ?_); (case side1 => repeat ((exact (Kd.S_reads' HO_531000.out).2.2))); (case side2 => exact (Kd.S_reads' HO_531000.out).2.1); rintro e w71 ⟨v567,rfl,ho0,hb⟩; refine ⟨_,rfl,?_⟩; have n0_:=Aside0.mk (Kd.S_elder' (by exact HO_531000.out) (Kd.S_base ho0) hb); have n1_:=Aside0.mk (Kd.R_below (by exact HL564_0.out) hb); have n2_:=Aside0.mk (Kd.R_below (by exact HL565_0.out) hb); have n3_:=Aside0.mk (Kd.S_lower (Kd.S_new' (Kd.S_new' (Kd.S_new' ho0 (Kd.S_lt (by exact HO_531000.out))) (Kd.R_lt (by exact HL564_0.out))) (Kd.R_lt (by exact HL565_0.out))) (keep_size (w:=w) (g:=g) (row:=none) (by repeat (((with_reducible (exact HK.out))))))); have n4_:=Aside0.mk (blk_below (g:=gb529) (o:=.cells #[.slice none 0 0] 42 (0,0)) (by exact BK529.out) hb); have n5_:=Aside0.mk (blk_below (g:=gb530) (o:=.cells #[.slice (some ad564) x531000_3.length co65] 42 (0,0)) (by exact BK530.out) hb); have n6_:=Aside0.mk (IsS112.below (by repeat (((with_reducible (exact HI0.out))))) hb); have n7_:=Aside0.mk (Kd.C_below (by repeat (with_reducible exact HR564_0.out)) hb); have n8_:=Aside0.mk (pw_cell_below hb HX564_0.out); have n9_:=Aside0.mk (Kd.C_below (by repeat (with_reducible exact HR565_0.out)) hb); have n10_:=Aside0.mk (pw_cell_below hb HX565_0.out); have n11_:=Aside0.mk (KeepBut.trans (by repeat (((with_reducible (exact HK.out))))) (KeepBut.of_below hb g none) (.inl rfl)); have n12_:=Aside0.mk (below_step (by repeat (((with_reducible (exact HB.out))))) hb); clear HO_531000; clear HL564_0; clear HL565_0; clear BK529; clear BK530; clear HI0; clear HR564_0; clear HX564_0; clear HR565_0; clear HX565_0; clear HK; clear HB; have HO_531000:=n0_; have HL564_0:=n1_; have HL565_0:=n2_; have HO568:=n3_; have BK529:=n4_; have BK530:=n5_; have HI0:=n6_; have HR564_0:=n7_; have HX564_0:=n8_; have HR565_0:=n9_; have HX565_0:=n10_; have HK:=n11_; have HB:=n12_; clear n0_ n1_ n2_ n3_ n4_ n5_ n6_ n7_ n8_ n9_ n10_ n11_ n12_; (try clear hb); (try clear hb2); (try clear hk); (try clear hi); (try clear ho0); obtain ⟨Ao72,co72,eo72⟩:=Kd.S_slice HO568.out; subst eo72; have hcz73_0 : w71.cell? ⟨gb530,0,none⟩ = some (.slice (some ad564) x531000_3.length co65):=(blk_cell BK530.out 0).trans rfl; have hfz73_0:=blk_frozen BK530.out 0)))
                 go_roundg k3
                 case measure => have:=HK1.out; have:=HK2.out; have:=HK3.out; omega
                 case rel => exact ⟨(wrap64 (x7_3 - 1)),(t562),(t563),(t566),(.slice Ao72 t566.length co72),(by (rfl)),H',⟨by have:=HK1.out; have:=HK2.out; have:=HK3.out; omega⟩,⟨by exact Kd.S_mono (Kd.S_far (p:=⟨gb530,0,none⟩) (Kd.S_types HO568.out BK530.out (by decide)) (fun _ hk => hk.2) (.slice Ao72 t566.length co72)) (fun _ hk => trivial)⟩,⟨by refine blk_far ?_ NB529_530.out _; exact BK529.out⟩,⟨by refine blk_put (cs:=#[.slice (some ad564) x531000_3.length co65]) ?_ 0 _ rfl; exact BK530.out⟩,⟨by repeat (with_reducible first|exact HI0.out|refine IsS112.far ?_ NB0_530.out _)⟩,⟨by repeat (with_reducible first|exact HK.out|refine keep_far ?_ GW530.out _)⟩,⟨by repeat (with_reducible first|exact HB.out|refine below_set ?_ GE530.out)⟩⟩
                ·rw [if_neg c62] at H
                 have c62b0 : decide (((rd_L2 x531000_3 t561).length : Int) < 4) = false:=decide_eq_false c62
                 have c62b1 : decide ((rd_L2 x531000_3 t561).length < 4) = false:=decide_eq_false (by omega)
                 clear c62
                 have H':=Aside0.mk H
                 clear H
                 have hnb78:=NB530_529.out
                 have hnc78:=NB529_530.out
                 have hnb79:=NB530_0.out
                 have hnc79:=NB0_530.out
                 have hcz80_0 : w67.cell? ⟨gb530,0,none⟩ = some (.slice Ao65 x531000_3.length co65):=(blk_cell BK530.out 0).trans rfl
                 have hfz80_0:=blk_frozen BK530.out 0
                 have p564 : 0 ≤ (t558 : Int):=of_decide_eq_true (by (with_reducible assumption))
                 have q564 : t558 < (x531000_3.length : Int):=of_decide_eq_true (by (with_reducible assumption))
                 obtain ⟨ad564,A564_0,c564_0,e564,hx564_0,hl564_0,hi564_0⟩:=at_L2 (Kd.S_reads' HO_531000.out).2.2 t558 p564 q564
                 cases e564
                 obtain ⟨ce564,hce564,hMe564,hcc564⟩:=Kd.S_get HO_531000.out [] t558 p564 (by (exact q564))
                 obtain ⟨ve564_0,rfl,ge564_0⟩:=hMe564
                 have hv564_0:=hcc564 0 _ rfl
                 rw [Nat.add_zero,show ((Kd.slice 3 (Kd.int .i64))).sz = 1 from rfl,Nat.mul_one] at hv564_0
                 replace hv564_0:=Option.some.inj (hv564_0.symm.trans hx564_0)
                 rw [hv564_0] at ge564_0
                 have HL564_0:=Aside0.mk (show Kd.R (Kd.int .i64) 3 _ _ _ _ (rd_L2 x531000_3 t558) from ge564_0)
                 clear hv564_0 ge564_0
                 have HX564_0:=Aside0.mk hx564_0
                 clear hcc564 hce564
                 have HR564_0:=Aside0.mk hi564_0
                 have HC564_0:=Aside0.mk hl564_0
                 clear hi564_0 hl564_0
                 replace p564:=eq_true p564
                 replace q564:=eq_true q564
                 have p565 : 0 ≤ (t561 : Int):=of_decide_eq_true (by (with_reducible assumption))
                 have q565 : t561 < (x531000_3.length : Int):=of_decide_eq_true (by (with_reducible assumption))
                 obtain ⟨ad565,A565_0,c565_0,e565,hx565_0,hl565_0,hi565_0⟩:=at_L2 (Kd.S_reads' HO_531000.out).2.2 t561 p565 q565
                 obtain rfl : ad564 = ad565:=(by injection e565)
                 obtain ⟨ce565,hce565,hMe565,hcc565⟩:=Kd.S_get HO_531000.out [] t561 p565 (by (exact q565))
                 obtain ⟨ve565_0,rfl,ge565_0⟩:=hMe565
                 have hv565_0:=hcc565 0 _ rfl
                 rw [Nat.add_zero,show ((Kd.slice 3 (Kd.int .i64))).sz = 1 from rfl,Nat.mul_one] at hv565_0
                 replace hv565_0:=Option.some.inj (hv565_0.symm.trans hx565_0)
                 rw [hv565_0] at ge565_0
                 have HL565_0:=Aside0.mk (show Kd.R (Kd.int .i64) 3 _ _ _ _ (rd_L2 x531000_3 t561) from ge565_0)
                 clear hv565_0 ge565_0
                 have HX565_0:=Aside0.mk hx565_0
                 clear hcc565 hce565
                 have HR565_0:=Aside0.mk hi565_0
                 have HC565_0:=Aside0.mk hl565_0
                 clear hi565_0 hl565_0
                 replace p565:=eq_true p565
                 replace q565:=eq_true q565
                 try go_wp2
                 go_roundg k3
                 case measure => have:=HK1.out; have:=HK2.out; have:=HK3.out; omega
                 case rel => exact ⟨(wrap64 (x7_3 - 1)),(t562),(t563),(x531000_3),(.slice (some ad564) x531000_3.length co65),(by (rfl)),H',⟨by have:=HK1.out; have:=HK2.out; have:=HK3.out; omega⟩,⟨by exact HO_531000.out⟩,⟨by exact BK529.out⟩,⟨by exact BK530.out⟩,⟨by repeat (((with_reducible (exact HI0.out))))⟩,⟨by repeat (((with_reducible (exact HK.out))))⟩,⟨by repeat (((with_reducible (exact HB.out))))⟩⟩
               ·rw [if_neg c61] at H
                exact absurd H (by simp)
              ·rw [if_neg c60] at H
               exact absurd H (by simp)
             ·rw [if_neg c59] at H
              have c59b0 : decide (0 < ((rd_L2 x531000_3 t558).length : Int)) = false:=decide_eq_false c59
              have c59b1 : decide (0 < (rd_L2 x531000_3 t558).length) = false:=decide_eq_false (by omega)
              clear c59
              have H':=Aside0.mk H
              clear H
              try go_wp2
              have n0_:=Aside0.mk (Kd.S_drew HO_531000.out)
              have n1_:=Aside0.mk (blk_drew BK529.out)
              have n2_:=Aside0.mk (blk_drew BK530.out)
              have n3_:=Aside0.mk (IsS112.drew HI0.out)
              have n4_:=Aside0.mk (keep_drew HK.out)
              have n5_:=Aside0.mk (below_drew1 HB.out)
              clear HO_531000
              clear BK529
              clear BK530
              clear HI0
              clear HK
              clear HB
              have HO_531000:=n0_
              have BK529:=n1_
              have BK530:=n2_
              have HI0:=n3_
              have HK:=n4_
              have HB:=n5_
              clear n0_ n1_ n2_ n3_ n4_ n5_
              obtain ⟨Ao82,co82,eo82⟩:=Kd.S_slice HO_531000.out
              (subst eo82)
              refine start_ (n:=12) (S:=fun w' => w'.cell? ⟨gb530,0,none⟩ = some (.slice Ao82 x531000_3.length co82)) (ds:=[]) (bfc4 12 0) (by kernel_rfl) rfl rfl ((blk_cell BK530.out 0).trans rfl) (fun hHeld => ?_); refine with_tabW spec_l1Cur_yard.tab15 spec_l1Cur_yard.bits15 (fun HT_ HW_ => ?_)
              generalize wr.drew = w81 at HO_531000 BK529 BK530 HI0 HK HB hHeld ⊢
              refine pure_ (i:=0) (N:=some 61) (v:=?_) (a':=?_) (bfc4 12 1) rfl rfl (any_of HT_.out (by kernel_rfl)) (fun _ _ _ h => h) (Or.inl ⟨by rfl,?_⟩) ?_ ?_
              rotate_left
              ·intro w'
               go_simp
               with_reducible rfl
              rotate_left
              ·simp only [Act.put,List.setIfInBounds_toArray,List.set_cons_zero,List.set_cons_succ,i64_w,i32_w]
               rfl
              refine pure_ (i:=1) (N:=some 62) (v:=?_) (a':=?_) (bfc4 12 3) rfl rfl (any_of HT_.out (by kernel_rfl)) (fun _ _ _ h => h) (Or.inl ⟨by rfl,?_⟩) ?_ ?_
              rotate_left
              ·intro w'
               go_simp
               with_reducible rfl
              rotate_left
              ·simp only [Act.put,List.setIfInBounds_toArray,List.set_cons_zero,List.set_cons_succ,i64_w,i32_w]
               rfl
              refine pure_ (i:=5) (N:=some 66) (v:=?_) (a':=?_) (bfc4 12 35) rfl rfl (any_of HT_.out (by kernel_rfl)) (fun _ _ _ h => h) (Or.inl ⟨by rfl,?_⟩) ?_ ?_
              rotate_left
              ·intro w'
               go_simp
               with_reducible rfl
              rotate_left
              ·simp only [Act.put,List.setIfInBounds_toArray,List.set_cons_zero,List.set_cons_succ,i64_w,i32_w]
               rfl
              refine pure_ (i:=6) (N:=some 67) (v:=?_) (a':=?_) (bfc4 12 99) rfl rfl (any_of HT_.out (by kernel_rfl)) (fun _ _ _ h => h) (Or.inl ⟨by rfl,?_⟩) ?_ ?_
              rotate_left
              ·intro w'
               go_simp
               with_reducible rfl
              rotate_left
              ·simp only [Act.put,List.setIfInBounds_toArray,List.set_cons_zero,List.set_cons_succ,i64_w,i32_w]
               rfl
              refine take_ (i:=2) (N:=some 63) (v:=?_) (a':=?_) (bfc4 12 103) rfl rfl (take_ofW HT_.out HW_.out (by kernel_rfl)) (fun _ _ _ h => h) (Or.inl ⟨by rfl,?_⟩) hHeld ?_ ?_
              rotate_left
              ·intro w' s0
               go_simp
               with_reducible rfl
              rotate_left
              ·simp only [Act.put,List.setIfInBounds_toArray,List.set_cons_zero,List.set_cons_succ,i64_w,i32_w]
               rfl
              refine pure_ (i:=3) (N:=some 64) (v:=?_) (a':=?_) (bfc4 12 111) rfl rfl (any_of HT_.out (by kernel_rfl)) (fun _ _ _ h => h) (Or.inl ⟨by rfl,?_⟩) ?_ ?_
              rotate_left
              ·intro w'
               go_simp
               with_reducible rfl
              rotate_left
              ·simp only [Act.put,List.setIfInBounds_toArray,List.set_cons_zero,List.set_cons_succ,i64_w,i32_w]
               rfl
              refine take_ (i:=7) (N:=some 68) (v:=?_) (a':=?_) (bfc4 12 239) rfl rfl (take_ofW HT_.out HW_.out (by kernel_rfl)) (fun _ _ _ h => h) (Or.inl ⟨by rfl,?_⟩) hHeld ?_ ?_
              rotate_left
              ·intro w' s0
               go_simp
               with_reducible rfl
              rotate_left
              ·simp only [Act.put,List.setIfInBounds_toArray,List.set_cons_zero,List.set_cons_succ,i64_w,i32_w]
               rfl
              refine pure_ (i:=8) (N:=some 69) (v:=?_) (a':=?_) (bfc4 12 495) rfl rfl (any_of HT_.out (by kernel_rfl)) (fun _ _ _ h => h) (Or.inl ⟨by rfl,?_⟩) ?_ ?_
              rotate_left
              ·intro w'
               go_simp
               with_reducible rfl
              rotate_left
              ·simp only [Act.put,List.setIfInBounds_toArray,List.set_cons_zero,List.set_cons_succ,i64_w,i32_w]
               rfl
              refine one_ (i:=4) (N:=some 65) (bfc4 12 511) rfl rfl (one_of HT_.out (by kernel_rfl)) (by decide) (fun K hK => ?_)
              refine goes_ Try.func97 (by kernel_rfl) rfl #[.pointer (some ⟨g,0,none⟩),.int .i64 (x531000_3.length : Int)] (by rfl) rfl rfl (by (try simp only [List.map_toArray,List.map_cons,List.map_nil]); (rfl)) ?_
              with_reducible refine (spec_l1Cur_pick.calls g s0_0 x1001_3 x1002_3 (x531000_3.length : Int) t558 t559 t560 w0 _ ?side1 ?side2 A50.out).mono ?_
              (case side1 => repeat (((with_reducible (exact HI0.out)))))
              (case side2 => repeat (((with_reducible (exact HB.out)))))
              rintro e w83 ⟨rfl,hi,hb,hk⟩
              refine ⟨_,rfl,?_⟩
              have n0_:=Aside0.mk (Kd.S_mono (Kd.S_keep (IsS112.apartS (show IsS112 w0 _ g s0_0 x1001_3 x1002_3 from by repeat (((with_reducible (exact HI0.out))))) (by exact HO_531000.out) (by decide)) hk (fun _ h => h.2)) (fun _ h => h.1))
              have n1_:=Aside0.mk (KeepBut.blk hk (g':=gb529) (o:=.cells #[.slice none 0 0] 42 (0,0)) (by exact BK529.out) NB529_0.out (by simp))
              have n2_:=Aside0.mk (KeepBut.blk hk (g':=gb530) (o:=.cells #[.slice Ao82 x531000_3.length co82] 42 (0,0)) (by exact BK530.out) NB530_0.out (by simp))
              have n3_:=Aside0.mk (KeepBut.trans (by repeat (((with_reducible (exact HK.out))))) hk (.inl rfl))
              have n4_:=Aside0.mk (hb)
              have n5_:=Aside0.mk (hi)
              clear HO_531000
              clear BK529
              clear BK530
              clear HK
              clear HB
              clear HI0
              have HO_531000:=n0_
              have BK529:=n1_
              have BK530:=n2_
              have HK:=n3_
              have HB:=n4_
              have HI0:=n5_
              clear n0_ n1_ n2_ n3_ n4_ n5_
              (try clear hb)
              (try clear hb2)
              (try clear hk)
              (try clear hi)
              refine hK.out _ _ ((blk_cell BK530.out 0).trans rfl) (fun hHeld => ?_)
              clear hK K
              refine norm_ (a':=?_) ?_ ?_
              rotate_left
              ·show Act.put _ (some 65) _ = _
               simp only [Act.put,List.setIfInBounds_toArray,List.set_cons_zero,List.set_cons_succ,i64_w,i32_w]
               rfl
              refine one_ (i:=9) (N:=some 70) (bfc4 12 1023) rfl rfl (one_of HT_.out (by kernel_rfl)) (by decide) (fun K hK => ?_)
              refine goes_ Try.func97 (by kernel_rfl) rfl #[.pointer (some ⟨g,0,none⟩),.int .i64 (x531000_3.length : Int)] (by rfl) rfl rfl (by (try simp only [List.map_toArray,List.map_cons,List.map_nil]); (rfl)) ?_
              with_reducible refine (spec_l1Cur_pick.calls g s0_0 t559 t560 (x531000_3.length : Int) t561 t562 t563 w0 _ ?side1 ?side2 A51.out).mono ?_
              (case side1 => repeat (((with_reducible (exact HI0.out)))))
              (case side2 => repeat (((with_reducible (exact HB.out)))))
              rintro e w84 ⟨rfl,hi,hb,hk⟩
              refine ⟨_,rfl,?_⟩
              have n0_:=Aside0.mk (Kd.S_mono (Kd.S_keep (IsS112.apartS (show IsS112 w0 _ g s0_0 t559 t560 from by repeat (((with_reducible (exact HI0.out))))) (by exact HO_531000.out) (by decide)) hk (fun _ h => h.2)) (fun _ h => h.1))
              have n1_:=Aside0.mk (KeepBut.blk hk (g':=gb529) (o:=.cells #[.slice none 0 0] 42 (0,0)) (by exact BK529.out) NB529_0.out (by simp))
              have n2_:=Aside0.mk (KeepBut.blk hk (g':=gb530) (o:=.cells #[.slice Ao82 x531000_3.length co82] 42 (0,0)) (by exact BK530.out) NB530_0.out (by simp))
              have n3_:=Aside0.mk (KeepBut.trans (by repeat (((with_reducible (exact HK.out))))) hk (.inl rfl))
              have n4_:=Aside0.mk (hb)
              have n5_:=Aside0.mk (hi)
              clear HO_531000
              clear BK529
              clear BK530
              clear HK
              clear HB
              clear HI0
              have HO_531000:=n0_
              have BK529:=n1_
              have BK530:=n2_
              have HK:=n3_
              have HB:=n4_
              have HI0:=n5_
              clear n0_ n1_ n2_ n3_ n4_ n5_
              (try clear hb)
              (try clear hb2)
              (try clear hk)
              (try clear hi)
              refine hK.out _ _ ((blk_cell BK530.out 0).trans rfl) (fun hHeld => ?_)
              clear hK K
              refine norm_ (a':=?_) ?_ ?_
              rotate_left
              ·show Act.put _ (some 70) _ = _
               simp only [Act.put,List.setIfInBounds_toArray,List.set_cons_zero,List.set_cons_succ,i64_w,i32_w]
               rfl
              refine pure_ (i:=10) (N:=some 8) (v:=?_) (a':=?_) (bfc4 12 2047) rfl rfl (any_of HT_.out (by kernel_rfl)) (fun _ _ _ h => h) (Or.inl ⟨by rfl,?_⟩) ?_ ?_
              rotate_left
              ·intro w'
               go_simp
               with_reducible rfl
              rotate_left
              ·simp only [Act.put,List.setIfInBounds_toArray,List.set_cons_zero,List.set_cons_succ,i64_w,i32_w]
               rfl
              refine pure_ (i:=11) (N:=some 9) (v:=?_) (a':=?_) (bfc4 12 4095) rfl rfl (any_of HT_.out (by kernel_rfl)) (fun _ _ _ h => h) (Or.inl ⟨by rfl,?_⟩) ?_ ?_
              rotate_left
              ·intro w'
               go_simp
               with_reducible rfl
              rotate_left
              ·simp only [Act.put,List.setIfInBounds_toArray,List.set_cons_zero,List.set_cons_succ,i64_w,i32_w]
               rfl
              refine done_ (done_of HT_.out (by kernel_rfl)) ?_
              have hnb85:=NB530_529.out
              have hnc85:=NB529_530.out
              have hnb86:=NB530_0.out
              have hnc86:=NB0_530.out
              have hcz87_0 : w84.cell? ⟨gb530,0,none⟩ = some (.slice Ao82 x531000_3.length co82):=(blk_cell BK530.out 0).trans rfl
              have hfz87_0:=blk_frozen BK530.out 0
              have p564 : 0 ≤ (t558 : Int):=of_decide_eq_true (by (with_reducible assumption))
              have q564 : t558 < (x531000_3.length : Int):=of_decide_eq_true (by (with_reducible assumption))
              obtain ⟨ad564,A564_0,c564_0,e564,hx564_0,hl564_0,hi564_0⟩:=at_L2 (Kd.S_reads' HO_531000.out).2.2 t558 p564 q564
              cases e564
              obtain ⟨ce564,hce564,hMe564,hcc564⟩:=Kd.S_get HO_531000.out [] t558 p564 (by (exact q564))
              obtain ⟨ve564_0,rfl,ge564_0⟩:=hMe564
              have hv564_0:=hcc564 0 _ rfl
              rw [Nat.add_zero,show ((Kd.slice 3 (Kd.int .i64))).sz = 1 from rfl,Nat.mul_one] at hv564_0
              replace hv564_0:=Option.some.inj (hv564_0.symm.trans hx564_0)
              rw [hv564_0] at ge564_0
              have HL564_0:=Aside0.mk (show Kd.R (Kd.int .i64) 3 _ _ _ _ (rd_L2 x531000_3 t558) from ge564_0)
              clear hv564_0 ge564_0
              have HX564_0:=Aside0.mk hx564_0
              clear hcc564 hce564
              have HR564_0:=Aside0.mk hi564_0
              have HC564_0:=Aside0.mk hl564_0
              clear hi564_0 hl564_0
              replace p564:=eq_true p564
              replace q564:=eq_true q564
              try go_wp2
              go_roundg k3
              case measure => have:=HK1.out; have:=HK2.out; have:=HK3.out; omega
              case rel => exact ⟨(wrap64 (x7_3 - 1)),(t562),(t563),(x531000_3),(.slice (some ad564) x531000_3.length co82),(by (rfl)),H',⟨by have:=HK1.out; have:=HK2.out; have:=HK3.out; omega⟩,⟨by exact HO_531000.out⟩,⟨by exact BK529.out⟩,⟨by exact BK530.out⟩,⟨by repeat (((with_reducible (exact HI0.out))))⟩,⟨by repeat (((with_reducible (exact HK.out))))⟩,⟨by repeat (((with_reducible (exact HB.out))))⟩⟩
            ·rw [if_neg c58] at H
             exact absurd H (by simp)
           ·rw [if_neg c57] at H
            exact absurd H (by simp)
         ·rw [if_neg c49] at H
          have c49b0 : decide (0 < x7_3) = false:=decide_eq_false c49
          clear c49
          replace H:=Option.bind_eq_some_iff.mp H
          obtain ⟨t555,A880,H⟩:=H
          replace H : (some (t555,x1001_3,x1002_3)) = some (r1,r2,r3):=H
          have A88:=Aside0.mk A880
          clear A880
          simp only [Option.some.injEq,Prod.mk.injEq] at H
          obtain ⟨rfl,rfl,rfl⟩:=H
          have hnb89:=NB530_529.out
          have hnc89:=NB529_530.out
          have hnb90:=NB530_0.out
          have hnc90:=NB0_530.out
          have hcz91_0 : wr.cell? ⟨gb530,0,none⟩ = some (u531000):=(blk_cell BK530.out 0).trans rfl
          have hfz91_0:=blk_frozen BK530.out 0
          obtain ⟨Ao92,co92,eo92⟩:=Kd.S_slice HO_531000.out
          subst eo92
          go_wp2_with ((((with_reducible refine gate_callee (f:=115) rfl ?_); refine goesL_ (some 97) rfl rfl Try.func115 (by kernel_rfl) rfl #[.agg #[.slice Ao92 x531000_3.length co92]] rfl (by (try simp only [List.map_toArray,List.map_cons,List.map_nil]); (rfl)) ?_; (with_reducible refine (spec_l5Own.calls k3 _ _ x531000_3 t555 _ ?side1 ?side2 A88.out).mono ?_); (case side1 => repeat ((exact (Kd.S_reads' HO_531000.out).2.2))); (case side2 => exact (Kd.S_reads' HO_531000.out).2.1); rintro e w93 ⟨v556,rfl,ho0,hb⟩; refine ⟨_,rfl,?_⟩; have n0_:=Aside0.mk (Kd.S_elder' (by exact HO_531000.out) (Kd.S_base ho0) hb); have n1_:=Aside0.mk (Kd.S_lower (Kd.S_new' ho0 (Kd.S_lt (by exact HO_531000.out))) (keep_size (w:=w) (g:=g) (row:=none) (by repeat (((with_reducible (exact HK.out))))))); have n2_:=Aside0.mk (blk_below (g:=gb529) (o:=.cells #[.slice none 0 0] 42 (0,0)) (by exact BK529.out) hb); have n3_:=Aside0.mk (blk_below (g:=gb530) (o:=.cells #[.slice Ao92 x531000_3.length co92] 42 (0,0)) (by exact BK530.out) hb); have n4_:=Aside0.mk (IsS112.below (by repeat (((with_reducible (exact HI0.out))))) hb); have n5_:=Aside0.mk (KeepBut.trans (by repeat (((with_reducible (exact HK.out))))) (KeepBut.of_below hb g none) (.inl rfl)); have n6_:=Aside0.mk (below_step (by repeat (((with_reducible (exact HB.out))))) hb); clear HO_531000; clear BK529; clear BK530; clear HI0; clear HK; clear HB; have HO_531000:=n0_; have HO557:=n1_; have BK529:=n2_; have BK530:=n3_; have HI0:=n4_; have HK:=n5_; have HB:=n6_; clear n0_ n1_ n2_ n3_ n4_ n5_ n6_; (try clear hb); (try clear hb2); (try clear hk); (try clear hi); (try clear ho0); obtain ⟨Ao94,co94,eo94⟩:=Kd.S_slice HO557.out; subst eo94; have hnb95:=NB529_0.out; have hnc95:=NB0_529.out; have hcz96_0 : w93.cell? ⟨gb529,0,none⟩ = some (.slice none 0 0):=(blk_cell BK529.out 0).trans rfl; have hfz96_0:=blk_frozen BK529.out 0)))
          refine bodyPost_ret (results_cell_row rfl _ _ gb529 42 #[.slice Ao94 t555.length co94] (0,0) _ rfl (by refine blk_put (cs:=#[.slice none 0 0]) ?_ 0 _ rfl; exact BK529.out) Try.underlying42 rfl (by kernel_rfl)) rfl ?_
          exact ⟨_,by (rfl),by exact Kd.S_mono (Kd.S_far (p:=⟨gb529,0,none⟩) (Kd.S_types HO557.out BK529.out (by decide)) (fun _ hk => hk.2) (.slice Ao94 t555.length co94)) (fun _ hk => trivial),by repeat (with_reducible first|exact HI0.out|refine IsS112.far ?_ NB0_529.out _),by repeat (with_reducible first|exact HB.out|refine below_set ?_ GE529.out),by repeat (with_reducible first|exact HK.out|refine keep_far ?_ GW529.out _)⟩

end Go.Proofs.Ytlldonokjgoajaa.X
