-- Written by a program of ours (wip/bin/xprint.py,over the kit's print.py) out of the translation. Not trusted: Lean checks it.
import Derived.Test.YtlldonokjgoajaaX0
import Derived.Test.YtlldonokjgoajaaFbList
import Derived.Test.YtlldonokjgoajaaFbYard
namespace Go.Proofs.Ytlldonokjgoajaa.X
open Go.RowKit Go.Proofs.YtlldonokjgoajaaW.PrintWords Go.Proofs.YtlldonokjgoajaaW.PrintLast Go.Proofs.YtlldonokjgoajaaW.PrintMore
def lb67e : Nat → Nat → List Bool
 | 0,_ => []
 | n+1,m => (m%2==1) :: lb67e n (m/2)
def b67e (n m : Nat) : Array Bool := ⟨lb67e n m⟩
attribute [local go_sem] max2_int min2_int max_two min_two max_three min_three max_four min_four   -- for this text's walks alone
set_option linter.unusedVariables false
set_option linter.unusedSimpArgs false

/-! ### spec_SameYard: function 68 -/
mutual
def spec_SameYard.j0 : Nat → Bool → List (List Int) → List (List Int) → Option (Bool × Bool)
 | 0,_,_,_ => none
 | k + 1,x18,x1100000,x1101000 => if x18 = true then (some (false,false)) else (spec_SameYard.l0 k 0 0 x1100000 x1101000)
def spec_SameYard.l0 : Nat → Int → Int → List (List Int) → List (List Int) → Option (Bool × Bool)
 | 0,_,_,_,_ => none
 | k + 1,x6,x7,x1100000,x1101000 => if x7 < (x1100000.length : Int) then (if 0 ≤ x7 then (if ((rd_L2 x1100000 x7).length : Int) = 0 then (spec_SameYard.l0 k (wrap64 (x6 + 1)) (wrap64 (x7 + 1)) x1100000 x1101000) else (if 0 < ((rd_L2 x1100000 x7).length : Int) then ((spec_l5Find.f k x1101000 (rd (rd_L2 x1100000 x7) 0)).bind fun bt1106 => (if bt1106.1 < 0 then (some (false,true)) else (if 0 ≤ bt1106.1 then (if bt1106.1 < (x1101000.length : Int) then ((spec_l1Same.f k (rd_L2 x1100000 x7) (rd_L2 x1101000 bt1106.1)).bind fun t1110 => (if t1110 = true then (spec_SameYard.l0 k x6 (wrap64 (x7 + 1)) x1100000 x1101000) else (some (false,true)))) else (none)) else (none)))) else (none))) else (none)) else (spec_SameYard.l1 k x6 0 x1100000 x1101000)
def spec_SameYard.l1 : Nat → Int → Int → List (List Int) → List (List Int) → Option (Bool × Bool)
 | 0,_,_,_,_ => none
 | k + 1,x6,x10,x1100000,x1101000 => if x10 < (x1101000.length : Int) then (if 0 ≤ x10 then (if ((rd_L2 x1101000 x10).length : Int) = 0 then (spec_SameYard.l1 k (wrap64 (x6 - 1)) (wrap64 (x10 + 1)) x1100000 x1101000) else (spec_SameYard.l1 k x6 (wrap64 (x10 + 1)) x1100000 x1101000)) else (none)) else (if x6 = 0 then (some (((x1100000.length : Int) == (x1101000.length : Int)),true)) else (some (false,true)))
end
def spec_SameYard.f (k : Nat) (l0_0 : List (List Int)) (l1_0 : List (List Int)) : Option (Bool × Bool):=(spec_l5Good.f k l0_0).bind fun t1101 => (if t1101 = true then ((spec_l5Good.f k l1_0).bind fun t1102 => (spec_SameYard.j0 k (!t1102) l0_0 l1_0)) else (spec_SameYard.j0 k true l0_0 l1_0))
theorem spec_SameYard.mono_l : ∀ k,(∀ y0 y1 y2,LeO (spec_SameYard.j0 k y0 y1 y2) (spec_SameYard.j0 (k + 1) y0 y1 y2)) ∧ (∀ y0 y1 y2 y3,LeO (spec_SameYard.l0 k y0 y1 y2 y3) (spec_SameYard.l0 (k + 1) y0 y1 y2 y3)) ∧ (∀ y0 y1 y2 y3,LeO (spec_SameYard.l1 k y0 y1 y2 y3) (spec_SameYard.l1 (k + 1) y0 y1 y2 y3))
 | 0 => ⟨fun _ _ _ r h => by simp [spec_SameYard.j0] at h,fun _ _ _ _ r h => by simp [spec_SameYard.l0] at h,fun _ _ _ _ r h => by simp [spec_SameYard.l1] at h⟩
 | k + 1 => by
  obtain ⟨ih0,ih1,ih2⟩:=spec_SameYard.mono_l k
  refine ⟨?_,?_,?_⟩
  ·intro y0 y1 y2
   unfold spec_SameYard.j0
   repeat' first
   | (with_reducible exact ih0 _ _ _)
   | (with_reducible exact ih1 _ _ _ _)
   | (with_reducible exact ih2 _ _ _ _)
   | (with_reducible exact spec_l1Same.mono _ _ _)
   | (with_reducible exact spec_l5Find.mono _ _ _)
   | (with_reducible exact spec_l5Good.mono _ _)
   | (with_reducible exact LeO.refl _)
   | (with_reducible exact LeO.none _)
   | (with_reducible refine LeO.ite ?_ ?_)
   | (with_reducible refine LeO.bind ?_ (fun _ => ?_))
   | exact ih0 _ _ _
   | exact ih1 _ _ _ _
   | exact ih2 _ _ _ _
   | exact spec_l1Same.mono _ _ _
   | exact spec_l5Find.mono _ _ _
   | exact spec_l5Good.mono _ _
   | exact LeO.none _
   | refine LeO.ite ?_ ?_
   | refine LeO.bind ?_ (fun _ => ?_)
  ·intro y0 y1 y2 y3
   unfold spec_SameYard.l0
   repeat' first
   | (with_reducible exact ih0 _ _ _)
   | (with_reducible exact ih1 _ _ _ _)
   | (with_reducible exact ih2 _ _ _ _)
   | (with_reducible exact spec_l1Same.mono _ _ _)
   | (with_reducible exact spec_l5Find.mono _ _ _)
   | (with_reducible exact spec_l5Good.mono _ _)
   | (with_reducible exact LeO.refl _)
   | (with_reducible exact LeO.none _)
   | (with_reducible refine LeO.ite ?_ ?_)
   | (with_reducible refine LeO.bind ?_ (fun _ => ?_))
   | exact ih0 _ _ _
   | exact ih1 _ _ _ _
   | exact ih2 _ _ _ _
   | exact spec_l1Same.mono _ _ _
   | exact spec_l5Find.mono _ _ _
   | exact spec_l5Good.mono _ _
   | exact LeO.none _
   | refine LeO.ite ?_ ?_
   | refine LeO.bind ?_ (fun _ => ?_)
  ·intro y0 y1 y2 y3
   unfold spec_SameYard.l1
   repeat' first
   | (with_reducible exact ih0 _ _ _)
   | (with_reducible exact ih1 _ _ _ _)
   | (with_reducible exact ih2 _ _ _ _)
   | (with_reducible exact spec_l1Same.mono _ _ _)
   | (with_reducible exact spec_l5Find.mono _ _ _)
   | (with_reducible exact spec_l5Good.mono _ _)
   | (with_reducible exact LeO.refl _)
   | (with_reducible exact LeO.none _)
   | (with_reducible refine LeO.ite ?_ ?_)
   | (with_reducible refine LeO.bind ?_ (fun _ => ?_))
   | exact ih0 _ _ _
   | exact ih1 _ _ _ _
   | exact ih2 _ _ _ _
   | exact spec_l1Same.mono _ _ _
   | exact spec_l5Find.mono _ _ _
   | exact spec_l5Good.mono _ _
   | exact LeO.none _
   | refine LeO.ite ?_ ?_
   | refine LeO.bind ?_ (fun _ => ?_)
theorem spec_SameYard.mono : ∀ a0 a1 k,LeO (spec_SameYard.f k a0 a1) (spec_SameYard.f (k + 1) a0 a1):=by
 intro a0 a1 k
 obtain ⟨ih0,ih1,ih2⟩:=spec_SameYard.mono_l k
 unfold spec_SameYard.f
 repeat' first
   | (with_reducible exact ih0 _ _ _)
   | (with_reducible exact ih1 _ _ _ _)
   | (with_reducible exact ih2 _ _ _ _)
   | (with_reducible exact spec_l1Same.mono _ _ _)
   | (with_reducible exact spec_l5Find.mono _ _ _)
   | (with_reducible exact spec_l5Good.mono _ _)
   | (with_reducible exact LeO.refl _)
   | (with_reducible exact LeO.none _)
   | (with_reducible refine LeO.ite ?_ ?_)
   | (with_reducible refine LeO.bind ?_ (fun _ => ?_))
   | exact ih0 _ _ _
   | exact ih1 _ _ _ _
   | exact ih2 _ _ _ _
   | exact spec_l1Same.mono _ _ _
   | exact spec_l5Find.mono _ _ _
   | exact spec_l5Good.mono _ _
   | exact LeO.none _
   | refine LeO.ite ?_ ?_
   | refine LeO.bind ?_ (fun _ => ?_)
def spec_SameYard.T9 : Bool × List (List Nat × List Nat):=(true,[([],[]),([],[]),([1],[1]),([],[]),([2,3],[2,3]),([4],[4]),([5],[5]),([6],[6]),([0,7],[0,7]),([8],[8]),([9],[9]),([9],[9]),([10,8,0,1,2,3,4,5,6,7,8,9,10],[10]),([11,12,0,1,2,3,4,5,6,7,8,9,10,11,12],[11])])
def spec_SameYard.B9 : List Nat:=[0,0,2,0,14,30,62,126,255,511,1023,1023,2047,8191]
theorem spec_SameYard.tab9 : rtab .any (opsOf Try.f68 9) = spec_SameYard.T9:=by kernel_rfl
theorem spec_SameYard.bits9 : waitsOk spec_SameYard.T9.2 spec_SameYard.B9 = true:=by kernel_rfl
def spec_SameYard.T10 : Bool × List (List Nat × List Nat):=(true,[([],[]),([0],[0]),([1],[1]),([2],[2]),([3,2],[2,3]),([2],[2]),([4,5,2],[2,4,5]),([6,2],[2,6]),([2],[2]),([8,2],[2,8]),([2],[2]),([9,10,2],[2,9,10]),([11,2],[2,11]),([7,12,2,2],[2,7,12]),([13,2],[2,13]),([2,14],[2,14])])
def spec_SameYard.B10 : List Nat:=[0,1,3,7,15,7,63,127,7,263,7,1799,3847,8191,16383,32767]
theorem spec_SameYard.tab10 : rtab .any (opsOf Try.f68 10) = spec_SameYard.T10:=by kernel_rfl
theorem spec_SameYard.bits10 : waitsOk spec_SameYard.T10.2 spec_SameYard.B10 = true:=by kernel_rfl
set_option maxHeartbeats 8000000 in
set_option maxRecDepth 100000 in
theorem spec_SameYard.calls (k : Nat) (A0_0 : Option Addr) (c0_0 : Nat) (l0_0 : List (List Int)) (A1_0 : Option Addr) (c1_0 : Nat) (l1_0 : List (List Int)) (r1 : Bool) (r2 : Bool) (w : World) (hr0_0 : Kd.C (Kd.slice 3 (Kd.int .i64)) w A0_0 l0_0.length l0_0) (hc0_0 : l0_0.length ≤ c0_0) (hr1_0 : Kd.C (Kd.slice 3 (Kd.int .i64)) w A1_0 l1_0.length l1_0) (hc1_0 : l1_0.length ≤ c1_0) (h : spec_SameYard.f k l0_0 l1_0 = some (r1,r2)) :
  Calls Try.prog 68 #[.agg #[.slice A0_0 l0_0.length c0_0],.agg #[.slice A1_0 l1_0.length c1_0]] w fun e w' => e = .returned (.tuple #[.bool r1,.bool r2]) ∧ Below w.heap.size w w':=by
 have hu42:=Try.underlying42
 have HR0_0:=Aside0.mk hr0_0
 have HC0_0:=Aside0.mk hc0_0
 clear hr0_0 hc0_0
 have HR1_0:=Aside0.mk hr1_0
 have HC1_0:=Aside0.mk hc1_0
 clear hr1_0 hc1_0
 have HB:=Aside0.mk (Below.refl w.heap.size w)
 have H : ((spec_l5Good.f k l0_0).bind fun t1101 => (if t1101 = true then ((spec_l5Good.f k l1_0).bind fun t1102 => (spec_SameYard.j0 k (!t1102) l0_0 l1_0)) else (spec_SameYard.j0 k true l0_0 l1_0))) = some (r1,r2):=h
 clear h
 have HC3:=Aside0.mk H
 clear H
 go_enter Try.func68,Try.ntmps68
 go_upto_region 1 with (first|((with_reducible refine gate_dst (N:=2) rfl ?_); (try (refine gate_guard (by rfl) ?_; dsimp only)); refine box_event ?hg (N:=2) ?hd (cs:=#[.slice A0_0 l0_0.length c0_0]) (t:=42) ?hr ?_; (case hd => rfl); (case hg => rfl); (case hr => (go_simp; done)); intro gb1099 hg w4 hbox hb; have n0_:=Aside0.mk (below_step (by repeat (((with_reducible (exact HB.out))))) hb); have n1_:=Aside0.mk (hbox); have n2_:=Aside0.mk ((by rw [hg]; exact (below_size (by repeat (((with_reducible (exact HB.out)))))) : w.heap.size ≤ gb1099)); have n3_:=Aside0.mk ((by rw [hg]; exact (below_size (by repeat (((with_reducible (exact HB.out)))))) : w.heap.size ≤ gb1099)); clear HB; have HB:=n0_; have BK1099:=n1_; have GW1099:=n2_; have GE1099:=n3_; clear n0_ n1_ n2_ n3_; clear hb hbox hg)|((with_reducible refine gate_dst (N:=3) rfl ?_); (try (refine gate_guard (by rfl) ?_; dsimp only)); refine box_event ?hg (N:=3) ?hd (cs:=#[.slice A1_0 l1_0.length c1_0]) (t:=42) ?hr ?_; (case hd => rfl); (case hg => rfl); (case hr => (go_simp; done)); intro gb1100 hg w5 hbox hb; have n0_:=Aside0.mk (blk_below (g:=gb1099) (o:=.cells #[.slice A0_0 l0_0.length c0_0] 42 (0,0)) (by exact BK1099.out) hb); have n1_:=Aside0.mk (below_step (by repeat (((with_reducible (exact HB.out))))) hb); have n2_:=Aside0.mk (hbox); have n3_:=Aside0.mk ((by rw [hg]; exact (below_size (by repeat (((with_reducible (exact HB.out)))))) : w.heap.size ≤ gb1100)); have n4_:=Aside0.mk ((by rw [hg]; exact (below_size (by repeat (((with_reducible (exact HB.out)))))) : w.heap.size ≤ gb1100)); have n5_:=Aside0.mk ((by rw [hg]; exact Nat.ne_of_lt (blk_lt (g:=gb1099) (o:=.cells #[.slice A0_0 l0_0.length c0_0] 42 (0,0)) (by exact BK1099.out)) : gb1099 ≠ gb1100)); have n6_:=Aside0.mk ((by rw [hg]; exact Nat.ne_of_gt (blk_lt (g:=gb1099) (o:=.cells #[.slice A0_0 l0_0.length c0_0] 42 (0,0)) (by exact BK1099.out)) : gb1100 ≠ gb1099)); clear BK1099; clear HB; have BK1099:=n0_; have HB:=n1_; have BK1100:=n2_; have GW1100:=n3_; have GE1100:=n4_; have NB1099_1100:=n5_; have NB1100_1099:=n6_; clear n0_ n1_ n2_ n3_ n4_ n5_ n6_; clear hb hbox hg))
 (try simp only [Act.put,List.setIfInBounds_toArray,List.set_cons_zero,List.set_cons_succ])
 go_cut [18] (fun v18 wc => ∃ (kq : Nat) (x18_2 : Bool),v18 = .bool x18_2 ∧ Aside0 (spec_SameYard.j0 kq x18_2 l0_0 l1_0 = some (r1,r2)) ∧ Aside0 (kq ≤ k) ∧ Aside0 (wc.heap[gb1099]? = some (.cells #[(.slice A0_0 l0_0.length c0_0)] 42 (0,0))) ∧ Aside0 (wc.heap[gb1100]? = some (.cells #[(.slice A1_0 l1_0.length c1_0)] 42 (0,0))) ∧ Aside0 (Below w.heap.size w wc))
 case first =>
  have H:=HC3.out
  clear HC3
  replace H:=Option.bind_eq_some_iff.mp H
  obtain ⟨t1101,A60,H⟩:=H
  replace H : (if t1101 = true then ((spec_l5Good.f k l1_0).bind fun t1102 => (spec_SameYard.j0 k (!t1102) l0_0 l1_0)) else (spec_SameYard.j0 k true l0_0 l1_0)) = some (r1,r2):=H
  have A6:=Aside0.mk A60
  clear A60
  by_cases c7 : t1101 = true
  ·subst c7
   have H1 : ((spec_l5Good.f k l1_0).bind fun t1102 => (spec_SameYard.j0 k (!t1102) l0_0 l1_0)) = some (r1,r2):=by rw [if_pos rfl] at H; exact H
   clear H
   have H:=H1
   clear H1
   replace H:=Option.bind_eq_some_iff.mp H
   obtain ⟨t1102,A80,H⟩:=H
   replace H : (spec_SameYard.j0 k (!t1102) l0_0 l1_0) = some (r1,r2):=H
   have A8:=Aside0.mk A80
   clear A80
   have H':=Aside0.mk H
   clear H
   have hnb9:=NB1099_1100.out
   have hnc9:=NB1100_1099.out
   have hcz10_0 : w5.cell? ⟨gb1099,0,none⟩ = some (.slice A0_0 l0_0.length c0_0):=(blk_cell BK1099.out 0).trans rfl
   have hfz10_0:=blk_frozen BK1099.out 0
   go_wp2_with (first|((with_reducible refine gate_callee (f:=116) rfl ?_); refine goesL_ (some 12) rfl rfl Try.func116 (by kernel_rfl) rfl #[.agg #[.slice A0_0 l0_0.length c0_0]] rfl (by (try simp only [List.map_toArray,List.map_cons,List.map_nil]); (rfl)) ?_; (with_reducible refine (spec_l5Good.calls k _ _ l0_0 true _ ?side1 ?side2 A6.out).mono ?_); (case side1 => repeat ((exact (Kd.C_below HR0_0.out HB.out)))); (case side2 => exact HC0_0.out); rintro e w11 ⟨rfl,hb⟩; refine ⟨_,rfl,?_⟩; have n0_:=Aside0.mk (blk_below (g:=gb1099) (o:=.cells #[.slice A0_0 l0_0.length c0_0] 42 (0,0)) (by exact BK1099.out) hb); have n1_:=Aside0.mk (blk_below (g:=gb1100) (o:=.cells #[.slice A1_0 l1_0.length c1_0] 42 (0,0)) (by exact BK1100.out) hb); have n2_:=Aside0.mk (below_step (by repeat (((with_reducible (exact HB.out))))) hb); clear BK1099; clear BK1100; clear HB; have BK1099:=n0_; have BK1100:=n1_; have HB:=n2_; clear n0_ n1_ n2_; (try clear hb); (try clear hb2); (try clear hk); (try clear hi); have hcz12_0 : w11.cell? ⟨gb1100,0,none⟩ = some (.slice A1_0 l1_0.length c1_0):=(blk_cell BK1100.out 0).trans rfl; have hfz12_0:=blk_frozen BK1100.out 0)|(go_at_call 116; (with_reducible refine (spec_l5Good.calls k _ _ l1_0 t1102 _ ?side1 ?side2 A8.out).mono ?_); (case side1 => repeat ((exact (Kd.C_below HR1_0.out HB.out)))); (case side2 => exact HC1_0.out); rintro e w13 ⟨rfl,hb⟩; have n0_:=Aside0.mk (blk_below (g:=gb1099) (o:=.cells #[.slice A0_0 l0_0.length c0_0] 42 (0,0)) (by exact BK1099.out) hb); have n1_:=Aside0.mk (blk_below (g:=gb1100) (o:=.cells #[.slice A1_0 l1_0.length c1_0] 42 (0,0)) (by exact BK1100.out) hb); have n2_:=Aside0.mk (below_step (by repeat (((with_reducible (exact HB.out))))) hb); clear BK1099; clear BK1100; clear HB; have BK1099:=n0_; have BK1100:=n1_; have HB:=n2_; clear n0_ n1_ n2_; (try clear hb); (try clear hb2); (try clear hk); (try clear hi)))
   go_meet
   case rel => exact ⟨_,(!t1102),(by (rfl)),H',⟨by (omega)⟩,⟨by exact BK1099.out⟩,⟨by exact BK1100.out⟩,⟨by repeat (((with_reducible (exact HB.out))))⟩⟩
  ·replace c7:=Bool.eq_false_iff.mpr c7
   subst c7
   have H1 : (spec_SameYard.j0 k true l0_0 l1_0) = some (r1,r2):=by rw [if_neg (show ¬ (false = true) by decide)] at H; exact H
   clear H
   have H:=H1
   clear H1
   have H':=Aside0.mk H
   clear H
   have hnb14:=NB1099_1100.out
   have hnc14:=NB1100_1099.out
   have hcz15_0 : w5.cell? ⟨gb1099,0,none⟩ = some (.slice A0_0 l0_0.length c0_0):=(blk_cell BK1099.out 0).trans rfl
   have hfz15_0:=blk_frozen BK1099.out 0
   go_wp2_with ((((with_reducible refine gate_callee (f:=116) rfl ?_); refine goesL_ (some 12) rfl rfl Try.func116 (by kernel_rfl) rfl #[.agg #[.slice A0_0 l0_0.length c0_0]] rfl (by (try simp only [List.map_toArray,List.map_cons,List.map_nil]); (rfl)) ?_; (with_reducible refine (spec_l5Good.calls k _ _ l0_0 false _ ?side1 ?side2 A6.out).mono ?_); (case side1 => repeat ((exact (Kd.C_below HR0_0.out HB.out)))); (case side2 => exact HC0_0.out); rintro e w16 ⟨rfl,hb⟩; refine ⟨_,rfl,?_⟩; have n0_:=Aside0.mk (blk_below (g:=gb1099) (o:=.cells #[.slice A0_0 l0_0.length c0_0] 42 (0,0)) (by exact BK1099.out) hb); have n1_:=Aside0.mk (blk_below (g:=gb1100) (o:=.cells #[.slice A1_0 l1_0.length c1_0] 42 (0,0)) (by exact BK1100.out) hb); have n2_:=Aside0.mk (below_step (by repeat (((with_reducible (exact HB.out))))) hb); clear BK1099; clear BK1100; clear HB; have BK1099:=n0_; have BK1100:=n1_; have HB:=n2_; clear n0_ n1_ n2_; (try clear hb); (try clear hb2); (try clear hk); (try clear hi))))
   go_meet
   case rel => exact ⟨_,(true),(by (rfl)),H',⟨by (omega)⟩,⟨by exact BK1099.out⟩,⟨by exact BK1100.out⟩,⟨by repeat (((with_reducible (exact HB.out))))⟩⟩
 case rest =>
  clear HC3
  try clear c1
  try clear p2
  try clear c6
  try clear c7
  try clear c9
  try clear c11
  try clear c14
  try clear hcz10_0
  try clear hcz12_0
  try clear hcz15_0
  try clear hfz10_0
  try clear hfz12_0
  try clear hfz15_0
  obtain ⟨kq,x18_2,rfl,HA,HJ2,BK1099,BK1100,HB⟩:=hcut
  cases kq with
  | zero => exact absurd HA.out (by simp [spec_SameYard.j0])
  | succ kj2 =>
   have H:=HA.out
   clear HA
   simp only [spec_SameYard.j0] at H
   by_cases c17 : x18_2 = true
   ·subst c17
    have H1 : (some (false,false)) = some (r1,r2):=by rw [if_pos rfl] at H; exact H
    clear H
    have H:=H1
    clear H1
    simp only [Option.some.injEq,Prod.mk.injEq] at H
    obtain ⟨rfl,rfl⟩:=H
    go_wp2
    go_ret2
    exact ⟨by (rfl),by repeat (((with_reducible (exact HB.out))))⟩
   ·replace c17:=Bool.eq_false_iff.mpr c17
    subst c17
    have H1 : (spec_SameYard.l0 kj2 0 0 l0_0 l1_0) = some (r1,r2):=by rw [if_neg (show ¬ (false = true) by decide)] at H; exact H
    clear H
    have H:=H1
    clear H1
    have H':=Aside0.mk H
    clear H
    go_wp2
    go_loopg [6,7] kj2 (fun kq v6 v7 w' => ∃ (x6_2 : Int) (x7_2 : Int),v6 = .int .i64 x6_2 ∧ v7 = .int .i64 x7_2 ∧ Aside0 (spec_SameYard.l0 kq x6_2 x7_2 l0_0 l1_0 = some (r1,r2)) ∧ Aside0 (kq ≤ kj2) ∧ Aside0 (w'.heap[gb1099]? = some (.cells #[(.slice A0_0 l0_0.length c0_0)] 42 (0,0))) ∧ Aside0 (w'.heap[gb1100]? = some (.cells #[(.slice A1_0 l1_0.length c1_0)] 42 (0,0))) ∧ Aside0 (Below w.heap.size w w'))
    case atStart => exact ⟨(0),(0),(by (rfl)),(by (rfl)),H',⟨Nat.le_refl _⟩,⟨by exact BK1099.out⟩,⟨by exact BK1100.out⟩,⟨by repeat (((with_reducible (exact HB.out))))⟩⟩
    case round =>
     clear H'
     try clear c1
     try clear p2
     try clear c6
     try clear c7
     try clear c9
     try clear c11
     try clear c14
     try clear c17
     try clear hcz10_0
     try clear hcz12_0
     try clear hcz15_0
     try clear hfz10_0
     try clear hfz12_0
     try clear hfz15_0
     try clear p2
     obtain ⟨x6_2,x7_2,rfl,rfl,HA,HK2,BK1099,BK1100,HB⟩:=hrel
     cases gk with
     | zero => exact absurd HA.out (by simp [spec_SameYard.l0])
     | succ k2 =>
      have H:=HA.out
      clear HA
      simp only [spec_SameYard.l0] at H
      by_cases c18 : x7_2 < (l0_0.length : Int)
      ·rw [if_pos c18] at H
       have c18b0 : decide (x7_2 < (l0_0.length : Int)) = true:=decide_eq_true c18
       clear c18
       by_cases c19 : 0 ≤ x7_2
       ·rw [if_pos c19] at H
        have c19b0 : decide (0 ≤ x7_2) = true:=decide_eq_true c19
        clear c19
        by_cases c20 : ((rd_L2 l0_0 x7_2).length : Int) = 0
        ·rw [if_pos c20] at H
         have c20b0 : (((rd_L2 l0_0 x7_2).length : Int) == 0) = true:=beq_iff_eq.mpr c20
         have c20b1 : (((rd_L2 l0_0 x7_2).length : Int) != 0) = false:=bne_eq_false_iff_eq.mpr c20
         clear c20
         have H':=Aside0.mk H
         clear H
         have hnb21:=NB1099_1100.out
         have hnc21:=NB1100_1099.out
         have hcz22_0 : wr.cell? ⟨gb1099,0,none⟩ = some (.slice A0_0 l0_0.length c0_0):=(blk_cell BK1099.out 0).trans rfl
         have hfz22_0:=blk_frozen BK1099.out 0
         have p1103 : 0 ≤ (x7_2 : Int):=of_decide_eq_true (by (with_reducible assumption))
         have q1103 : x7_2 < (l0_0.length : Int):=of_decide_eq_true (by (with_reducible assumption))
         obtain ⟨ad1103,A1103_0,c1103_0,e1103,hx1103_0,hl1103_0,hi1103_0⟩:=at_L2 HR0_0.out x7_2 p1103 q1103
         cases e1103
         replace hx1103_0:=(HB.out.cell (World.block_lt_of_cell? w _ hx1103_0)).trans hx1103_0
         have HR1103_0:=Aside0.mk hi1103_0
         have HC1103_0:=Aside0.mk hl1103_0
         clear hi1103_0 hl1103_0
         replace p1103:=eq_true p1103
         replace q1103:=eq_true q1103
         go_wp2
         go_roundg k2
         case measure => have:=HJ2.out; have:=HK2.out; omega
         case rel => exact ⟨(wrap64 (x6_2 + 1)),(wrap64 (x7_2 + 1)),(by (rfl)),(by (rfl)),H',⟨by have:=HJ2.out; have:=HK2.out; omega⟩,⟨by exact BK1099.out⟩,⟨by exact BK1100.out⟩,⟨by repeat (((with_reducible (exact HB.out))))⟩⟩
        ·rw [if_neg c20] at H
         have c20b0 : (((rd_L2 l0_0 x7_2).length : Int) == 0) = false:=beq_eq_false_iff_ne.mpr c20
         have c20b1 : (((rd_L2 l0_0 x7_2).length : Int) != 0) = true:=bne_iff_ne.mpr c20
         have c20b2 : ¬ ((rd_L2 l0_0 x7_2) = []):=fun h_ => c20 (by rw [h_]; rfl)
         by_cases c23 : 0 < ((rd_L2 l0_0 x7_2).length : Int)
         ·rw [if_pos c23] at H
          have c23b0 : decide (0 < ((rd_L2 l0_0 x7_2).length : Int)) = true:=decide_eq_true c23
          have c23b1 : decide (0 < (rd_L2 l0_0 x7_2).length) = true:=decide_eq_true (by omega)
          clear c23
          replace H:=Option.bind_eq_some_iff.mp H
          obtain ⟨⟨t1106,t1107⟩,A240,H⟩:=H
          replace H : (if t1106 < 0 then (some (false,true)) else (if 0 ≤ t1106 then (if t1106 < (l1_0.length : Int) then ((spec_l1Same.f k2 (rd_L2 l0_0 x7_2) (rd_L2 l1_0 t1106)).bind fun t1110 => (if t1110 = true then (spec_SameYard.l0 k2 x6_2 (wrap64 (x7_2 + 1)) l0_0 l1_0) else (some (false,true)))) else (none)) else (none))) = some (r1,r2):=H
          have A24:=Aside0.mk A240
          clear A240
          by_cases c25 : t1106 < 0
          ·rw [if_pos c25] at H
           have c25b0 : decide (t1106 < 0) = true:=decide_eq_true c25
           clear c25
           simp only [Option.some.injEq,Prod.mk.injEq] at H
           obtain ⟨rfl,rfl⟩:=H
           have hnb26:=NB1099_1100.out
           have hnc26:=NB1100_1099.out
           have hcz27_0 : wr.cell? ⟨gb1099,0,none⟩ = some (.slice A0_0 l0_0.length c0_0):=(blk_cell BK1099.out 0).trans rfl
           have hfz27_0:=blk_frozen BK1099.out 0
           have p1103 : 0 ≤ (x7_2 : Int):=of_decide_eq_true (by (with_reducible assumption))
           have q1103 : x7_2 < (l0_0.length : Int):=of_decide_eq_true (by (with_reducible assumption))
           obtain ⟨ad1103,A1103_0,c1103_0,e1103,hx1103_0,hl1103_0,hi1103_0⟩:=at_L2 HR0_0.out x7_2 p1103 q1103
           cases e1103
           replace hx1103_0:=(HB.out.cell (World.block_lt_of_cell? w _ hx1103_0)).trans hx1103_0
           have HR1103_0:=Aside0.mk hi1103_0
           have HC1103_0:=Aside0.mk hl1103_0
           clear hi1103_0 hl1103_0
           replace p1103:=eq_true p1103
           replace q1103:=eq_true q1103
           try go_wp2
           have n0_:=Aside0.mk (blk_drew BK1099.out)
           have n1_:=Aside0.mk (blk_drew BK1100.out)
           have n2_:=Aside0.mk (below_drew1 HB.out)
           clear BK1099
           clear BK1100
           clear HB
           have BK1099:=n0_
           have BK1100:=n1_
           have HB:=n2_
           clear n0_ n1_ n2_
           have p1104 : 0 ≤ (x7_2 : Int):=of_decide_eq_true (by (with_reducible assumption))
           have q1104 : x7_2 < (l0_0.length : Int):=of_decide_eq_true (by (with_reducible assumption))
           obtain ⟨ad1104,A1104_0,c1104_0,e1104,hx1104_0,hl1104_0,hi1104_0⟩:=at_L2 HR0_0.out x7_2 p1104 q1104
           have hw1104_0:=hx1104_0
           obtain rfl : ad1103 = ad1104:=(by injection e1104)
           replace hx1104_0:=(HB.out.cell (World.block_lt_of_cell? w _ hx1104_0)).trans hx1104_0
           have HR1104_0:=Aside0.mk hi1104_0
           have HC1104_0:=Aside0.mk hl1104_0
           clear hi1104_0 hl1104_0
           replace p1104:=eq_true p1104
           replace q1104:=eq_true q1104
           have p1105 : 0 ≤ (0 : Int):=(by omega)
           have q1105 : 0 < ((rd_L2 l0_0 x7_2).length : Int):=of_decide_eq_true (by (with_reducible assumption))
           obtain ⟨ad1105,e1105,hx1105_0⟩:=Kd.at_int HR1104_0.out 0 p1105 q1105
           have hw1105_0:=hx1105_0
           (try rw [show (0 : Int).toNat = 0 from rfl] at hw1105_0)
           (try rw [show 0 * 1 = 0 from rfl] at hw1105_0)
           (try rw [Addr.add_zero'] at hw1105_0)
           cases e1105
           have qi1105 : (0 < (rd_L2 l0_0 x7_2).length) = True:=eq_true (by omega)
           (try rw [show (0 : Int).toNat = 0 from rfl] at hx1105_0)
           (try rw [Addr.add_zero'] at hx1105_0)
           replace hx1105_0:=(HB.out.cell (World.block_lt_of_cell? w _ hx1105_0)).trans hx1105_0
           replace p1105:=eq_true p1105
           replace q1105:=eq_true q1105
           refine start_ (n:=14) (S:=fun w' => w'.cell? ⟨gb1100,0,none⟩ = some (.slice A1_0 l1_0.length c1_0) ∧ w'.cell? ⟨gb1099,0,none⟩ = some (.slice (some ad1103) l0_0.length c0_0) ∧ w'.cell? (ad1103.add (x7_2).toNat) = some (.slice (some ad1105) (rd_L2 l0_0 x7_2).length c1104_0) ∧ w'.cell? ad1105 = some (.int .i64 (rd (rd_L2 l0_0 x7_2) 0))) (ds:=[]) (b67e 14 0) (by kernel_rfl) rfl rfl ⟨(blk_cell BK1100.out 0).trans rfl,(blk_cell BK1099.out 0).trans rfl,((HB.out.cell (World.block_lt_of_cell? w _ hw1104_0)).trans hw1104_0),((HB.out.cell (World.block_lt_of_cell? w _ hw1105_0)).trans hw1105_0)⟩ (fun hHeld => ?_); refine with_tabW spec_SameYard.tab9 spec_SameYard.bits9 (fun HT_ HW_ => ?_)
           generalize wr.drew = w28 at BK1099 BK1100 HB HR1104_0 hx1104_0 hx1105_0 hHeld ⊢
           refine pure_ (i:=1) (N:=some 37) (v:=?_) (a':=?_) (b67e 14 2) rfl rfl (any_of HT_.out (by kernel_rfl)) (fun _ _ _ h => h) (Or.inl ⟨by rfl,?_⟩) ?_ ?_
           rotate_left
           ·intro w'
            go_simp
            with_reducible rfl
           rotate_left
           ·simp only [Act.put,List.setIfInBounds_toArray,List.set_cons_zero,List.set_cons_succ,i64_w,i32_w]
            rfl
           refine pure_ (i:=3) (N:=some 39) (v:=?_) (a':=?_) (b67e 14 10) rfl rfl (any_of HT_.out (by kernel_rfl)) (fun _ _ _ h => h) (Or.inl ⟨by rfl,?_⟩) ?_ ?_
           rotate_left
           ·intro w'
            go_simp
            with_reducible rfl
           rotate_left
           ·simp only [Act.put,List.setIfInBounds_toArray,List.set_cons_zero,List.set_cons_succ,i64_w,i32_w]
            rfl
           refine take_ (i:=0) (N:=some 36) (v:=?_) (a':=?_) (b67e 14 11) rfl rfl (take_ofW HT_.out HW_.out (by kernel_rfl)) (fun _ _ _ h => h) (Or.inl ⟨by rfl,?_⟩) hHeld ?_ ?_
           rotate_left
           ·rintro w' ⟨s0,s1,s2,s3⟩
            go_simp
            with_reducible rfl
           rotate_left
           ·simp only [Act.put,List.setIfInBounds_toArray,List.set_cons_zero,List.set_cons_succ,i64_w,i32_w]
            rfl
           refine take_ (i:=2) (N:=some 38) (v:=?_) (a':=?_) (b67e 14 15) rfl rfl (take_ofW HT_.out HW_.out (by kernel_rfl)) (fun _ _ _ h => h) (Or.inl ⟨by rfl,?_⟩) hHeld ?_ ?_
           rotate_left
           ·rintro w' ⟨s0,s1,s2,s3⟩
            go_simp
            with_reducible rfl
           rotate_left
           ·simp only [Act.put,List.setIfInBounds_toArray,List.set_cons_zero,List.set_cons_succ,i64_w,i32_w]
            rfl
           refine pure_ (i:=4) (N:=some 40) (v:=?_) (a':=?_) (b67e 14 31) rfl rfl (any_of HT_.out (by kernel_rfl)) (fun _ _ _ h => h) (Or.inl ⟨by rfl,?_⟩) ?_ ?_
           rotate_left
           ·intro w'
            go_simp
            with_reducible rfl
           rotate_left
           ·simp only [Act.put,List.setIfInBounds_toArray,List.set_cons_zero,List.set_cons_succ,i64_w,i32_w]
            rfl
           refine take_ (i:=5) (N:=some 41) (v:=?_) (a':=?_) (b67e 14 63) rfl rfl (take_ofW HT_.out HW_.out (by kernel_rfl)) (fun _ _ _ h => h) (Or.inl ⟨by rfl,?_⟩) hHeld ?_ ?_
           rotate_left
           ·rintro w' ⟨s0,s1,s2,s3⟩
            go_simp
            with_reducible rfl
           rotate_left
           ·simp only [Act.put,List.setIfInBounds_toArray,List.set_cons_zero,List.set_cons_succ,i64_w,i32_w]
            rfl
           refine pure_ (i:=6) (N:=some 42) (v:=?_) (a':=?_) (b67e 14 127) rfl rfl (any_of HT_.out (by kernel_rfl)) (fun _ _ _ h => h) (Or.inl ⟨by rfl,?_⟩) ?_ ?_
           rotate_left
           ·intro w'
            go_simp
            with_reducible rfl
           rotate_left
           ·simp only [Act.put,List.setIfInBounds_toArray,List.set_cons_zero,List.set_cons_succ,i64_w,i32_w]
            rfl
           refine take_ (i:=7) (N:=some 43) (v:=?_) (a':=?_) (b67e 14 255) rfl rfl (take_ofW HT_.out HW_.out (by kernel_rfl)) (fun _ _ _ h => h) (Or.inl ⟨by rfl,?_⟩) hHeld ?_ ?_
           rotate_left
           ·rintro w' ⟨s0,s1,s2,s3⟩
            go_simp
            with_reducible rfl
           rotate_left
           ·simp only [Act.put,List.setIfInBounds_toArray,List.set_cons_zero,List.set_cons_succ,i64_w,i32_w]
            rfl
           refine one_ (i:=8) (N:=some 44) (b67e 14 511) rfl rfl (one_of HT_.out (by kernel_rfl)) (by decide) (fun K hK => ?_)
           refine goes_ Try.func142 (by kernel_rfl) rfl #[.agg #[.slice A1_0 l1_0.length c1_0],.int .i64 (rd (rd_L2 l0_0 x7_2) 0)] (by rfl) rfl rfl (by (try simp only [List.map_toArray,List.map_cons,List.map_nil]); (rfl)) ?_
           with_reducible refine (spec_l5Find.calls k2 _ _ l1_0 (rd (rd_L2 l0_0 x7_2) 0) t1106 t1107 _ ?side1 ?side2 A24.out).mono ?_
           (case side1 => repeat ((exact (Kd.C_below HR1_0.out HB.out))))
           (case side2 => exact HC1_0.out)
           rintro e w29 ⟨rfl,hb⟩
           refine ⟨_,rfl,?_⟩
           have n0_:=Aside0.mk (blk_below (g:=gb1099) (o:=.cells #[.slice (some ad1103) l0_0.length c0_0] 42 (0,0)) (by exact BK1099.out) hb)
           have n1_:=Aside0.mk (blk_below (g:=gb1100) (o:=.cells #[.slice A1_0 l1_0.length c1_0] 42 (0,0)) (by exact BK1100.out) hb)
           have n2_:=Aside0.mk (below_step (by repeat (((with_reducible (exact HB.out))))) hb)
           clear BK1099
           clear BK1100
           clear HB
           have BK1099:=n0_
           have BK1100:=n1_
           have HB:=n2_
           clear n0_ n1_ n2_
           (try clear hb)
           (try clear hb2)
           (try clear hk)
           (try clear hi)
           refine hK.out _ _ ⟨(blk_cell BK1100.out 0).trans rfl,(blk_cell BK1099.out 0).trans rfl,((HB.out.cell (World.block_lt_of_cell? w _ hw1104_0)).trans hw1104_0),((HB.out.cell (World.block_lt_of_cell? w _ hw1105_0)).trans hw1105_0)⟩ (fun hHeld => ?_)
           clear hK K
           refine norm_ (a':=?_) ?_ ?_
           rotate_left
           ·show Act.put _ (some 44) _ = _
            simp only [Act.put,List.setIfInBounds_toArray,List.set_cons_zero,List.set_cons_succ,i64_w,i32_w]
            rfl
           refine pure_ (i:=9) (N:=some 35) (v:=?_) (a':=?_) (b67e 14 1023) rfl rfl (any_of HT_.out (by kernel_rfl)) (fun _ _ _ h => h) (Or.inl ⟨by rfl,?_⟩) ?_ ?_
           rotate_left
           ·intro w'
            go_simp
            with_reducible rfl
           rotate_left
           ·simp only [Act.put,List.setIfInBounds_toArray,List.set_cons_zero,List.set_cons_succ,i64_w,i32_w]
            rfl
           refine pure_ (i:=10) (N:=some 45) (v:=?_) (a':=?_) (b67e 14 2047) rfl rfl (any_of HT_.out (by kernel_rfl)) (fun _ _ _ h => h) (Or.inl ⟨by rfl,?_⟩) ?_ ?_
           rotate_left
           ·intro w'
            go_simp
            with_reducible rfl
           rotate_left
           ·simp only [Act.put,List.setIfInBounds_toArray,List.set_cons_zero,List.set_cons_succ,i64_w,i32_w]
            rfl
           refine pure_ (i:=11) (N:=some 46) (v:=?_) (a':=?_) (b67e 14 4095) rfl rfl (any_of HT_.out (by kernel_rfl)) (fun _ _ _ h => h) (Or.inl ⟨by rfl,?_⟩) ?_ ?_
           rotate_left
           ·intro w'
            go_simp
            with_reducible rfl
           rotate_left
           ·simp only [Act.put,List.setIfInBounds_toArray,List.set_cons_zero,List.set_cons_succ,i64_w,i32_w]
            rfl
           refine pure_ (i:=12) (N:=some 8) (v:=?_) (a':=?_) (b67e 14 8191) rfl rfl (any_of HT_.out (by kernel_rfl)) (fun _ _ _ h => h) (Or.inl ⟨by rfl,?_⟩) ?_ ?_
           rotate_left
           ·intro w'
            go_simp
            with_reducible rfl
           rotate_left
           ·simp only [Act.put,List.setIfInBounds_toArray,List.set_cons_zero,List.set_cons_succ,i64_w,i32_w]
            rfl
           refine pure_ (i:=13) (N:=some 9) (v:=?_) (a':=?_) (b67e 14 16383) rfl rfl (any_of HT_.out (by kernel_rfl)) (fun _ _ _ h => h) (Or.inl ⟨by rfl,?_⟩) ?_ ?_
           rotate_left
           ·intro w'
            go_simp
            with_reducible rfl
           rotate_left
           ·simp only [Act.put,List.setIfInBounds_toArray,List.set_cons_zero,List.set_cons_succ,i64_w,i32_w]
            rfl
           refine done_ (done_of HT_.out (by kernel_rfl)) ?_
           try go_wp2
           have n0_:=Aside0.mk (blk_drew BK1099.out)
           have n1_:=Aside0.mk (blk_drew BK1100.out)
           have n2_:=Aside0.mk (below_drew1 HB.out)
           clear BK1099
           clear BK1100
           clear HB
           have BK1099:=n0_
           have BK1100:=n1_
           have HB:=n2_
           clear n0_ n1_ n2_
           refine start_ (n:=16) (S:=fun w' => True) (ds:=[]) (b67e 16 0) (by kernel_rfl) rfl rfl trivial (fun hHeld => ?_); refine with_tabW spec_SameYard.tab10 spec_SameYard.bits10 (fun HT_ HW_ => ?_)
           generalize w29.drew = w30 at BK1099 BK1100 HB hHeld ⊢
           refine pure_ (i:=0) (N:=some 47) (v:=?_) (a':=?_) (b67e 16 1) rfl rfl (any_of HT_.out (by kernel_rfl)) (fun _ _ _ h => h) (Or.inl ⟨by rfl,?_⟩) ?_ ?_
           rotate_left
           ·intro w'
            go_simp
            with_reducible rfl
           rotate_left
           ·simp only [Act.put,List.setIfInBounds_toArray,List.set_cons_zero,List.set_cons_succ,i64_w,i32_w]
            rfl
           refine pure_ (i:=1) (N:=some 48) (v:=?_) (a':=?_) (b67e 16 3) rfl rfl (any_of HT_.out (by kernel_rfl)) (fun _ _ _ h => h) (Or.inl ⟨by rfl,?_⟩) ?_ ?_
           rotate_left
           ·intro w'
            go_simp
            with_reducible rfl
           rotate_left
           ·simp only [Act.put,List.setIfInBounds_toArray,List.set_cons_zero,List.set_cons_succ,i64_w,i32_w]
            rfl
           refine pure_ (i:=2) (N:=some 49) (v:=?_) (a':=?_) (b67e 16 7) rfl rfl (any_of HT_.out (by kernel_rfl)) (fun _ _ _ h => h) (Or.inl ⟨by rfl,?_⟩) ?_ ?_
           rotate_left
           ·intro w'
            go_simp
            with_reducible rfl
           rotate_left
           ·simp only [Act.put,List.setIfInBounds_toArray,List.set_cons_zero,List.set_cons_succ,i64_w,i32_w]
            rfl
           refine pure_ (i:=3) (N:=some 50) (v:=undef) (a':=?_) (b67e 16 15) rfl rfl (any_of HT_.out (by kernel_rfl)) (fun _ _ _ h => h) (Or.inr ⟨by rfl,rfl⟩) ?_ ?_
           rotate_left
           ·simp only [Act.put,List.setIfInBounds_toArray,List.set_cons_zero,List.set_cons_succ,i64_w,i32_w]
            rfl
           refine pure_ (i:=4) (N:=some 51) (v:=undef) (a':=?_) (b67e 16 31) rfl rfl (any_of HT_.out (by kernel_rfl)) (fun _ _ _ h => h) (Or.inr ⟨by rfl,rfl⟩) ?_ ?_
           rotate_left
           ·simp only [Act.put,List.setIfInBounds_toArray,List.set_cons_zero,List.set_cons_succ,i64_w,i32_w]
            rfl
           refine pure_ (i:=5) (N:=some 52) (v:=undef) (a':=?_) (b67e 16 63) rfl rfl (any_of HT_.out (by kernel_rfl)) (fun _ _ _ h => h) (Or.inr ⟨by rfl,rfl⟩) ?_ ?_
           rotate_left
           ·simp only [Act.put,List.setIfInBounds_toArray,List.set_cons_zero,List.set_cons_succ,i64_w,i32_w]
            rfl
           refine pure_ (i:=6) (N:=some 53) (v:=undef) (a':=?_) (b67e 16 127) rfl rfl (any_of HT_.out (by kernel_rfl)) (fun _ _ _ h => h) (Or.inr ⟨by rfl,rfl⟩) ?_ ?_
           rotate_left
           ·simp only [Act.put,List.setIfInBounds_toArray,List.set_cons_zero,List.set_cons_succ,i64_w,i32_w]
            rfl
           refine pure_ (i:=7) (N:=some 54) (v:=undef) (a':=?_) (b67e 16 255) rfl rfl (any_of HT_.out (by kernel_rfl)) (fun _ _ _ h => h) (Or.inr ⟨by rfl,rfl⟩) ?_ ?_
           rotate_left
           ·simp only [Act.put,List.setIfInBounds_toArray,List.set_cons_zero,List.set_cons_succ,i64_w,i32_w]
            rfl
           refine pure_ (i:=8) (N:=some 55) (v:=undef) (a':=?_) (b67e 16 511) rfl rfl (any_of HT_.out (by kernel_rfl)) (fun _ _ _ h => h) (Or.inr ⟨by rfl,rfl⟩) ?_ ?_
           rotate_left
           ·simp only [Act.put,List.setIfInBounds_toArray,List.set_cons_zero,List.set_cons_succ,i64_w,i32_w]
            rfl
           refine pure_ (i:=9) (N:=some 56) (v:=undef) (a':=?_) (b67e 16 1023) rfl rfl (any_of HT_.out (by kernel_rfl)) (fun _ _ _ h => h) (Or.inr ⟨by rfl,rfl⟩) ?_ ?_
           rotate_left
           ·simp only [Act.put,List.setIfInBounds_toArray,List.set_cons_zero,List.set_cons_succ,i64_w,i32_w]
            rfl
           refine pure_ (i:=10) (N:=some 57) (v:=undef) (a':=?_) (b67e 16 2047) rfl rfl (any_of HT_.out (by kernel_rfl)) (fun _ _ _ h => h) (Or.inr ⟨by rfl,rfl⟩) ?_ ?_
           rotate_left
           ·simp only [Act.put,List.setIfInBounds_toArray,List.set_cons_zero,List.set_cons_succ,i64_w,i32_w]
            rfl
           refine pure_ (i:=11) (N:=some 58) (v:=undef) (a':=?_) (b67e 16 4095) rfl rfl (any_of HT_.out (by kernel_rfl)) (fun _ _ _ h => h) (Or.inr ⟨by rfl,rfl⟩) ?_ ?_
           rotate_left
           ·simp only [Act.put,List.setIfInBounds_toArray,List.set_cons_zero,List.set_cons_succ,i64_w,i32_w]
            rfl
           refine pure_ (i:=12) (N:=some 59) (v:=undef) (a':=?_) (b67e 16 8191) rfl rfl (any_of HT_.out (by kernel_rfl)) (fun _ _ _ h => h) (Or.inr ⟨by rfl,rfl⟩) ?_ ?_
           rotate_left
           ·simp only [Act.put,List.setIfInBounds_toArray,List.set_cons_zero,List.set_cons_succ,i64_w,i32_w]
            rfl
           refine pure_ (i:=13) (N:=some 60) (v:=undef) (a':=?_) (b67e 16 16383) rfl rfl (any_of HT_.out (by kernel_rfl)) (fun _ _ _ h => h) (Or.inr ⟨by rfl,rfl⟩) ?_ ?_
           rotate_left
           ·simp only [Act.put,List.setIfInBounds_toArray,List.set_cons_zero,List.set_cons_succ,i64_w,i32_w]
            rfl
           refine pure_ (i:=14) (N:=some 61) (v:=undef) (a':=?_) (b67e 16 32767) rfl rfl (any_of HT_.out (by kernel_rfl)) (fun _ _ _ h => h) (Or.inr ⟨by rfl,rfl⟩) ?_ ?_
           rotate_left
           ·simp only [Act.put,List.setIfInBounds_toArray,List.set_cons_zero,List.set_cons_succ,i64_w,i32_w]
            rfl
           refine pure_ (i:=15) (N:=some 62) (v:=?_) (a':=?_) (b67e 16 65535) rfl rfl (any_of HT_.out (by kernel_rfl)) (fun _ _ _ h => h) (Or.inl ⟨by rfl,?_⟩) ?_ ?_
           rotate_left
           ·intro w'
            go_simp
            with_reducible rfl
           rotate_left
           ·simp only [Act.put,List.setIfInBounds_toArray,List.set_cons_zero,List.set_cons_succ,i64_w,i32_w]
            rfl
           refine done_ (done_of HT_.out (by kernel_rfl)) ?_
           try go_wp2
           go_ret2
           exact ⟨by (rfl),by repeat (((with_reducible (exact HB.out))))⟩
          ·rw [if_neg c25] at H
           have c25b0 : decide (t1106 < 0) = false:=decide_eq_false c25
           clear c25
           by_cases c31 : 0 ≤ t1106
           ·rw [if_pos c31] at H
            have c31b0 : decide (0 ≤ t1106) = true:=decide_eq_true c31
            clear c31
            by_cases c32 : t1106 < (l1_0.length : Int)
            ·rw [if_pos c32] at H
             have c32b0 : decide (t1106 < (l1_0.length : Int)) = true:=decide_eq_true c32
             clear c32
             replace H:=Option.bind_eq_some_iff.mp H
             obtain ⟨t1110,A330,H⟩:=H
             replace H : (if t1110 = true then (spec_SameYard.l0 k2 x6_2 (wrap64 (x7_2 + 1)) l0_0 l1_0) else (some (false,true))) = some (r1,r2):=H
             have A33:=Aside0.mk A330
             clear A330
             by_cases c34 : t1110 = true
             ·subst c34
              have H1 : (spec_SameYard.l0 k2 x6_2 (wrap64 (x7_2 + 1)) l0_0 l1_0) = some (r1,r2):=by rw [if_pos rfl] at H; exact H
              clear H
              have H:=H1
              clear H1
              have H':=Aside0.mk H
              clear H
              have hnb35:=NB1099_1100.out
              have hnc35:=NB1100_1099.out
              have hcz36_0 : wr.cell? ⟨gb1099,0,none⟩ = some (.slice A0_0 l0_0.length c0_0):=(blk_cell BK1099.out 0).trans rfl
              have hfz36_0:=blk_frozen BK1099.out 0
              have p1103 : 0 ≤ (x7_2 : Int):=of_decide_eq_true (by (with_reducible assumption))
              have q1103 : x7_2 < (l0_0.length : Int):=of_decide_eq_true (by (with_reducible assumption))
              obtain ⟨ad1103,A1103_0,c1103_0,e1103,hx1103_0,hl1103_0,hi1103_0⟩:=at_L2 HR0_0.out x7_2 p1103 q1103
              cases e1103
              replace hx1103_0:=(HB.out.cell (World.block_lt_of_cell? w _ hx1103_0)).trans hx1103_0
              have HR1103_0:=Aside0.mk hi1103_0
              have HC1103_0:=Aside0.mk hl1103_0
              clear hi1103_0 hl1103_0
              replace p1103:=eq_true p1103
              replace q1103:=eq_true q1103
              try go_wp2
              have n0_:=Aside0.mk (blk_drew BK1099.out)
              have n1_:=Aside0.mk (blk_drew BK1100.out)
              have n2_:=Aside0.mk (below_drew1 HB.out)
              clear BK1099
              clear BK1100
              clear HB
              have BK1099:=n0_
              have BK1100:=n1_
              have HB:=n2_
              clear n0_ n1_ n2_
              have p1104 : 0 ≤ (x7_2 : Int):=of_decide_eq_true (by (with_reducible assumption))
              have q1104 : x7_2 < (l0_0.length : Int):=of_decide_eq_true (by (with_reducible assumption))
              obtain ⟨ad1104,A1104_0,c1104_0,e1104,hx1104_0,hl1104_0,hi1104_0⟩:=at_L2 HR0_0.out x7_2 p1104 q1104
              have hw1104_0:=hx1104_0
              obtain rfl : ad1103 = ad1104:=(by injection e1104)
              replace hx1104_0:=(HB.out.cell (World.block_lt_of_cell? w _ hx1104_0)).trans hx1104_0
              have HR1104_0:=Aside0.mk hi1104_0
              have HC1104_0:=Aside0.mk hl1104_0
              clear hi1104_0 hl1104_0
              replace p1104:=eq_true p1104
              replace q1104:=eq_true q1104
              have p1105 : 0 ≤ (0 : Int):=(by omega)
              have q1105 : 0 < ((rd_L2 l0_0 x7_2).length : Int):=of_decide_eq_true (by (with_reducible assumption))
              obtain ⟨ad1105,e1105,hx1105_0⟩:=Kd.at_int HR1104_0.out 0 p1105 q1105
              have hw1105_0:=hx1105_0
              (try rw [show (0 : Int).toNat = 0 from rfl] at hw1105_0)
              (try rw [show 0 * 1 = 0 from rfl] at hw1105_0)
              (try rw [Addr.add_zero'] at hw1105_0)
              cases e1105
              have qi1105 : (0 < (rd_L2 l0_0 x7_2).length) = True:=eq_true (by omega)
              (try rw [show (0 : Int).toNat = 0 from rfl] at hx1105_0)
              (try rw [Addr.add_zero'] at hx1105_0)
              replace hx1105_0:=(HB.out.cell (World.block_lt_of_cell? w _ hx1105_0)).trans hx1105_0
              replace p1105:=eq_true p1105
              replace q1105:=eq_true q1105
              refine start_ (n:=14) (S:=fun w' => w'.cell? ⟨gb1100,0,none⟩ = some (.slice A1_0 l1_0.length c1_0) ∧ w'.cell? ⟨gb1099,0,none⟩ = some (.slice (some ad1103) l0_0.length c0_0) ∧ w'.cell? (ad1103.add (x7_2).toNat) = some (.slice (some ad1105) (rd_L2 l0_0 x7_2).length c1104_0) ∧ w'.cell? ad1105 = some (.int .i64 (rd (rd_L2 l0_0 x7_2) 0))) (ds:=[]) (b67e 14 0) (by kernel_rfl) rfl rfl ⟨(blk_cell BK1100.out 0).trans rfl,(blk_cell BK1099.out 0).trans rfl,((HB.out.cell (World.block_lt_of_cell? w _ hw1104_0)).trans hw1104_0),((HB.out.cell (World.block_lt_of_cell? w _ hw1105_0)).trans hw1105_0)⟩ (fun hHeld => ?_); refine with_tabW spec_SameYard.tab9 spec_SameYard.bits9 (fun HT_ HW_ => ?_)
              generalize wr.drew = w37 at BK1099 BK1100 HB HR1104_0 hx1104_0 hx1105_0 hHeld ⊢
              refine pure_ (i:=1) (N:=some 37) (v:=?_) (a':=?_) (b67e 14 2) rfl rfl (any_of HT_.out (by kernel_rfl)) (fun _ _ _ h => h) (Or.inl ⟨by rfl,?_⟩) ?_ ?_
              rotate_left
              ·intro w'
               go_simp
               with_reducible rfl
              rotate_left
              ·simp only [Act.put,List.setIfInBounds_toArray,List.set_cons_zero,List.set_cons_succ,i64_w,i32_w]
               rfl
              refine pure_ (i:=3) (N:=some 39) (v:=?_) (a':=?_) (b67e 14 10) rfl rfl (any_of HT_.out (by kernel_rfl)) (fun _ _ _ h => h) (Or.inl ⟨by rfl,?_⟩) ?_ ?_
              rotate_left
              ·intro w'
               go_simp
               with_reducible rfl
              rotate_left
              ·simp only [Act.put,List.setIfInBounds_toArray,List.set_cons_zero,List.set_cons_succ,i64_w,i32_w]
               rfl
              refine take_ (i:=0) (N:=some 36) (v:=?_) (a':=?_) (b67e 14 11) rfl rfl (take_ofW HT_.out HW_.out (by kernel_rfl)) (fun _ _ _ h => h) (Or.inl ⟨by rfl,?_⟩) hHeld ?_ ?_
              rotate_left
              ·rintro w' ⟨s0,s1,s2,s3⟩
               go_simp
               with_reducible rfl
              rotate_left
              ·simp only [Act.put,List.setIfInBounds_toArray,List.set_cons_zero,List.set_cons_succ,i64_w,i32_w]
               rfl
              refine take_ (i:=2) (N:=some 38) (v:=?_) (a':=?_) (b67e 14 15) rfl rfl (take_ofW HT_.out HW_.out (by kernel_rfl)) (fun _ _ _ h => h) (Or.inl ⟨by rfl,?_⟩) hHeld ?_ ?_
              rotate_left
              ·rintro w' ⟨s0,s1,s2,s3⟩
               go_simp
               with_reducible rfl
              rotate_left
              ·simp only [Act.put,List.setIfInBounds_toArray,List.set_cons_zero,List.set_cons_succ,i64_w,i32_w]
               rfl
              refine pure_ (i:=4) (N:=some 40) (v:=?_) (a':=?_) (b67e 14 31) rfl rfl (any_of HT_.out (by kernel_rfl)) (fun _ _ _ h => h) (Or.inl ⟨by rfl,?_⟩) ?_ ?_
              rotate_left
              ·intro w'
               go_simp
               with_reducible rfl
              rotate_left
              ·simp only [Act.put,List.setIfInBounds_toArray,List.set_cons_zero,List.set_cons_succ,i64_w,i32_w]
               rfl
              refine take_ (i:=5) (N:=some 41) (v:=?_) (a':=?_) (b67e 14 63) rfl rfl (take_ofW HT_.out HW_.out (by kernel_rfl)) (fun _ _ _ h => h) (Or.inl ⟨by rfl,?_⟩) hHeld ?_ ?_
              rotate_left
              ·rintro w' ⟨s0,s1,s2,s3⟩
               go_simp
               with_reducible rfl
              rotate_left
              ·simp only [Act.put,List.setIfInBounds_toArray,List.set_cons_zero,List.set_cons_succ,i64_w,i32_w]
               rfl
              refine pure_ (i:=6) (N:=some 42) (v:=?_) (a':=?_) (b67e 14 127) rfl rfl (any_of HT_.out (by kernel_rfl)) (fun _ _ _ h => h) (Or.inl ⟨by rfl,?_⟩) ?_ ?_
              rotate_left
              ·intro w'
               go_simp
               with_reducible rfl
              rotate_left
              ·simp only [Act.put,List.setIfInBounds_toArray,List.set_cons_zero,List.set_cons_succ,i64_w,i32_w]
               rfl
              refine take_ (i:=7) (N:=some 43) (v:=?_) (a':=?_) (b67e 14 255) rfl rfl (take_ofW HT_.out HW_.out (by kernel_rfl)) (fun _ _ _ h => h) (Or.inl ⟨by rfl,?_⟩) hHeld ?_ ?_
              rotate_left
              ·rintro w' ⟨s0,s1,s2,s3⟩
               go_simp
               with_reducible rfl
              rotate_left
              ·simp only [Act.put,List.setIfInBounds_toArray,List.set_cons_zero,List.set_cons_succ,i64_w,i32_w]
               rfl
              refine one_ (i:=8) (N:=some 44) (b67e 14 511) rfl rfl (one_of HT_.out (by kernel_rfl)) (by decide) (fun K hK => ?_)
              refine goes_ Try.func142 (by kernel_rfl) rfl #[.agg #[.slice A1_0 l1_0.length c1_0],.int .i64 (rd (rd_L2 l0_0 x7_2) 0)] (by rfl) rfl rfl (by (try simp only [List.map_toArray,List.map_cons,List.map_nil]); (rfl)) ?_
              with_reducible refine (spec_l5Find.calls k2 _ _ l1_0 (rd (rd_L2 l0_0 x7_2) 0) t1106 t1107 _ ?side1 ?side2 A24.out).mono ?_
              (case side1 => repeat ((exact (Kd.C_below HR1_0.out HB.out))))
              (case side2 => exact HC1_0.out)
              rintro e w38 ⟨rfl,hb⟩
              refine ⟨_,rfl,?_⟩
              have n0_:=Aside0.mk (blk_below (g:=gb1099) (o:=.cells #[.slice (some ad1103) l0_0.length c0_0] 42 (0,0)) (by exact BK1099.out) hb)
              have n1_:=Aside0.mk (blk_below (g:=gb1100) (o:=.cells #[.slice A1_0 l1_0.length c1_0] 42 (0,0)) (by exact BK1100.out) hb)
              have n2_:=Aside0.mk (below_step (by repeat (((with_reducible (exact HB.out))))) hb)
              clear BK1099
              clear BK1100
              clear HB
              have BK1099:=n0_
              have BK1100:=n1_
              have HB:=n2_
              clear n0_ n1_ n2_
              (try clear hb)
              (try clear hb2)
              (try clear hk)
              (try clear hi)
              refine hK.out _ _ ⟨(blk_cell BK1100.out 0).trans rfl,(blk_cell BK1099.out 0).trans rfl,((HB.out.cell (World.block_lt_of_cell? w _ hw1104_0)).trans hw1104_0),((HB.out.cell (World.block_lt_of_cell? w _ hw1105_0)).trans hw1105_0)⟩ (fun hHeld => ?_)
              clear hK K
              refine norm_ (a':=?_) ?_ ?_
              rotate_left
              ·show Act.put _ (some 44) _ = _
               simp only [Act.put,List.setIfInBounds_toArray,List.set_cons_zero,List.set_cons_succ,i64_w,i32_w]
               rfl
              refine pure_ (i:=9) (N:=some 35) (v:=?_) (a':=?_) (b67e 14 1023) rfl rfl (any_of HT_.out (by kernel_rfl)) (fun _ _ _ h => h) (Or.inl ⟨by rfl,?_⟩) ?_ ?_
              rotate_left
              ·intro w'
               go_simp
               with_reducible rfl
              rotate_left
              ·simp only [Act.put,List.setIfInBounds_toArray,List.set_cons_zero,List.set_cons_succ,i64_w,i32_w]
               rfl
              refine pure_ (i:=10) (N:=some 45) (v:=?_) (a':=?_) (b67e 14 2047) rfl rfl (any_of HT_.out (by kernel_rfl)) (fun _ _ _ h => h) (Or.inl ⟨by rfl,?_⟩) ?_ ?_
              rotate_left
              ·intro w'
               go_simp
               with_reducible rfl
              rotate_left
              ·simp only [Act.put,List.setIfInBounds_toArray,List.set_cons_zero,List.set_cons_succ,i64_w,i32_w]
               rfl
              refine pure_ (i:=11) (N:=some 46) (v:=?_) (a':=?_) (b67e 14 4095) rfl rfl (any_of HT_.out (by kernel_rfl)) (fun _ _ _ h => h) (Or.inl ⟨by rfl,?_⟩) ?_ ?_
              rotate_left
              ·intro w'
               go_simp
               with_reducible rfl
              rotate_left
              ·simp only [Act.put,List.setIfInBounds_toArray,List.set_cons_zero,List.set_cons_succ,i64_w,i32_w]
               rfl
              refine pure_ (i:=12) (N:=some 8) (v:=?_) (a':=?_) (b67e 14 8191) rfl rfl (any_of HT_.out (by kernel_rfl)) (fun _ _ _ h => h) (Or.inl ⟨by rfl,?_⟩) ?_ ?_
              rotate_left
              ·intro w'
               go_simp
               with_reducible rfl
              rotate_left
              ·simp only [Act.put,List.setIfInBounds_toArray,List.set_cons_zero,List.set_cons_succ,i64_w,i32_w]
               rfl
              refine pure_ (i:=13) (N:=some 9) (v:=?_) (a':=?_) (b67e 14 16383) rfl rfl (any_of HT_.out (by kernel_rfl)) (fun _ _ _ h => h) (Or.inl ⟨by rfl,?_⟩) ?_ ?_
              rotate_left
              ·intro w'
               go_simp
               with_reducible rfl
              rotate_left
              ·simp only [Act.put,List.setIfInBounds_toArray,List.set_cons_zero,List.set_cons_succ,i64_w,i32_w]
               rfl
              refine done_ (done_of HT_.out (by kernel_rfl)) ?_
              try go_wp2
              have n0_:=Aside0.mk (blk_drew BK1099.out)
              have n1_:=Aside0.mk (blk_drew BK1100.out)
              have n2_:=Aside0.mk (below_drew1 HB.out)
              clear BK1099
              clear BK1100
              clear HB
              have BK1099:=n0_
              have BK1100:=n1_
              have HB:=n2_
              clear n0_ n1_ n2_
              have p1108 : 0 ≤ (x7_2 : Int):=of_decide_eq_true (by (with_reducible assumption))
              have q1108 : x7_2 < (l0_0.length : Int):=of_decide_eq_true (by (with_reducible assumption))
              obtain ⟨ad1108,A1108_0,c1108_0,e1108,hx1108_0,hl1108_0,hi1108_0⟩:=at_L2 HR0_0.out x7_2 p1108 q1108
              have hw1108_0:=hx1108_0
              obtain rfl : ad1103 = ad1108:=(by injection e1108)
              replace hx1108_0:=(HB.out.cell (World.block_lt_of_cell? w _ hx1108_0)).trans hx1108_0
              have HR1108_0:=Aside0.mk hi1108_0
              have HC1108_0:=Aside0.mk hl1108_0
              clear hi1108_0 hl1108_0
              replace p1108:=eq_true p1108
              replace q1108:=eq_true q1108
              have p1109 : 0 ≤ (t1106 : Int):=of_decide_eq_true (by (with_reducible assumption))
              have q1109 : t1106 < (l1_0.length : Int):=of_decide_eq_true (by (with_reducible assumption))
              obtain ⟨ad1109,A1109_0,c1109_0,e1109,hx1109_0,hl1109_0,hi1109_0⟩:=at_L2 HR1_0.out t1106 p1109 q1109
              have hw1109_0:=hx1109_0
              cases e1109
              replace hx1109_0:=(HB.out.cell (World.block_lt_of_cell? w _ hx1109_0)).trans hx1109_0
              have HR1109_0:=Aside0.mk hi1109_0
              have HC1109_0:=Aside0.mk hl1109_0
              clear hi1109_0 hl1109_0
              replace p1109:=eq_true p1109
              replace q1109:=eq_true q1109
              refine start_ (n:=16) (S:=fun w' => w'.cell? ⟨gb1099,0,none⟩ = some (.slice (some ad1103) l0_0.length c0_0) ∧ w'.cell? ⟨gb1100,0,none⟩ = some (.slice (some ad1109) l1_0.length c1_0) ∧ w'.cell? (ad1103.add (x7_2).toNat) = some (.slice A1108_0 (rd_L2 l0_0 x7_2).length c1108_0) ∧ w'.cell? (ad1109.add (t1106).toNat) = some (.slice A1109_0 (rd_L2 l1_0 t1106).length c1109_0)) (ds:=[]) (b67e 16 0) (by kernel_rfl) rfl rfl ⟨(blk_cell BK1099.out 0).trans rfl,(blk_cell BK1100.out 0).trans rfl,((HB.out.cell (World.block_lt_of_cell? w _ hw1108_0)).trans hw1108_0),((HB.out.cell (World.block_lt_of_cell? w _ hw1109_0)).trans hw1109_0)⟩ (fun hHeld => ?_); refine with_tabW spec_SameYard.tab10 spec_SameYard.bits10 (fun HT_ HW_ => ?_)
              generalize w38.drew = w39 at BK1099 BK1100 HB HR1108_0 HR1109_0 hx1108_0 hx1109_0 hHeld ⊢
              refine pure_ (i:=0) (N:=some 47) (v:=?_) (a':=?_) (b67e 16 1) rfl rfl (any_of HT_.out (by kernel_rfl)) (fun _ _ _ h => h) (Or.inl ⟨by rfl,?_⟩) ?_ ?_
              rotate_left
              ·intro w'
               go_simp
               with_reducible rfl
              rotate_left
              ·simp only [Act.put,List.setIfInBounds_toArray,List.set_cons_zero,List.set_cons_succ,i64_w,i32_w]
               rfl
              refine pure_ (i:=1) (N:=some 48) (v:=?_) (a':=?_) (b67e 16 3) rfl rfl (any_of HT_.out (by kernel_rfl)) (fun _ _ _ h => h) (Or.inl ⟨by rfl,?_⟩) ?_ ?_
              rotate_left
              ·intro w'
               go_simp
               with_reducible rfl
              rotate_left
              ·simp only [Act.put,List.setIfInBounds_toArray,List.set_cons_zero,List.set_cons_succ,i64_w,i32_w]
               rfl
              refine pure_ (i:=2) (N:=some 49) (v:=?_) (a':=?_) (b67e 16 7) rfl rfl (any_of HT_.out (by kernel_rfl)) (fun _ _ _ h => h) (Or.inl ⟨by rfl,?_⟩) ?_ ?_
              rotate_left
              ·intro w'
               go_simp
               with_reducible rfl
              rotate_left
              ·simp only [Act.put,List.setIfInBounds_toArray,List.set_cons_zero,List.set_cons_succ,i64_w,i32_w]
               rfl
              refine pure_ (i:=3) (N:=some 50) (v:=?_) (a':=?_) (b67e 16 15) rfl rfl (any_of HT_.out (by kernel_rfl)) (fun _ _ _ h => h) (Or.inl ⟨by rfl,?_⟩) ?_ ?_
              rotate_left
              ·intro w'
               go_simp
               with_reducible rfl
              rotate_left
              ·simp only [Act.put,List.setIfInBounds_toArray,List.set_cons_zero,List.set_cons_succ,i64_w,i32_w]
               rfl
              refine pure_ (i:=5) (N:=some 52) (v:=?_) (a':=?_) (b67e 16 47) rfl rfl (any_of HT_.out (by kernel_rfl)) (fun _ _ _ h => h) (Or.inl ⟨by rfl,?_⟩) ?_ ?_
              rotate_left
              ·intro w'
               go_simp
               with_reducible rfl
              rotate_left
              ·simp only [Act.put,List.setIfInBounds_toArray,List.set_cons_zero,List.set_cons_succ,i64_w,i32_w]
               rfl
              refine pure_ (i:=8) (N:=some 55) (v:=?_) (a':=?_) (b67e 16 303) rfl rfl (any_of HT_.out (by kernel_rfl)) (fun _ _ _ h => h) (Or.inl ⟨by rfl,?_⟩) ?_ ?_
              rotate_left
              ·intro w'
               go_simp
               with_reducible rfl
              rotate_left
              ·simp only [Act.put,List.setIfInBounds_toArray,List.set_cons_zero,List.set_cons_succ,i64_w,i32_w]
               rfl
              refine pure_ (i:=10) (N:=some 57) (v:=?_) (a':=?_) (b67e 16 1327) rfl rfl (any_of HT_.out (by kernel_rfl)) (fun _ _ _ h => h) (Or.inl ⟨by rfl,?_⟩) ?_ ?_
              rotate_left
              ·intro w'
               go_simp
               with_reducible rfl
              rotate_left
              ·simp only [Act.put,List.setIfInBounds_toArray,List.set_cons_zero,List.set_cons_succ,i64_w,i32_w]
               rfl
              refine take_ (i:=4) (N:=some 51) (v:=?_) (a':=?_) (b67e 16 1343) rfl rfl (take_ofW HT_.out HW_.out (by kernel_rfl)) (fun _ _ _ h => h) (Or.inl ⟨by rfl,?_⟩) hHeld ?_ ?_
              rotate_left
              ·rintro w' ⟨s0,s1,s2,s3⟩
               go_simp
               with_reducible rfl
              rotate_left
              ·simp only [Act.put,List.setIfInBounds_toArray,List.set_cons_zero,List.set_cons_succ,i64_w,i32_w]
               rfl
              refine pure_ (i:=6) (N:=some 53) (v:=?_) (a':=?_) (b67e 16 1407) rfl rfl (any_of HT_.out (by kernel_rfl)) (fun _ _ _ h => h) (Or.inl ⟨by rfl,?_⟩) ?_ ?_
              rotate_left
              ·intro w'
               go_simp
               with_reducible rfl
              rotate_left
              ·simp only [Act.put,List.setIfInBounds_toArray,List.set_cons_zero,List.set_cons_succ,i64_w,i32_w]
               rfl
              refine take_ (i:=7) (N:=some 54) (v:=?_) (a':=?_) (b67e 16 1535) rfl rfl (take_ofW HT_.out HW_.out (by kernel_rfl)) (fun _ _ _ h => h) (Or.inl ⟨by rfl,?_⟩) hHeld ?_ ?_
              rotate_left
              ·rintro w' ⟨s0,s1,s2,s3⟩
               go_simp
               with_reducible rfl
              rotate_left
              ·simp only [Act.put,List.setIfInBounds_toArray,List.set_cons_zero,List.set_cons_succ,i64_w,i32_w]
               rfl
              refine take_ (i:=9) (N:=some 56) (v:=?_) (a':=?_) (b67e 16 2047) rfl rfl (take_ofW HT_.out HW_.out (by kernel_rfl)) (fun _ _ _ h => h) (Or.inl ⟨by rfl,?_⟩) hHeld ?_ ?_
              rotate_left
              ·rintro w' ⟨s0,s1,s2,s3⟩
               go_simp
               with_reducible rfl
              rotate_left
              ·simp only [Act.put,List.setIfInBounds_toArray,List.set_cons_zero,List.set_cons_succ,i64_w,i32_w]
               rfl
              refine pure_ (i:=11) (N:=some 58) (v:=?_) (a':=?_) (b67e 16 4095) rfl rfl (any_of HT_.out (by kernel_rfl)) (fun _ _ _ h => h) (Or.inl ⟨by rfl,?_⟩) ?_ ?_
              rotate_left
              ·intro w'
               go_simp
               with_reducible rfl
              rotate_left
              ·simp only [Act.put,List.setIfInBounds_toArray,List.set_cons_zero,List.set_cons_succ,i64_w,i32_w]
               rfl
              refine take_ (i:=12) (N:=some 59) (v:=?_) (a':=?_) (b67e 16 8191) rfl rfl (take_ofW HT_.out HW_.out (by kernel_rfl)) (fun _ _ _ h => h) (Or.inl ⟨by rfl,?_⟩) hHeld ?_ ?_
              rotate_left
              ·rintro w' ⟨s0,s1,s2,s3⟩
               go_simp
               with_reducible rfl
              rotate_left
              ·simp only [Act.put,List.setIfInBounds_toArray,List.set_cons_zero,List.set_cons_succ,i64_w,i32_w]
               rfl
              refine one_ (i:=13) (N:=some 60) (b67e 16 16383) rfl rfl (one_of HT_.out (by kernel_rfl)) (by decide) (fun K hK => ?_)
              refine goes_ Try.func143 (by kernel_rfl) rfl #[.slice A1108_0 (rd_L2 l0_0 x7_2).length c1108_0,.slice A1109_0 (rd_L2 l1_0 t1106).length c1109_0] (by rfl) rfl rfl (by (try simp only [List.map_toArray,List.map_cons,List.map_nil]); (rfl)) ?_
              with_reducible refine (spec_l1Same.calls k2 _ _ (rd_L2 l0_0 x7_2) _ _ (rd_L2 l1_0 t1106) true _ ?side1 ?side2 ?side3 ?side4 A33.out).mono ?_
              (case side1 => repeat ((exact (Kd.C_below HR1108_0.out HB.out))))
              (case side2 => exact HC1108_0.out)
              (case side3 => repeat ((exact (Kd.C_below HR1109_0.out HB.out))))
              (case side4 => exact HC1109_0.out)
              rintro e w' ⟨rfl,⟨nd,rfl⟩⟩
              refine ⟨_,rfl,?_⟩
              refine hK.out _ _ ⟨(blk_cell BK1099.out 0).trans rfl,(blk_cell BK1100.out 0).trans rfl,((HB.out.cell (World.block_lt_of_cell? w _ hw1108_0)).trans hw1108_0),((HB.out.cell (World.block_lt_of_cell? w _ hw1109_0)).trans hw1109_0)⟩ (fun hHeld => ?_)
              clear hK K
              refine norm_ (a':=?_) ?_ ?_
              rotate_left
              ·show Act.put _ (some 60) _ = _
               simp only [Act.put,List.setIfInBounds_toArray,List.set_cons_zero,List.set_cons_succ,i64_w,i32_w]
               rfl
              refine pure_ (i:=14) (N:=some 61) (v:=?_) (a':=?_) (b67e 16 32767) rfl rfl (any_of HT_.out (by kernel_rfl)) (fun _ _ _ h => h) (Or.inl ⟨by rfl,?_⟩) ?_ ?_
              rotate_left
              ·intro w'
               go_simp
               with_reducible rfl
              rotate_left
              ·simp only [Act.put,List.setIfInBounds_toArray,List.set_cons_zero,List.set_cons_succ,i64_w,i32_w]
               rfl
              refine pure_ (i:=15) (N:=some 62) (v:=?_) (a':=?_) (b67e 16 65535) rfl rfl (any_of HT_.out (by kernel_rfl)) (fun _ _ _ h => h) (Or.inl ⟨by rfl,?_⟩) ?_ ?_
              rotate_left
              ·intro w'
               go_simp
               with_reducible rfl
              rotate_left
              ·simp only [Act.put,List.setIfInBounds_toArray,List.set_cons_zero,List.set_cons_succ,i64_w,i32_w]
               rfl
              refine done_ (done_of HT_.out (by kernel_rfl)) ?_
              try go_wp2
              go_roundg k2
              case measure => have:=HJ2.out; have:=HK2.out; omega
              case rel => exact ⟨(x6_2),(wrap64 (x7_2 + 1)),(by (rfl)),(by (rfl)),H',⟨by have:=HJ2.out; have:=HK2.out; omega⟩,⟨by (with_reducible repeat (refine blk_drewN ?_ _)); exact BK1099.out⟩,⟨by (with_reducible repeat (refine blk_drewN ?_ _)); exact BK1100.out⟩,⟨by repeat (with_reducible first|exact HB.out|apply pw_below_drewN)⟩⟩
             ·replace c34:=Bool.eq_false_iff.mpr c34
              subst c34
              have H1 : (some (false,true)) = some (r1,r2):=by rw [if_neg (show ¬ (false = true) by decide)] at H; exact H
              clear H
              have H:=H1
              clear H1
              simp only [Option.some.injEq,Prod.mk.injEq] at H
              obtain ⟨rfl,rfl⟩:=H
              have hnb40:=NB1099_1100.out
              have hnc40:=NB1100_1099.out
              have hcz41_0 : wr.cell? ⟨gb1099,0,none⟩ = some (.slice A0_0 l0_0.length c0_0):=(blk_cell BK1099.out 0).trans rfl
              have hfz41_0:=blk_frozen BK1099.out 0
              have p1103 : 0 ≤ (x7_2 : Int):=of_decide_eq_true (by (with_reducible assumption))
              have q1103 : x7_2 < (l0_0.length : Int):=of_decide_eq_true (by (with_reducible assumption))
              obtain ⟨ad1103,A1103_0,c1103_0,e1103,hx1103_0,hl1103_0,hi1103_0⟩:=at_L2 HR0_0.out x7_2 p1103 q1103
              cases e1103
              replace hx1103_0:=(HB.out.cell (World.block_lt_of_cell? w _ hx1103_0)).trans hx1103_0
              have HR1103_0:=Aside0.mk hi1103_0
              have HC1103_0:=Aside0.mk hl1103_0
              clear hi1103_0 hl1103_0
              replace p1103:=eq_true p1103
              replace q1103:=eq_true q1103
              try go_wp2
              have n0_:=Aside0.mk (blk_drew BK1099.out)
              have n1_:=Aside0.mk (blk_drew BK1100.out)
              have n2_:=Aside0.mk (below_drew1 HB.out)
              clear BK1099
              clear BK1100
              clear HB
              have BK1099:=n0_
              have BK1100:=n1_
              have HB:=n2_
              clear n0_ n1_ n2_
              have p1104 : 0 ≤ (x7_2 : Int):=of_decide_eq_true (by (with_reducible assumption))
              have q1104 : x7_2 < (l0_0.length : Int):=of_decide_eq_true (by (with_reducible assumption))
              obtain ⟨ad1104,A1104_0,c1104_0,e1104,hx1104_0,hl1104_0,hi1104_0⟩:=at_L2 HR0_0.out x7_2 p1104 q1104
              have hw1104_0:=hx1104_0
              obtain rfl : ad1103 = ad1104:=(by injection e1104)
              replace hx1104_0:=(HB.out.cell (World.block_lt_of_cell? w _ hx1104_0)).trans hx1104_0
              have HR1104_0:=Aside0.mk hi1104_0
              have HC1104_0:=Aside0.mk hl1104_0
              clear hi1104_0 hl1104_0
              replace p1104:=eq_true p1104
              replace q1104:=eq_true q1104
              have p1105 : 0 ≤ (0 : Int):=(by omega)
              have q1105 : 0 < ((rd_L2 l0_0 x7_2).length : Int):=of_decide_eq_true (by (with_reducible assumption))
              obtain ⟨ad1105,e1105,hx1105_0⟩:=Kd.at_int HR1104_0.out 0 p1105 q1105
              have hw1105_0:=hx1105_0
              (try rw [show (0 : Int).toNat = 0 from rfl] at hw1105_0)
              (try rw [show 0 * 1 = 0 from rfl] at hw1105_0)
              (try rw [Addr.add_zero'] at hw1105_0)
              cases e1105
              have qi1105 : (0 < (rd_L2 l0_0 x7_2).length) = True:=eq_true (by omega)
              (try rw [show (0 : Int).toNat = 0 from rfl] at hx1105_0)
              (try rw [Addr.add_zero'] at hx1105_0)
              replace hx1105_0:=(HB.out.cell (World.block_lt_of_cell? w _ hx1105_0)).trans hx1105_0
              replace p1105:=eq_true p1105
              replace q1105:=eq_true q1105
              refine start_ (n:=14) (S:=fun w' => w'.cell? ⟨gb1100,0,none⟩ = some (.slice A1_0 l1_0.length c1_0) ∧ w'.cell? ⟨gb1099,0,none⟩ = some (.slice (some ad1103) l0_0.length c0_0) ∧ w'.cell? (ad1103.add (x7_2).toNat) = some (.slice (some ad1105) (rd_L2 l0_0 x7_2).length c1104_0) ∧ w'.cell? ad1105 = some (.int .i64 (rd (rd_L2 l0_0 x7_2) 0))) (ds:=[]) (b67e 14 0) (by kernel_rfl) rfl rfl ⟨(blk_cell BK1100.out 0).trans rfl,(blk_cell BK1099.out 0).trans rfl,((HB.out.cell (World.block_lt_of_cell? w _ hw1104_0)).trans hw1104_0),((HB.out.cell (World.block_lt_of_cell? w _ hw1105_0)).trans hw1105_0)⟩ (fun hHeld => ?_); refine with_tabW spec_SameYard.tab9 spec_SameYard.bits9 (fun HT_ HW_ => ?_)
              generalize wr.drew = w42 at BK1099 BK1100 HB HR1104_0 hx1104_0 hx1105_0 hHeld ⊢
              refine pure_ (i:=1) (N:=some 37) (v:=?_) (a':=?_) (b67e 14 2) rfl rfl (any_of HT_.out (by kernel_rfl)) (fun _ _ _ h => h) (Or.inl ⟨by rfl,?_⟩) ?_ ?_
              rotate_left
              ·intro w'
               go_simp
               with_reducible rfl
              rotate_left
              ·simp only [Act.put,List.setIfInBounds_toArray,List.set_cons_zero,List.set_cons_succ,i64_w,i32_w]
               rfl
              refine pure_ (i:=3) (N:=some 39) (v:=?_) (a':=?_) (b67e 14 10) rfl rfl (any_of HT_.out (by kernel_rfl)) (fun _ _ _ h => h) (Or.inl ⟨by rfl,?_⟩) ?_ ?_
              rotate_left
              ·intro w'
               go_simp
               with_reducible rfl
              rotate_left
              ·simp only [Act.put,List.setIfInBounds_toArray,List.set_cons_zero,List.set_cons_succ,i64_w,i32_w]
               rfl
              refine take_ (i:=0) (N:=some 36) (v:=?_) (a':=?_) (b67e 14 11) rfl rfl (take_ofW HT_.out HW_.out (by kernel_rfl)) (fun _ _ _ h => h) (Or.inl ⟨by rfl,?_⟩) hHeld ?_ ?_
              rotate_left
              ·rintro w' ⟨s0,s1,s2,s3⟩
               go_simp
               with_reducible rfl
              rotate_left
              ·simp only [Act.put,List.setIfInBounds_toArray,List.set_cons_zero,List.set_cons_succ,i64_w,i32_w]
               rfl
              refine take_ (i:=2) (N:=some 38) (v:=?_) (a':=?_) (b67e 14 15) rfl rfl (take_ofW HT_.out HW_.out (by kernel_rfl)) (fun _ _ _ h => h) (Or.inl ⟨by rfl,?_⟩) hHeld ?_ ?_
              rotate_left
              ·rintro w' ⟨s0,s1,s2,s3⟩
               go_simp
               with_reducible rfl
              rotate_left
              ·simp only [Act.put,List.setIfInBounds_toArray,List.set_cons_zero,List.set_cons_succ,i64_w,i32_w]
               rfl
              refine pure_ (i:=4) (N:=some 40) (v:=?_) (a':=?_) (b67e 14 31) rfl rfl (any_of HT_.out (by kernel_rfl)) (fun _ _ _ h => h) (Or.inl ⟨by rfl,?_⟩) ?_ ?_
              rotate_left
              ·intro w'
               go_simp
               with_reducible rfl
              rotate_left
              ·simp only [Act.put,List.setIfInBounds_toArray,List.set_cons_zero,List.set_cons_succ,i64_w,i32_w]
               rfl
              refine take_ (i:=5) (N:=some 41) (v:=?_) (a':=?_) (b67e 14 63) rfl rfl (take_ofW HT_.out HW_.out (by kernel_rfl)) (fun _ _ _ h => h) (Or.inl ⟨by rfl,?_⟩) hHeld ?_ ?_
              rotate_left
              ·rintro w' ⟨s0,s1,s2,s3⟩
               go_simp
               with_reducible rfl
              rotate_left
              ·simp only [Act.put,List.setIfInBounds_toArray,List.set_cons_zero,List.set_cons_succ,i64_w,i32_w]
               rfl
              refine pure_ (i:=6) (N:=some 42) (v:=?_) (a':=?_) (b67e 14 127) rfl rfl (any_of HT_.out (by kernel_rfl)) (fun _ _ _ h => h) (Or.inl ⟨by rfl,?_⟩) ?_ ?_
              rotate_left
              ·intro w'
               go_simp
               with_reducible rfl
              rotate_left
              ·simp only [Act.put,List.setIfInBounds_toArray,List.set_cons_zero,List.set_cons_succ,i64_w,i32_w]
               rfl
              refine take_ (i:=7) (N:=some 43) (v:=?_) (a':=?_) (b67e 14 255) rfl rfl (take_ofW HT_.out HW_.out (by kernel_rfl)) (fun _ _ _ h => h) (Or.inl ⟨by rfl,?_⟩) hHeld ?_ ?_
              rotate_left
              ·rintro w' ⟨s0,s1,s2,s3⟩
               go_simp
               with_reducible rfl
              rotate_left
              ·simp only [Act.put,List.setIfInBounds_toArray,List.set_cons_zero,List.set_cons_succ,i64_w,i32_w]
               rfl
              refine one_ (i:=8) (N:=some 44) (b67e 14 511) rfl rfl (one_of HT_.out (by kernel_rfl)) (by decide) (fun K hK => ?_)
              refine goes_ Try.func142 (by kernel_rfl) rfl #[.agg #[.slice A1_0 l1_0.length c1_0],.int .i64 (rd (rd_L2 l0_0 x7_2) 0)] (by rfl) rfl rfl (by (try simp only [List.map_toArray,List.map_cons,List.map_nil]); (rfl)) ?_
              with_reducible refine (spec_l5Find.calls k2 _ _ l1_0 (rd (rd_L2 l0_0 x7_2) 0) t1106 t1107 _ ?side1 ?side2 A24.out).mono ?_
              (case side1 => repeat ((exact (Kd.C_below HR1_0.out HB.out))))
              (case side2 => exact HC1_0.out)
              rintro e w43 ⟨rfl,hb⟩
              refine ⟨_,rfl,?_⟩
              have n0_:=Aside0.mk (blk_below (g:=gb1099) (o:=.cells #[.slice (some ad1103) l0_0.length c0_0] 42 (0,0)) (by exact BK1099.out) hb)
              have n1_:=Aside0.mk (blk_below (g:=gb1100) (o:=.cells #[.slice A1_0 l1_0.length c1_0] 42 (0,0)) (by exact BK1100.out) hb)
              have n2_:=Aside0.mk (below_step (by repeat (((with_reducible (exact HB.out))))) hb)
              clear BK1099
              clear BK1100
              clear HB
              have BK1099:=n0_
              have BK1100:=n1_
              have HB:=n2_
              clear n0_ n1_ n2_
              (try clear hb)
              (try clear hb2)
              (try clear hk)
              (try clear hi)
              refine hK.out _ _ ⟨(blk_cell BK1100.out 0).trans rfl,(blk_cell BK1099.out 0).trans rfl,((HB.out.cell (World.block_lt_of_cell? w _ hw1104_0)).trans hw1104_0),((HB.out.cell (World.block_lt_of_cell? w _ hw1105_0)).trans hw1105_0)⟩ (fun hHeld => ?_)
              clear hK K
              refine norm_ (a':=?_) ?_ ?_
              rotate_left
              ·show Act.put _ (some 44) _ = _
               simp only [Act.put,List.setIfInBounds_toArray,List.set_cons_zero,List.set_cons_succ,i64_w,i32_w]
               rfl
              refine pure_ (i:=9) (N:=some 35) (v:=?_) (a':=?_) (b67e 14 1023) rfl rfl (any_of HT_.out (by kernel_rfl)) (fun _ _ _ h => h) (Or.inl ⟨by rfl,?_⟩) ?_ ?_
              rotate_left
              ·intro w'
               go_simp
               with_reducible rfl
              rotate_left
              ·simp only [Act.put,List.setIfInBounds_toArray,List.set_cons_zero,List.set_cons_succ,i64_w,i32_w]
               rfl
              refine pure_ (i:=10) (N:=some 45) (v:=?_) (a':=?_) (b67e 14 2047) rfl rfl (any_of HT_.out (by kernel_rfl)) (fun _ _ _ h => h) (Or.inl ⟨by rfl,?_⟩) ?_ ?_
              rotate_left
              ·intro w'
               go_simp
               with_reducible rfl
              rotate_left
              ·simp only [Act.put,List.setIfInBounds_toArray,List.set_cons_zero,List.set_cons_succ,i64_w,i32_w]
               rfl
              refine pure_ (i:=11) (N:=some 46) (v:=?_) (a':=?_) (b67e 14 4095) rfl rfl (any_of HT_.out (by kernel_rfl)) (fun _ _ _ h => h) (Or.inl ⟨by rfl,?_⟩) ?_ ?_
              rotate_left
              ·intro w'
               go_simp
               with_reducible rfl
              rotate_left
              ·simp only [Act.put,List.setIfInBounds_toArray,List.set_cons_zero,List.set_cons_succ,i64_w,i32_w]
               rfl
              refine pure_ (i:=12) (N:=some 8) (v:=?_) (a':=?_) (b67e 14 8191) rfl rfl (any_of HT_.out (by kernel_rfl)) (fun _ _ _ h => h) (Or.inl ⟨by rfl,?_⟩) ?_ ?_
              rotate_left
              ·intro w'
               go_simp
               with_reducible rfl
              rotate_left
              ·simp only [Act.put,List.setIfInBounds_toArray,List.set_cons_zero,List.set_cons_succ,i64_w,i32_w]
               rfl
              refine pure_ (i:=13) (N:=some 9) (v:=?_) (a':=?_) (b67e 14 16383) rfl rfl (any_of HT_.out (by kernel_rfl)) (fun _ _ _ h => h) (Or.inl ⟨by rfl,?_⟩) ?_ ?_
              rotate_left
              ·intro w'
               go_simp
               with_reducible rfl
              rotate_left
              ·simp only [Act.put,List.setIfInBounds_toArray,List.set_cons_zero,List.set_cons_succ,i64_w,i32_w]
               rfl
              refine done_ (done_of HT_.out (by kernel_rfl)) ?_
              try go_wp2
              have n0_:=Aside0.mk (blk_drew BK1099.out)
              have n1_:=Aside0.mk (blk_drew BK1100.out)
              have n2_:=Aside0.mk (below_drew1 HB.out)
              clear BK1099
              clear BK1100
              clear HB
              have BK1099:=n0_
              have BK1100:=n1_
              have HB:=n2_
              clear n0_ n1_ n2_
              have p1108 : 0 ≤ (x7_2 : Int):=of_decide_eq_true (by (with_reducible assumption))
              have q1108 : x7_2 < (l0_0.length : Int):=of_decide_eq_true (by (with_reducible assumption))
              obtain ⟨ad1108,A1108_0,c1108_0,e1108,hx1108_0,hl1108_0,hi1108_0⟩:=at_L2 HR0_0.out x7_2 p1108 q1108
              have hw1108_0:=hx1108_0
              obtain rfl : ad1103 = ad1108:=(by injection e1108)
              replace hx1108_0:=(HB.out.cell (World.block_lt_of_cell? w _ hx1108_0)).trans hx1108_0
              have HR1108_0:=Aside0.mk hi1108_0
              have HC1108_0:=Aside0.mk hl1108_0
              clear hi1108_0 hl1108_0
              replace p1108:=eq_true p1108
              replace q1108:=eq_true q1108
              have p1109 : 0 ≤ (t1106 : Int):=of_decide_eq_true (by (with_reducible assumption))
              have q1109 : t1106 < (l1_0.length : Int):=of_decide_eq_true (by (with_reducible assumption))
              obtain ⟨ad1109,A1109_0,c1109_0,e1109,hx1109_0,hl1109_0,hi1109_0⟩:=at_L2 HR1_0.out t1106 p1109 q1109
              have hw1109_0:=hx1109_0
              cases e1109
              replace hx1109_0:=(HB.out.cell (World.block_lt_of_cell? w _ hx1109_0)).trans hx1109_0
              have HR1109_0:=Aside0.mk hi1109_0
              have HC1109_0:=Aside0.mk hl1109_0
              clear hi1109_0 hl1109_0
              replace p1109:=eq_true p1109
              replace q1109:=eq_true q1109
              refine start_ (n:=16) (S:=fun w' => w'.cell? ⟨gb1099,0,none⟩ = some (.slice (some ad1103) l0_0.length c0_0) ∧ w'.cell? ⟨gb1100,0,none⟩ = some (.slice (some ad1109) l1_0.length c1_0) ∧ w'.cell? (ad1103.add (x7_2).toNat) = some (.slice A1108_0 (rd_L2 l0_0 x7_2).length c1108_0) ∧ w'.cell? (ad1109.add (t1106).toNat) = some (.slice A1109_0 (rd_L2 l1_0 t1106).length c1109_0)) (ds:=[]) (b67e 16 0) (by kernel_rfl) rfl rfl ⟨(blk_cell BK1099.out 0).trans rfl,(blk_cell BK1100.out 0).trans rfl,((HB.out.cell (World.block_lt_of_cell? w _ hw1108_0)).trans hw1108_0),((HB.out.cell (World.block_lt_of_cell? w _ hw1109_0)).trans hw1109_0)⟩ (fun hHeld => ?_); refine with_tabW spec_SameYard.tab10 spec_SameYard.bits10 (fun HT_ HW_ => ?_)
              generalize w43.drew = w44 at BK1099 BK1100 HB HR1108_0 HR1109_0 hx1108_0 hx1109_0 hHeld ⊢
              refine pure_ (i:=0) (N:=some 47) (v:=?_) (a':=?_) (b67e 16 1) rfl rfl (any_of HT_.out (by kernel_rfl)) (fun _ _ _ h => h) (Or.inl ⟨by rfl,?_⟩) ?_ ?_
              rotate_left
              ·intro w'
               go_simp
               with_reducible rfl
              rotate_left
              ·simp only [Act.put,List.setIfInBounds_toArray,List.set_cons_zero,List.set_cons_succ,i64_w,i32_w]
               rfl
              refine pure_ (i:=1) (N:=some 48) (v:=?_) (a':=?_) (b67e 16 3) rfl rfl (any_of HT_.out (by kernel_rfl)) (fun _ _ _ h => h) (Or.inl ⟨by rfl,?_⟩) ?_ ?_
              rotate_left
              ·intro w'
               go_simp
               with_reducible rfl
              rotate_left
              ·simp only [Act.put,List.setIfInBounds_toArray,List.set_cons_zero,List.set_cons_succ,i64_w,i32_w]
               rfl
              refine pure_ (i:=2) (N:=some 49) (v:=?_) (a':=?_) (b67e 16 7) rfl rfl (any_of HT_.out (by kernel_rfl)) (fun _ _ _ h => h) (Or.inl ⟨by rfl,?_⟩) ?_ ?_
              rotate_left
              ·intro w'
               go_simp
               with_reducible rfl
              rotate_left
              ·simp only [Act.put,List.setIfInBounds_toArray,List.set_cons_zero,List.set_cons_succ,i64_w,i32_w]
               rfl
              refine pure_ (i:=3) (N:=some 50) (v:=?_) (a':=?_) (b67e 16 15) rfl rfl (any_of HT_.out (by kernel_rfl)) (fun _ _ _ h => h) (Or.inl ⟨by rfl,?_⟩) ?_ ?_
              rotate_left
              ·intro w'
               go_simp
               with_reducible rfl
              rotate_left
              ·simp only [Act.put,List.setIfInBounds_toArray,List.set_cons_zero,List.set_cons_succ,i64_w,i32_w]
               rfl
              refine pure_ (i:=5) (N:=some 52) (v:=?_) (a':=?_) (b67e 16 47) rfl rfl (any_of HT_.out (by kernel_rfl)) (fun _ _ _ h => h) (Or.inl ⟨by rfl,?_⟩) ?_ ?_
              rotate_left
              ·intro w'
               go_simp
               with_reducible rfl
              rotate_left
              ·simp only [Act.put,List.setIfInBounds_toArray,List.set_cons_zero,List.set_cons_succ,i64_w,i32_w]
               rfl
              refine pure_ (i:=8) (N:=some 55) (v:=?_) (a':=?_) (b67e 16 303) rfl rfl (any_of HT_.out (by kernel_rfl)) (fun _ _ _ h => h) (Or.inl ⟨by rfl,?_⟩) ?_ ?_
              rotate_left
              ·intro w'
               go_simp
               with_reducible rfl
              rotate_left
              ·simp only [Act.put,List.setIfInBounds_toArray,List.set_cons_zero,List.set_cons_succ,i64_w,i32_w]
               rfl
              refine pure_ (i:=10) (N:=some 57) (v:=?_) (a':=?_) (b67e 16 1327) rfl rfl (any_of HT_.out (by kernel_rfl)) (fun _ _ _ h => h) (Or.inl ⟨by rfl,?_⟩) ?_ ?_
              rotate_left
              ·intro w'
               go_simp
               with_reducible rfl
              rotate_left
              ·simp only [Act.put,List.setIfInBounds_toArray,List.set_cons_zero,List.set_cons_succ,i64_w,i32_w]
               rfl
              refine take_ (i:=4) (N:=some 51) (v:=?_) (a':=?_) (b67e 16 1343) rfl rfl (take_ofW HT_.out HW_.out (by kernel_rfl)) (fun _ _ _ h => h) (Or.inl ⟨by rfl,?_⟩) hHeld ?_ ?_
              rotate_left
              ·rintro w' ⟨s0,s1,s2,s3⟩
               go_simp
               with_reducible rfl
              rotate_left
              ·simp only [Act.put,List.setIfInBounds_toArray,List.set_cons_zero,List.set_cons_succ,i64_w,i32_w]
               rfl
              refine pure_ (i:=6) (N:=some 53) (v:=?_) (a':=?_) (b67e 16 1407) rfl rfl (any_of HT_.out (by kernel_rfl)) (fun _ _ _ h => h) (Or.inl ⟨by rfl,?_⟩) ?_ ?_
              rotate_left
              ·intro w'
               go_simp
               with_reducible rfl
              rotate_left
              ·simp only [Act.put,List.setIfInBounds_toArray,List.set_cons_zero,List.set_cons_succ,i64_w,i32_w]
               rfl
              refine take_ (i:=7) (N:=some 54) (v:=?_) (a':=?_) (b67e 16 1535) rfl rfl (take_ofW HT_.out HW_.out (by kernel_rfl)) (fun _ _ _ h => h) (Or.inl ⟨by rfl,?_⟩) hHeld ?_ ?_
              rotate_left
              ·rintro w' ⟨s0,s1,s2,s3⟩
               go_simp
               with_reducible rfl
              rotate_left
              ·simp only [Act.put,List.setIfInBounds_toArray,List.set_cons_zero,List.set_cons_succ,i64_w,i32_w]
               rfl
              refine take_ (i:=9) (N:=some 56) (v:=?_) (a':=?_) (b67e 16 2047) rfl rfl (take_ofW HT_.out HW_.out (by kernel_rfl)) (fun _ _ _ h => h) (Or.inl ⟨by rfl,?_⟩) hHeld ?_ ?_
              rotate_left
              ·rintro w' ⟨s0,s1,s2,s3⟩
               go_simp
               with_reducible rfl
              rotate_left
              ·simp only [Act.put,List.setIfInBounds_toArray,List.set_cons_zero,List.set_cons_succ,i64_w,i32_w]
               rfl
              refine pure_ (i:=11) (N:=some 58) (v:=?_) (a':=?_) (b67e 16 4095) rfl rfl (any_of HT_.out (by kernel_rfl)) (fun _ _ _ h => h) (Or.inl ⟨by rfl,?_⟩) ?_ ?_
              rotate_left
              ·intro w'
               go_simp
               with_reducible rfl
              rotate_left
              ·simp only [Act.put,List.setIfInBounds_toArray,List.set_cons_zero,List.set_cons_succ,i64_w,i32_w]
               rfl
              refine take_ (i:=12) (N:=some 59) (v:=?_) (a':=?_) (b67e 16 8191) rfl rfl (take_ofW HT_.out HW_.out (by kernel_rfl)) (fun _ _ _ h => h) (Or.inl ⟨by rfl,?_⟩) hHeld ?_ ?_
              rotate_left
              ·rintro w' ⟨s0,s1,s2,s3⟩
               go_simp
               with_reducible rfl
              rotate_left
              ·simp only [Act.put,List.setIfInBounds_toArray,List.set_cons_zero,List.set_cons_succ,i64_w,i32_w]
               rfl
              refine one_ (i:=13) (N:=some 60) (b67e 16 16383) rfl rfl (one_of HT_.out (by kernel_rfl)) (by decide) (fun K hK => ?_)
              refine goes_ Try.func143 (by kernel_rfl) rfl #[.slice A1108_0 (rd_L2 l0_0 x7_2).length c1108_0,.slice A1109_0 (rd_L2 l1_0 t1106).length c1109_0] (by rfl) rfl rfl (by (try simp only [List.map_toArray,List.map_cons,List.map_nil]); (rfl)) ?_
              with_reducible refine (spec_l1Same.calls k2 _ _ (rd_L2 l0_0 x7_2) _ _ (rd_L2 l1_0 t1106) false _ ?side1 ?side2 ?side3 ?side4 A33.out).mono ?_
              (case side1 => repeat ((exact (Kd.C_below HR1108_0.out HB.out))))
              (case side2 => exact HC1108_0.out)
              (case side3 => repeat ((exact (Kd.C_below HR1109_0.out HB.out))))
              (case side4 => exact HC1109_0.out)
              rintro e w' ⟨rfl,⟨nd,rfl⟩⟩
              refine ⟨_,rfl,?_⟩
              refine hK.out _ _ ⟨(blk_cell BK1099.out 0).trans rfl,(blk_cell BK1100.out 0).trans rfl,((HB.out.cell (World.block_lt_of_cell? w _ hw1108_0)).trans hw1108_0),((HB.out.cell (World.block_lt_of_cell? w _ hw1109_0)).trans hw1109_0)⟩ (fun hHeld => ?_)
              clear hK K
              refine norm_ (a':=?_) ?_ ?_
              rotate_left
              ·show Act.put _ (some 60) _ = _
               simp only [Act.put,List.setIfInBounds_toArray,List.set_cons_zero,List.set_cons_succ,i64_w,i32_w]
               rfl
              refine pure_ (i:=14) (N:=some 61) (v:=?_) (a':=?_) (b67e 16 32767) rfl rfl (any_of HT_.out (by kernel_rfl)) (fun _ _ _ h => h) (Or.inl ⟨by rfl,?_⟩) ?_ ?_
              rotate_left
              ·intro w'
               go_simp
               with_reducible rfl
              rotate_left
              ·simp only [Act.put,List.setIfInBounds_toArray,List.set_cons_zero,List.set_cons_succ,i64_w,i32_w]
               rfl
              refine pure_ (i:=15) (N:=some 62) (v:=?_) (a':=?_) (b67e 16 65535) rfl rfl (any_of HT_.out (by kernel_rfl)) (fun _ _ _ h => h) (Or.inl ⟨by rfl,?_⟩) ?_ ?_
              rotate_left
              ·intro w'
               go_simp
               with_reducible rfl
              rotate_left
              ·simp only [Act.put,List.setIfInBounds_toArray,List.set_cons_zero,List.set_cons_succ,i64_w,i32_w]
               rfl
              refine done_ (done_of HT_.out (by kernel_rfl)) ?_
              try go_wp2
              go_ret2
              exact ⟨by (rfl),by repeat (with_reducible first|exact HB.out|apply pw_below_drewN)⟩
            ·rw [if_neg c32] at H
             exact absurd H (by simp)
           ·rw [if_neg c31] at H
            exact absurd H (by simp)
         ·rw [if_neg c23] at H
          exact absurd H (by simp)
       ·rw [if_neg c19] at H
        exact absurd H (by simp)
      ·rw [if_neg c18] at H
       have c18b0 : decide (x7_2 < (l0_0.length : Int)) = false:=decide_eq_false c18
       clear c18
       have H':=Aside0.mk H
       clear H
       have hnb45:=NB1099_1100.out
       have hnc45:=NB1100_1099.out
       have hcz46_0 : wr.cell? ⟨gb1099,0,none⟩ = some (.slice A0_0 l0_0.length c0_0):=(blk_cell BK1099.out 0).trans rfl
       have hfz46_0:=blk_frozen BK1099.out 0
       go_wp2
       go_loopg [6,10] k2 (fun kq v6 v10 w' => ∃ (x6_3 : Int) (x10_3 : Int),v6 = .int .i64 x6_3 ∧ v10 = .int .i64 x10_3 ∧ Aside0 (spec_SameYard.l1 kq x6_3 x10_3 l0_0 l1_0 = some (r1,r2)) ∧ Aside0 (kq ≤ k2) ∧ Aside0 (w'.heap[gb1099]? = some (.cells #[(.slice A0_0 l0_0.length c0_0)] 42 (0,0))) ∧ Aside0 (w'.heap[gb1100]? = some (.cells #[(.slice A1_0 l1_0.length c1_0)] 42 (0,0))) ∧ Aside0 (Below w.heap.size w w'))
       case atStart => exact ⟨(x6_2),(0),(by (rfl)),(by (rfl)),H',⟨Nat.le_refl _⟩,⟨by exact BK1099.out⟩,⟨by exact BK1100.out⟩,⟨by repeat (((with_reducible (exact HB.out))))⟩⟩
       case round =>
        clear H'
        try clear c1
        try clear p1
        try clear q1
        try clear hx1
        try clear qi1
        try clear c2
        try clear p2
        try clear c3
        try clear c4
        try clear p6
        try clear c11
        try clear p11
        try clear q11
        try clear hx11
        try clear qi11
        try clear c14
        try clear c18
        try clear c18b0
        try clear c19
        try clear c23
        try clear c31
        try clear c32
        try clear c34
        try clear c40
        try clear c45
        try clear hcz41_0
        try clear hcz46_0
        try clear hfz41_0
        try clear hfz46_0
        try clear hx1103_0
        try clear hx1104_0
        try clear hx1105_0
        try clear hx1108_0
        try clear hx1109_0
        try clear p1103
        try clear p1104
        try clear p1105
        try clear p1108
        try clear p1109
        try clear q1103
        try clear q1104
        try clear q1105
        try clear q1108
        try clear q1109
        obtain ⟨x6_3,x10_3,rfl,rfl,HA,HK3,BK1099,BK1100,HB⟩:=hrel
        cases gk with
        | zero => exact absurd HA.out (by simp [spec_SameYard.l1])
        | succ k3 =>
         have H:=HA.out
         clear HA
         simp only [spec_SameYard.l1] at H
         by_cases c47 : x10_3 < (l1_0.length : Int)
         ·rw [if_pos c47] at H
          have c47b0 : decide (x10_3 < (l1_0.length : Int)) = true:=decide_eq_true c47
          clear c47
          by_cases c48 : 0 ≤ x10_3
          ·rw [if_pos c48] at H
           have c48b0 : decide (0 ≤ x10_3) = true:=decide_eq_true c48
           clear c48
           by_cases c49 : ((rd_L2 l1_0 x10_3).length : Int) = 0
           ·rw [if_pos c49] at H
            have c49b0 : (((rd_L2 l1_0 x10_3).length : Int) == 0) = true:=beq_iff_eq.mpr c49
            have c49b1 : (((rd_L2 l1_0 x10_3).length : Int) != 0) = false:=bne_eq_false_iff_eq.mpr c49
            clear c49
            have H':=Aside0.mk H
            clear H
            have hnb50:=NB1100_1099.out
            have hnc50:=NB1099_1100.out
            have hcz51_0 : wr.cell? ⟨gb1100,0,none⟩ = some (.slice A1_0 l1_0.length c1_0):=(blk_cell BK1100.out 0).trans rfl
            have hfz51_0:=blk_frozen BK1100.out 0
            have p1111 : 0 ≤ (x10_3 : Int):=of_decide_eq_true (by (with_reducible assumption))
            have q1111 : x10_3 < (l1_0.length : Int):=of_decide_eq_true (by (with_reducible assumption))
            obtain ⟨ad1111,A1111_0,c1111_0,e1111,hx1111_0,hl1111_0,hi1111_0⟩:=at_L2 HR1_0.out x10_3 p1111 q1111
            cases e1111
            replace hx1111_0:=(HB.out.cell (World.block_lt_of_cell? w _ hx1111_0)).trans hx1111_0
            have HR1111_0:=Aside0.mk hi1111_0
            have HC1111_0:=Aside0.mk hl1111_0
            clear hi1111_0 hl1111_0
            replace p1111:=eq_true p1111
            replace q1111:=eq_true q1111
            go_wp2
            go_roundg k3
            case measure => have:=HJ2.out; have:=HK2.out; have:=HK3.out; omega
            case rel => exact ⟨(wrap64 (x6_3 - 1)),(wrap64 (x10_3 + 1)),(by (rfl)),(by (rfl)),H',⟨by have:=HJ2.out; have:=HK2.out; have:=HK3.out; omega⟩,⟨by exact BK1099.out⟩,⟨by exact BK1100.out⟩,⟨by repeat (((with_reducible (exact HB.out))))⟩⟩
           ·rw [if_neg c49] at H
            have c49b0 : (((rd_L2 l1_0 x10_3).length : Int) == 0) = false:=beq_eq_false_iff_ne.mpr c49
            have c49b1 : (((rd_L2 l1_0 x10_3).length : Int) != 0) = true:=bne_iff_ne.mpr c49
            have c49b2 : ¬ ((rd_L2 l1_0 x10_3) = []):=fun h_ => c49 (by rw [h_]; rfl)
            have H':=Aside0.mk H
            clear H
            have hnb52:=NB1100_1099.out
            have hnc52:=NB1099_1100.out
            have hcz53_0 : wr.cell? ⟨gb1100,0,none⟩ = some (.slice A1_0 l1_0.length c1_0):=(blk_cell BK1100.out 0).trans rfl
            have hfz53_0:=blk_frozen BK1100.out 0
            have p1111 : 0 ≤ (x10_3 : Int):=of_decide_eq_true (by (with_reducible assumption))
            have q1111 : x10_3 < (l1_0.length : Int):=of_decide_eq_true (by (with_reducible assumption))
            obtain ⟨ad1111,A1111_0,c1111_0,e1111,hx1111_0,hl1111_0,hi1111_0⟩:=at_L2 HR1_0.out x10_3 p1111 q1111
            cases e1111
            replace hx1111_0:=(HB.out.cell (World.block_lt_of_cell? w _ hx1111_0)).trans hx1111_0
            have HR1111_0:=Aside0.mk hi1111_0
            have HC1111_0:=Aside0.mk hl1111_0
            clear hi1111_0 hl1111_0
            replace p1111:=eq_true p1111
            replace q1111:=eq_true q1111
            go_wp2
            go_roundg k3
            case measure => have:=HJ2.out; have:=HK2.out; have:=HK3.out; omega
            case rel => exact ⟨(x6_3),(wrap64 (x10_3 + 1)),(by (rfl)),(by (rfl)),H',⟨by have:=HJ2.out; have:=HK2.out; have:=HK3.out; omega⟩,⟨by exact BK1099.out⟩,⟨by exact BK1100.out⟩,⟨by repeat (((with_reducible (exact HB.out))))⟩⟩
          ·rw [if_neg c48] at H
           exact absurd H (by simp)
         ·rw [if_neg c47] at H
          have c47b0 : decide (x10_3 < (l1_0.length : Int)) = false:=decide_eq_false c47
          clear c47
          by_cases c54 : x6_3 = 0
          ·rw [if_pos c54] at H
           have c54b0 : (x6_3 == 0) = true:=beq_iff_eq.mpr c54
           have c54b1 : (x6_3 != 0) = false:=bne_eq_false_iff_eq.mpr c54
           clear c54
           simp only [Option.some.injEq,Prod.mk.injEq] at H
           obtain ⟨rfl,rfl⟩:=H
           have hnb55:=NB1100_1099.out
           have hnc55:=NB1099_1100.out
           have hcz56_0 : wr.cell? ⟨gb1100,0,none⟩ = some (.slice A1_0 l1_0.length c1_0):=(blk_cell BK1100.out 0).trans rfl
           have hfz56_0:=blk_frozen BK1100.out 0
           have hcz57_0 : wr.cell? ⟨gb1099,0,none⟩ = some (.slice A0_0 l0_0.length c0_0):=(blk_cell BK1099.out 0).trans rfl
           have hfz57_0:=blk_frozen BK1099.out 0
           go_wp2
           go_ret2
           exact ⟨by (rfl),by repeat (((with_reducible (exact HB.out))))⟩
          ·rw [if_neg c54] at H
           have c54b0 : (x6_3 == 0) = false:=beq_eq_false_iff_ne.mpr c54
           have c54b1 : (x6_3 != 0) = true:=bne_iff_ne.mpr c54
           simp only [Option.some.injEq,Prod.mk.injEq] at H
           obtain ⟨rfl,rfl⟩:=H
           have hnb58:=NB1100_1099.out
           have hnc58:=NB1099_1100.out
           have hcz59_0 : wr.cell? ⟨gb1100,0,none⟩ = some (.slice A1_0 l1_0.length c1_0):=(blk_cell BK1100.out 0).trans rfl
           have hfz59_0:=blk_frozen BK1100.out 0
           go_wp2
           go_ret2
           exact ⟨by (rfl),by repeat (((with_reducible (exact HB.out))))⟩

end Go.Proofs.Ytlldonokjgoajaa.X
