-- Written by a program of ours (wip/bin/xprint.py,over the kit's print.py) out of the translation. Not trusted: Lean checks it.
import Derived.Test.YtfindomajbjacaaGreatDoorX0
import Derived.Test.YtfindomajbjacaaGreatDoorFbGoodA
import Derived.Test.YtfindomajbjacaaGreatDoorFbIdx
import Derived.Test.YtfindomajbjacaaGreatDoorFspecl1Read
import Derived.Test.YtfindomajbjacaaGreatDoorFspecl1Split
import Derived.Test.YtfindomajbjacaaGreatDoorFspecl4Text
namespace Go.Proofs.YtfindomajbjacaaGreatDoor.X
open Go.RowKit Go.Proofs.YtfindomajbjacaaGreatDoorW.PrintWords Go.Proofs.YtfindomajbjacaaGreatDoorW.PrintLast Go.Proofs.YtfindomajbjacaaGreatDoorW.PrintMore
def lbda4 : Nat → Nat → List Bool
 | 0,_ => []
 | n+1,m => (m%2==1) :: lbda4 n (m/2)
def bda4 (n m : Nat) : Array Bool := ⟨lbda4 n m⟩
attribute [local go_sem] max2_int min2_int max_two min_two max_three min_three max_four min_four   -- for this text's walks alone
set_option linter.unusedVariables false
set_option linter.unusedSimpArgs false

/-! ### spec_l4Parse: function 67 -/
def spec_l4Parse.j0 : Nat → ByteArray → List ByteArray → Bool → ByteArray → Int → Int → Int → Int → Option (ByteArray × Int × Int × Int × Int × Bool)
 | 0,_,_,_,_,_,_,_,_ => none
 | k + 1,x0,x5,x21,x914000,x914001,x914002,x914003,x914004 => if x21 = true then (some (x914000,x914001,x914002,x914003,x914004,false)) else (if 2 < (x5.length : Int) then ((spec_l1Read.f k (rdOf ByteArray.empty x5 2)).bind fun bt918 => (if 4 < (x5.length : Int) then ((spec_l1Read.f k (rdOf ByteArray.empty x5 4)).bind fun bt921 => (if 0 < (x5.length : Int) then (if 1 < (x5.length : Int) then ((spec_l4Index.f k (([(⟨#[]⟩ : ByteArray),(⟨#[115,109,97,108,108]⟩ : ByteArray),(⟨#[108,97,114,103,101]⟩ : ByteArray)] : List ByteArray)) (rdOf ByteArray.empty x5 1)).bind fun t928 => (if 3 < (x5.length : Int) then ((spec_l4Index.f k (([(⟨#[]⟩ : ByteArray),(⟨#[112,108,97,105,110]⟩ : ByteArray),(⟨#[114,101,101,102,101,114]⟩ : ByteArray),(⟨#[100,97,110,103,101,114]⟩ : ByteArray)] : List ByteArray)) (rdOf ByteArray.empty x5 3)).bind fun t933 => (if bt918.2 = true then (if bt921.2 = true then ((spec_l2Good.f k (rdOf ByteArray.empty x5 0) t928 bt918.1 t933 bt921.1).bind fun t935 => (if t935 = true then ((spec_l4Text.f k (rdOf ByteArray.empty x5 0) t928 bt918.1 t933 bt921.1).bind fun t936 => (if t936.toList = x0.toList then (some (rdOf ByteArray.empty x5 0,t928,bt918.1,t933,bt921.1,true)) else (some (x914000,x914001,x914002,x914003,x914004,false)))) else (some (x914000,x914001,x914002,x914003,x914004,false)))) else (some (x914000,x914001,x914002,x914003,x914004,false))) else (some (x914000,x914001,x914002,x914003,x914004,false)))) else (none))) else (none)) else (none))) else (none))) else (none))
def spec_l4Parse.f (k : Nat) (a0 : ByteArray) : Option (ByteArray × Int × Int × Int × Int × Bool):=(spec_l1Split.f k a0 32).bind fun t914 => (if (a0.size : Int) > 60 then (spec_l4Parse.j0 k a0 t914 true (⟨#[]⟩ : ByteArray) 0 0 0 0) else (spec_l4Parse.j0 k a0 t914 ((t914.length : Int) != 5) (⟨#[]⟩ : ByteArray) 0 0 0 0))
theorem spec_l4Parse.mono_l : ∀ k,(∀ y0 y1 y2 y3 y4 y5 y6 y7,LeO (spec_l4Parse.j0 k y0 y1 y2 y3 y4 y5 y6 y7) (spec_l4Parse.j0 (k + 1) y0 y1 y2 y3 y4 y5 y6 y7))
 | 0 => fun _ _ _ _ _ _ _ _ r h => by simp [spec_l4Parse.j0] at h
 | k + 1 => by
  have ih0:=spec_l4Parse.mono_l k
  ·intro y0 y1 y2 y3 y4 y5 y6 y7
   unfold spec_l4Parse.j0
   repeat' first
   | (with_reducible exact ih0 _ _ _ _ _ _ _ _)
   | (with_reducible exact spec_l1Read.mono _ _)
   | (with_reducible exact spec_l1Split.mono _ _ _)
   | (with_reducible exact spec_l2Good.mono _ _ _ _ _ _)
   | (with_reducible exact spec_l4Index.mono _ _ _)
   | (with_reducible exact spec_l4Text.mono _ _ _ _ _ _)
   | (with_reducible exact LeO.refl _)
   | (with_reducible exact LeO.none _)
   | (with_reducible refine LeO.ite ?_ ?_)
   | (with_reducible refine LeO.bind ?_ (fun _ => ?_))
   | exact ih0 _ _ _ _ _ _ _ _
   | exact spec_l1Read.mono _ _
   | exact spec_l1Split.mono _ _ _
   | exact spec_l2Good.mono _ _ _ _ _ _
   | exact spec_l4Index.mono _ _ _
   | exact spec_l4Text.mono _ _ _ _ _ _
   | exact LeO.none _
   | refine LeO.ite ?_ ?_
   | refine LeO.bind ?_ (fun _ => ?_)
theorem spec_l4Parse.mono : ∀ a0 k,LeO (spec_l4Parse.f k a0) (spec_l4Parse.f (k + 1) a0):=by
 intro a0 k
 have ih0:=spec_l4Parse.mono_l k
 unfold spec_l4Parse.f
 repeat' first
   | (with_reducible exact ih0 _ _ _ _ _ _ _ _)
   | (with_reducible exact spec_l1Read.mono _ _)
   | (with_reducible exact spec_l1Split.mono _ _ _)
   | (with_reducible exact spec_l2Good.mono _ _ _ _ _ _)
   | (with_reducible exact spec_l4Index.mono _ _ _)
   | (with_reducible exact spec_l4Text.mono _ _ _ _ _ _)
   | (with_reducible exact LeO.refl _)
   | (with_reducible exact LeO.none _)
   | (with_reducible refine LeO.ite ?_ ?_)
   | (with_reducible refine LeO.bind ?_ (fun _ => ?_))
   | exact ih0 _ _ _ _ _ _ _ _
   | exact spec_l1Read.mono _ _
   | exact spec_l1Split.mono _ _ _
   | exact spec_l2Good.mono _ _ _ _ _ _
   | exact spec_l4Index.mono _ _ _
   | exact spec_l4Text.mono _ _ _ _ _ _
   | exact LeO.none _
   | refine LeO.ite ?_ ?_
   | refine LeO.bind ?_ (fun _ => ?_)
def spec_l4Parse.T7 : Bool × List (List Nat × List Nat):=(true,[([],[]),([0],[0]),([1],[1]),([],[]),([],[]),([4],[4]),([5],[5]),([3,6],[3,6]),([],[]),([],[]),([],[]),([10],[10]),([11],[11]),([9,12,7],[9,12]),([],[]),([2,7,8,13,14],[2,7,8,13,14]),([],[]),([16,15,13,0,1,2,3,4,5,6,7,8,9,10,11,12,13,14,15,16],[15,16])])
def spec_l4Parse.B7 : List Nat:=[0,1,3,0,0,16,48,120,0,0,0,1024,3072,7928,0,32767,0,131071]
theorem spec_l4Parse.tab7 : rtab .any (opsOf Tryz.f67 7) = spec_l4Parse.T7:=by kernel_rfl
theorem spec_l4Parse.bits7 : waitsOk spec_l4Parse.T7.2 spec_l4Parse.B7 = true:=by kernel_rfl
set_option maxHeartbeats 8000000 in
set_option maxRecDepth 100000 in
theorem spec_l4Parse.calls (k : Nat) (a0 : ByteArray) (r1 : ByteArray) (r2 : Int) (r3 : Int) (r4 : Int) (r5 : Int) (r6 : Bool) (w : World) (h : spec_l4Parse.f k a0 = some (r1,r2,r3,r4,r5,r6)) :
  Calls Tryz.prog 67 #[.string a0] w fun e w' => e = .returned (.tuple #[.agg #[.string r1,.int .i64 r2,.int .i64 r3,.int .i64 r4,.int .i64 r5],.bool r6]) ∧ Below w.heap.size w w':=by
 have hu50:=Tryz.underlying50
 have HB:=Aside0.mk (Below.refl w.heap.size w)
 have H : ((spec_l1Split.f k a0 32).bind fun t914 => (if (a0.size : Int) > 60 then (spec_l4Parse.j0 k a0 t914 true (⟨#[]⟩ : ByteArray) 0 0 0 0) else (spec_l4Parse.j0 k a0 t914 ((t914.length : Int) != 5) (⟨#[]⟩ : ByteArray) 0 0 0 0))) = some (r1,r2,r3,r4,r5,r6):=h
 clear h
 replace H:=Option.bind_eq_some_iff.mp H
 obtain ⟨t914,A20,H⟩:=H
 replace H : (if (a0.size : Int) > 60 then (spec_l4Parse.j0 k a0 t914 true (⟨#[]⟩ : ByteArray) 0 0 0 0) else (spec_l4Parse.j0 k a0 t914 ((t914.length : Int) != 5) (⟨#[]⟩ : ByteArray) 0 0 0 0)) = some (r1,r2,r3,r4,r5,r6):=H
 have A2:=Aside0.mk A20
 clear A20
 have HC3:=Aside0.mk H
 clear H
 go_enter Tryz.func67,Tryz.ntmps67
 go_upto_region 3 with (first|((with_reducible refine gate_dst (N:=2) rfl ?_); (try (refine gate_guard (by rfl) ?_; dsimp only)); refine box_event ?hg (N:=2) ?hd (cs:=#[.string (⟨#[]⟩ : ByteArray),.int .i64 0,.int .i64 0,.int .i64 0,.int .i64 0]) (t:=50) ?hr ?_; (case hd => rfl); (case hg => rfl); (case hr => (go_simp; done)); intro gb912 hg w4 hbox hb; have n0_:=Aside0.mk (below_step (by repeat (((with_reducible (exact HB.out))))) hb); have n1_:=Aside0.mk (hbox); have n2_:=Aside0.mk ((by rw [hg]; exact (below_size (by repeat (((with_reducible (exact HB.out)))))) : w.heap.size ≤ gb912)); have n3_:=Aside0.mk ((by rw [hg]; exact (below_size (by repeat (((with_reducible (exact HB.out)))))) : w.heap.size ≤ gb912)); clear HB; have HB:=n0_; have BK912:=n1_; have GW912:=n2_; have GE912:=n3_; clear n0_ n1_ n2_ n3_; clear hb hbox hg)|((with_reducible refine gate_dst (N:=4) rfl ?_); (try (refine gate_guard (by rfl) ?_; dsimp only)); refine box_event ?hg (N:=4) ?hd (cs:=#[.string (⟨#[]⟩ : ByteArray),.int .i64 0,.int .i64 0,.int .i64 0,.int .i64 0]) (t:=50) ?hr ?_; (case hd => rfl); (case hg => rfl); (case hr => (go_simp; done)); intro gb913 hg w5 hbox hb; have n0_:=Aside0.mk (blk_below (g:=gb912) (o:=.cells #[.string (⟨#[]⟩ : ByteArray),.int .i64 0,.int .i64 0,.int .i64 0,.int .i64 0] 50 (0,0)) (by exact BK912.out) hb); have n1_:=Aside0.mk (below_step (by repeat (((with_reducible (exact HB.out))))) hb); have n2_:=Aside0.mk (hbox); have n3_:=Aside0.mk ((by rw [hg]; exact (below_size (by repeat (((with_reducible (exact HB.out)))))) : w.heap.size ≤ gb913)); have n4_:=Aside0.mk ((by rw [hg]; exact (below_size (by repeat (((with_reducible (exact HB.out)))))) : w.heap.size ≤ gb913)); have n5_:=Aside0.mk ((by rw [hg]; exact Nat.ne_of_lt (blk_lt (g:=gb912) (o:=.cells #[.string (⟨#[]⟩ : ByteArray),.int .i64 0,.int .i64 0,.int .i64 0,.int .i64 0] 50 (0,0)) (by exact BK912.out)) : gb912 ≠ gb913)); have n6_:=Aside0.mk ((by rw [hg]; exact Nat.ne_of_gt (blk_lt (g:=gb912) (o:=.cells #[.string (⟨#[]⟩ : ByteArray),.int .i64 0,.int .i64 0,.int .i64 0,.int .i64 0] 50 (0,0)) (by exact BK912.out)) : gb913 ≠ gb912)); clear BK912; clear HB; have BK912:=n0_; have HB:=n1_; have BK913:=n2_; have GW913:=n3_; have GE913:=n4_; have NB912_913:=n5_; have NB913_912:=n6_; clear n0_ n1_ n2_ n3_ n4_ n5_ n6_; clear hb hbox hg; have hnb6:=NB913_912.out; have hnc6:=NB912_913.out; have hcz7_0 : w5.cell? ⟨gb913,0,none⟩ = some (.string (⟨#[]⟩ : ByteArray)):=(blk_cell BK913.out 0).trans rfl; have hcz7_1 : w5.cell? ⟨gb913,1,none⟩ = some (.int .i64 0):=(blk_cell BK913.out 1).trans rfl; have hcz7_2 : w5.cell? ⟨gb913,2,none⟩ = some (.int .i64 0):=(blk_cell BK913.out 2).trans rfl; have hcz7_3 : w5.cell? ⟨gb913,3,none⟩ = some (.int .i64 0):=(blk_cell BK913.out 3).trans rfl; have hcz7_4 : w5.cell? ⟨gb913,4,none⟩ = some (.int .i64 0):=(blk_cell BK913.out 4).trans rfl; have hfz7_0:=blk_frozen BK913.out 0; have hfz7_1:=blk_frozen BK913.out 1; have hfz7_2:=blk_frozen BK913.out 2; have hfz7_3:=blk_frozen BK913.out 3; have hfz7_4:=blk_frozen BK913.out 4)|((with_reducible refine gate_callee (f:=52) rfl ?_); refine goesL_ (some 13) rfl rfl Tryz.func52 (by kernel_rfl) rfl #[.string a0,.int .u8 32] rfl (by (try simp only [List.map_toArray,List.map_cons,List.map_nil]); (rfl)) ?_; (with_reducible refine (spec_l1Split.calls k a0 32 t914 _ A2.out).mono ?_); rintro e w8 ⟨v915,rfl,ho0,hb⟩; refine ⟨_,rfl,?_⟩; have n0_:=Aside0.mk (Kd.R_lower ho0 (below_size (by repeat (with_reducible first|exact HB.out|refine below_set ?_ GE913.out)))); have n1_:=Aside0.mk (blk_below (g:=gb912) (o:=.cells #[.string (⟨#[]⟩ : ByteArray),.int .i64 0,.int .i64 0,.int .i64 0,.int .i64 0] 50 (0,0)) (by refine blk_far ?_ NB912_913.out _; refine blk_far ?_ NB912_913.out _; refine blk_far ?_ NB912_913.out _; refine blk_far ?_ NB912_913.out _; refine blk_far ?_ NB912_913.out _; exact BK912.out) hb); have n2_:=Aside0.mk (blk_below (g:=gb913) (o:=.cells #[.string (⟨#[]⟩ : ByteArray),.int .i64 0,.int .i64 0,.int .i64 0,.int .i64 0] 50 (0,0)) (by refine blk_put (cs:=#[.string (⟨#[]⟩ : ByteArray),.int .i64 0,.int .i64 0,.int .i64 0,.int .i64 0]) ?_ 4 _ rfl; refine blk_put (cs:=#[.string (⟨#[]⟩ : ByteArray),.int .i64 0,.int .i64 0,.int .i64 0,.int .i64 0]) ?_ 3 _ rfl; refine blk_put (cs:=#[.string (⟨#[]⟩ : ByteArray),.int .i64 0,.int .i64 0,.int .i64 0,.int .i64 0]) ?_ 2 _ rfl; refine blk_put (cs:=#[.string (⟨#[]⟩ : ByteArray),.int .i64 0,.int .i64 0,.int .i64 0,.int .i64 0]) ?_ 1 _ rfl; refine blk_put (cs:=#[.string (⟨#[]⟩ : ByteArray),.int .i64 0,.int .i64 0,.int .i64 0,.int .i64 0]) ?_ 0 _ rfl; exact BK913.out) hb); have n3_:=Aside0.mk (below_step (by repeat (with_reducible first|exact HB.out|refine below_set ?_ GE913.out)) hb); clear BK912; clear BK913; clear HB; have HO916:=n0_; have BK912:=n1_; have BK913:=n2_; have HB:=n3_; clear n0_ n1_ n2_ n3_; (try clear hb); (try clear hb2); (try clear hk); (try clear hi); (try clear ho0)))
 (try simp only [Act.put,List.setIfInBounds_toArray,List.set_cons_zero,List.set_cons_succ])
 go_cut [21] (fun v21 wc => ∃ (kq : Nat) (x21_2 : Bool),v21 = .bool x21_2 ∧ Aside0 (spec_l4Parse.j0 kq a0 t914 x21_2 (⟨#[]⟩ : ByteArray) 0 0 0 0 = some (r1,r2,r3,r4,r5,r6)) ∧ Aside0 (kq ≤ k) ∧ Aside0 (Kd.R Kd.string 9 wc w.heap.size (fun _ => True) v915 t914) ∧ Aside0 (wc.heap[gb912]? = some (.cells #[.string (⟨#[]⟩ : ByteArray),.int .i64 0,.int .i64 0,.int .i64 0,.int .i64 0] 50 (0,0))) ∧ Aside0 (wc.heap[gb913]? = some (.cells #[.string (⟨#[]⟩ : ByteArray),.int .i64 0,.int .i64 0,.int .i64 0,.int .i64 0] 50 (0,0))) ∧ Aside0 (Below w.heap.size w wc))
 case first =>
  have H:=HC3.out
  clear HC3
  by_cases c9 : (a0.size : Int) > 60
  ·rw [if_pos c9] at H
   have c9b0 : decide (60 < (a0.size : Int)) = true:=decide_eq_true c9
   have c9b1 : decide (60 < a0.size) = true:=decide_eq_true (by omega)
   clear c9
   (skip)
   have H':=Aside0.mk H
   clear H
   go_wp2
   go_meet
   case rel => exact ⟨_,(true),(by (rfl)),H',⟨by (omega)⟩,⟨by exact HO916.out⟩,⟨by exact BK912.out⟩,⟨by exact BK913.out⟩,⟨by repeat (((with_reducible (exact HB.out))))⟩⟩
  ·rw [if_neg c9] at H
   have c9b0 : decide (60 < (a0.size : Int)) = false:=decide_eq_false c9
   have c9b1 : decide (60 < a0.size) = false:=decide_eq_false (by omega)
   clear c9
   (skip)
   have H':=Aside0.mk H
   clear H
   obtain ⟨Ao10,co10,eo10⟩:=Kd.R_slice HO916.out
   subst eo10
   go_wp2
   go_meet
   case rel => exact ⟨_,(((t914.length : Int) != 5)),(by (rfl)),H',⟨by (omega)⟩,⟨by exact HO916.out⟩,⟨by exact BK912.out⟩,⟨by exact BK913.out⟩,⟨by repeat (((with_reducible (exact HB.out))))⟩⟩
 case rest =>
  clear HC3
  try clear p2
  try clear c5
  try clear c6
  try clear c9
  try clear c9b0
  try clear c9b1
  try clear hcz7_0
  try clear hcz7_1
  try clear hcz7_2
  try clear hcz7_3
  try clear hcz7_4
  try clear hfz7_0
  try clear hfz7_1
  try clear hfz7_2
  try clear hfz7_3
  try clear hfz7_4
  obtain ⟨kq,x21_2,rfl,HA,HJ2,HO_5,BK912,BK913,HB⟩:=hcut
  cases kq with
  | zero => exact absurd HA.out (by simp [spec_l4Parse.j0])
  | succ kj2 =>
   have H:=HA.out
   clear HA
   simp only [spec_l4Parse.j0] at H
   by_cases c11 : x21_2 = true
   ·subst c11
    have H1 : (some ((⟨#[]⟩ : ByteArray),0,0,0,0,false)) = some (r1,r2,r3,r4,r5,r6):=by rw [if_pos rfl] at H; exact H
    clear H
    have H:=H1
    clear H1
    simp only [Option.some.injEq,Prod.mk.injEq] at H
    obtain ⟨rfl,rfl,rfl,rfl,rfl,rfl⟩:=H
    have hnb12:=NB913_912.out
    have hnc12:=NB912_913.out
    have hcz13_0 : wc.cell? ⟨gb913,0,none⟩ = some (.string (⟨#[]⟩ : ByteArray)):=(blk_cell BK913.out 0).trans rfl
    have hcz13_1 : wc.cell? ⟨gb913,1,none⟩ = some (.int .i64 0):=(blk_cell BK913.out 1).trans rfl
    have hcz13_2 : wc.cell? ⟨gb913,2,none⟩ = some (.int .i64 0):=(blk_cell BK913.out 2).trans rfl
    have hcz13_3 : wc.cell? ⟨gb913,3,none⟩ = some (.int .i64 0):=(blk_cell BK913.out 3).trans rfl
    have hcz13_4 : wc.cell? ⟨gb913,4,none⟩ = some (.int .i64 0):=(blk_cell BK913.out 4).trans rfl
    have hfz13_0:=blk_frozen BK913.out 0
    have hfz13_1:=blk_frozen BK913.out 1
    have hfz13_2:=blk_frozen BK913.out 2
    have hfz13_3:=blk_frozen BK913.out 3
    have hfz13_4:=blk_frozen BK913.out 4
    have hcz14_0 : wc.cell? ⟨gb912,0,none⟩ = some (.string (⟨#[]⟩ : ByteArray)):=(blk_cell BK912.out 0).trans rfl
    have hcz14_1 : wc.cell? ⟨gb912,1,none⟩ = some (.int .i64 0):=(blk_cell BK912.out 1).trans rfl
    have hcz14_2 : wc.cell? ⟨gb912,2,none⟩ = some (.int .i64 0):=(blk_cell BK912.out 2).trans rfl
    have hcz14_3 : wc.cell? ⟨gb912,3,none⟩ = some (.int .i64 0):=(blk_cell BK912.out 3).trans rfl
    have hcz14_4 : wc.cell? ⟨gb912,4,none⟩ = some (.int .i64 0):=(blk_cell BK912.out 4).trans rfl
    have hfz14_0:=blk_frozen BK912.out 0
    have hfz14_1:=blk_frozen BK912.out 1
    have hfz14_2:=blk_frozen BK912.out 2
    have hfz14_3:=blk_frozen BK912.out 3
    have hfz14_4:=blk_frozen BK912.out 4
    go_wp2
    refine bodyPost_ret (results_ct rfl _ _ gb912 50 #[.string (⟨#[]⟩ : ByteArray),.int .i64 0,.int .i64 0,.int .i64 0,.int .i64 0] (0,0) _ rfl (by refine blk_put (cs:=#[.string (⟨#[]⟩ : ByteArray),.int .i64 0,.int .i64 0,.int .i64 0,.int .i64 0]) ?_ 4 _ rfl; refine blk_put (cs:=#[.string (⟨#[]⟩ : ByteArray),.int .i64 0,.int .i64 0,.int .i64 0,.int .i64 0]) ?_ 3 _ rfl; refine blk_put (cs:=#[.string (⟨#[]⟩ : ByteArray),.int .i64 0,.int .i64 0,.int .i64 0,.int .i64 0]) ?_ 2 _ rfl; refine blk_put (cs:=#[.string (⟨#[]⟩ : ByteArray),.int .i64 0,.int .i64 0,.int .i64 0,.int .i64 0]) ?_ 1 _ rfl; refine blk_put (cs:=#[.string (⟨#[]⟩ : ByteArray),.int .i64 0,.int .i64 0,.int .i64 0,.int .i64 0]) ?_ 0 _ rfl; exact BK912.out) Tryz.underlying50 rfl (by kernel_rfl)) rfl ?_
    exact ⟨by (rfl),by repeat (with_reducible first|exact HB.out|refine below_set ?_ GE912.out)⟩
   ·replace c11:=Bool.eq_false_iff.mpr c11
    subst c11
    have H1 : (if 2 < (t914.length : Int) then ((spec_l1Read.f kj2 (rdOf ByteArray.empty t914 2)).bind fun bt918 => (if 4 < (t914.length : Int) then ((spec_l1Read.f kj2 (rdOf ByteArray.empty t914 4)).bind fun bt921 => (if 0 < (t914.length : Int) then (if 1 < (t914.length : Int) then ((spec_l4Index.f kj2 (([(⟨#[]⟩ : ByteArray),(⟨#[115,109,97,108,108]⟩ : ByteArray),(⟨#[108,97,114,103,101]⟩ : ByteArray)] : List ByteArray)) (rdOf ByteArray.empty t914 1)).bind fun t928 => (if 3 < (t914.length : Int) then ((spec_l4Index.f kj2 (([(⟨#[]⟩ : ByteArray),(⟨#[112,108,97,105,110]⟩ : ByteArray),(⟨#[114,101,101,102,101,114]⟩ : ByteArray),(⟨#[100,97,110,103,101,114]⟩ : ByteArray)] : List ByteArray)) (rdOf ByteArray.empty t914 3)).bind fun t933 => (if bt918.2 = true then (if bt921.2 = true then ((spec_l2Good.f kj2 (rdOf ByteArray.empty t914 0) t928 bt918.1 t933 bt921.1).bind fun t935 => (if t935 = true then ((spec_l4Text.f kj2 (rdOf ByteArray.empty t914 0) t928 bt918.1 t933 bt921.1).bind fun t936 => (if t936.toList = a0.toList then (some (rdOf ByteArray.empty t914 0,t928,bt918.1,t933,bt921.1,true)) else (some ((⟨#[]⟩ : ByteArray),0,0,0,0,false)))) else (some ((⟨#[]⟩ : ByteArray),0,0,0,0,false)))) else (some ((⟨#[]⟩ : ByteArray),0,0,0,0,false))) else (some ((⟨#[]⟩ : ByteArray),0,0,0,0,false)))) else (none))) else (none)) else (none))) else (none))) else (none)) = some (r1,r2,r3,r4,r5,r6):=by rw [if_neg (show ¬ (false = true) by decide)] at H; exact H
    clear H
    have H:=H1
    clear H1
    by_cases c15 : 2 < (t914.length : Int)
    ·rw [if_pos c15] at H
     have c15b0 : decide (2 < (t914.length : Int)) = true:=decide_eq_true c15
     have c15b1 : decide (2 < t914.length) = true:=decide_eq_true (by omega)
     clear c15
     replace H:=Option.bind_eq_some_iff.mp H
     obtain ⟨⟨t918,t919⟩,A160,H⟩:=H
     replace H : (if 4 < (t914.length : Int) then ((spec_l1Read.f kj2 (rdOf ByteArray.empty t914 4)).bind fun bt921 => (if 0 < (t914.length : Int) then (if 1 < (t914.length : Int) then ((spec_l4Index.f kj2 (([(⟨#[]⟩ : ByteArray),(⟨#[115,109,97,108,108]⟩ : ByteArray),(⟨#[108,97,114,103,101]⟩ : ByteArray)] : List ByteArray)) (rdOf ByteArray.empty t914 1)).bind fun t928 => (if 3 < (t914.length : Int) then ((spec_l4Index.f kj2 (([(⟨#[]⟩ : ByteArray),(⟨#[112,108,97,105,110]⟩ : ByteArray),(⟨#[114,101,101,102,101,114]⟩ : ByteArray),(⟨#[100,97,110,103,101,114]⟩ : ByteArray)] : List ByteArray)) (rdOf ByteArray.empty t914 3)).bind fun t933 => (if t919 = true then (if bt921.2 = true then ((spec_l2Good.f kj2 (rdOf ByteArray.empty t914 0) t928 t918 t933 bt921.1).bind fun t935 => (if t935 = true then ((spec_l4Text.f kj2 (rdOf ByteArray.empty t914 0) t928 t918 t933 bt921.1).bind fun t936 => (if t936.toList = a0.toList then (some (rdOf ByteArray.empty t914 0,t928,t918,t933,bt921.1,true)) else (some ((⟨#[]⟩ : ByteArray),0,0,0,0,false)))) else (some ((⟨#[]⟩ : ByteArray),0,0,0,0,false)))) else (some ((⟨#[]⟩ : ByteArray),0,0,0,0,false))) else (some ((⟨#[]⟩ : ByteArray),0,0,0,0,false)))) else (none))) else (none)) else (none))) else (none)) = some (r1,r2,r3,r4,r5,r6):=H
     have A16:=Aside0.mk A160
     clear A160
     by_cases c17 : 4 < (t914.length : Int)
     ·rw [if_pos c17] at H
      have c17b0 : decide (4 < (t914.length : Int)) = true:=decide_eq_true c17
      have c17b1 : decide (4 < t914.length) = true:=decide_eq_true (by omega)
      clear c17
      replace H:=Option.bind_eq_some_iff.mp H
      obtain ⟨⟨t921,t922⟩,A180,H⟩:=H
      replace H : (if 0 < (t914.length : Int) then (if 1 < (t914.length : Int) then ((spec_l4Index.f kj2 (([(⟨#[]⟩ : ByteArray),(⟨#[115,109,97,108,108]⟩ : ByteArray),(⟨#[108,97,114,103,101]⟩ : ByteArray)] : List ByteArray)) (rdOf ByteArray.empty t914 1)).bind fun t928 => (if 3 < (t914.length : Int) then ((spec_l4Index.f kj2 (([(⟨#[]⟩ : ByteArray),(⟨#[112,108,97,105,110]⟩ : ByteArray),(⟨#[114,101,101,102,101,114]⟩ : ByteArray),(⟨#[100,97,110,103,101,114]⟩ : ByteArray)] : List ByteArray)) (rdOf ByteArray.empty t914 3)).bind fun t933 => (if t919 = true then (if t922 = true then ((spec_l2Good.f kj2 (rdOf ByteArray.empty t914 0) t928 t918 t933 t921).bind fun t935 => (if t935 = true then ((spec_l4Text.f kj2 (rdOf ByteArray.empty t914 0) t928 t918 t933 t921).bind fun t936 => (if t936.toList = a0.toList then (some (rdOf ByteArray.empty t914 0,t928,t918,t933,t921,true)) else (some ((⟨#[]⟩ : ByteArray),0,0,0,0,false)))) else (some ((⟨#[]⟩ : ByteArray),0,0,0,0,false)))) else (some ((⟨#[]⟩ : ByteArray),0,0,0,0,false))) else (some ((⟨#[]⟩ : ByteArray),0,0,0,0,false)))) else (none))) else (none)) else (none)) = some (r1,r2,r3,r4,r5,r6):=H
      have A18:=Aside0.mk A180
      clear A180
      by_cases c19 : 0 < (t914.length : Int)
      ·rw [if_pos c19] at H
       have c19b0 : decide (0 < (t914.length : Int)) = true:=decide_eq_true c19
       have c19b1 : decide (0 < t914.length) = true:=decide_eq_true (by omega)
       clear c19
       obtain ⟨y924,hy924⟩ : ∃ y_ : List ByteArray,y_ = (([(⟨#[]⟩ : ByteArray),(⟨#[115,109,97,108,108]⟩ : ByteArray),(⟨#[108,97,114,103,101]⟩ : ByteArray)] : List ByteArray)):=⟨_,rfl⟩
       replace H : (if 1 < (t914.length : Int) then ((spec_l4Index.f kj2 y924 (rdOf ByteArray.empty t914 1)).bind fun t928 => (if 3 < (t914.length : Int) then ((spec_l4Index.f kj2 (([(⟨#[]⟩ : ByteArray),(⟨#[112,108,97,105,110]⟩ : ByteArray),(⟨#[114,101,101,102,101,114]⟩ : ByteArray),(⟨#[100,97,110,103,101,114]⟩ : ByteArray)] : List ByteArray)) (rdOf ByteArray.empty t914 3)).bind fun t933 => (if t919 = true then (if t922 = true then ((spec_l2Good.f kj2 (rdOf ByteArray.empty t914 0) t928 t918 t933 t921).bind fun t935 => (if t935 = true then ((spec_l4Text.f kj2 (rdOf ByteArray.empty t914 0) t928 t918 t933 t921).bind fun t936 => (if t936.toList = a0.toList then (some (rdOf ByteArray.empty t914 0,t928,t918,t933,t921,true)) else (some ((⟨#[]⟩ : ByteArray),0,0,0,0,false)))) else (some ((⟨#[]⟩ : ByteArray),0,0,0,0,false)))) else (some ((⟨#[]⟩ : ByteArray),0,0,0,0,false))) else (some ((⟨#[]⟩ : ByteArray),0,0,0,0,false)))) else (none))) else (none)) = some (r1,r2,r3,r4,r5,r6):=by (rw [hy924]; with_reducible exact H)
       have Ny924:=Aside0.mk hy924
       clear hy924
       by_cases c20 : 1 < (t914.length : Int)
       ·rw [if_pos c20] at H
        have c20b0 : decide (1 < (t914.length : Int)) = true:=decide_eq_true c20
        have c20b1 : decide (1 < t914.length) = true:=decide_eq_true (by omega)
        clear c20
        replace H:=Option.bind_eq_some_iff.mp H
        obtain ⟨t928,A210,H⟩:=H
        replace H : (if 3 < (t914.length : Int) then ((spec_l4Index.f kj2 (([(⟨#[]⟩ : ByteArray),(⟨#[112,108,97,105,110]⟩ : ByteArray),(⟨#[114,101,101,102,101,114]⟩ : ByteArray),(⟨#[100,97,110,103,101,114]⟩ : ByteArray)] : List ByteArray)) (rdOf ByteArray.empty t914 3)).bind fun t933 => (if t919 = true then (if t922 = true then ((spec_l2Good.f kj2 (rdOf ByteArray.empty t914 0) t928 t918 t933 t921).bind fun t935 => (if t935 = true then ((spec_l4Text.f kj2 (rdOf ByteArray.empty t914 0) t928 t918 t933 t921).bind fun t936 => (if t936.toList = a0.toList then (some (rdOf ByteArray.empty t914 0,t928,t918,t933,t921,true)) else (some ((⟨#[]⟩ : ByteArray),0,0,0,0,false)))) else (some ((⟨#[]⟩ : ByteArray),0,0,0,0,false)))) else (some ((⟨#[]⟩ : ByteArray),0,0,0,0,false))) else (some ((⟨#[]⟩ : ByteArray),0,0,0,0,false)))) else (none)) = some (r1,r2,r3,r4,r5,r6):=H
        have A21:=Aside0.mk A210
        clear A210
        obtain ⟨y929,hy929⟩ : ∃ y_ : List ByteArray,y_ = (([(⟨#[]⟩ : ByteArray),(⟨#[112,108,97,105,110]⟩ : ByteArray),(⟨#[114,101,101,102,101,114]⟩ : ByteArray),(⟨#[100,97,110,103,101,114]⟩ : ByteArray)] : List ByteArray)):=⟨_,rfl⟩
        replace H : (if 3 < (t914.length : Int) then ((spec_l4Index.f kj2 y929 (rdOf ByteArray.empty t914 3)).bind fun t933 => (if t919 = true then (if t922 = true then ((spec_l2Good.f kj2 (rdOf ByteArray.empty t914 0) t928 t918 t933 t921).bind fun t935 => (if t935 = true then ((spec_l4Text.f kj2 (rdOf ByteArray.empty t914 0) t928 t918 t933 t921).bind fun t936 => (if t936.toList = a0.toList then (some (rdOf ByteArray.empty t914 0,t928,t918,t933,t921,true)) else (some ((⟨#[]⟩ : ByteArray),0,0,0,0,false)))) else (some ((⟨#[]⟩ : ByteArray),0,0,0,0,false)))) else (some ((⟨#[]⟩ : ByteArray),0,0,0,0,false))) else (some ((⟨#[]⟩ : ByteArray),0,0,0,0,false)))) else (none)) = some (r1,r2,r3,r4,r5,r6):=by (rw [hy929]; with_reducible exact H)
        have Ny929:=Aside0.mk hy929
        clear hy929
        by_cases c22 : 3 < (t914.length : Int)
        ·rw [if_pos c22] at H
         have c22b0 : decide (3 < (t914.length : Int)) = true:=decide_eq_true c22
         have c22b1 : decide (3 < t914.length) = true:=decide_eq_true (by omega)
         clear c22
         replace H:=Option.bind_eq_some_iff.mp H
         obtain ⟨t933,A230,H⟩:=H
         replace H : (if t919 = true then (if t922 = true then ((spec_l2Good.f kj2 (rdOf ByteArray.empty t914 0) t928 t918 t933 t921).bind fun t935 => (if t935 = true then ((spec_l4Text.f kj2 (rdOf ByteArray.empty t914 0) t928 t918 t933 t921).bind fun t936 => (if t936.toList = a0.toList then (some (rdOf ByteArray.empty t914 0,t928,t918,t933,t921,true)) else (some ((⟨#[]⟩ : ByteArray),0,0,0,0,false)))) else (some ((⟨#[]⟩ : ByteArray),0,0,0,0,false)))) else (some ((⟨#[]⟩ : ByteArray),0,0,0,0,false))) else (some ((⟨#[]⟩ : ByteArray),0,0,0,0,false))) = some (r1,r2,r3,r4,r5,r6):=H
         have A23:=Aside0.mk A230
         clear A230
         have HF_:=Aside0.mk H
         clear H
         obtain ⟨Ao30,co30,eo30⟩:=Kd.R_slice HO_5.out
         subst eo30
         have p917 : 0 ≤ (2 : Int):=(by omega)
         have q917 : 2 < (t914.length : Int):=of_decide_eq_true (by (with_reducible assumption))
         obtain ⟨ad917,e917,hx917_0⟩:=Kd.at_string (Kd.R_reads' HO_5.out).2.2 2 p917 q917
         cases e917
         (try simp only [show (2 : Int).toNat = 2 from rfl,Nat.reduceMul,Nat.reduceEqDiff,Go.Addr.add,↓reduceIte] at hx917_0)
         have qi917 : (2 < t914.length) = True:=eq_true (by omega)
         (try rw [show (2 : Int).toNat = 2 from rfl] at hx917_0)
         replace p917:=eq_true p917
         replace q917:=eq_true q917
         try go_wp2_with (first|((with_reducible refine gate_callee (f:=53) rfl ?_); refine goesL_ (some 27) rfl rfl Tryz.func53 (by kernel_rfl) rfl #[.string (rdOf ByteArray.empty t914 2)] rfl (by (try simp only [List.map_toArray,List.map_cons,List.map_nil]); (rfl)) ?_; (with_reducible refine (spec_l1Read.calls kj2 (rdOf ByteArray.empty t914 2) t918 t919 _ A16.out).mono ?_); rintro e w31 ⟨rfl,hb⟩; refine ⟨_,rfl,?_⟩; have n0_:=Aside0.mk (Kd.R_below (by exact HO_5.out) hb); have n1_:=Aside0.mk (blk_below (g:=gb912) (o:=.cells #[.string (⟨#[]⟩ : ByteArray),.int .i64 0,.int .i64 0,.int .i64 0,.int .i64 0] 50 (0,0)) (by exact BK912.out) hb); have n2_:=Aside0.mk (blk_below (g:=gb913) (o:=.cells #[.string (⟨#[]⟩ : ByteArray),.int .i64 0,.int .i64 0,.int .i64 0,.int .i64 0] 50 (0,0)) (by exact BK913.out) hb); have n3_:=Aside0.mk (below_step (by repeat (((with_reducible (exact HB.out))))) hb); clear HO_5; clear BK912; clear BK913; clear HB; have HO_5:=n0_; have BK912:=n1_; have BK913:=n2_; have HB:=n3_; clear n0_ n1_ n2_ n3_; (try clear hb); (try clear hb2); (try clear hk); (try clear hi); have p920 : 0 ≤ (4 : Int):=(by omega); have q920 : 4 < (t914.length : Int):=of_decide_eq_true (by (with_reducible assumption)); obtain ⟨ad920,e920,hx920_0⟩:=Kd.at_string (Kd.R_reads' HO_5.out).2.2 4 p920 q920; obtain rfl : ad917 = ad920:=(by injection e920); (try simp only [show (4 : Int).toNat = 4 from rfl,Nat.reduceMul,Nat.reduceEqDiff,Go.Addr.add,↓reduceIte] at hx920_0); have qi920 : (4 < t914.length) = True:=eq_true (by omega); (try rw [show (4 : Int).toNat = 4 from rfl] at hx920_0); replace p920:=eq_true p920; replace q920:=eq_true q920)|((with_reducible refine gate_callee (f:=53) rfl ?_); refine goesL_ (some 34) rfl rfl Tryz.func53 (by kernel_rfl) rfl #[.string (rdOf ByteArray.empty t914 4)] rfl (by (try simp only [List.map_toArray,List.map_cons,List.map_nil]); (rfl)) ?_; (with_reducible refine (spec_l1Read.calls kj2 (rdOf ByteArray.empty t914 4) t921 t922 _ A18.out).mono ?_); rintro e w32 ⟨rfl,hb⟩; refine ⟨_,rfl,?_⟩; have n0_:=Aside0.mk (Kd.R_below (by exact HO_5.out) hb); have n1_:=Aside0.mk (blk_below (g:=gb912) (o:=.cells #[.string (⟨#[]⟩ : ByteArray),.int .i64 0,.int .i64 0,.int .i64 0,.int .i64 0] 50 (0,0)) (by exact BK912.out) hb); have n2_:=Aside0.mk (blk_below (g:=gb913) (o:=.cells #[.string (⟨#[]⟩ : ByteArray),.int .i64 0,.int .i64 0,.int .i64 0,.int .i64 0] 50 (0,0)) (by exact BK913.out) hb); have n3_:=Aside0.mk (below_step (by repeat (((with_reducible (exact HB.out))))) hb); clear HO_5; clear BK912; clear BK913; clear HB; have HO_5:=n0_; have BK912:=n1_; have BK913:=n2_; have HB:=n3_; clear n0_ n1_ n2_ n3_; (try clear hb); (try clear hb2); (try clear hk); (try clear hi)))
         have n0_:=Aside0.mk (Kd.R_drew HO_5.out)
         have n1_:=Aside0.mk (blk_drew BK912.out)
         have n2_:=Aside0.mk (blk_drew BK913.out)
         have n3_:=Aside0.mk (below_drew1 HB.out)
         clear HO_5
         clear BK912
         clear BK913
         clear HB
         have HO_5:=n0_
         have BK912:=n1_
         have BK913:=n2_
         have HB:=n3_
         clear n0_ n1_ n2_ n3_
         have p923 : 0 ≤ (0 : Int):=(by omega)
         have q923 : 0 < (t914.length : Int):=of_decide_eq_true (by (with_reducible assumption))
         obtain ⟨ad923,e923,hx923_0⟩:=Kd.at_string (Kd.R_reads' HO_5.out).2.2 0 p923 q923
         obtain rfl : ad917 = ad923:=(by injection e923)
         have qi923 : (0 < t914.length) = True:=eq_true (by omega)
         (try rw [show (0 : Int).toNat = 0 from rfl] at hx923_0)
         (try rw [Addr.add_zero'] at hx923_0)
         replace p923:=eq_true p923
         replace q923:=eq_true q923
         have p927 : 0 ≤ (1 : Int):=(by omega)
         have q927 : 1 < (t914.length : Int):=of_decide_eq_true (by (with_reducible assumption))
         obtain ⟨ad927,e927,hx927_0⟩:=Kd.at_string (Kd.R_reads' HO_5.out).2.2 1 p927 q927
         obtain rfl : ad917 = ad927:=(by injection e927)
         (try simp only [show (1 : Int).toNat = 1 from rfl,Nat.reduceMul,Nat.reduceEqDiff,Go.Addr.add,↓reduceIte] at hx927_0)
         have qi927 : (1 < t914.length) = True:=eq_true (by omega)
         (try rw [show (1 : Int).toNat = 1 from rfl] at hx927_0)
         replace p927:=eq_true p927
         replace q927:=eq_true q927
         have p932 : 0 ≤ (3 : Int):=(by omega)
         have q932 : 3 < (t914.length : Int):=of_decide_eq_true (by (with_reducible assumption))
         obtain ⟨ad932,e932,hx932_0⟩:=Kd.at_string (Kd.R_reads' HO_5.out).2.2 3 p932 q932
         obtain rfl : ad917 = ad932:=(by injection e932)
         (try simp only [show (3 : Int).toNat = 3 from rfl,Nat.reduceMul,Nat.reduceEqDiff,Go.Addr.add,↓reduceIte] at hx932_0)
         have qi932 : (3 < t914.length) = True:=eq_true (by omega)
         (try rw [show (3 : Int).toNat = 3 from rfl] at hx932_0)
         replace p932:=eq_true p932
         replace q932:=eq_true q932
         refine start_ (n:=18) (S:=fun w' => w'.cell? ad917 = some (.string (rdOf ByteArray.empty t914 0)) ∧ w'.cell? ⟨ad917.block,ad917.off + 1,none⟩ = some (.string (rdOf ByteArray.empty t914 1)) ∧ w'.cell? ⟨ad917.block,ad917.off + 3,none⟩ = some (.string (rdOf ByteArray.empty t914 3))) (ds:=[]) (bda4 18 0) (by kernel_rfl) rfl rfl ⟨hx923_0,hx927_0,hx932_0⟩ (fun hHeld => ?_); refine with_tabW spec_l4Parse.tab7 spec_l4Parse.bits7 (fun HT_ HW_ => ?_)
         generalize w32.drew = w33 at HO_5 BK912 BK913 HB hx923_0 hx927_0 hx932_0 hHeld ⊢
         refine pure_ (i:=0) (N:=some 37) (v:=?_) (a':=?_) (bda4 18 1) rfl rfl (any_of HT_.out (by kernel_rfl)) (fun _ _ _ h => h) (Or.inl ⟨by rfl,?_⟩) ?_ ?_
         rotate_left
         ·intro w'
          go_simp
          with_reducible rfl
         rotate_left
         ·simp only [Act.put,List.setIfInBounds_toArray,List.set_cons_zero,List.set_cons_succ,i64_w,i32_w]
          rfl
         refine pure_ (i:=1) (N:=some 38) (v:=?_) (a':=?_) (bda4 18 3) rfl rfl (any_of HT_.out (by kernel_rfl)) (fun _ _ _ h => h) (Or.inl ⟨by rfl,?_⟩) ?_ ?_
         rotate_left
         ·intro w'
          go_simp
          with_reducible rfl
         rotate_left
         ·simp only [Act.put,List.setIfInBounds_toArray,List.set_cons_zero,List.set_cons_succ,i64_w,i32_w]
          rfl
         refine pure_ (i:=4) (N:=some 41) (v:=?_) (a':=?_) (bda4 18 19) rfl rfl (any_of HT_.out (by kernel_rfl)) (fun _ _ _ h => h) (Or.inl ⟨by rfl,?_⟩) ?_ ?_
         rotate_left
         ·intro w'
          go_simp
          with_reducible rfl
         rotate_left
         ·simp only [Act.put,List.setIfInBounds_toArray,List.set_cons_zero,List.set_cons_succ,i64_w,i32_w]
          rfl
         refine pure_ (i:=5) (N:=some 42) (v:=?_) (a':=?_) (bda4 18 51) rfl rfl (any_of HT_.out (by kernel_rfl)) (fun _ _ _ h => h) (Or.inl ⟨by rfl,?_⟩) ?_ ?_
         rotate_left
         ·intro w'
          go_simp
          with_reducible rfl
         rotate_left
         ·simp only [Act.put,List.setIfInBounds_toArray,List.set_cons_zero,List.set_cons_succ,i64_w,i32_w]
          rfl
         refine pure_ (i:=8) (N:=some 45) (v:=?_) (a':=?_) (bda4 18 307) rfl rfl (any_of HT_.out (by kernel_rfl)) (fun _ _ _ h => h) (Or.inl ⟨by rfl,?_⟩) ?_ ?_
         rotate_left
         ·intro w'
          go_simp
          with_reducible rfl
         rotate_left
         ·simp only [Act.put,List.setIfInBounds_toArray,List.set_cons_zero,List.set_cons_succ,i64_w,i32_w]
          rfl
         refine pure_ (i:=10) (N:=some 47) (v:=?_) (a':=?_) (bda4 18 1331) rfl rfl (any_of HT_.out (by kernel_rfl)) (fun _ _ _ h => h) (Or.inl ⟨by rfl,?_⟩) ?_ ?_
         rotate_left
         ·intro w'
          go_simp
          with_reducible rfl
         rotate_left
         ·simp only [Act.put,List.setIfInBounds_toArray,List.set_cons_zero,List.set_cons_succ,i64_w,i32_w]
          rfl
         refine pure_ (i:=11) (N:=some 48) (v:=?_) (a':=?_) (bda4 18 3379) rfl rfl (any_of HT_.out (by kernel_rfl)) (fun _ _ _ h => h) (Or.inl ⟨by rfl,?_⟩) ?_ ?_
         rotate_left
         ·intro w'
          go_simp
          with_reducible rfl
         rotate_left
         ·simp only [Act.put,List.setIfInBounds_toArray,List.set_cons_zero,List.set_cons_succ,i64_w,i32_w]
          rfl
         refine pure_ (i:=14) (N:=some 51) (v:=?_) (a':=?_) (bda4 18 19763) rfl rfl (any_of HT_.out (by kernel_rfl)) (fun _ _ _ h => h) (Or.inl ⟨by rfl,?_⟩) ?_ ?_
         rotate_left
         ·intro w'
          go_simp
          with_reducible rfl
         rotate_left
         ·simp only [Act.put,List.setIfInBounds_toArray,List.set_cons_zero,List.set_cons_succ,i64_w,i32_w]
          rfl
         refine take_ (i:=2) (N:=some 39) (v:=?_) (a':=?_) (bda4 18 19767) rfl rfl (take_ofW HT_.out HW_.out (by kernel_rfl)) (fun _ _ _ h => h) (Or.inl ⟨by rfl,?_⟩) hHeld ?_ ?_
         rotate_left
         ·rintro w' ⟨s0,s1,s2⟩
          go_simp
          with_reducible rfl
         rotate_left
         ·simp only [Act.put,List.setIfInBounds_toArray,List.set_cons_zero,List.set_cons_succ,i64_w,i32_w]
          rfl
         refine take_ (i:=6) (N:=some 43) (v:=?_) (a':=?_) (bda4 18 19831) rfl rfl (take_ofW HT_.out HW_.out (by kernel_rfl)) (fun _ _ _ h => h) (Or.inl ⟨by rfl,?_⟩) hHeld ?_ ?_
         rotate_left
         ·rintro w' ⟨s0,s1,s2⟩
          go_simp
          with_reducible rfl
         rotate_left
         ·simp only [Act.put,List.setIfInBounds_toArray,List.set_cons_zero,List.set_cons_succ,i64_w,i32_w]
          rfl
         refine take_ (i:=12) (N:=some 49) (v:=?_) (a':=?_) (bda4 18 23927) rfl rfl (take_ofW HT_.out HW_.out (by kernel_rfl)) (fun _ _ _ h => h) (Or.inl ⟨by rfl,?_⟩) hHeld ?_ ?_
         rotate_left
         ·rintro w' ⟨s0,s1,s2⟩
          go_simp
          with_reducible rfl
         rotate_left
         ·simp only [Act.put,List.setIfInBounds_toArray,List.set_cons_zero,List.set_cons_succ,i64_w,i32_w]
          rfl
         refine join_ (σ:=Value × Value × Nat) 1 (bda4 18 131071) (fun s_ => [(40,s_.1),(44,.int .i64 t928),(46,s_.2.1),(50,.int .i64 t933),(10,.pointer (some ⟨s_.2.2,0,none⟩)),(52,.agg #[.string (rdOf ByteArray.empty t914 0),.int .i64 t928,.int .i64 t918,.int .i64 t933,.int .i64 t921])]) (fun s_ w' => (w'.cell? ad917 = some (.string (rdOf ByteArray.empty t914 0)) ∧ w'.cell? ⟨ad917.block,ad917.off + 1,none⟩ = some (.string (rdOf ByteArray.empty t914 1)) ∧ w'.cell? ⟨ad917.block,ad917.off + 3,none⟩ = some (.string (rdOf ByteArray.empty t914 3))) ∧ (Kd.R Kd.string 9 w' w.heap.size (fun k_ => some k_ ≠ (s_.2.1 : Value).ownBlock ∧ some k_ ≠ (.slice (some ad917) t914.length co30 : Value).ownBlock) s_.1 y924) ∧ (Kd.R Kd.string 9 w' w.heap.size (fun k_ => some k_ ≠ (s_.1 : Value).ownBlock ∧ some k_ ≠ (.slice (some ad917) t914.length co30 : Value).ownBlock) s_.2.1 y929) ∧ (Kd.R Kd.string 9 w' w.heap.size (fun k_ => some k_ ≠ (s_.1 : Value).ownBlock ∧ some k_ ≠ (s_.2.1 : Value).ownBlock) (.slice (some ad917) t914.length co30) t914) ∧ (w'.heap[gb912]? = some (.cells #[.string (⟨#[]⟩ : ByteArray),.int .i64 0,.int .i64 0,.int .i64 0,.int .i64 0] 50 (0,0))) ∧ (w'.heap[gb913]? = some (.cells #[.string (⟨#[]⟩ : ByteArray),.int .i64 0,.int .i64 0,.int .i64 0,.int .i64 0] 50 (0,0))) ∧ (w'.heap[s_.2.2]? = some (.cells #[.string (⟨#[]⟩ : ByteArray),.int .i64 0,.int .i64 0,.int .i64 0,.int .i64 0] 50 (0,0))) ∧ (w.heap.size ≤ s_.2.2) ∧ (w.heap.size ≤ s_.2.2) ∧ (gb912 ≠ s_.2.2) ∧ (s_.2.2 ≠ gb912) ∧ (gb913 ≠ s_.2.2) ∧ (s_.2.2 ≠ gb913) ∧ (Below w.heap.size w w')) ?_ ?_
         rotate_left
         ·intro hJ3_7_9_13_16
          refine join_ (σ:=Value × Value) 2 (bda4 18 65535) (fun s_ => [(40,s_.1),(44,.int .i64 t928),(46,s_.2),(50,.int .i64 t933),(52,.agg #[.string (rdOf ByteArray.empty t914 0),.int .i64 t928,.int .i64 t918,.int .i64 t933,.int .i64 t921])]) (fun s_ w' => (w'.cell? ad917 = some (.string (rdOf ByteArray.empty t914 0)) ∧ w'.cell? ⟨ad917.block,ad917.off + 1,none⟩ = some (.string (rdOf ByteArray.empty t914 1)) ∧ w'.cell? ⟨ad917.block,ad917.off + 3,none⟩ = some (.string (rdOf ByteArray.empty t914 3))) ∧ (Kd.R Kd.string 9 w' w.heap.size (fun k_ => some k_ ≠ (s_.2 : Value).ownBlock ∧ some k_ ≠ (.slice (some ad917) t914.length co30 : Value).ownBlock) s_.1 y924) ∧ (Kd.R Kd.string 9 w' w.heap.size (fun k_ => some k_ ≠ (s_.1 : Value).ownBlock ∧ some k_ ≠ (.slice (some ad917) t914.length co30 : Value).ownBlock) s_.2 y929) ∧ (Kd.R Kd.string 9 w' w.heap.size (fun k_ => some k_ ≠ (s_.1 : Value).ownBlock ∧ some k_ ≠ (s_.2 : Value).ownBlock) (.slice (some ad917) t914.length co30) t914) ∧ (w'.heap[gb912]? = some (.cells #[.string (⟨#[]⟩ : ByteArray),.int .i64 0,.int .i64 0,.int .i64 0,.int .i64 0] 50 (0,0))) ∧ (w'.heap[gb913]? = some (.cells #[.string (⟨#[]⟩ : ByteArray),.int .i64 0,.int .i64 0,.int .i64 0,.int .i64 0] 50 (0,0))) ∧ (Below w.heap.size w w')) ?_ ?_
          rotate_left
          ·intro hJ3_7_9_13
           refine join_ (σ:=Value × Value × Nat) 3 (bda4 18 90111) (fun s_ => [(40,s_.1),(44,.int .i64 t928),(46,s_.2.1),(10,.pointer (some ⟨s_.2.2,0,none⟩))]) (fun s_ w' => (w'.cell? ad917 = some (.string (rdOf ByteArray.empty t914 0)) ∧ w'.cell? ⟨ad917.block,ad917.off + 1,none⟩ = some (.string (rdOf ByteArray.empty t914 1)) ∧ w'.cell? ⟨ad917.block,ad917.off + 3,none⟩ = some (.string (rdOf ByteArray.empty t914 3))) ∧ (Kd.R Kd.string 9 w' w.heap.size (fun k_ => some k_ ≠ (s_.2.1 : Value).ownBlock ∧ some k_ ≠ (.slice (some ad917) t914.length co30 : Value).ownBlock) s_.1 y924) ∧ (Kd.R Kd.string 9 w' w.heap.size (fun k_ => some k_ ≠ (s_.1 : Value).ownBlock ∧ some k_ ≠ (.slice (some ad917) t914.length co30 : Value).ownBlock) s_.2.1 y929) ∧ (Kd.R Kd.string 9 w' w.heap.size (fun k_ => some k_ ≠ (s_.1 : Value).ownBlock ∧ some k_ ≠ (s_.2.1 : Value).ownBlock) (.slice (some ad917) t914.length co30) t914) ∧ (w'.heap[gb912]? = some (.cells #[.string (⟨#[]⟩ : ByteArray),.int .i64 0,.int .i64 0,.int .i64 0,.int .i64 0] 50 (0,0))) ∧ (w'.heap[gb913]? = some (.cells #[.string (⟨#[]⟩ : ByteArray),.int .i64 0,.int .i64 0,.int .i64 0,.int .i64 0] 50 (0,0))) ∧ (w'.heap[s_.2.2]? = some (.cells #[.string (⟨#[]⟩ : ByteArray),.int .i64 0,.int .i64 0,.int .i64 0,.int .i64 0] 50 (0,0))) ∧ (w.heap.size ≤ s_.2.2) ∧ (w.heap.size ≤ s_.2.2) ∧ (gb912 ≠ s_.2.2) ∧ (s_.2.2 ≠ gb912) ∧ (gb913 ≠ s_.2.2) ∧ (s_.2.2 ≠ gb913) ∧ (Below w.heap.size w w')) ?_ ?_
           rotate_left
           ·intro hJ3_7_9_16
            refine join_ (σ:=Value × Value) 4 (bda4 18 24575) (fun s_ => [(40,s_.1),(44,.int .i64 t928),(46,s_.2)]) (fun s_ w' => (w'.cell? ad917 = some (.string (rdOf ByteArray.empty t914 0)) ∧ w'.cell? ⟨ad917.block,ad917.off + 1,none⟩ = some (.string (rdOf ByteArray.empty t914 1)) ∧ w'.cell? ⟨ad917.block,ad917.off + 3,none⟩ = some (.string (rdOf ByteArray.empty t914 3))) ∧ (Kd.R Kd.string 9 w' w.heap.size (fun k_ => some k_ ≠ (s_.2 : Value).ownBlock ∧ some k_ ≠ (.slice (some ad917) t914.length co30 : Value).ownBlock) s_.1 y924) ∧ (Kd.R Kd.string 9 w' w.heap.size (fun k_ => some k_ ≠ (s_.1 : Value).ownBlock ∧ some k_ ≠ (.slice (some ad917) t914.length co30 : Value).ownBlock) s_.2 y929) ∧ (Kd.R Kd.string 9 w' w.heap.size (fun k_ => some k_ ≠ (s_.1 : Value).ownBlock ∧ some k_ ≠ (s_.2 : Value).ownBlock) (.slice (some ad917) t914.length co30) t914) ∧ (w'.heap[gb912]? = some (.cells #[.string (⟨#[]⟩ : ByteArray),.int .i64 0,.int .i64 0,.int .i64 0,.int .i64 0] 50 (0,0))) ∧ (w'.heap[gb913]? = some (.cells #[.string (⟨#[]⟩ : ByteArray),.int .i64 0,.int .i64 0,.int .i64 0,.int .i64 0] 50 (0,0))) ∧ (Below w.heap.size w w')) ?_ ?_
            rotate_left
            ·intro hJ3_7_9
             refine join_ (σ:=Value × Nat) 4 (bda4 18 89599) (fun s_ => [(40,s_.1),(44,.int .i64 t928),(10,.pointer (some ⟨s_.2,0,none⟩))]) (fun s_ w' => (w'.cell? ad917 = some (.string (rdOf ByteArray.empty t914 0)) ∧ w'.cell? ⟨ad917.block,ad917.off + 1,none⟩ = some (.string (rdOf ByteArray.empty t914 1)) ∧ w'.cell? ⟨ad917.block,ad917.off + 3,none⟩ = some (.string (rdOf ByteArray.empty t914 3))) ∧ (Kd.R Kd.string 9 w' w.heap.size (fun k_ => some k_ ≠ (.slice (some ad917) t914.length co30 : Value).ownBlock) s_.1 y924) ∧ (Kd.R Kd.string 9 w' w.heap.size (fun k_ => some k_ ≠ (s_.1 : Value).ownBlock) (.slice (some ad917) t914.length co30) t914) ∧ (w'.heap[gb912]? = some (.cells #[.string (⟨#[]⟩ : ByteArray),.int .i64 0,.int .i64 0,.int .i64 0,.int .i64 0] 50 (0,0))) ∧ (w'.heap[gb913]? = some (.cells #[.string (⟨#[]⟩ : ByteArray),.int .i64 0,.int .i64 0,.int .i64 0,.int .i64 0] 50 (0,0))) ∧ (w'.heap[s_.2]? = some (.cells #[.string (⟨#[]⟩ : ByteArray),.int .i64 0,.int .i64 0,.int .i64 0,.int .i64 0] 50 (0,0))) ∧ (w.heap.size ≤ s_.2) ∧ (w.heap.size ≤ s_.2) ∧ (gb912 ≠ s_.2) ∧ (s_.2 ≠ gb912) ∧ (gb913 ≠ s_.2) ∧ (s_.2 ≠ gb913) ∧ (Below w.heap.size w w')) ?_ ?_
             rotate_left
             ·intro hJ3_7_16
              refine join_ (σ:=Value × Value × Nat) 4 (bda4 18 89983) (fun s_ => [(40,s_.1),(46,s_.2.1),(10,.pointer (some ⟨s_.2.2,0,none⟩))]) (fun s_ w' => (w'.cell? ad917 = some (.string (rdOf ByteArray.empty t914 0)) ∧ w'.cell? ⟨ad917.block,ad917.off + 1,none⟩ = some (.string (rdOf ByteArray.empty t914 1)) ∧ w'.cell? ⟨ad917.block,ad917.off + 3,none⟩ = some (.string (rdOf ByteArray.empty t914 3))) ∧ (Kd.R Kd.string 9 w' w.heap.size (fun k_ => some k_ ≠ (s_.2.1 : Value).ownBlock ∧ some k_ ≠ (.slice (some ad917) t914.length co30 : Value).ownBlock) s_.1 y924) ∧ (Kd.R Kd.string 9 w' w.heap.size (fun k_ => some k_ ≠ (s_.1 : Value).ownBlock ∧ some k_ ≠ (.slice (some ad917) t914.length co30 : Value).ownBlock) s_.2.1 y929) ∧ (Kd.R Kd.string 9 w' w.heap.size (fun k_ => some k_ ≠ (s_.1 : Value).ownBlock ∧ some k_ ≠ (s_.2.1 : Value).ownBlock) (.slice (some ad917) t914.length co30) t914) ∧ (w'.heap[gb912]? = some (.cells #[.string (⟨#[]⟩ : ByteArray),.int .i64 0,.int .i64 0,.int .i64 0,.int .i64 0] 50 (0,0))) ∧ (w'.heap[gb913]? = some (.cells #[.string (⟨#[]⟩ : ByteArray),.int .i64 0,.int .i64 0,.int .i64 0,.int .i64 0] 50 (0,0))) ∧ (w'.heap[s_.2.2]? = some (.cells #[.string (⟨#[]⟩ : ByteArray),.int .i64 0,.int .i64 0,.int .i64 0,.int .i64 0] 50 (0,0))) ∧ (w.heap.size ≤ s_.2.2) ∧ (w.heap.size ≤ s_.2.2) ∧ (gb912 ≠ s_.2.2) ∧ (s_.2.2 ≠ gb912) ∧ (gb913 ≠ s_.2.2) ∧ (s_.2.2 ≠ gb913) ∧ (Below w.heap.size w w')) ?_ ?_
              rotate_left
              ·intro hJ3_9_16
               refine join_ (σ:=Value) 5 (bda4 18 24063) (fun s_ => [(40,s_),(44,.int .i64 t928)]) (fun s_ w' => (w'.cell? ad917 = some (.string (rdOf ByteArray.empty t914 0)) ∧ w'.cell? ⟨ad917.block,ad917.off + 1,none⟩ = some (.string (rdOf ByteArray.empty t914 1)) ∧ w'.cell? ⟨ad917.block,ad917.off + 3,none⟩ = some (.string (rdOf ByteArray.empty t914 3))) ∧ (Kd.R Kd.string 9 w' w.heap.size (fun k_ => some k_ ≠ (.slice (some ad917) t914.length co30 : Value).ownBlock) s_ y924) ∧ (Kd.R Kd.string 9 w' w.heap.size (fun k_ => some k_ ≠ (s_ : Value).ownBlock) (.slice (some ad917) t914.length co30) t914) ∧ (w'.heap[gb912]? = some (.cells #[.string (⟨#[]⟩ : ByteArray),.int .i64 0,.int .i64 0,.int .i64 0,.int .i64 0] 50 (0,0))) ∧ (w'.heap[gb913]? = some (.cells #[.string (⟨#[]⟩ : ByteArray),.int .i64 0,.int .i64 0,.int .i64 0,.int .i64 0] 50 (0,0))) ∧ (Below w.heap.size w w')) ?_ ?_
               rotate_left
               ·intro hJ3_7
                refine join_ (σ:=Value × Value) 5 (bda4 18 24447) (fun s_ => [(40,s_.1),(46,s_.2)]) (fun s_ w' => (w'.cell? ad917 = some (.string (rdOf ByteArray.empty t914 0)) ∧ w'.cell? ⟨ad917.block,ad917.off + 1,none⟩ = some (.string (rdOf ByteArray.empty t914 1)) ∧ w'.cell? ⟨ad917.block,ad917.off + 3,none⟩ = some (.string (rdOf ByteArray.empty t914 3))) ∧ (Kd.R Kd.string 9 w' w.heap.size (fun k_ => some k_ ≠ (s_.2 : Value).ownBlock ∧ some k_ ≠ (.slice (some ad917) t914.length co30 : Value).ownBlock) s_.1 y924) ∧ (Kd.R Kd.string 9 w' w.heap.size (fun k_ => some k_ ≠ (s_.1 : Value).ownBlock ∧ some k_ ≠ (.slice (some ad917) t914.length co30 : Value).ownBlock) s_.2 y929) ∧ (Kd.R Kd.string 9 w' w.heap.size (fun k_ => some k_ ≠ (s_.1 : Value).ownBlock ∧ some k_ ≠ (s_.2 : Value).ownBlock) (.slice (some ad917) t914.length co30) t914) ∧ (w'.heap[gb912]? = some (.cells #[.string (⟨#[]⟩ : ByteArray),.int .i64 0,.int .i64 0,.int .i64 0,.int .i64 0] 50 (0,0))) ∧ (w'.heap[gb913]? = some (.cells #[.string (⟨#[]⟩ : ByteArray),.int .i64 0,.int .i64 0,.int .i64 0,.int .i64 0] 50 (0,0))) ∧ (Below w.heap.size w w')) ?_ ?_
                rotate_left
                ·intro hJ3_9
                 refine join_ (σ:=Value × Nat) 5 (bda4 18 89471) (fun s_ => [(40,s_.1),(10,.pointer (some ⟨s_.2,0,none⟩))]) (fun s_ w' => (w'.cell? ad917 = some (.string (rdOf ByteArray.empty t914 0)) ∧ w'.cell? ⟨ad917.block,ad917.off + 1,none⟩ = some (.string (rdOf ByteArray.empty t914 1)) ∧ w'.cell? ⟨ad917.block,ad917.off + 3,none⟩ = some (.string (rdOf ByteArray.empty t914 3))) ∧ (Kd.R Kd.string 9 w' w.heap.size (fun k_ => some k_ ≠ (.slice (some ad917) t914.length co30 : Value).ownBlock) s_.1 y924) ∧ (Kd.R Kd.string 9 w' w.heap.size (fun k_ => some k_ ≠ (s_.1 : Value).ownBlock) (.slice (some ad917) t914.length co30) t914) ∧ (w'.heap[gb912]? = some (.cells #[.string (⟨#[]⟩ : ByteArray),.int .i64 0,.int .i64 0,.int .i64 0,.int .i64 0] 50 (0,0))) ∧ (w'.heap[gb913]? = some (.cells #[.string (⟨#[]⟩ : ByteArray),.int .i64 0,.int .i64 0,.int .i64 0,.int .i64 0] 50 (0,0))) ∧ (w'.heap[s_.2]? = some (.cells #[.string (⟨#[]⟩ : ByteArray),.int .i64 0,.int .i64 0,.int .i64 0,.int .i64 0] 50 (0,0))) ∧ (w.heap.size ≤ s_.2) ∧ (w.heap.size ≤ s_.2) ∧ (gb912 ≠ s_.2) ∧ (s_.2 ≠ gb912) ∧ (gb913 ≠ s_.2) ∧ (s_.2 ≠ gb913) ∧ (Below w.heap.size w w')) ?_ ?_
                 rotate_left
                 ·intro hJ3_16
                  refine join_ (σ:=Value × Nat) 5 (bda4 18 89975) (fun s_ => [(46,s_.1),(10,.pointer (some ⟨s_.2,0,none⟩))]) (fun s_ w' => (w'.cell? ad917 = some (.string (rdOf ByteArray.empty t914 0)) ∧ w'.cell? ⟨ad917.block,ad917.off + 1,none⟩ = some (.string (rdOf ByteArray.empty t914 1)) ∧ w'.cell? ⟨ad917.block,ad917.off + 3,none⟩ = some (.string (rdOf ByteArray.empty t914 3))) ∧ (Kd.R Kd.string 9 w' w.heap.size (fun k_ => some k_ ≠ (.slice (some ad917) t914.length co30 : Value).ownBlock) s_.1 y929) ∧ (Kd.R Kd.string 9 w' w.heap.size (fun k_ => some k_ ≠ (s_.1 : Value).ownBlock) (.slice (some ad917) t914.length co30) t914) ∧ (w'.heap[gb912]? = some (.cells #[.string (⟨#[]⟩ : ByteArray),.int .i64 0,.int .i64 0,.int .i64 0,.int .i64 0] 50 (0,0))) ∧ (w'.heap[gb913]? = some (.cells #[.string (⟨#[]⟩ : ByteArray),.int .i64 0,.int .i64 0,.int .i64 0,.int .i64 0] 50 (0,0))) ∧ (w'.heap[s_.2]? = some (.cells #[.string (⟨#[]⟩ : ByteArray),.int .i64 0,.int .i64 0,.int .i64 0,.int .i64 0] 50 (0,0))) ∧ (w.heap.size ≤ s_.2) ∧ (w.heap.size ≤ s_.2) ∧ (gb912 ≠ s_.2) ∧ (s_.2 ≠ gb912) ∧ (gb913 ≠ s_.2) ∧ (s_.2 ≠ gb913) ∧ (Below w.heap.size w w')) ?_ ?_
                  rotate_left
                  ·intro hJ9_16
                   refine join_ (σ:=Value) 6 (bda4 18 23935) (fun s_ => [(40,s_)]) (fun s_ w' => (w'.cell? ad917 = some (.string (rdOf ByteArray.empty t914 0)) ∧ w'.cell? ⟨ad917.block,ad917.off + 1,none⟩ = some (.string (rdOf ByteArray.empty t914 1)) ∧ w'.cell? ⟨ad917.block,ad917.off + 3,none⟩ = some (.string (rdOf ByteArray.empty t914 3))) ∧ (Kd.R Kd.string 9 w' w.heap.size (fun k_ => some k_ ≠ (.slice (some ad917) t914.length co30 : Value).ownBlock) s_ y924) ∧ (Kd.R Kd.string 9 w' w.heap.size (fun k_ => some k_ ≠ (s_ : Value).ownBlock) (.slice (some ad917) t914.length co30) t914) ∧ (w'.heap[gb912]? = some (.cells #[.string (⟨#[]⟩ : ByteArray),.int .i64 0,.int .i64 0,.int .i64 0,.int .i64 0] 50 (0,0))) ∧ (w'.heap[gb913]? = some (.cells #[.string (⟨#[]⟩ : ByteArray),.int .i64 0,.int .i64 0,.int .i64 0,.int .i64 0] 50 (0,0))) ∧ (Below w.heap.size w w')) ?_ ?_
                   rotate_left
                   ·intro hJ3
                    refine join_ (σ:=Value) 6 (bda4 18 24439) (fun s_ => [(46,s_)]) (fun s_ w' => (w'.cell? ad917 = some (.string (rdOf ByteArray.empty t914 0)) ∧ w'.cell? ⟨ad917.block,ad917.off + 1,none⟩ = some (.string (rdOf ByteArray.empty t914 1)) ∧ w'.cell? ⟨ad917.block,ad917.off + 3,none⟩ = some (.string (rdOf ByteArray.empty t914 3))) ∧ (Kd.R Kd.string 9 w' w.heap.size (fun k_ => some k_ ≠ (.slice (some ad917) t914.length co30 : Value).ownBlock) s_ y929) ∧ (Kd.R Kd.string 9 w' w.heap.size (fun k_ => some k_ ≠ (s_ : Value).ownBlock) (.slice (some ad917) t914.length co30) t914) ∧ (w'.heap[gb912]? = some (.cells #[.string (⟨#[]⟩ : ByteArray),.int .i64 0,.int .i64 0,.int .i64 0,.int .i64 0] 50 (0,0))) ∧ (w'.heap[gb913]? = some (.cells #[.string (⟨#[]⟩ : ByteArray),.int .i64 0,.int .i64 0,.int .i64 0,.int .i64 0] 50 (0,0))) ∧ (Below w.heap.size w w')) ?_ ?_
                    rotate_left
                    ·intro hJ9
                     refine join_ (σ:=Nat) 6 (bda4 18 89463) (fun s_ => [(10,.pointer (some ⟨s_,0,none⟩))]) (fun s_ w' => (w'.cell? ad917 = some (.string (rdOf ByteArray.empty t914 0)) ∧ w'.cell? ⟨ad917.block,ad917.off + 1,none⟩ = some (.string (rdOf ByteArray.empty t914 1)) ∧ w'.cell? ⟨ad917.block,ad917.off + 3,none⟩ = some (.string (rdOf ByteArray.empty t914 3))) ∧ (Kd.R Kd.string 9 w' w.heap.size (fun _ => True) (.slice (some ad917) t914.length co30) t914) ∧ (w'.heap[gb912]? = some (.cells #[.string (⟨#[]⟩ : ByteArray),.int .i64 0,.int .i64 0,.int .i64 0,.int .i64 0] 50 (0,0))) ∧ (w'.heap[gb913]? = some (.cells #[.string (⟨#[]⟩ : ByteArray),.int .i64 0,.int .i64 0,.int .i64 0,.int .i64 0] 50 (0,0))) ∧ (w'.heap[s_]? = some (.cells #[.string (⟨#[]⟩ : ByteArray),.int .i64 0,.int .i64 0,.int .i64 0,.int .i64 0] 50 (0,0))) ∧ (w.heap.size ≤ s_) ∧ (w.heap.size ≤ s_) ∧ (gb912 ≠ s_) ∧ (s_ ≠ gb912) ∧ (gb913 ≠ s_) ∧ (s_ ≠ gb913) ∧ (Below w.heap.size w w')) ?_ ?_
                     rotate_left
                     ·intro hJ16
                      refine three_ (i:=3) (j:=9) (k:=16) (Ni:=some 40) (Nj:=some 46) (Nk:=some 10) (bda4 18 23935) (bda4 18 24439) (bda4 18 89463) rfl rfl rfl rfl rfl rfl (three_of HT_.out (by kernel_rfl)) (by decide) (by decide) (by decide) (fun K hK => ?_) (fun K hK => ?_) (fun K hK => ?_)
                      ·skip
                       refine Kd.R_lit_step Kd.string _ 9 ?hg (N:=40) ?hd (xs:=([(⟨#[]⟩ : ByteArray),(⟨#[115,109,97,108,108]⟩ : ByteArray),(⟨#[108,97,114,103,101]⟩ : ByteArray)] : List ByteArray)) (inner:=[.string (⟨#[]⟩ : ByteArray),.string (⟨#[115,109,97,108,108]⟩ : ByteArray),.string (⟨#[108,97,114,103,101]⟩ : ByteArray)]) (ok:=fun _ => True) (okp:=fun _ => True) ?hr ?hp (fun _ hk => hk) trivial (Below.refl _ _) (Nat.le_refl _) (by simp) ?_; (case hd => rfl); (case hg => rfl); (case hr => (go_simp; done)); (case hp => exact (Reps.one (show Kd.M Kd.string _ _ _ (⟨#[]⟩ : ByteArray) [.string (⟨#[]⟩ : ByteArray)] from rfl) (Reps.one (show Kd.M Kd.string _ _ _ (⟨#[115,109,97,108,108]⟩ : ByteArray) [.string (⟨#[115,109,97,108,108]⟩ : ByteArray)] from rfl) (Reps.one (show Kd.M Kd.string _ _ _ (⟨#[108,97,114,103,101]⟩ : ByteArray) [.string (⟨#[108,97,114,103,101]⟩ : ByteArray)] from rfl) (Reps.none _ _)))))
                       intro v925 w34 ho35 hb hg_ hnew_
                       have HS0_:=(hb.cell (World.block_lt_of_cell? _ _ (hHeld.1))).trans (hHeld.1)
                       have HS1_:=(hb.cell (World.block_lt_of_cell? _ _ (hHeld.2.1))).trans (hHeld.2.1)
                       have HS2_:=(hb.cell (World.block_lt_of_cell? _ _ (hHeld.2.2))).trans (hHeld.2.2)
                       clear hg_ hnew_
                       (rw [← Ny924.out] at ho35)
                       have n0_:=Aside0.mk (Kd.R_elder' (by exact HO_5.out) (Kd.R_base ho35) hb)
                       have n1_:=Aside0.mk (Kd.R_lower (Kd.R_new' ho35 (Kd.R_lt (by exact HO_5.out))) (below_size (by repeat (((with_reducible (exact HB.out)))))))
                       have n2_:=Aside0.mk (blk_below (g:=gb912) (o:=.cells #[.string (⟨#[]⟩ : ByteArray),.int .i64 0,.int .i64 0,.int .i64 0,.int .i64 0] 50 (0,0)) (by exact BK912.out) hb)
                       have n3_:=Aside0.mk (blk_below (g:=gb913) (o:=.cells #[.string (⟨#[]⟩ : ByteArray),.int .i64 0,.int .i64 0,.int .i64 0,.int .i64 0] 50 (0,0)) (by exact BK913.out) hb)
                       have n4_:=Aside0.mk (below_step (by repeat (((with_reducible (exact HB.out))))) hb)
                       clear HO_5
                       clear BK912
                       clear BK913
                       clear HB
                       have HO_5:=n0_
                       have HO926:=n1_
                       have BK912:=n2_
                       have BK913:=n3_
                       have HB:=n4_
                       clear n0_ n1_ n2_ n3_ n4_
                       clear hb ho35
                       refine hK.out _ _ ⟨HS0_,HS1_,HS2_⟩ (fun hHeld => ?_)
                       clear hK K
                       refine norm_ (a':=?_) ?_ ?_
                       rotate_left
                       ·show Act.put _ (some 40) _ = _
                        simp only [Act.put,List.setIfInBounds_toArray,List.set_cons_zero,List.set_cons_succ,i64_w,i32_w]
                        rfl
                       exact norm_ (by (simp only [putAll,Act.put,List.setIfInBounds_toArray,List.set_cons_zero,List.set_cons_succ]; done)) (hJ3 (v925) _ ⟨hHeld,(by exact Kd.R_mono HO926.out (fun _ hk => hk.2)),(by exact Kd.R_mono HO_5.out (fun _ hk => hk.2)),(by exact BK912.out),(by exact BK913.out),(by repeat (((with_reducible (exact HB.out)))))⟩)
                      ·skip
                       refine Kd.R_lit_step Kd.string _ 9 ?hg (N:=46) ?hd (xs:=([(⟨#[]⟩ : ByteArray),(⟨#[112,108,97,105,110]⟩ : ByteArray),(⟨#[114,101,101,102,101,114]⟩ : ByteArray),(⟨#[100,97,110,103,101,114]⟩ : ByteArray)] : List ByteArray)) (inner:=[.string (⟨#[]⟩ : ByteArray),.string (⟨#[112,108,97,105,110]⟩ : ByteArray),.string (⟨#[114,101,101,102,101,114]⟩ : ByteArray),.string (⟨#[100,97,110,103,101,114]⟩ : ByteArray)]) (ok:=fun _ => True) (okp:=fun _ => True) ?hr ?hp (fun _ hk => hk) trivial (Below.refl _ _) (Nat.le_refl _) (by simp) ?_; (case hd => rfl); (case hg => rfl); (case hr => (go_simp; done)); (case hp => exact (Reps.one (show Kd.M Kd.string _ _ _ (⟨#[]⟩ : ByteArray) [.string (⟨#[]⟩ : ByteArray)] from rfl) (Reps.one (show Kd.M Kd.string _ _ _ (⟨#[112,108,97,105,110]⟩ : ByteArray) [.string (⟨#[112,108,97,105,110]⟩ : ByteArray)] from rfl) (Reps.one (show Kd.M Kd.string _ _ _ (⟨#[114,101,101,102,101,114]⟩ : ByteArray) [.string (⟨#[114,101,101,102,101,114]⟩ : ByteArray)] from rfl) (Reps.one (show Kd.M Kd.string _ _ _ (⟨#[100,97,110,103,101,114]⟩ : ByteArray) [.string (⟨#[100,97,110,103,101,114]⟩ : ByteArray)] from rfl) (Reps.none _ _))))))
                       intro v930 w34 ho35 hb hg_ hnew_
                       have HS0_:=(hb.cell (World.block_lt_of_cell? _ _ (hHeld.1))).trans (hHeld.1)
                       have HS1_:=(hb.cell (World.block_lt_of_cell? _ _ (hHeld.2.1))).trans (hHeld.2.1)
                       have HS2_:=(hb.cell (World.block_lt_of_cell? _ _ (hHeld.2.2))).trans (hHeld.2.2)
                       clear hg_ hnew_
                       (rw [← Ny929.out] at ho35)
                       have n0_:=Aside0.mk (Kd.R_elder' (by exact HO_5.out) (Kd.R_base ho35) hb)
                       have n1_:=Aside0.mk (Kd.R_lower (Kd.R_new' ho35 (Kd.R_lt (by exact HO_5.out))) (below_size (by repeat (((with_reducible (exact HB.out)))))))
                       have n2_:=Aside0.mk (blk_below (g:=gb912) (o:=.cells #[.string (⟨#[]⟩ : ByteArray),.int .i64 0,.int .i64 0,.int .i64 0,.int .i64 0] 50 (0,0)) (by exact BK912.out) hb)
                       have n3_:=Aside0.mk (blk_below (g:=gb913) (o:=.cells #[.string (⟨#[]⟩ : ByteArray),.int .i64 0,.int .i64 0,.int .i64 0,.int .i64 0] 50 (0,0)) (by exact BK913.out) hb)
                       have n4_:=Aside0.mk (below_step (by repeat (((with_reducible (exact HB.out))))) hb)
                       clear HO_5
                       clear BK912
                       clear BK913
                       clear HB
                       have HO_5:=n0_
                       have HO931:=n1_
                       have BK912:=n2_
                       have BK913:=n3_
                       have HB:=n4_
                       clear n0_ n1_ n2_ n3_ n4_
                       clear hb ho35
                       refine hK.out _ _ ⟨HS0_,HS1_,HS2_⟩ (fun hHeld => ?_)
                       clear hK K
                       refine norm_ (a':=?_) ?_ ?_
                       rotate_left
                       ·show Act.put _ (some 46) _ = _
                        simp only [Act.put,List.setIfInBounds_toArray,List.set_cons_zero,List.set_cons_succ,i64_w,i32_w]
                        rfl
                       exact norm_ (by (simp only [putAll,Act.put,List.setIfInBounds_toArray,List.set_cons_zero,List.set_cons_succ]; done)) (hJ9 (v930) _ ⟨hHeld,(by exact Kd.R_mono HO931.out (fun _ hk => hk.2)),(by exact Kd.R_mono HO_5.out (fun _ hk => hk.2)),(by exact BK912.out),(by exact BK913.out),(by repeat (((with_reducible (exact HB.out)))))⟩)
                      ·skip
                       refine box_step ?hg (N:=10) ?hd (cs:=#[.string (⟨#[]⟩ : ByteArray),.int .i64 0,.int .i64 0,.int .i64 0,.int .i64 0]) (t:=50) ?hr ?_; (case hd => rfl); (case hg => rfl); (case hr => (go_simp; done))
                       intro gb934 hg w34 hbox hb
                       have HS0_:=(hb.cell (World.block_lt_of_cell? _ _ (hHeld.1))).trans (hHeld.1)
                       have HS1_:=(hb.cell (World.block_lt_of_cell? _ _ (hHeld.2.1))).trans (hHeld.2.1)
                       have HS2_:=(hb.cell (World.block_lt_of_cell? _ _ (hHeld.2.2))).trans (hHeld.2.2)
                       have n0_:=Aside0.mk (Kd.R_below (by exact HO_5.out) hb)
                       have n1_:=Aside0.mk (blk_below (g:=gb912) (o:=.cells #[.string (⟨#[]⟩ : ByteArray),.int .i64 0,.int .i64 0,.int .i64 0,.int .i64 0] 50 (0,0)) (by exact BK912.out) hb)
                       have n2_:=Aside0.mk (blk_below (g:=gb913) (o:=.cells #[.string (⟨#[]⟩ : ByteArray),.int .i64 0,.int .i64 0,.int .i64 0,.int .i64 0] 50 (0,0)) (by exact BK913.out) hb)
                       have n3_:=Aside0.mk (below_step (by repeat (((with_reducible (exact HB.out))))) hb)
                       have n4_:=Aside0.mk (hbox)
                       have n5_:=Aside0.mk ((by rw [hg]; exact (below_size (by repeat (((with_reducible (exact HB.out)))))) : w.heap.size ≤ gb934))
                       have n6_:=Aside0.mk ((by rw [hg]; exact (below_size (by repeat (((with_reducible (exact HB.out)))))) : w.heap.size ≤ gb934))
                       have n7_:=Aside0.mk ((by rw [hg]; exact Nat.ne_of_lt (blk_lt (g:=gb912) (o:=.cells #[.string (⟨#[]⟩ : ByteArray),.int .i64 0,.int .i64 0,.int .i64 0,.int .i64 0] 50 (0,0)) (by exact BK912.out)) : gb912 ≠ gb934))
                       have n8_:=Aside0.mk ((by rw [hg]; exact Nat.ne_of_gt (blk_lt (g:=gb912) (o:=.cells #[.string (⟨#[]⟩ : ByteArray),.int .i64 0,.int .i64 0,.int .i64 0,.int .i64 0] 50 (0,0)) (by exact BK912.out)) : gb934 ≠ gb912))
                       have n9_:=Aside0.mk ((by rw [hg]; exact Nat.ne_of_lt (blk_lt (g:=gb913) (o:=.cells #[.string (⟨#[]⟩ : ByteArray),.int .i64 0,.int .i64 0,.int .i64 0,.int .i64 0] 50 (0,0)) (by exact BK913.out)) : gb913 ≠ gb934))
                       have n10_:=Aside0.mk ((by rw [hg]; exact Nat.ne_of_gt (blk_lt (g:=gb913) (o:=.cells #[.string (⟨#[]⟩ : ByteArray),.int .i64 0,.int .i64 0,.int .i64 0,.int .i64 0] 50 (0,0)) (by exact BK913.out)) : gb934 ≠ gb913))
                       clear HO_5
                       clear BK912
                       clear BK913
                       clear HB
                       have HO_5:=n0_
                       have BK912:=n1_
                       have BK913:=n2_
                       have HB:=n3_
                       have BK934:=n4_
                       have GW934:=n5_
                       have GE934:=n6_
                       have NB912_934:=n7_
                       have NB934_912:=n8_
                       have NB913_934:=n9_
                       have NB934_913:=n10_
                       clear n0_ n1_ n2_ n3_ n4_ n5_ n6_ n7_ n8_ n9_ n10_
                       clear hb hbox hg
                       refine hK.out _ _ ⟨HS0_,HS1_,HS2_⟩ (fun hHeld => ?_)
                       clear hK K
                       refine norm_ (a':=?_) ?_ ?_
                       rotate_left
                       ·show Act.put _ (some 10) _ = _
                        simp only [Act.put,List.setIfInBounds_toArray,List.set_cons_zero,List.set_cons_succ,i64_w,i32_w]
                        rfl
                       exact norm_ (by (simp only [putAll,Act.put,List.setIfInBounds_toArray,List.set_cons_zero,List.set_cons_succ]; done)) (hJ16 (gb934) _ ⟨hHeld,(by exact HO_5.out),(by exact BK912.out),(by exact BK913.out),(by exact BK934.out),GW934.out,GE934.out,NB912_934.out,NB934_912.out,NB913_934.out,NB934_913.out,(by repeat (((with_reducible (exact HB.out)))))⟩)
                     ·skip
                      rintro gb934 w35 ⟨hS_,h0_,h1_,h2_,h3_,h4_,h5_,h6_,h7_,h8_,h9_,h10_⟩
                      have n0_ : Aside0 (Kd.R Kd.string 9 w35 w.heap.size (fun _ => True) (.slice (some ad917) t914.length co30) t914):=⟨h0_⟩
                      have n1_ : Aside0 (w35.heap[gb912]? = some (.cells #[.string (⟨#[]⟩ : ByteArray),.int .i64 0,.int .i64 0,.int .i64 0,.int .i64 0] 50 (0,0))):=⟨h1_⟩
                      have n2_ : Aside0 (w35.heap[gb913]? = some (.cells #[.string (⟨#[]⟩ : ByteArray),.int .i64 0,.int .i64 0,.int .i64 0,.int .i64 0] 50 (0,0))):=⟨h2_⟩
                      have n3_ : Aside0 (w35.heap[gb934]? = some (.cells #[.string (⟨#[]⟩ : ByteArray),.int .i64 0,.int .i64 0,.int .i64 0,.int .i64 0] 50 (0,0))):=⟨h3_⟩
                      have n4_ : Aside0 (w.heap.size ≤ gb934):=⟨h4_⟩
                      have n5_ : Aside0 (w.heap.size ≤ gb934):=⟨h5_⟩
                      have n6_ : Aside0 (gb912 ≠ gb934):=⟨h6_⟩
                      have n7_ : Aside0 (gb934 ≠ gb912):=⟨h7_⟩
                      have n8_ : Aside0 (gb913 ≠ gb934):=⟨h8_⟩
                      have n9_ : Aside0 (gb934 ≠ gb913):=⟨h9_⟩
                      have n10_ : Aside0 (Below w.heap.size w w35):=⟨h10_⟩
                      clear HO_5
                      clear BK912
                      clear BK913
                      clear HB
                      clear h0_ h1_ h2_ h3_ h4_ h5_ h6_ h7_ h8_ h9_ h10_
                      have HO_5:=n0_
                      have BK912:=n1_
                      have BK913:=n2_
                      have BK934:=n3_
                      have GW934:=n4_
                      have GE934:=n5_
                      have NB912_934:=n6_
                      have NB934_912:=n7_
                      have NB913_934:=n8_
                      have NB934_913:=n9_
                      have HB:=n10_
                      clear n0_ n1_ n2_ n3_ n4_ n5_ n6_ n7_ n8_ n9_ n10_
                      have hHeld : w35.cell? ad917 = some (.string (rdOf ByteArray.empty t914 0)) ∧ w35.cell? ⟨ad917.block,ad917.off + 1,none⟩ = some (.string (rdOf ByteArray.empty t914 1)) ∧ w35.cell? ⟨ad917.block,ad917.off + 3,none⟩ = some (.string (rdOf ByteArray.empty t914 3)):=hS_
                      refine norm_ (a':=?_) ?_ ?_
                      rotate_left
                      ·simp only [putAll,Act.put,List.setIfInBounds_toArray,List.set_cons_zero,List.set_cons_succ]
                       rfl
                      refine two_ (i:=3) (j:=9) (Ni:=some 40) (Nj:=some 46) (bda4 18 89471) (bda4 18 89975) rfl rfl rfl rfl (two_of HT_.out (by kernel_rfl)) (by decide) (by decide) (fun K hK => ?_) (fun K hK => ?_)
                      ·skip
                       refine Kd.R_lit_step Kd.string _ 9 ?hg (N:=40) ?hd (xs:=([(⟨#[]⟩ : ByteArray),(⟨#[115,109,97,108,108]⟩ : ByteArray),(⟨#[108,97,114,103,101]⟩ : ByteArray)] : List ByteArray)) (inner:=[.string (⟨#[]⟩ : ByteArray),.string (⟨#[115,109,97,108,108]⟩ : ByteArray),.string (⟨#[108,97,114,103,101]⟩ : ByteArray)]) (ok:=fun _ => True) (okp:=fun _ => True) ?hr ?hp (fun _ hk => hk) trivial (Below.refl _ _) (Nat.le_refl _) (by simp) ?_; (case hd => rfl); (case hg => rfl); (case hr => (go_simp; done)); (case hp => exact (Reps.one (show Kd.M Kd.string _ _ _ (⟨#[]⟩ : ByteArray) [.string (⟨#[]⟩ : ByteArray)] from rfl) (Reps.one (show Kd.M Kd.string _ _ _ (⟨#[115,109,97,108,108]⟩ : ByteArray) [.string (⟨#[115,109,97,108,108]⟩ : ByteArray)] from rfl) (Reps.one (show Kd.M Kd.string _ _ _ (⟨#[108,97,114,103,101]⟩ : ByteArray) [.string (⟨#[108,97,114,103,101]⟩ : ByteArray)] from rfl) (Reps.none _ _)))))
                       intro v925 w36 ho37 hb hg_ hnew_
                       have HS0_:=(hb.cell (World.block_lt_of_cell? _ _ (hHeld.1))).trans (hHeld.1)
                       have HS1_:=(hb.cell (World.block_lt_of_cell? _ _ (hHeld.2.1))).trans (hHeld.2.1)
                       have HS2_:=(hb.cell (World.block_lt_of_cell? _ _ (hHeld.2.2))).trans (hHeld.2.2)
                       clear hg_ hnew_
                       (rw [← Ny924.out] at ho37)
                       have n0_:=Aside0.mk (Kd.R_elder' (by exact HO_5.out) (Kd.R_base ho37) hb)
                       have n1_:=Aside0.mk (Kd.R_lower (Kd.R_new' ho37 (Kd.R_lt (by exact HO_5.out))) (below_size (by repeat (((with_reducible (exact HB.out)))))))
                       have n2_:=Aside0.mk (blk_below (g:=gb912) (o:=.cells #[.string (⟨#[]⟩ : ByteArray),.int .i64 0,.int .i64 0,.int .i64 0,.int .i64 0] 50 (0,0)) (by exact BK912.out) hb)
                       have n3_:=Aside0.mk (blk_below (g:=gb913) (o:=.cells #[.string (⟨#[]⟩ : ByteArray),.int .i64 0,.int .i64 0,.int .i64 0,.int .i64 0] 50 (0,0)) (by exact BK913.out) hb)
                       have n4_:=Aside0.mk (blk_below (g:=gb934) (o:=.cells #[.string (⟨#[]⟩ : ByteArray),.int .i64 0,.int .i64 0,.int .i64 0,.int .i64 0] 50 (0,0)) (by exact BK934.out) hb)
                       have n5_:=Aside0.mk (below_step (by repeat (((with_reducible (exact HB.out))))) hb)
                       clear HO_5
                       clear BK912
                       clear BK913
                       clear BK934
                       clear HB
                       have HO_5:=n0_
                       have HO926:=n1_
                       have BK912:=n2_
                       have BK913:=n3_
                       have BK934:=n4_
                       have HB:=n5_
                       clear n0_ n1_ n2_ n3_ n4_ n5_
                       clear hb ho37
                       refine hK.out _ _ ⟨HS0_,HS1_,HS2_⟩ (fun hHeld => ?_)
                       clear hK K
                       refine norm_ (a':=?_) ?_ ?_
                       rotate_left
                       ·show Act.put _ (some 40) _ = _
                        simp only [Act.put,List.setIfInBounds_toArray,List.set_cons_zero,List.set_cons_succ,i64_w,i32_w]
                        rfl
                       exact norm_ (by (simp only [putAll,Act.put,List.setIfInBounds_toArray,List.set_cons_zero,List.set_cons_succ]; done)) (hJ3_16 (v925,gb934) _ ⟨hHeld,(by exact Kd.R_mono HO926.out (fun _ hk => hk.2)),(by exact Kd.R_mono HO_5.out (fun _ hk => hk.2)),(by exact BK912.out),(by exact BK913.out),(by exact BK934.out),GW934.out,GE934.out,NB912_934.out,NB934_912.out,NB913_934.out,NB934_913.out,(by repeat (((with_reducible (exact HB.out)))))⟩)
                      ·skip
                       refine Kd.R_lit_step Kd.string _ 9 ?hg (N:=46) ?hd (xs:=([(⟨#[]⟩ : ByteArray),(⟨#[112,108,97,105,110]⟩ : ByteArray),(⟨#[114,101,101,102,101,114]⟩ : ByteArray),(⟨#[100,97,110,103,101,114]⟩ : ByteArray)] : List ByteArray)) (inner:=[.string (⟨#[]⟩ : ByteArray),.string (⟨#[112,108,97,105,110]⟩ : ByteArray),.string (⟨#[114,101,101,102,101,114]⟩ : ByteArray),.string (⟨#[100,97,110,103,101,114]⟩ : ByteArray)]) (ok:=fun _ => True) (okp:=fun _ => True) ?hr ?hp (fun _ hk => hk) trivial (Below.refl _ _) (Nat.le_refl _) (by simp) ?_; (case hd => rfl); (case hg => rfl); (case hr => (go_simp; done)); (case hp => exact (Reps.one (show Kd.M Kd.string _ _ _ (⟨#[]⟩ : ByteArray) [.string (⟨#[]⟩ : ByteArray)] from rfl) (Reps.one (show Kd.M Kd.string _ _ _ (⟨#[112,108,97,105,110]⟩ : ByteArray) [.string (⟨#[112,108,97,105,110]⟩ : ByteArray)] from rfl) (Reps.one (show Kd.M Kd.string _ _ _ (⟨#[114,101,101,102,101,114]⟩ : ByteArray) [.string (⟨#[114,101,101,102,101,114]⟩ : ByteArray)] from rfl) (Reps.one (show Kd.M Kd.string _ _ _ (⟨#[100,97,110,103,101,114]⟩ : ByteArray) [.string (⟨#[100,97,110,103,101,114]⟩ : ByteArray)] from rfl) (Reps.none _ _))))))
                       intro v930 w36 ho37 hb hg_ hnew_
                       have HS0_:=(hb.cell (World.block_lt_of_cell? _ _ (hHeld.1))).trans (hHeld.1)
                       have HS1_:=(hb.cell (World.block_lt_of_cell? _ _ (hHeld.2.1))).trans (hHeld.2.1)
                       have HS2_:=(hb.cell (World.block_lt_of_cell? _ _ (hHeld.2.2))).trans (hHeld.2.2)
                       clear hg_ hnew_
                       (rw [← Ny929.out] at ho37)
                       have n0_:=Aside0.mk (Kd.R_elder' (by exact HO_5.out) (Kd.R_base ho37) hb)
                       have n1_:=Aside0.mk (Kd.R_lower (Kd.R_new' ho37 (Kd.R_lt (by exact HO_5.out))) (below_size (by repeat (((with_reducible (exact HB.out)))))))
                       have n2_:=Aside0.mk (blk_below (g:=gb912) (o:=.cells #[.string (⟨#[]⟩ : ByteArray),.int .i64 0,.int .i64 0,.int .i64 0,.int .i64 0] 50 (0,0)) (by exact BK912.out) hb)
                       have n3_:=Aside0.mk (blk_below (g:=gb913) (o:=.cells #[.string (⟨#[]⟩ : ByteArray),.int .i64 0,.int .i64 0,.int .i64 0,.int .i64 0] 50 (0,0)) (by exact BK913.out) hb)
                       have n4_:=Aside0.mk (blk_below (g:=gb934) (o:=.cells #[.string (⟨#[]⟩ : ByteArray),.int .i64 0,.int .i64 0,.int .i64 0,.int .i64 0] 50 (0,0)) (by exact BK934.out) hb)
                       have n5_:=Aside0.mk (below_step (by repeat (((with_reducible (exact HB.out))))) hb)
                       clear HO_5
                       clear BK912
                       clear BK913
                       clear BK934
                       clear HB
                       have HO_5:=n0_
                       have HO931:=n1_
                       have BK912:=n2_
                       have BK913:=n3_
                       have BK934:=n4_
                       have HB:=n5_
                       clear n0_ n1_ n2_ n3_ n4_ n5_
                       clear hb ho37
                       refine hK.out _ _ ⟨HS0_,HS1_,HS2_⟩ (fun hHeld => ?_)
                       clear hK K
                       refine norm_ (a':=?_) ?_ ?_
                       rotate_left
                       ·show Act.put _ (some 46) _ = _
                        simp only [Act.put,List.setIfInBounds_toArray,List.set_cons_zero,List.set_cons_succ,i64_w,i32_w]
                        rfl
                       exact norm_ (by (simp only [putAll,Act.put,List.setIfInBounds_toArray,List.set_cons_zero,List.set_cons_succ]; done)) (hJ9_16 (v930,gb934) _ ⟨hHeld,(by exact Kd.R_mono HO931.out (fun _ hk => hk.2)),(by exact Kd.R_mono HO_5.out (fun _ hk => hk.2)),(by exact BK912.out),(by exact BK913.out),(by exact BK934.out),GW934.out,GE934.out,NB912_934.out,NB934_912.out,NB913_934.out,NB934_913.out,(by repeat (((with_reducible (exact HB.out)))))⟩)
                    ·skip
                     rintro v930 w36 ⟨hS_,h0_,h1_,h2_,h3_,h4_⟩
                     have n0_ : Aside0 (Kd.R Kd.string 9 w36 w.heap.size (fun k_ => some k_ ≠ (.slice (some ad917) t914.length co30 : Value).ownBlock) v930 y929):=⟨h0_⟩
                     have n1_ : Aside0 (Kd.R Kd.string 9 w36 w.heap.size (fun k_ => some k_ ≠ (v930 : Value).ownBlock) (.slice (some ad917) t914.length co30) t914):=⟨h1_⟩
                     have n2_ : Aside0 (w36.heap[gb912]? = some (.cells #[.string (⟨#[]⟩ : ByteArray),.int .i64 0,.int .i64 0,.int .i64 0,.int .i64 0] 50 (0,0))):=⟨h2_⟩
                     have n3_ : Aside0 (w36.heap[gb913]? = some (.cells #[.string (⟨#[]⟩ : ByteArray),.int .i64 0,.int .i64 0,.int .i64 0,.int .i64 0] 50 (0,0))):=⟨h3_⟩
                     have n4_ : Aside0 (Below w.heap.size w w36):=⟨h4_⟩
                     clear HO_5
                     clear BK912
                     clear BK913
                     clear HB
                     clear h0_ h1_ h2_ h3_ h4_
                     have HO931:=n0_
                     have HO_5:=n1_
                     have BK912:=n2_
                     have BK913:=n3_
                     have HB:=n4_
                     clear n0_ n1_ n2_ n3_ n4_
                     have hHeld : w36.cell? ad917 = some (.string (rdOf ByteArray.empty t914 0)) ∧ w36.cell? ⟨ad917.block,ad917.off + 1,none⟩ = some (.string (rdOf ByteArray.empty t914 1)) ∧ w36.cell? ⟨ad917.block,ad917.off + 3,none⟩ = some (.string (rdOf ByteArray.empty t914 3)):=hS_
                     refine norm_ (a':=?_) ?_ ?_
                     rotate_left
                     ·simp only [putAll,Act.put,List.setIfInBounds_toArray,List.set_cons_zero,List.set_cons_succ]
                      rfl
                     refine two_ (i:=3) (j:=16) (Ni:=some 40) (Nj:=some 10) (bda4 18 24447) (bda4 18 89975) rfl rfl rfl rfl (two_of HT_.out (by kernel_rfl)) (by decide) (by decide) (fun K hK => ?_) (fun K hK => ?_)
                     ·skip
                      refine Kd.R_lit_step Kd.string _ 9 ?hg (N:=40) ?hd (xs:=([(⟨#[]⟩ : ByteArray),(⟨#[115,109,97,108,108]⟩ : ByteArray),(⟨#[108,97,114,103,101]⟩ : ByteArray)] : List ByteArray)) (inner:=[.string (⟨#[]⟩ : ByteArray),.string (⟨#[115,109,97,108,108]⟩ : ByteArray),.string (⟨#[108,97,114,103,101]⟩ : ByteArray)]) (ok:=fun _ => True) (okp:=fun _ => True) ?hr ?hp (fun _ hk => hk) trivial (Below.refl _ _) (Nat.le_refl _) (by simp) ?_; (case hd => rfl); (case hg => rfl); (case hr => (go_simp; done)); (case hp => exact (Reps.one (show Kd.M Kd.string _ _ _ (⟨#[]⟩ : ByteArray) [.string (⟨#[]⟩ : ByteArray)] from rfl) (Reps.one (show Kd.M Kd.string _ _ _ (⟨#[115,109,97,108,108]⟩ : ByteArray) [.string (⟨#[115,109,97,108,108]⟩ : ByteArray)] from rfl) (Reps.one (show Kd.M Kd.string _ _ _ (⟨#[108,97,114,103,101]⟩ : ByteArray) [.string (⟨#[108,97,114,103,101]⟩ : ByteArray)] from rfl) (Reps.none _ _)))))
                      intro v925 w37 ho38 hb hg_ hnew_
                      have HS0_:=(hb.cell (World.block_lt_of_cell? _ _ (hHeld.1))).trans (hHeld.1)
                      have HS1_:=(hb.cell (World.block_lt_of_cell? _ _ (hHeld.2.1))).trans (hHeld.2.1)
                      have HS2_:=(hb.cell (World.block_lt_of_cell? _ _ (hHeld.2.2))).trans (hHeld.2.2)
                      clear hg_ hnew_
                      (rw [← Ny924.out] at ho38)
                      have n0_:=Aside0.mk (Kd.R_elder' (by exact HO_5.out) (Kd.R_base ho38) hb)
                      have n1_:=Aside0.mk (Kd.R_elder' (by exact HO931.out) (Kd.R_base ho38) hb)
                      have n2_:=Aside0.mk (Kd.R_lower (Kd.R_new' (Kd.R_new' ho38 (Kd.R_lt (by exact HO_5.out))) (Kd.R_lt (by exact HO931.out))) (below_size (by repeat (((with_reducible (exact HB.out)))))))
                      have n3_:=Aside0.mk (blk_below (g:=gb912) (o:=.cells #[.string (⟨#[]⟩ : ByteArray),.int .i64 0,.int .i64 0,.int .i64 0,.int .i64 0] 50 (0,0)) (by exact BK912.out) hb)
                      have n4_:=Aside0.mk (blk_below (g:=gb913) (o:=.cells #[.string (⟨#[]⟩ : ByteArray),.int .i64 0,.int .i64 0,.int .i64 0,.int .i64 0] 50 (0,0)) (by exact BK913.out) hb)
                      have n5_:=Aside0.mk (below_step (by repeat (((with_reducible (exact HB.out))))) hb)
                      clear HO_5
                      clear HO931
                      clear BK912
                      clear BK913
                      clear HB
                      have HO_5:=n0_
                      have HO931:=n1_
                      have HO926:=n2_
                      have BK912:=n3_
                      have BK913:=n4_
                      have HB:=n5_
                      clear n0_ n1_ n2_ n3_ n4_ n5_
                      clear hb ho38
                      refine hK.out _ _ ⟨HS0_,HS1_,HS2_⟩ (fun hHeld => ?_)
                      clear hK K
                      refine norm_ (a':=?_) ?_ ?_
                      rotate_left
                      ·show Act.put _ (some 40) _ = _
                       simp only [Act.put,List.setIfInBounds_toArray,List.set_cons_zero,List.set_cons_succ,i64_w,i32_w]
                       rfl
                      exact norm_ (by (simp only [putAll,Act.put,List.setIfInBounds_toArray,List.set_cons_zero,List.set_cons_succ]; done)) (hJ3_9 (v925,v930) _ ⟨hHeld,(by exact Kd.R_mono HO926.out (fun _ hk => ⟨hk.2,hk.1.2⟩)),(by exact Kd.R_mono HO931.out (fun _ hk => ⟨hk.2,hk.1⟩)),(by exact Kd.R_mono HO_5.out (fun _ hk => ⟨hk.2,hk.1⟩)),(by exact BK912.out),(by exact BK913.out),(by repeat (((with_reducible (exact HB.out)))))⟩)
                     ·skip
                      refine box_step ?hg (N:=10) ?hd (cs:=#[.string (⟨#[]⟩ : ByteArray),.int .i64 0,.int .i64 0,.int .i64 0,.int .i64 0]) (t:=50) ?hr ?_; (case hd => rfl); (case hg => rfl); (case hr => (go_simp; done))
                      intro gb934 hg w37 hbox hb
                      have HS0_:=(hb.cell (World.block_lt_of_cell? _ _ (hHeld.1))).trans (hHeld.1)
                      have HS1_:=(hb.cell (World.block_lt_of_cell? _ _ (hHeld.2.1))).trans (hHeld.2.1)
                      have HS2_:=(hb.cell (World.block_lt_of_cell? _ _ (hHeld.2.2))).trans (hHeld.2.2)
                      have n0_:=Aside0.mk (Kd.R_below (by exact HO_5.out) hb)
                      have n1_:=Aside0.mk (Kd.R_below (by exact HO931.out) hb)
                      have n2_:=Aside0.mk (blk_below (g:=gb912) (o:=.cells #[.string (⟨#[]⟩ : ByteArray),.int .i64 0,.int .i64 0,.int .i64 0,.int .i64 0] 50 (0,0)) (by exact BK912.out) hb)
                      have n3_:=Aside0.mk (blk_below (g:=gb913) (o:=.cells #[.string (⟨#[]⟩ : ByteArray),.int .i64 0,.int .i64 0,.int .i64 0,.int .i64 0] 50 (0,0)) (by exact BK913.out) hb)
                      have n4_:=Aside0.mk (below_step (by repeat (((with_reducible (exact HB.out))))) hb)
                      have n5_:=Aside0.mk (hbox)
                      have n6_:=Aside0.mk ((by rw [hg]; exact (below_size (by repeat (((with_reducible (exact HB.out)))))) : w.heap.size ≤ gb934))
                      have n7_:=Aside0.mk ((by rw [hg]; exact (below_size (by repeat (((with_reducible (exact HB.out)))))) : w.heap.size ≤ gb934))
                      have n8_:=Aside0.mk ((by rw [hg]; exact Nat.ne_of_lt (blk_lt (g:=gb912) (o:=.cells #[.string (⟨#[]⟩ : ByteArray),.int .i64 0,.int .i64 0,.int .i64 0,.int .i64 0] 50 (0,0)) (by exact BK912.out)) : gb912 ≠ gb934))
                      have n9_:=Aside0.mk ((by rw [hg]; exact Nat.ne_of_gt (blk_lt (g:=gb912) (o:=.cells #[.string (⟨#[]⟩ : ByteArray),.int .i64 0,.int .i64 0,.int .i64 0,.int .i64 0] 50 (0,0)) (by exact BK912.out)) : gb934 ≠ gb912))
                      have n10_:=Aside0.mk ((by rw [hg]; exact Nat.ne_of_lt (blk_lt (g:=gb913) (o:=.cells #[.string (⟨#[]⟩ : ByteArray),.int .i64 0,.int .i64 0,.int .i64 0,.int .i64 0] 50 (0,0)) (by exact BK913.out)) : gb913 ≠ gb934))
                      have n11_:=Aside0.mk ((by rw [hg]; exact Nat.ne_of_gt (blk_lt (g:=gb913) (o:=.cells #[.string (⟨#[]⟩ : ByteArray),.int .i64 0,.int .i64 0,.int .i64 0,.int .i64 0] 50 (0,0)) (by exact BK913.out)) : gb934 ≠ gb913))
                      clear HO_5
                      clear HO931
                      clear BK912
                      clear BK913
                      clear HB
                      have HO_5:=n0_
                      have HO931:=n1_
                      have BK912:=n2_
                      have BK913:=n3_
                      have HB:=n4_
                      have BK934:=n5_
                      have GW934:=n6_
                      have GE934:=n7_
                      have NB912_934:=n8_
                      have NB934_912:=n9_
                      have NB913_934:=n10_
                      have NB934_913:=n11_
                      clear n0_ n1_ n2_ n3_ n4_ n5_ n6_ n7_ n8_ n9_ n10_ n11_
                      clear hb hbox hg
                      refine hK.out _ _ ⟨HS0_,HS1_,HS2_⟩ (fun hHeld => ?_)
                      clear hK K
                      refine norm_ (a':=?_) ?_ ?_
                      rotate_left
                      ·show Act.put _ (some 10) _ = _
                       simp only [Act.put,List.setIfInBounds_toArray,List.set_cons_zero,List.set_cons_succ,i64_w,i32_w]
                       rfl
                      exact norm_ (by (simp only [putAll,Act.put,List.setIfInBounds_toArray,List.set_cons_zero,List.set_cons_succ]; done)) (hJ9_16 (v930,gb934) _ ⟨hHeld,(by exact HO931.out),(by exact HO_5.out),(by exact BK912.out),(by exact BK913.out),(by exact BK934.out),GW934.out,GE934.out,NB912_934.out,NB934_912.out,NB913_934.out,NB934_913.out,(by repeat (((with_reducible (exact HB.out)))))⟩)
                   ·skip
                    rintro v925 w36 ⟨hS_,h0_,h1_,h2_,h3_,h4_⟩
                    have n0_ : Aside0 (Kd.R Kd.string 9 w36 w.heap.size (fun k_ => some k_ ≠ (.slice (some ad917) t914.length co30 : Value).ownBlock) v925 y924):=⟨h0_⟩
                    have n1_ : Aside0 (Kd.R Kd.string 9 w36 w.heap.size (fun k_ => some k_ ≠ (v925 : Value).ownBlock) (.slice (some ad917) t914.length co30) t914):=⟨h1_⟩
                    have n2_ : Aside0 (w36.heap[gb912]? = some (.cells #[.string (⟨#[]⟩ : ByteArray),.int .i64 0,.int .i64 0,.int .i64 0,.int .i64 0] 50 (0,0))):=⟨h2_⟩
                    have n3_ : Aside0 (w36.heap[gb913]? = some (.cells #[.string (⟨#[]⟩ : ByteArray),.int .i64 0,.int .i64 0,.int .i64 0,.int .i64 0] 50 (0,0))):=⟨h3_⟩
                    have n4_ : Aside0 (Below w.heap.size w w36):=⟨h4_⟩
                    clear HO_5
                    clear BK912
                    clear BK913
                    clear HB
                    clear h0_ h1_ h2_ h3_ h4_
                    have HO926:=n0_
                    have HO_5:=n1_
                    have BK912:=n2_
                    have BK913:=n3_
                    have HB:=n4_
                    clear n0_ n1_ n2_ n3_ n4_
                    have hHeld : w36.cell? ad917 = some (.string (rdOf ByteArray.empty t914 0)) ∧ w36.cell? ⟨ad917.block,ad917.off + 1,none⟩ = some (.string (rdOf ByteArray.empty t914 1)) ∧ w36.cell? ⟨ad917.block,ad917.off + 3,none⟩ = some (.string (rdOf ByteArray.empty t914 3)):=hS_
                    obtain ⟨Ao37,co37,eo37⟩:=Kd.R_slice HO926.out
                    (subst eo37)
                    let v925 : Value:=.slice Ao37 y924.length co37
                    refine norm_ (a':=?_) ?_ ?_
                    rotate_left
                    ·simp only [putAll,Act.put,List.setIfInBounds_toArray,List.set_cons_zero,List.set_cons_succ]
                     rfl
                    refine three_ (i:=7) (j:=9) (k:=16) (Ni:=some 44) (Nj:=some 46) (Nk:=some 10) (bda4 18 24063) (bda4 18 24447) (bda4 18 89471) rfl rfl rfl rfl rfl rfl (three_of HT_.out (by kernel_rfl)) (by decide) (by decide) (by decide) (fun K hK => ?_) (fun K hK => ?_) (fun K hK => ?_)
                    ·skip
                     refine goes_ Tryz.func87 (by kernel_rfl) rfl #[.slice Ao37 y924.length co37,.string (rdOf ByteArray.empty t914 1)] (by rfl) rfl rfl (by (try simp only [List.map_toArray,List.map_cons,List.map_nil]); (rfl)) ?_
                     with_reducible refine (spec_l4Index.calls kj2 _ _ y924 (rdOf ByteArray.empty t914 1) t928 _ ?side1 ?side2 A21.out).mono ?_
                     (case side1 => repeat ((exact (Kd.R_reads' HO926.out).2.2)))
                     (case side2 => exact (Kd.R_reads' HO926.out).2.1)
                     rintro e w' ⟨rfl,⟨nd,rfl⟩⟩
                     refine ⟨_,rfl,?_⟩
                     refine hK.out _ _ ⟨hHeld.1,hHeld.2.1,hHeld.2.2⟩ (fun hHeld => ?_)
                     clear hK K
                     refine norm_ (a':=?_) ?_ ?_
                     rotate_left
                     ·show Act.put _ (some 44) _ = _
                      simp only [Act.put,List.setIfInBounds_toArray,List.set_cons_zero,List.set_cons_succ,i64_w,i32_w]
                      rfl
                     exact norm_ (by (simp only [putAll,Act.put,List.setIfInBounds_toArray,List.set_cons_zero,List.set_cons_succ]; done)) (hJ3_7 (.slice Ao37 y924.length co37) _ ⟨hHeld,(by (with_reducible repeat (apply Kd.R_drewN)); exact HO926.out),(by (with_reducible repeat (apply Kd.R_drewN)); exact HO_5.out),(by (with_reducible repeat (refine blk_drewN ?_ _)); exact BK912.out),(by (with_reducible repeat (refine blk_drewN ?_ _)); exact BK913.out),(by repeat (with_reducible first|exact HB.out|apply pw_below_drewN))⟩)
                    ·skip
                     refine Kd.R_lit_step Kd.string _ 9 ?hg (N:=46) ?hd (xs:=([(⟨#[]⟩ : ByteArray),(⟨#[112,108,97,105,110]⟩ : ByteArray),(⟨#[114,101,101,102,101,114]⟩ : ByteArray),(⟨#[100,97,110,103,101,114]⟩ : ByteArray)] : List ByteArray)) (inner:=[.string (⟨#[]⟩ : ByteArray),.string (⟨#[112,108,97,105,110]⟩ : ByteArray),.string (⟨#[114,101,101,102,101,114]⟩ : ByteArray),.string (⟨#[100,97,110,103,101,114]⟩ : ByteArray)]) (ok:=fun _ => True) (okp:=fun _ => True) ?hr ?hp (fun _ hk => hk) trivial (Below.refl _ _) (Nat.le_refl _) (by simp) ?_; (case hd => rfl); (case hg => rfl); (case hr => (go_simp; done)); (case hp => exact (Reps.one (show Kd.M Kd.string _ _ _ (⟨#[]⟩ : ByteArray) [.string (⟨#[]⟩ : ByteArray)] from rfl) (Reps.one (show Kd.M Kd.string _ _ _ (⟨#[112,108,97,105,110]⟩ : ByteArray) [.string (⟨#[112,108,97,105,110]⟩ : ByteArray)] from rfl) (Reps.one (show Kd.M Kd.string _ _ _ (⟨#[114,101,101,102,101,114]⟩ : ByteArray) [.string (⟨#[114,101,101,102,101,114]⟩ : ByteArray)] from rfl) (Reps.one (show Kd.M Kd.string _ _ _ (⟨#[100,97,110,103,101,114]⟩ : ByteArray) [.string (⟨#[100,97,110,103,101,114]⟩ : ByteArray)] from rfl) (Reps.none _ _))))))
                     intro v930 w37 ho38 hb hg_ hnew_
                     have HS0_:=(hb.cell (World.block_lt_of_cell? _ _ (hHeld.1))).trans (hHeld.1)
                     have HS1_:=(hb.cell (World.block_lt_of_cell? _ _ (hHeld.2.1))).trans (hHeld.2.1)
                     have HS2_:=(hb.cell (World.block_lt_of_cell? _ _ (hHeld.2.2))).trans (hHeld.2.2)
                     clear hg_ hnew_
                     (rw [← Ny929.out] at ho38)
                     have n0_:=Aside0.mk (Kd.R_elder' (by exact HO_5.out) (Kd.R_base ho38) hb)
                     have n1_:=Aside0.mk (Kd.R_elder' (by exact HO926.out) (Kd.R_base ho38) hb)
                     have n2_:=Aside0.mk (Kd.R_lower (Kd.R_new' (Kd.R_new' ho38 (Kd.R_lt (by exact HO_5.out))) (Kd.R_lt (by exact HO926.out))) (below_size (by repeat (((with_reducible (exact HB.out)))))))
                     have n3_:=Aside0.mk (blk_below (g:=gb912) (o:=.cells #[.string (⟨#[]⟩ : ByteArray),.int .i64 0,.int .i64 0,.int .i64 0,.int .i64 0] 50 (0,0)) (by exact BK912.out) hb)
                     have n4_:=Aside0.mk (blk_below (g:=gb913) (o:=.cells #[.string (⟨#[]⟩ : ByteArray),.int .i64 0,.int .i64 0,.int .i64 0,.int .i64 0] 50 (0,0)) (by exact BK913.out) hb)
                     have n5_:=Aside0.mk (below_step (by repeat (((with_reducible (exact HB.out))))) hb)
                     clear HO_5
                     clear HO926
                     clear BK912
                     clear BK913
                     clear HB
                     have HO_5:=n0_
                     have HO926:=n1_
                     have HO931:=n2_
                     have BK912:=n3_
                     have BK913:=n4_
                     have HB:=n5_
                     clear n0_ n1_ n2_ n3_ n4_ n5_
                     clear hb ho38
                     refine hK.out _ _ ⟨HS0_,HS1_,HS2_⟩ (fun hHeld => ?_)
                     clear hK K
                     refine norm_ (a':=?_) ?_ ?_
                     rotate_left
                     ·show Act.put _ (some 46) _ = _
                      simp only [Act.put,List.setIfInBounds_toArray,List.set_cons_zero,List.set_cons_succ,i64_w,i32_w]
                      rfl
                     exact norm_ (by (simp only [putAll,Act.put,List.setIfInBounds_toArray,List.set_cons_zero,List.set_cons_succ]; rfl)) (hJ3_9 (v925,v930) _ ⟨hHeld,(by exact Kd.R_mono HO926.out (fun _ hk => ⟨hk.2,hk.1⟩)),(by exact Kd.R_mono HO931.out (fun _ hk => ⟨hk.2,hk.1.2⟩)),(by exact HO_5.out),(by exact BK912.out),(by exact BK913.out),(by repeat (((with_reducible (exact HB.out)))))⟩)
                    ·skip
                     refine box_step ?hg (N:=10) ?hd (cs:=#[.string (⟨#[]⟩ : ByteArray),.int .i64 0,.int .i64 0,.int .i64 0,.int .i64 0]) (t:=50) ?hr ?_; (case hd => rfl); (case hg => rfl); (case hr => (go_simp; done))
                     intro gb934 hg w37 hbox hb
                     have HS0_:=(hb.cell (World.block_lt_of_cell? _ _ (hHeld.1))).trans (hHeld.1)
                     have HS1_:=(hb.cell (World.block_lt_of_cell? _ _ (hHeld.2.1))).trans (hHeld.2.1)
                     have HS2_:=(hb.cell (World.block_lt_of_cell? _ _ (hHeld.2.2))).trans (hHeld.2.2)
                     have n0_:=Aside0.mk (Kd.R_below (by exact HO_5.out) hb)
                     have n1_:=Aside0.mk (Kd.R_below (by exact HO926.out) hb)
                     have n2_:=Aside0.mk (blk_below (g:=gb912) (o:=.cells #[.string (⟨#[]⟩ : ByteArray),.int .i64 0,.int .i64 0,.int .i64 0,.int .i64 0] 50 (0,0)) (by exact BK912.out) hb)
                     have n3_:=Aside0.mk (blk_below (g:=gb913) (o:=.cells #[.string (⟨#[]⟩ : ByteArray),.int .i64 0,.int .i64 0,.int .i64 0,.int .i64 0] 50 (0,0)) (by exact BK913.out) hb)
                     have n4_:=Aside0.mk (below_step (by repeat (((with_reducible (exact HB.out))))) hb)
                     have n5_:=Aside0.mk (hbox)
                     have n6_:=Aside0.mk ((by rw [hg]; exact (below_size (by repeat (((with_reducible (exact HB.out)))))) : w.heap.size ≤ gb934))
                     have n7_:=Aside0.mk ((by rw [hg]; exact (below_size (by repeat (((with_reducible (exact HB.out)))))) : w.heap.size ≤ gb934))
                     have n8_:=Aside0.mk ((by rw [hg]; exact Nat.ne_of_lt (blk_lt (g:=gb912) (o:=.cells #[.string (⟨#[]⟩ : ByteArray),.int .i64 0,.int .i64 0,.int .i64 0,.int .i64 0] 50 (0,0)) (by exact BK912.out)) : gb912 ≠ gb934))
                     have n9_:=Aside0.mk ((by rw [hg]; exact Nat.ne_of_gt (blk_lt (g:=gb912) (o:=.cells #[.string (⟨#[]⟩ : ByteArray),.int .i64 0,.int .i64 0,.int .i64 0,.int .i64 0] 50 (0,0)) (by exact BK912.out)) : gb934 ≠ gb912))
                     have n10_:=Aside0.mk ((by rw [hg]; exact Nat.ne_of_lt (blk_lt (g:=gb913) (o:=.cells #[.string (⟨#[]⟩ : ByteArray),.int .i64 0,.int .i64 0,.int .i64 0,.int .i64 0] 50 (0,0)) (by exact BK913.out)) : gb913 ≠ gb934))
                     have n11_:=Aside0.mk ((by rw [hg]; exact Nat.ne_of_gt (blk_lt (g:=gb913) (o:=.cells #[.string (⟨#[]⟩ : ByteArray),.int .i64 0,.int .i64 0,.int .i64 0,.int .i64 0] 50 (0,0)) (by exact BK913.out)) : gb934 ≠ gb913))
                     clear HO_5
                     clear HO926
                     clear BK912
                     clear BK913
                     clear HB
                     have HO_5:=n0_
                     have HO926:=n1_
                     have BK912:=n2_
                     have BK913:=n3_
                     have HB:=n4_
                     have BK934:=n5_
                     have GW934:=n6_
                     have GE934:=n7_
                     have NB912_934:=n8_
                     have NB934_912:=n9_
                     have NB913_934:=n10_
                     have NB934_913:=n11_
                     clear n0_ n1_ n2_ n3_ n4_ n5_ n6_ n7_ n8_ n9_ n10_ n11_
                     clear hb hbox hg
                     refine hK.out _ _ ⟨HS0_,HS1_,HS2_⟩ (fun hHeld => ?_)
                     clear hK K
                     refine norm_ (a':=?_) ?_ ?_
                     rotate_left
                     ·show Act.put _ (some 10) _ = _
                      simp only [Act.put,List.setIfInBounds_toArray,List.set_cons_zero,List.set_cons_succ,i64_w,i32_w]
                      rfl
                     exact norm_ (by (simp only [putAll,Act.put,List.setIfInBounds_toArray,List.set_cons_zero,List.set_cons_succ]; rfl)) (hJ3_16 (v925,gb934) _ ⟨hHeld,(by exact HO926.out),(by exact HO_5.out),(by exact BK912.out),(by exact BK913.out),(by exact BK934.out),GW934.out,GE934.out,NB912_934.out,NB934_912.out,NB913_934.out,NB934_913.out,(by repeat (((with_reducible (exact HB.out)))))⟩)
                  ·skip
                   rintro ⟨v930,gb934⟩ w37 ⟨hS_,h0_,h1_,h2_,h3_,h4_,h5_,h6_,h7_,h8_,h9_,h10_,h11_⟩
                   have n0_ : Aside0 (Kd.R Kd.string 9 w37 w.heap.size (fun k_ => some k_ ≠ (.slice (some ad917) t914.length co30 : Value).ownBlock) v930 y929):=⟨h0_⟩
                   have n1_ : Aside0 (Kd.R Kd.string 9 w37 w.heap.size (fun k_ => some k_ ≠ (v930 : Value).ownBlock) (.slice (some ad917) t914.length co30) t914):=⟨h1_⟩
                   have n2_ : Aside0 (w37.heap[gb912]? = some (.cells #[.string (⟨#[]⟩ : ByteArray),.int .i64 0,.int .i64 0,.int .i64 0,.int .i64 0] 50 (0,0))):=⟨h2_⟩
                   have n3_ : Aside0 (w37.heap[gb913]? = some (.cells #[.string (⟨#[]⟩ : ByteArray),.int .i64 0,.int .i64 0,.int .i64 0,.int .i64 0] 50 (0,0))):=⟨h3_⟩
                   have n4_ : Aside0 (w37.heap[gb934]? = some (.cells #[.string (⟨#[]⟩ : ByteArray),.int .i64 0,.int .i64 0,.int .i64 0,.int .i64 0] 50 (0,0))):=⟨h4_⟩
                   have n5_ : Aside0 (w.heap.size ≤ gb934):=⟨h5_⟩
                   have n6_ : Aside0 (w.heap.size ≤ gb934):=⟨h6_⟩
                   have n7_ : Aside0 (gb912 ≠ gb934):=⟨h7_⟩
                   have n8_ : Aside0 (gb934 ≠ gb912):=⟨h8_⟩
                   have n9_ : Aside0 (gb913 ≠ gb934):=⟨h9_⟩
                   have n10_ : Aside0 (gb934 ≠ gb913):=⟨h10_⟩
                   have n11_ : Aside0 (Below w.heap.size w w37):=⟨h11_⟩
                   clear HO_5
                   clear BK912
                   clear BK913
                   clear HB
                   clear h0_ h1_ h2_ h3_ h4_ h5_ h6_ h7_ h8_ h9_ h10_ h11_
                   have HO931:=n0_
                   have HO_5:=n1_
                   have BK912:=n2_
                   have BK913:=n3_
                   have BK934:=n4_
                   have GW934:=n5_
                   have GE934:=n6_
                   have NB912_934:=n7_
                   have NB934_912:=n8_
                   have NB913_934:=n9_
                   have NB934_913:=n10_
                   have HB:=n11_
                   clear n0_ n1_ n2_ n3_ n4_ n5_ n6_ n7_ n8_ n9_ n10_ n11_
                   have hHeld : w37.cell? ad917 = some (.string (rdOf ByteArray.empty t914 0)) ∧ w37.cell? ⟨ad917.block,ad917.off + 1,none⟩ = some (.string (rdOf ByteArray.empty t914 1)) ∧ w37.cell? ⟨ad917.block,ad917.off + 3,none⟩ = some (.string (rdOf ByteArray.empty t914 3)):=hS_
                   refine norm_ (a':=?_) ?_ ?_
                   rotate_left
                   ·simp only [putAll,Act.put,List.setIfInBounds_toArray,List.set_cons_zero,List.set_cons_succ]
                    rfl
                   refine one_ (i:=3) (N:=some 40) (bda4 18 89983) rfl rfl (one_of HT_.out (by kernel_rfl)) (by decide) (fun K hK => ?_)
                   refine Kd.R_lit_step Kd.string _ 9 ?hg (N:=40) ?hd (xs:=([(⟨#[]⟩ : ByteArray),(⟨#[115,109,97,108,108]⟩ : ByteArray),(⟨#[108,97,114,103,101]⟩ : ByteArray)] : List ByteArray)) (inner:=[.string (⟨#[]⟩ : ByteArray),.string (⟨#[115,109,97,108,108]⟩ : ByteArray),.string (⟨#[108,97,114,103,101]⟩ : ByteArray)]) (ok:=fun _ => True) (okp:=fun _ => True) ?hr ?hp (fun _ hk => hk) trivial (Below.refl _ _) (Nat.le_refl _) (by simp) ?_; (case hd => rfl); (case hg => rfl); (case hr => (go_simp; done)); (case hp => exact (Reps.one (show Kd.M Kd.string _ _ _ (⟨#[]⟩ : ByteArray) [.string (⟨#[]⟩ : ByteArray)] from rfl) (Reps.one (show Kd.M Kd.string _ _ _ (⟨#[115,109,97,108,108]⟩ : ByteArray) [.string (⟨#[115,109,97,108,108]⟩ : ByteArray)] from rfl) (Reps.one (show Kd.M Kd.string _ _ _ (⟨#[108,97,114,103,101]⟩ : ByteArray) [.string (⟨#[108,97,114,103,101]⟩ : ByteArray)] from rfl) (Reps.none _ _)))))
                   intro v925 w38 ho39 hb hg_ hnew_
                   have HS0_:=(hb.cell (World.block_lt_of_cell? _ _ (hHeld.1))).trans (hHeld.1)
                   have HS1_:=(hb.cell (World.block_lt_of_cell? _ _ (hHeld.2.1))).trans (hHeld.2.1)
                   have HS2_:=(hb.cell (World.block_lt_of_cell? _ _ (hHeld.2.2))).trans (hHeld.2.2)
                   clear hg_ hnew_
                   (rw [← Ny924.out] at ho39)
                   have n0_:=Aside0.mk (Kd.R_elder' (by exact HO_5.out) (Kd.R_base ho39) hb)
                   have n1_:=Aside0.mk (Kd.R_elder' (by exact HO931.out) (Kd.R_base ho39) hb)
                   have n2_:=Aside0.mk (Kd.R_lower (Kd.R_new' (Kd.R_new' ho39 (Kd.R_lt (by exact HO_5.out))) (Kd.R_lt (by exact HO931.out))) (below_size (by repeat (((with_reducible (exact HB.out)))))))
                   have n3_:=Aside0.mk (blk_below (g:=gb912) (o:=.cells #[.string (⟨#[]⟩ : ByteArray),.int .i64 0,.int .i64 0,.int .i64 0,.int .i64 0] 50 (0,0)) (by exact BK912.out) hb)
                   have n4_:=Aside0.mk (blk_below (g:=gb913) (o:=.cells #[.string (⟨#[]⟩ : ByteArray),.int .i64 0,.int .i64 0,.int .i64 0,.int .i64 0] 50 (0,0)) (by exact BK913.out) hb)
                   have n5_:=Aside0.mk (blk_below (g:=gb934) (o:=.cells #[.string (⟨#[]⟩ : ByteArray),.int .i64 0,.int .i64 0,.int .i64 0,.int .i64 0] 50 (0,0)) (by exact BK934.out) hb)
                   have n6_:=Aside0.mk (below_step (by repeat (((with_reducible (exact HB.out))))) hb)
                   clear HO_5
                   clear HO931
                   clear BK912
                   clear BK913
                   clear BK934
                   clear HB
                   have HO_5:=n0_
                   have HO931:=n1_
                   have HO926:=n2_
                   have BK912:=n3_
                   have BK913:=n4_
                   have BK934:=n5_
                   have HB:=n6_
                   clear n0_ n1_ n2_ n3_ n4_ n5_ n6_
                   clear hb ho39
                   refine hK.out _ _ ⟨HS0_,HS1_,HS2_⟩ (fun hHeld => ?_)
                   clear hK K
                   refine norm_ (a':=?_) ?_ ?_
                   rotate_left
                   ·show Act.put _ (some 40) _ = _
                    simp only [Act.put,List.setIfInBounds_toArray,List.set_cons_zero,List.set_cons_succ,i64_w,i32_w]
                    rfl
                   exact norm_ (by (simp only [putAll,Act.put,List.setIfInBounds_toArray,List.set_cons_zero,List.set_cons_succ]; done)) (hJ3_9_16 (v925,v930,gb934) _ ⟨hHeld,(by exact Kd.R_mono HO926.out (fun _ hk => ⟨hk.2,hk.1.2⟩)),(by exact Kd.R_mono HO931.out (fun _ hk => ⟨hk.2,hk.1⟩)),(by exact Kd.R_mono HO_5.out (fun _ hk => ⟨hk.2,hk.1⟩)),(by exact BK912.out),(by exact BK913.out),(by exact BK934.out),GW934.out,GE934.out,NB912_934.out,NB934_912.out,NB913_934.out,NB934_913.out,(by repeat (((with_reducible (exact HB.out)))))⟩)
                 ·skip
                  rintro ⟨v925,gb934⟩ w37 ⟨hS_,h0_,h1_,h2_,h3_,h4_,h5_,h6_,h7_,h8_,h9_,h10_,h11_⟩
                  have n0_ : Aside0 (Kd.R Kd.string 9 w37 w.heap.size (fun k_ => some k_ ≠ (.slice (some ad917) t914.length co30 : Value).ownBlock) v925 y924):=⟨h0_⟩
                  have n1_ : Aside0 (Kd.R Kd.string 9 w37 w.heap.size (fun k_ => some k_ ≠ (v925 : Value).ownBlock) (.slice (some ad917) t914.length co30) t914):=⟨h1_⟩
                  have n2_ : Aside0 (w37.heap[gb912]? = some (.cells #[.string (⟨#[]⟩ : ByteArray),.int .i64 0,.int .i64 0,.int .i64 0,.int .i64 0] 50 (0,0))):=⟨h2_⟩
                  have n3_ : Aside0 (w37.heap[gb913]? = some (.cells #[.string (⟨#[]⟩ : ByteArray),.int .i64 0,.int .i64 0,.int .i64 0,.int .i64 0] 50 (0,0))):=⟨h3_⟩
                  have n4_ : Aside0 (w37.heap[gb934]? = some (.cells #[.string (⟨#[]⟩ : ByteArray),.int .i64 0,.int .i64 0,.int .i64 0,.int .i64 0] 50 (0,0))):=⟨h4_⟩
                  have n5_ : Aside0 (w.heap.size ≤ gb934):=⟨h5_⟩
                  have n6_ : Aside0 (w.heap.size ≤ gb934):=⟨h6_⟩
                  have n7_ : Aside0 (gb912 ≠ gb934):=⟨h7_⟩
                  have n8_ : Aside0 (gb934 ≠ gb912):=⟨h8_⟩
                  have n9_ : Aside0 (gb913 ≠ gb934):=⟨h9_⟩
                  have n10_ : Aside0 (gb934 ≠ gb913):=⟨h10_⟩
                  have n11_ : Aside0 (Below w.heap.size w w37):=⟨h11_⟩
                  clear HO_5
                  clear BK912
                  clear BK913
                  clear HB
                  clear h0_ h1_ h2_ h3_ h4_ h5_ h6_ h7_ h8_ h9_ h10_ h11_
                  have HO926:=n0_
                  have HO_5:=n1_
                  have BK912:=n2_
                  have BK913:=n3_
                  have BK934:=n4_
                  have GW934:=n5_
                  have GE934:=n6_
                  have NB912_934:=n7_
                  have NB934_912:=n8_
                  have NB913_934:=n9_
                  have NB934_913:=n10_
                  have HB:=n11_
                  clear n0_ n1_ n2_ n3_ n4_ n5_ n6_ n7_ n8_ n9_ n10_ n11_
                  have hHeld : w37.cell? ad917 = some (.string (rdOf ByteArray.empty t914 0)) ∧ w37.cell? ⟨ad917.block,ad917.off + 1,none⟩ = some (.string (rdOf ByteArray.empty t914 1)) ∧ w37.cell? ⟨ad917.block,ad917.off + 3,none⟩ = some (.string (rdOf ByteArray.empty t914 3)):=hS_
                  obtain ⟨Ao38,co38,eo38⟩:=Kd.R_slice HO926.out
                  (subst eo38)
                  let v925 : Value:=.slice Ao38 y924.length co38
                  refine norm_ (a':=?_) ?_ ?_
                  rotate_left
                  ·simp only [putAll,Act.put,List.setIfInBounds_toArray,List.set_cons_zero,List.set_cons_succ]
                   rfl
                  refine two_ (i:=7) (j:=9) (Ni:=some 44) (Nj:=some 46) (bda4 18 89599) (bda4 18 89983) rfl rfl rfl rfl (two_of HT_.out (by kernel_rfl)) (by decide) (by decide) (fun K hK => ?_) (fun K hK => ?_)
                  ·skip
                   refine goes_ Tryz.func87 (by kernel_rfl) rfl #[.slice Ao38 y924.length co38,.string (rdOf ByteArray.empty t914 1)] (by rfl) rfl rfl (by (try simp only [List.map_toArray,List.map_cons,List.map_nil]); (rfl)) ?_
                   with_reducible refine (spec_l4Index.calls kj2 _ _ y924 (rdOf ByteArray.empty t914 1) t928 _ ?side1 ?side2 A21.out).mono ?_
                   (case side1 => repeat ((exact (Kd.R_reads' HO926.out).2.2)))
                   (case side2 => exact (Kd.R_reads' HO926.out).2.1)
                   rintro e w' ⟨rfl,⟨nd,rfl⟩⟩
                   refine ⟨_,rfl,?_⟩
                   refine hK.out _ _ ⟨hHeld.1,hHeld.2.1,hHeld.2.2⟩ (fun hHeld => ?_)
                   clear hK K
                   refine norm_ (a':=?_) ?_ ?_
                   rotate_left
                   ·show Act.put _ (some 44) _ = _
                    simp only [Act.put,List.setIfInBounds_toArray,List.set_cons_zero,List.set_cons_succ,i64_w,i32_w]
                    rfl
                   exact norm_ (by (simp only [putAll,Act.put,List.setIfInBounds_toArray,List.set_cons_zero,List.set_cons_succ]; done)) (hJ3_7_16 (.slice Ao38 y924.length co38,gb934) _ ⟨hHeld,(by (with_reducible repeat (apply Kd.R_drewN)); exact HO926.out),(by (with_reducible repeat (apply Kd.R_drewN)); exact HO_5.out),(by (with_reducible repeat (refine blk_drewN ?_ _)); exact BK912.out),(by (with_reducible repeat (refine blk_drewN ?_ _)); exact BK913.out),(by (with_reducible repeat (refine blk_drewN ?_ _)); exact BK934.out),GW934.out,GE934.out,NB912_934.out,NB934_912.out,NB913_934.out,NB934_913.out,(by repeat (with_reducible first|exact HB.out|apply pw_below_drewN))⟩)
                  ·skip
                   refine Kd.R_lit_step Kd.string _ 9 ?hg (N:=46) ?hd (xs:=([(⟨#[]⟩ : ByteArray),(⟨#[112,108,97,105,110]⟩ : ByteArray),(⟨#[114,101,101,102,101,114]⟩ : ByteArray),(⟨#[100,97,110,103,101,114]⟩ : ByteArray)] : List ByteArray)) (inner:=[.string (⟨#[]⟩ : ByteArray),.string (⟨#[112,108,97,105,110]⟩ : ByteArray),.string (⟨#[114,101,101,102,101,114]⟩ : ByteArray),.string (⟨#[100,97,110,103,101,114]⟩ : ByteArray)]) (ok:=fun _ => True) (okp:=fun _ => True) ?hr ?hp (fun _ hk => hk) trivial (Below.refl _ _) (Nat.le_refl _) (by simp) ?_; (case hd => rfl); (case hg => rfl); (case hr => (go_simp; done)); (case hp => exact (Reps.one (show Kd.M Kd.string _ _ _ (⟨#[]⟩ : ByteArray) [.string (⟨#[]⟩ : ByteArray)] from rfl) (Reps.one (show Kd.M Kd.string _ _ _ (⟨#[112,108,97,105,110]⟩ : ByteArray) [.string (⟨#[112,108,97,105,110]⟩ : ByteArray)] from rfl) (Reps.one (show Kd.M Kd.string _ _ _ (⟨#[114,101,101,102,101,114]⟩ : ByteArray) [.string (⟨#[114,101,101,102,101,114]⟩ : ByteArray)] from rfl) (Reps.one (show Kd.M Kd.string _ _ _ (⟨#[100,97,110,103,101,114]⟩ : ByteArray) [.string (⟨#[100,97,110,103,101,114]⟩ : ByteArray)] from rfl) (Reps.none _ _))))))
                   intro v930 w38 ho39 hb hg_ hnew_
                   have HS0_:=(hb.cell (World.block_lt_of_cell? _ _ (hHeld.1))).trans (hHeld.1)
                   have HS1_:=(hb.cell (World.block_lt_of_cell? _ _ (hHeld.2.1))).trans (hHeld.2.1)
                   have HS2_:=(hb.cell (World.block_lt_of_cell? _ _ (hHeld.2.2))).trans (hHeld.2.2)
                   clear hg_ hnew_
                   (rw [← Ny929.out] at ho39)
                   have n0_:=Aside0.mk (Kd.R_elder' (by exact HO_5.out) (Kd.R_base ho39) hb)
                   have n1_:=Aside0.mk (Kd.R_elder' (by exact HO926.out) (Kd.R_base ho39) hb)
                   have n2_:=Aside0.mk (Kd.R_lower (Kd.R_new' (Kd.R_new' ho39 (Kd.R_lt (by exact HO_5.out))) (Kd.R_lt (by exact HO926.out))) (below_size (by repeat (((with_reducible (exact HB.out)))))))
                   have n3_:=Aside0.mk (blk_below (g:=gb912) (o:=.cells #[.string (⟨#[]⟩ : ByteArray),.int .i64 0,.int .i64 0,.int .i64 0,.int .i64 0] 50 (0,0)) (by exact BK912.out) hb)
                   have n4_:=Aside0.mk (blk_below (g:=gb913) (o:=.cells #[.string (⟨#[]⟩ : ByteArray),.int .i64 0,.int .i64 0,.int .i64 0,.int .i64 0] 50 (0,0)) (by exact BK913.out) hb)
                   have n5_:=Aside0.mk (blk_below (g:=gb934) (o:=.cells #[.string (⟨#[]⟩ : ByteArray),.int .i64 0,.int .i64 0,.int .i64 0,.int .i64 0] 50 (0,0)) (by exact BK934.out) hb)
                   have n6_:=Aside0.mk (below_step (by repeat (((with_reducible (exact HB.out))))) hb)
                   clear HO_5
                   clear HO926
                   clear BK912
                   clear BK913
                   clear BK934
                   clear HB
                   have HO_5:=n0_
                   have HO926:=n1_
                   have HO931:=n2_
                   have BK912:=n3_
                   have BK913:=n4_
                   have BK934:=n5_
                   have HB:=n6_
                   clear n0_ n1_ n2_ n3_ n4_ n5_ n6_
                   clear hb ho39
                   refine hK.out _ _ ⟨HS0_,HS1_,HS2_⟩ (fun hHeld => ?_)
                   clear hK K
                   refine norm_ (a':=?_) ?_ ?_
                   rotate_left
                   ·show Act.put _ (some 46) _ = _
                    simp only [Act.put,List.setIfInBounds_toArray,List.set_cons_zero,List.set_cons_succ,i64_w,i32_w]
                    rfl
                   exact norm_ (by (simp only [putAll,Act.put,List.setIfInBounds_toArray,List.set_cons_zero,List.set_cons_succ]; rfl)) (hJ3_9_16 (v925,v930,gb934) _ ⟨hHeld,(by exact Kd.R_mono HO926.out (fun _ hk => ⟨hk.2,hk.1⟩)),(by exact Kd.R_mono HO931.out (fun _ hk => ⟨hk.2,hk.1.2⟩)),(by exact HO_5.out),(by exact BK912.out),(by exact BK913.out),(by exact BK934.out),GW934.out,GE934.out,NB912_934.out,NB934_912.out,NB913_934.out,NB934_913.out,(by repeat (((with_reducible (exact HB.out)))))⟩)
                ·skip
                 rintro ⟨v925,v930⟩ w38 ⟨hS_,h0_,h1_,h2_,h3_,h4_,h5_⟩
                 have n0_ : Aside0 (Kd.R Kd.string 9 w38 w.heap.size (fun k_ => some k_ ≠ (v930 : Value).ownBlock ∧ some k_ ≠ (.slice (some ad917) t914.length co30 : Value).ownBlock) v925 y924):=⟨h0_⟩
                 have n1_ : Aside0 (Kd.R Kd.string 9 w38 w.heap.size (fun k_ => some k_ ≠ (v925 : Value).ownBlock ∧ some k_ ≠ (.slice (some ad917) t914.length co30 : Value).ownBlock) v930 y929):=⟨h1_⟩
                 have n2_ : Aside0 (Kd.R Kd.string 9 w38 w.heap.size (fun k_ => some k_ ≠ (v925 : Value).ownBlock ∧ some k_ ≠ (v930 : Value).ownBlock) (.slice (some ad917) t914.length co30) t914):=⟨h2_⟩
                 have n3_ : Aside0 (w38.heap[gb912]? = some (.cells #[.string (⟨#[]⟩ : ByteArray),.int .i64 0,.int .i64 0,.int .i64 0,.int .i64 0] 50 (0,0))):=⟨h3_⟩
                 have n4_ : Aside0 (w38.heap[gb913]? = some (.cells #[.string (⟨#[]⟩ : ByteArray),.int .i64 0,.int .i64 0,.int .i64 0,.int .i64 0] 50 (0,0))):=⟨h4_⟩
                 have n5_ : Aside0 (Below w.heap.size w w38):=⟨h5_⟩
                 clear HO_5
                 clear BK912
                 clear BK913
                 clear HB
                 clear h0_ h1_ h2_ h3_ h4_ h5_
                 have HO926:=n0_
                 have HO931:=n1_
                 have HO_5:=n2_
                 have BK912:=n3_
                 have BK913:=n4_
                 have HB:=n5_
                 clear n0_ n1_ n2_ n3_ n4_ n5_
                 have hHeld : w38.cell? ad917 = some (.string (rdOf ByteArray.empty t914 0)) ∧ w38.cell? ⟨ad917.block,ad917.off + 1,none⟩ = some (.string (rdOf ByteArray.empty t914 1)) ∧ w38.cell? ⟨ad917.block,ad917.off + 3,none⟩ = some (.string (rdOf ByteArray.empty t914 3)):=hS_
                 obtain ⟨Ao39,co39,eo39⟩:=Kd.R_slice HO926.out
                 (subst eo39)
                 let v925 : Value:=.slice Ao39 y924.length co39
                 refine norm_ (a':=?_) ?_ ?_
                 rotate_left
                 ·simp only [putAll,Act.put,List.setIfInBounds_toArray,List.set_cons_zero,List.set_cons_succ]
                  rfl
                 refine two_ (i:=7) (j:=16) (Ni:=some 44) (Nj:=some 10) (bda4 18 24575) (bda4 18 89983) rfl rfl rfl rfl (two_of HT_.out (by kernel_rfl)) (by decide) (by decide) (fun K hK => ?_) (fun K hK => ?_)
                 ·skip
                  refine goes_ Tryz.func87 (by kernel_rfl) rfl #[.slice Ao39 y924.length co39,.string (rdOf ByteArray.empty t914 1)] (by rfl) rfl rfl (by (try simp only [List.map_toArray,List.map_cons,List.map_nil]); (rfl)) ?_
                  with_reducible refine (spec_l4Index.calls kj2 _ _ y924 (rdOf ByteArray.empty t914 1) t928 _ ?side1 ?side2 A21.out).mono ?_
                  (case side1 => repeat ((exact (Kd.R_reads' HO926.out).2.2)))
                  (case side2 => exact (Kd.R_reads' HO926.out).2.1)
                  rintro e w' ⟨rfl,⟨nd,rfl⟩⟩
                  refine ⟨_,rfl,?_⟩
                  refine hK.out _ _ ⟨hHeld.1,hHeld.2.1,hHeld.2.2⟩ (fun hHeld => ?_)
                  clear hK K
                  refine norm_ (a':=?_) ?_ ?_
                  rotate_left
                  ·show Act.put _ (some 44) _ = _
                   simp only [Act.put,List.setIfInBounds_toArray,List.set_cons_zero,List.set_cons_succ,i64_w,i32_w]
                   rfl
                  exact norm_ (by (simp only [putAll,Act.put,List.setIfInBounds_toArray,List.set_cons_zero,List.set_cons_succ]; done)) (hJ3_7_9 (.slice Ao39 y924.length co39,v930) _ ⟨hHeld,(by (with_reducible repeat (apply Kd.R_drewN)); exact HO926.out),(by (with_reducible repeat (apply Kd.R_drewN)); exact HO931.out),(by (with_reducible repeat (apply Kd.R_drewN)); exact HO_5.out),(by (with_reducible repeat (refine blk_drewN ?_ _)); exact BK912.out),(by (with_reducible repeat (refine blk_drewN ?_ _)); exact BK913.out),(by repeat (with_reducible first|exact HB.out|apply pw_below_drewN))⟩)
                 ·skip
                  refine box_step ?hg (N:=10) ?hd (cs:=#[.string (⟨#[]⟩ : ByteArray),.int .i64 0,.int .i64 0,.int .i64 0,.int .i64 0]) (t:=50) ?hr ?_; (case hd => rfl); (case hg => rfl); (case hr => (go_simp; done))
                  intro gb934 hg w39 hbox hb
                  have HS0_:=(hb.cell (World.block_lt_of_cell? _ _ (hHeld.1))).trans (hHeld.1)
                  have HS1_:=(hb.cell (World.block_lt_of_cell? _ _ (hHeld.2.1))).trans (hHeld.2.1)
                  have HS2_:=(hb.cell (World.block_lt_of_cell? _ _ (hHeld.2.2))).trans (hHeld.2.2)
                  have n0_:=Aside0.mk (Kd.R_below (by exact HO_5.out) hb)
                  have n1_:=Aside0.mk (Kd.R_below (by exact HO926.out) hb)
                  have n2_:=Aside0.mk (Kd.R_below (by exact HO931.out) hb)
                  have n3_:=Aside0.mk (blk_below (g:=gb912) (o:=.cells #[.string (⟨#[]⟩ : ByteArray),.int .i64 0,.int .i64 0,.int .i64 0,.int .i64 0] 50 (0,0)) (by exact BK912.out) hb)
                  have n4_:=Aside0.mk (blk_below (g:=gb913) (o:=.cells #[.string (⟨#[]⟩ : ByteArray),.int .i64 0,.int .i64 0,.int .i64 0,.int .i64 0] 50 (0,0)) (by exact BK913.out) hb)
                  have n5_:=Aside0.mk (below_step (by repeat (((with_reducible (exact HB.out))))) hb)
                  have n6_:=Aside0.mk (hbox)
                  have n7_:=Aside0.mk ((by rw [hg]; exact (below_size (by repeat (((with_reducible (exact HB.out)))))) : w.heap.size ≤ gb934))
                  have n8_:=Aside0.mk ((by rw [hg]; exact (below_size (by repeat (((with_reducible (exact HB.out)))))) : w.heap.size ≤ gb934))
                  have n9_:=Aside0.mk ((by rw [hg]; exact Nat.ne_of_lt (blk_lt (g:=gb912) (o:=.cells #[.string (⟨#[]⟩ : ByteArray),.int .i64 0,.int .i64 0,.int .i64 0,.int .i64 0] 50 (0,0)) (by exact BK912.out)) : gb912 ≠ gb934))
                  have n10_:=Aside0.mk ((by rw [hg]; exact Nat.ne_of_gt (blk_lt (g:=gb912) (o:=.cells #[.string (⟨#[]⟩ : ByteArray),.int .i64 0,.int .i64 0,.int .i64 0,.int .i64 0] 50 (0,0)) (by exact BK912.out)) : gb934 ≠ gb912))
                  have n11_:=Aside0.mk ((by rw [hg]; exact Nat.ne_of_lt (blk_lt (g:=gb913) (o:=.cells #[.string (⟨#[]⟩ : ByteArray),.int .i64 0,.int .i64 0,.int .i64 0,.int .i64 0] 50 (0,0)) (by exact BK913.out)) : gb913 ≠ gb934))
                  have n12_:=Aside0.mk ((by rw [hg]; exact Nat.ne_of_gt (blk_lt (g:=gb913) (o:=.cells #[.string (⟨#[]⟩ : ByteArray),.int .i64 0,.int .i64 0,.int .i64 0,.int .i64 0] 50 (0,0)) (by exact BK913.out)) : gb934 ≠ gb913))
                  clear HO_5
                  clear HO926
                  clear HO931
                  clear BK912
                  clear BK913
                  clear HB
                  have HO_5:=n0_
                  have HO926:=n1_
                  have HO931:=n2_
                  have BK912:=n3_
                  have BK913:=n4_
                  have HB:=n5_
                  have BK934:=n6_
                  have GW934:=n7_
                  have GE934:=n8_
                  have NB912_934:=n9_
                  have NB934_912:=n10_
                  have NB913_934:=n11_
                  have NB934_913:=n12_
                  clear n0_ n1_ n2_ n3_ n4_ n5_ n6_ n7_ n8_ n9_ n10_ n11_ n12_
                  clear hb hbox hg
                  refine hK.out _ _ ⟨HS0_,HS1_,HS2_⟩ (fun hHeld => ?_)
                  clear hK K
                  refine norm_ (a':=?_) ?_ ?_
                  rotate_left
                  ·show Act.put _ (some 10) _ = _
                   simp only [Act.put,List.setIfInBounds_toArray,List.set_cons_zero,List.set_cons_succ,i64_w,i32_w]
                   rfl
                  exact norm_ (by (simp only [putAll,Act.put,List.setIfInBounds_toArray,List.set_cons_zero,List.set_cons_succ]; rfl)) (hJ3_9_16 (v925,v930,gb934) _ ⟨hHeld,(by exact HO926.out),(by exact HO931.out),(by exact HO_5.out),(by exact BK912.out),(by exact BK913.out),(by exact BK934.out),GW934.out,GE934.out,NB912_934.out,NB934_912.out,NB913_934.out,NB934_913.out,(by repeat (((with_reducible (exact HB.out)))))⟩)
               ·skip
                rintro v925 w37 ⟨hS_,h0_,h1_,h2_,h3_,h4_⟩
                have n0_ : Aside0 (Kd.R Kd.string 9 w37 w.heap.size (fun k_ => some k_ ≠ (.slice (some ad917) t914.length co30 : Value).ownBlock) v925 y924):=⟨h0_⟩
                have n1_ : Aside0 (Kd.R Kd.string 9 w37 w.heap.size (fun k_ => some k_ ≠ (v925 : Value).ownBlock) (.slice (some ad917) t914.length co30) t914):=⟨h1_⟩
                have n2_ : Aside0 (w37.heap[gb912]? = some (.cells #[.string (⟨#[]⟩ : ByteArray),.int .i64 0,.int .i64 0,.int .i64 0,.int .i64 0] 50 (0,0))):=⟨h2_⟩
                have n3_ : Aside0 (w37.heap[gb913]? = some (.cells #[.string (⟨#[]⟩ : ByteArray),.int .i64 0,.int .i64 0,.int .i64 0,.int .i64 0] 50 (0,0))):=⟨h3_⟩
                have n4_ : Aside0 (Below w.heap.size w w37):=⟨h4_⟩
                clear HO_5
                clear BK912
                clear BK913
                clear HB
                clear h0_ h1_ h2_ h3_ h4_
                have HO926:=n0_
                have HO_5:=n1_
                have BK912:=n2_
                have BK913:=n3_
                have HB:=n4_
                clear n0_ n1_ n2_ n3_ n4_
                have hHeld : w37.cell? ad917 = some (.string (rdOf ByteArray.empty t914 0)) ∧ w37.cell? ⟨ad917.block,ad917.off + 1,none⟩ = some (.string (rdOf ByteArray.empty t914 1)) ∧ w37.cell? ⟨ad917.block,ad917.off + 3,none⟩ = some (.string (rdOf ByteArray.empty t914 3)):=hS_
                refine norm_ (a':=?_) ?_ ?_
                rotate_left
                ·simp only [putAll,Act.put,List.setIfInBounds_toArray,List.set_cons_zero,List.set_cons_succ]
                 rfl
                refine two_ (i:=9) (j:=16) (Ni:=some 46) (Nj:=some 10) (bda4 18 24575) (bda4 18 89599) rfl rfl rfl rfl (two_of HT_.out (by kernel_rfl)) (by decide) (by decide) (fun K hK => ?_) (fun K hK => ?_)
                ·skip
                 refine Kd.R_lit_step Kd.string _ 9 ?hg (N:=46) ?hd (xs:=([(⟨#[]⟩ : ByteArray),(⟨#[112,108,97,105,110]⟩ : ByteArray),(⟨#[114,101,101,102,101,114]⟩ : ByteArray),(⟨#[100,97,110,103,101,114]⟩ : ByteArray)] : List ByteArray)) (inner:=[.string (⟨#[]⟩ : ByteArray),.string (⟨#[112,108,97,105,110]⟩ : ByteArray),.string (⟨#[114,101,101,102,101,114]⟩ : ByteArray),.string (⟨#[100,97,110,103,101,114]⟩ : ByteArray)]) (ok:=fun _ => True) (okp:=fun _ => True) ?hr ?hp (fun _ hk => hk) trivial (Below.refl _ _) (Nat.le_refl _) (by simp) ?_; (case hd => rfl); (case hg => rfl); (case hr => (go_simp; done)); (case hp => exact (Reps.one (show Kd.M Kd.string _ _ _ (⟨#[]⟩ : ByteArray) [.string (⟨#[]⟩ : ByteArray)] from rfl) (Reps.one (show Kd.M Kd.string _ _ _ (⟨#[112,108,97,105,110]⟩ : ByteArray) [.string (⟨#[112,108,97,105,110]⟩ : ByteArray)] from rfl) (Reps.one (show Kd.M Kd.string _ _ _ (⟨#[114,101,101,102,101,114]⟩ : ByteArray) [.string (⟨#[114,101,101,102,101,114]⟩ : ByteArray)] from rfl) (Reps.one (show Kd.M Kd.string _ _ _ (⟨#[100,97,110,103,101,114]⟩ : ByteArray) [.string (⟨#[100,97,110,103,101,114]⟩ : ByteArray)] from rfl) (Reps.none _ _))))))
                 intro v930 w38 ho39 hb hg_ hnew_
                 have HS0_:=(hb.cell (World.block_lt_of_cell? _ _ (hHeld.1))).trans (hHeld.1)
                 have HS1_:=(hb.cell (World.block_lt_of_cell? _ _ (hHeld.2.1))).trans (hHeld.2.1)
                 have HS2_:=(hb.cell (World.block_lt_of_cell? _ _ (hHeld.2.2))).trans (hHeld.2.2)
                 clear hg_ hnew_
                 (rw [← Ny929.out] at ho39)
                 have n0_:=Aside0.mk (Kd.R_elder' (by exact HO_5.out) (Kd.R_base ho39) hb)
                 have n1_:=Aside0.mk (Kd.R_elder' (by exact HO926.out) (Kd.R_base ho39) hb)
                 have n2_:=Aside0.mk (Kd.R_lower (Kd.R_new' (Kd.R_new' ho39 (Kd.R_lt (by exact HO_5.out))) (Kd.R_lt (by exact HO926.out))) (below_size (by repeat (((with_reducible (exact HB.out)))))))
                 have n3_:=Aside0.mk (blk_below (g:=gb912) (o:=.cells #[.string (⟨#[]⟩ : ByteArray),.int .i64 0,.int .i64 0,.int .i64 0,.int .i64 0] 50 (0,0)) (by exact BK912.out) hb)
                 have n4_:=Aside0.mk (blk_below (g:=gb913) (o:=.cells #[.string (⟨#[]⟩ : ByteArray),.int .i64 0,.int .i64 0,.int .i64 0,.int .i64 0] 50 (0,0)) (by exact BK913.out) hb)
                 have n5_:=Aside0.mk (below_step (by repeat (((with_reducible (exact HB.out))))) hb)
                 clear HO_5
                 clear HO926
                 clear BK912
                 clear BK913
                 clear HB
                 have HO_5:=n0_
                 have HO926:=n1_
                 have HO931:=n2_
                 have BK912:=n3_
                 have BK913:=n4_
                 have HB:=n5_
                 clear n0_ n1_ n2_ n3_ n4_ n5_
                 clear hb ho39
                 refine hK.out _ _ ⟨HS0_,HS1_,HS2_⟩ (fun hHeld => ?_)
                 clear hK K
                 refine norm_ (a':=?_) ?_ ?_
                 rotate_left
                 ·show Act.put _ (some 46) _ = _
                  simp only [Act.put,List.setIfInBounds_toArray,List.set_cons_zero,List.set_cons_succ,i64_w,i32_w]
                  rfl
                 exact norm_ (by (simp only [putAll,Act.put,List.setIfInBounds_toArray,List.set_cons_zero,List.set_cons_succ]; done)) (hJ3_7_9 (v925,v930) _ ⟨hHeld,(by exact Kd.R_mono HO926.out (fun _ hk => ⟨hk.2,hk.1⟩)),(by exact Kd.R_mono HO931.out (fun _ hk => ⟨hk.2,hk.1.2⟩)),(by exact HO_5.out),(by exact BK912.out),(by exact BK913.out),(by repeat (((with_reducible (exact HB.out)))))⟩)
                ·skip
                 refine box_step ?hg (N:=10) ?hd (cs:=#[.string (⟨#[]⟩ : ByteArray),.int .i64 0,.int .i64 0,.int .i64 0,.int .i64 0]) (t:=50) ?hr ?_; (case hd => rfl); (case hg => rfl); (case hr => (go_simp; done))
                 intro gb934 hg w38 hbox hb
                 have HS0_:=(hb.cell (World.block_lt_of_cell? _ _ (hHeld.1))).trans (hHeld.1)
                 have HS1_:=(hb.cell (World.block_lt_of_cell? _ _ (hHeld.2.1))).trans (hHeld.2.1)
                 have HS2_:=(hb.cell (World.block_lt_of_cell? _ _ (hHeld.2.2))).trans (hHeld.2.2)
                 have n0_:=Aside0.mk (Kd.R_below (by exact HO_5.out) hb)
                 have n1_:=Aside0.mk (Kd.R_below (by exact HO926.out) hb)
                 have n2_:=Aside0.mk (blk_below (g:=gb912) (o:=.cells #[.string (⟨#[]⟩ : ByteArray),.int .i64 0,.int .i64 0,.int .i64 0,.int .i64 0] 50 (0,0)) (by exact BK912.out) hb)
                 have n3_:=Aside0.mk (blk_below (g:=gb913) (o:=.cells #[.string (⟨#[]⟩ : ByteArray),.int .i64 0,.int .i64 0,.int .i64 0,.int .i64 0] 50 (0,0)) (by exact BK913.out) hb)
                 have n4_:=Aside0.mk (below_step (by repeat (((with_reducible (exact HB.out))))) hb)
                 have n5_:=Aside0.mk (hbox)
                 have n6_:=Aside0.mk ((by rw [hg]; exact (below_size (by repeat (((with_reducible (exact HB.out)))))) : w.heap.size ≤ gb934))
                 have n7_:=Aside0.mk ((by rw [hg]; exact (below_size (by repeat (((with_reducible (exact HB.out)))))) : w.heap.size ≤ gb934))
                 have n8_:=Aside0.mk ((by rw [hg]; exact Nat.ne_of_lt (blk_lt (g:=gb912) (o:=.cells #[.string (⟨#[]⟩ : ByteArray),.int .i64 0,.int .i64 0,.int .i64 0,.int .i64 0] 50 (0,0)) (by exact BK912.out)) : gb912 ≠ gb934))
                 have n9_:=Aside0.mk ((by rw [hg]; exact Nat.ne_of_gt (blk_lt (g:=gb912) (o:=.cells #[.string (⟨#[]⟩ : ByteArray),.int .i64 0,.int .i64 0,.int .i64 0,.int .i64 0] 50 (0,0)) (by exact BK912.out)) : gb934 ≠ gb912))
                 have n10_:=Aside0.mk ((by rw [hg]; exact Nat.ne_of_lt (blk_lt (g:=gb913) (o:=.cells #[.string (⟨#[]⟩ : ByteArray),.int .i64 0,.int .i64 0,.int .i64 0,.int .i64 0] 50 (0,0)) (by exact BK913.out)) : gb913 ≠ gb934))
                 have n11_:=Aside0.mk ((by rw [hg]; exact Nat.ne_of_gt (blk_lt (g:=gb913) (o:=.cells #[.string (⟨#[]⟩ : ByteArray),.int .i64 0,.int .i64 0,.int .i64 0,.int .i64 0] 50 (0,0)) (by exact BK913.out)) : gb934 ≠ gb913))
                 clear HO_5
                 clear HO926
                 clear BK912
                 clear BK913
                 clear HB
                 have HO_5:=n0_
                 have HO926:=n1_
                 have BK912:=n2_
                 have BK913:=n3_
                 have HB:=n4_
                 have BK934:=n5_
                 have GW934:=n6_
                 have GE934:=n7_
                 have NB912_934:=n8_
                 have NB934_912:=n9_
                 have NB913_934:=n10_
                 have NB934_913:=n11_
                 clear n0_ n1_ n2_ n3_ n4_ n5_ n6_ n7_ n8_ n9_ n10_ n11_
                 clear hb hbox hg
                 refine hK.out _ _ ⟨HS0_,HS1_,HS2_⟩ (fun hHeld => ?_)
                 clear hK K
                 refine norm_ (a':=?_) ?_ ?_
                 rotate_left
                 ·show Act.put _ (some 10) _ = _
                  simp only [Act.put,List.setIfInBounds_toArray,List.set_cons_zero,List.set_cons_succ,i64_w,i32_w]
                  rfl
                 exact norm_ (by (simp only [putAll,Act.put,List.setIfInBounds_toArray,List.set_cons_zero,List.set_cons_succ]; done)) (hJ3_7_16 (v925,gb934) _ ⟨hHeld,(by exact HO926.out),(by exact HO_5.out),(by exact BK912.out),(by exact BK913.out),(by exact BK934.out),GW934.out,GE934.out,NB912_934.out,NB934_912.out,NB913_934.out,NB934_913.out,(by repeat (((with_reducible (exact HB.out)))))⟩)
              ·skip
               rintro ⟨v925,v930,gb934⟩ w39 ⟨hS_,h0_,h1_,h2_,h3_,h4_,h5_,h6_,h7_,h8_,h9_,h10_,h11_,h12_⟩
               have n0_ : Aside0 (Kd.R Kd.string 9 w39 w.heap.size (fun k_ => some k_ ≠ (v930 : Value).ownBlock ∧ some k_ ≠ (.slice (some ad917) t914.length co30 : Value).ownBlock) v925 y924):=⟨h0_⟩
               have n1_ : Aside0 (Kd.R Kd.string 9 w39 w.heap.size (fun k_ => some k_ ≠ (v925 : Value).ownBlock ∧ some k_ ≠ (.slice (some ad917) t914.length co30 : Value).ownBlock) v930 y929):=⟨h1_⟩
               have n2_ : Aside0 (Kd.R Kd.string 9 w39 w.heap.size (fun k_ => some k_ ≠ (v925 : Value).ownBlock ∧ some k_ ≠ (v930 : Value).ownBlock) (.slice (some ad917) t914.length co30) t914):=⟨h2_⟩
               have n3_ : Aside0 (w39.heap[gb912]? = some (.cells #[.string (⟨#[]⟩ : ByteArray),.int .i64 0,.int .i64 0,.int .i64 0,.int .i64 0] 50 (0,0))):=⟨h3_⟩
               have n4_ : Aside0 (w39.heap[gb913]? = some (.cells #[.string (⟨#[]⟩ : ByteArray),.int .i64 0,.int .i64 0,.int .i64 0,.int .i64 0] 50 (0,0))):=⟨h4_⟩
               have n5_ : Aside0 (w39.heap[gb934]? = some (.cells #[.string (⟨#[]⟩ : ByteArray),.int .i64 0,.int .i64 0,.int .i64 0,.int .i64 0] 50 (0,0))):=⟨h5_⟩
               have n6_ : Aside0 (w.heap.size ≤ gb934):=⟨h6_⟩
               have n7_ : Aside0 (w.heap.size ≤ gb934):=⟨h7_⟩
               have n8_ : Aside0 (gb912 ≠ gb934):=⟨h8_⟩
               have n9_ : Aside0 (gb934 ≠ gb912):=⟨h9_⟩
               have n10_ : Aside0 (gb913 ≠ gb934):=⟨h10_⟩
               have n11_ : Aside0 (gb934 ≠ gb913):=⟨h11_⟩
               have n12_ : Aside0 (Below w.heap.size w w39):=⟨h12_⟩
               clear HO_5
               clear BK912
               clear BK913
               clear HB
               clear h0_ h1_ h2_ h3_ h4_ h5_ h6_ h7_ h8_ h9_ h10_ h11_ h12_
               have HO926:=n0_
               have HO931:=n1_
               have HO_5:=n2_
               have BK912:=n3_
               have BK913:=n4_
               have BK934:=n5_
               have GW934:=n6_
               have GE934:=n7_
               have NB912_934:=n8_
               have NB934_912:=n9_
               have NB913_934:=n10_
               have NB934_913:=n11_
               have HB:=n12_
               clear n0_ n1_ n2_ n3_ n4_ n5_ n6_ n7_ n8_ n9_ n10_ n11_ n12_
               have hHeld : w39.cell? ad917 = some (.string (rdOf ByteArray.empty t914 0)) ∧ w39.cell? ⟨ad917.block,ad917.off + 1,none⟩ = some (.string (rdOf ByteArray.empty t914 1)) ∧ w39.cell? ⟨ad917.block,ad917.off + 3,none⟩ = some (.string (rdOf ByteArray.empty t914 3)):=hS_
               obtain ⟨Ao40,co40,eo40⟩:=Kd.R_slice HO926.out
               (subst eo40)
               refine norm_ (a':=?_) ?_ ?_
               rotate_left
               ·simp only [putAll,Act.put,List.setIfInBounds_toArray,List.set_cons_zero,List.set_cons_succ]
                rfl
               refine one_ (i:=7) (N:=some 44) (bda4 18 90111) rfl rfl (one_of HT_.out (by kernel_rfl)) (by decide) (fun K hK => ?_)
               refine goes_ Tryz.func87 (by kernel_rfl) rfl #[.slice Ao40 y924.length co40,.string (rdOf ByteArray.empty t914 1)] (by rfl) rfl rfl (by (try simp only [List.map_toArray,List.map_cons,List.map_nil]); (rfl)) ?_
               with_reducible refine (spec_l4Index.calls kj2 _ _ y924 (rdOf ByteArray.empty t914 1) t928 _ ?side1 ?side2 A21.out).mono ?_
               (case side1 => repeat ((exact (Kd.R_reads' HO926.out).2.2)))
               (case side2 => exact (Kd.R_reads' HO926.out).2.1)
               rintro e w' ⟨rfl,⟨nd,rfl⟩⟩
               refine ⟨_,rfl,?_⟩
               refine hK.out _ _ ⟨hHeld.1,hHeld.2.1,hHeld.2.2⟩ (fun hHeld => ?_)
               clear hK K
               refine norm_ (a':=?_) ?_ ?_
               rotate_left
               ·show Act.put _ (some 44) _ = _
                simp only [Act.put,List.setIfInBounds_toArray,List.set_cons_zero,List.set_cons_succ,i64_w,i32_w]
                rfl
               exact norm_ (by (simp only [putAll,Act.put,List.setIfInBounds_toArray,List.set_cons_zero,List.set_cons_succ]; done)) (hJ3_7_9_16 (.slice Ao40 y924.length co40,v930,gb934) _ ⟨hHeld,(by (with_reducible repeat (apply Kd.R_drewN)); exact HO926.out),(by (with_reducible repeat (apply Kd.R_drewN)); exact HO931.out),(by (with_reducible repeat (apply Kd.R_drewN)); exact HO_5.out),(by (with_reducible repeat (refine blk_drewN ?_ _)); exact BK912.out),(by (with_reducible repeat (refine blk_drewN ?_ _)); exact BK913.out),(by (with_reducible repeat (refine blk_drewN ?_ _)); exact BK934.out),GW934.out,GE934.out,NB912_934.out,NB934_912.out,NB913_934.out,NB934_913.out,(by repeat (with_reducible first|exact HB.out|apply pw_below_drewN))⟩)
             ·skip
              rintro ⟨v925,gb934⟩ w38 ⟨hS_,h0_,h1_,h2_,h3_,h4_,h5_,h6_,h7_,h8_,h9_,h10_,h11_⟩
              have n0_ : Aside0 (Kd.R Kd.string 9 w38 w.heap.size (fun k_ => some k_ ≠ (.slice (some ad917) t914.length co30 : Value).ownBlock) v925 y924):=⟨h0_⟩
              have n1_ : Aside0 (Kd.R Kd.string 9 w38 w.heap.size (fun k_ => some k_ ≠ (v925 : Value).ownBlock) (.slice (some ad917) t914.length co30) t914):=⟨h1_⟩
              have n2_ : Aside0 (w38.heap[gb912]? = some (.cells #[.string (⟨#[]⟩ : ByteArray),.int .i64 0,.int .i64 0,.int .i64 0,.int .i64 0] 50 (0,0))):=⟨h2_⟩
              have n3_ : Aside0 (w38.heap[gb913]? = some (.cells #[.string (⟨#[]⟩ : ByteArray),.int .i64 0,.int .i64 0,.int .i64 0,.int .i64 0] 50 (0,0))):=⟨h3_⟩
              have n4_ : Aside0 (w38.heap[gb934]? = some (.cells #[.string (⟨#[]⟩ : ByteArray),.int .i64 0,.int .i64 0,.int .i64 0,.int .i64 0] 50 (0,0))):=⟨h4_⟩
              have n5_ : Aside0 (w.heap.size ≤ gb934):=⟨h5_⟩
              have n6_ : Aside0 (w.heap.size ≤ gb934):=⟨h6_⟩
              have n7_ : Aside0 (gb912 ≠ gb934):=⟨h7_⟩
              have n8_ : Aside0 (gb934 ≠ gb912):=⟨h8_⟩
              have n9_ : Aside0 (gb913 ≠ gb934):=⟨h9_⟩
              have n10_ : Aside0 (gb934 ≠ gb913):=⟨h10_⟩
              have n11_ : Aside0 (Below w.heap.size w w38):=⟨h11_⟩
              clear HO_5
              clear BK912
              clear BK913
              clear HB
              clear h0_ h1_ h2_ h3_ h4_ h5_ h6_ h7_ h8_ h9_ h10_ h11_
              have HO926:=n0_
              have HO_5:=n1_
              have BK912:=n2_
              have BK913:=n3_
              have BK934:=n4_
              have GW934:=n5_
              have GE934:=n6_
              have NB912_934:=n7_
              have NB934_912:=n8_
              have NB913_934:=n9_
              have NB934_913:=n10_
              have HB:=n11_
              clear n0_ n1_ n2_ n3_ n4_ n5_ n6_ n7_ n8_ n9_ n10_ n11_
              have hHeld : w38.cell? ad917 = some (.string (rdOf ByteArray.empty t914 0)) ∧ w38.cell? ⟨ad917.block,ad917.off + 1,none⟩ = some (.string (rdOf ByteArray.empty t914 1)) ∧ w38.cell? ⟨ad917.block,ad917.off + 3,none⟩ = some (.string (rdOf ByteArray.empty t914 3)):=hS_
              refine norm_ (a':=?_) ?_ ?_
              rotate_left
              ·simp only [putAll,Act.put,List.setIfInBounds_toArray,List.set_cons_zero,List.set_cons_succ]
               rfl
              refine one_ (i:=9) (N:=some 46) (bda4 18 90111) rfl rfl (one_of HT_.out (by kernel_rfl)) (by decide) (fun K hK => ?_)
              refine Kd.R_lit_step Kd.string _ 9 ?hg (N:=46) ?hd (xs:=([(⟨#[]⟩ : ByteArray),(⟨#[112,108,97,105,110]⟩ : ByteArray),(⟨#[114,101,101,102,101,114]⟩ : ByteArray),(⟨#[100,97,110,103,101,114]⟩ : ByteArray)] : List ByteArray)) (inner:=[.string (⟨#[]⟩ : ByteArray),.string (⟨#[112,108,97,105,110]⟩ : ByteArray),.string (⟨#[114,101,101,102,101,114]⟩ : ByteArray),.string (⟨#[100,97,110,103,101,114]⟩ : ByteArray)]) (ok:=fun _ => True) (okp:=fun _ => True) ?hr ?hp (fun _ hk => hk) trivial (Below.refl _ _) (Nat.le_refl _) (by simp) ?_; (case hd => rfl); (case hg => rfl); (case hr => (go_simp; done)); (case hp => exact (Reps.one (show Kd.M Kd.string _ _ _ (⟨#[]⟩ : ByteArray) [.string (⟨#[]⟩ : ByteArray)] from rfl) (Reps.one (show Kd.M Kd.string _ _ _ (⟨#[112,108,97,105,110]⟩ : ByteArray) [.string (⟨#[112,108,97,105,110]⟩ : ByteArray)] from rfl) (Reps.one (show Kd.M Kd.string _ _ _ (⟨#[114,101,101,102,101,114]⟩ : ByteArray) [.string (⟨#[114,101,101,102,101,114]⟩ : ByteArray)] from rfl) (Reps.one (show Kd.M Kd.string _ _ _ (⟨#[100,97,110,103,101,114]⟩ : ByteArray) [.string (⟨#[100,97,110,103,101,114]⟩ : ByteArray)] from rfl) (Reps.none _ _))))))
              intro v930 w39 ho40 hb hg_ hnew_
              have HS0_:=(hb.cell (World.block_lt_of_cell? _ _ (hHeld.1))).trans (hHeld.1)
              have HS1_:=(hb.cell (World.block_lt_of_cell? _ _ (hHeld.2.1))).trans (hHeld.2.1)
              have HS2_:=(hb.cell (World.block_lt_of_cell? _ _ (hHeld.2.2))).trans (hHeld.2.2)
              clear hg_ hnew_
              (rw [← Ny929.out] at ho40)
              have n0_:=Aside0.mk (Kd.R_elder' (by exact HO_5.out) (Kd.R_base ho40) hb)
              have n1_:=Aside0.mk (Kd.R_elder' (by exact HO926.out) (Kd.R_base ho40) hb)
              have n2_:=Aside0.mk (Kd.R_lower (Kd.R_new' (Kd.R_new' ho40 (Kd.R_lt (by exact HO_5.out))) (Kd.R_lt (by exact HO926.out))) (below_size (by repeat (((with_reducible (exact HB.out)))))))
              have n3_:=Aside0.mk (blk_below (g:=gb912) (o:=.cells #[.string (⟨#[]⟩ : ByteArray),.int .i64 0,.int .i64 0,.int .i64 0,.int .i64 0] 50 (0,0)) (by exact BK912.out) hb)
              have n4_:=Aside0.mk (blk_below (g:=gb913) (o:=.cells #[.string (⟨#[]⟩ : ByteArray),.int .i64 0,.int .i64 0,.int .i64 0,.int .i64 0] 50 (0,0)) (by exact BK913.out) hb)
              have n5_:=Aside0.mk (blk_below (g:=gb934) (o:=.cells #[.string (⟨#[]⟩ : ByteArray),.int .i64 0,.int .i64 0,.int .i64 0,.int .i64 0] 50 (0,0)) (by exact BK934.out) hb)
              have n6_:=Aside0.mk (below_step (by repeat (((with_reducible (exact HB.out))))) hb)
              clear HO_5
              clear HO926
              clear BK912
              clear BK913
              clear BK934
              clear HB
              have HO_5:=n0_
              have HO926:=n1_
              have HO931:=n2_
              have BK912:=n3_
              have BK913:=n4_
              have BK934:=n5_
              have HB:=n6_
              clear n0_ n1_ n2_ n3_ n4_ n5_ n6_
              clear hb ho40
              refine hK.out _ _ ⟨HS0_,HS1_,HS2_⟩ (fun hHeld => ?_)
              clear hK K
              refine norm_ (a':=?_) ?_ ?_
              rotate_left
              ·show Act.put _ (some 46) _ = _
               simp only [Act.put,List.setIfInBounds_toArray,List.set_cons_zero,List.set_cons_succ,i64_w,i32_w]
               rfl
              exact norm_ (by (simp only [putAll,Act.put,List.setIfInBounds_toArray,List.set_cons_zero,List.set_cons_succ]; done)) (hJ3_7_9_16 (v925,v930,gb934) _ ⟨hHeld,(by exact Kd.R_mono HO926.out (fun _ hk => ⟨hk.2,hk.1⟩)),(by exact Kd.R_mono HO931.out (fun _ hk => ⟨hk.2,hk.1.2⟩)),(by exact HO_5.out),(by exact BK912.out),(by exact BK913.out),(by exact BK934.out),GW934.out,GE934.out,NB912_934.out,NB934_912.out,NB913_934.out,NB934_913.out,(by repeat (((with_reducible (exact HB.out)))))⟩)
            ·skip
             rintro ⟨v925,v930⟩ w39 ⟨hS_,h0_,h1_,h2_,h3_,h4_,h5_⟩
             have n0_ : Aside0 (Kd.R Kd.string 9 w39 w.heap.size (fun k_ => some k_ ≠ (v930 : Value).ownBlock ∧ some k_ ≠ (.slice (some ad917) t914.length co30 : Value).ownBlock) v925 y924):=⟨h0_⟩
             have n1_ : Aside0 (Kd.R Kd.string 9 w39 w.heap.size (fun k_ => some k_ ≠ (v925 : Value).ownBlock ∧ some k_ ≠ (.slice (some ad917) t914.length co30 : Value).ownBlock) v930 y929):=⟨h1_⟩
             have n2_ : Aside0 (Kd.R Kd.string 9 w39 w.heap.size (fun k_ => some k_ ≠ (v925 : Value).ownBlock ∧ some k_ ≠ (v930 : Value).ownBlock) (.slice (some ad917) t914.length co30) t914):=⟨h2_⟩
             have n3_ : Aside0 (w39.heap[gb912]? = some (.cells #[.string (⟨#[]⟩ : ByteArray),.int .i64 0,.int .i64 0,.int .i64 0,.int .i64 0] 50 (0,0))):=⟨h3_⟩
             have n4_ : Aside0 (w39.heap[gb913]? = some (.cells #[.string (⟨#[]⟩ : ByteArray),.int .i64 0,.int .i64 0,.int .i64 0,.int .i64 0] 50 (0,0))):=⟨h4_⟩
             have n5_ : Aside0 (Below w.heap.size w w39):=⟨h5_⟩
             clear HO_5
             clear BK912
             clear BK913
             clear HB
             clear h0_ h1_ h2_ h3_ h4_ h5_
             have HO926:=n0_
             have HO931:=n1_
             have HO_5:=n2_
             have BK912:=n3_
             have BK913:=n4_
             have HB:=n5_
             clear n0_ n1_ n2_ n3_ n4_ n5_
             have hHeld : w39.cell? ad917 = some (.string (rdOf ByteArray.empty t914 0)) ∧ w39.cell? ⟨ad917.block,ad917.off + 1,none⟩ = some (.string (rdOf ByteArray.empty t914 1)) ∧ w39.cell? ⟨ad917.block,ad917.off + 3,none⟩ = some (.string (rdOf ByteArray.empty t914 3)):=hS_
             obtain ⟨Ao40,co40,eo40⟩:=Kd.R_slice HO931.out
             (subst eo40)
             let v930 : Value:=.slice Ao40 y929.length co40
             refine norm_ (a':=?_) ?_ ?_
             rotate_left
             ·simp only [putAll,Act.put,List.setIfInBounds_toArray,List.set_cons_zero,List.set_cons_succ]
              rfl
             refine two_ (i:=13) (j:=16) (Ni:=some 50) (Nj:=some 10) (bda4 18 32767) (bda4 18 90111) rfl rfl rfl rfl (two_of HT_.out (by kernel_rfl)) (by decide) (by decide) (fun K hK => ?_) (fun K hK => ?_)
             ·skip
              refine goes_ Tryz.func87 (by kernel_rfl) rfl #[.slice Ao40 y929.length co40,.string (rdOf ByteArray.empty t914 3)] (by rfl) rfl rfl (by (try simp only [List.map_toArray,List.map_cons,List.map_nil]); (rfl)) ?_
              with_reducible refine (spec_l4Index.calls kj2 _ _ y929 (rdOf ByteArray.empty t914 3) t933 _ ?side1 ?side2 A23.out).mono ?_
              (case side1 => repeat ((exact (Kd.R_reads' HO931.out).2.2)))
              (case side2 => exact (Kd.R_reads' HO931.out).2.1)
              rintro e w' ⟨rfl,⟨nd,rfl⟩⟩
              refine ⟨_,rfl,?_⟩
              refine hK.out _ _ ⟨hHeld.1,hHeld.2.1,hHeld.2.2⟩ (fun hHeld => ?_)
              clear hK K
              refine norm_ (a':=?_) ?_ ?_
              rotate_left
              ·show Act.put _ (some 50) _ = _
               simp only [Act.put,List.setIfInBounds_toArray,List.set_cons_zero,List.set_cons_succ,i64_w,i32_w]
               rfl
              refine pure_ (i:=15) (N:=some 52) (v:=?_) (a':=?_) (bda4 18 65535) rfl rfl (any_of HT_.out (by kernel_rfl)) (fun _ _ _ h => h) (Or.inl ⟨by rfl,?_⟩) ?_ ?_
              rotate_left
              ·intro w'
               go_simp
               with_reducible rfl
              rotate_left
              ·simp only [Act.put,List.setIfInBounds_toArray,List.set_cons_zero,List.set_cons_succ,i64_w,i32_w]
               rfl
              exact norm_ (by (simp only [putAll,Act.put,List.setIfInBounds_toArray,List.set_cons_zero,List.set_cons_succ]; done)) (hJ3_7_9_13 (v925,.slice Ao40 y929.length co40) _ ⟨hHeld,(by (with_reducible repeat (apply Kd.R_drewN)); exact HO926.out),(by (with_reducible repeat (apply Kd.R_drewN)); exact HO931.out),(by (with_reducible repeat (apply Kd.R_drewN)); exact HO_5.out),(by (with_reducible repeat (refine blk_drewN ?_ _)); exact BK912.out),(by (with_reducible repeat (refine blk_drewN ?_ _)); exact BK913.out),(by repeat (with_reducible first|exact HB.out|apply pw_below_drewN))⟩)
             ·skip
              refine box_step ?hg (N:=10) ?hd (cs:=#[.string (⟨#[]⟩ : ByteArray),.int .i64 0,.int .i64 0,.int .i64 0,.int .i64 0]) (t:=50) ?hr ?_; (case hd => rfl); (case hg => rfl); (case hr => (go_simp; done))
              intro gb934 hg w40 hbox hb
              have HS0_:=(hb.cell (World.block_lt_of_cell? _ _ (hHeld.1))).trans (hHeld.1)
              have HS1_:=(hb.cell (World.block_lt_of_cell? _ _ (hHeld.2.1))).trans (hHeld.2.1)
              have HS2_:=(hb.cell (World.block_lt_of_cell? _ _ (hHeld.2.2))).trans (hHeld.2.2)
              have n0_:=Aside0.mk (Kd.R_below (by exact HO_5.out) hb)
              have n1_:=Aside0.mk (Kd.R_below (by exact HO926.out) hb)
              have n2_:=Aside0.mk (Kd.R_below (by exact HO931.out) hb)
              have n3_:=Aside0.mk (blk_below (g:=gb912) (o:=.cells #[.string (⟨#[]⟩ : ByteArray),.int .i64 0,.int .i64 0,.int .i64 0,.int .i64 0] 50 (0,0)) (by exact BK912.out) hb)
              have n4_:=Aside0.mk (blk_below (g:=gb913) (o:=.cells #[.string (⟨#[]⟩ : ByteArray),.int .i64 0,.int .i64 0,.int .i64 0,.int .i64 0] 50 (0,0)) (by exact BK913.out) hb)
              have n5_:=Aside0.mk (below_step (by repeat (((with_reducible (exact HB.out))))) hb)
              have n6_:=Aside0.mk (hbox)
              have n7_:=Aside0.mk ((by rw [hg]; exact (below_size (by repeat (((with_reducible (exact HB.out)))))) : w.heap.size ≤ gb934))
              have n8_:=Aside0.mk ((by rw [hg]; exact (below_size (by repeat (((with_reducible (exact HB.out)))))) : w.heap.size ≤ gb934))
              have n9_:=Aside0.mk ((by rw [hg]; exact Nat.ne_of_lt (blk_lt (g:=gb912) (o:=.cells #[.string (⟨#[]⟩ : ByteArray),.int .i64 0,.int .i64 0,.int .i64 0,.int .i64 0] 50 (0,0)) (by exact BK912.out)) : gb912 ≠ gb934))
              have n10_:=Aside0.mk ((by rw [hg]; exact Nat.ne_of_gt (blk_lt (g:=gb912) (o:=.cells #[.string (⟨#[]⟩ : ByteArray),.int .i64 0,.int .i64 0,.int .i64 0,.int .i64 0] 50 (0,0)) (by exact BK912.out)) : gb934 ≠ gb912))
              have n11_:=Aside0.mk ((by rw [hg]; exact Nat.ne_of_lt (blk_lt (g:=gb913) (o:=.cells #[.string (⟨#[]⟩ : ByteArray),.int .i64 0,.int .i64 0,.int .i64 0,.int .i64 0] 50 (0,0)) (by exact BK913.out)) : gb913 ≠ gb934))
              have n12_:=Aside0.mk ((by rw [hg]; exact Nat.ne_of_gt (blk_lt (g:=gb913) (o:=.cells #[.string (⟨#[]⟩ : ByteArray),.int .i64 0,.int .i64 0,.int .i64 0,.int .i64 0] 50 (0,0)) (by exact BK913.out)) : gb934 ≠ gb913))
              clear HO_5
              clear HO926
              clear HO931
              clear BK912
              clear BK913
              clear HB
              have HO_5:=n0_
              have HO926:=n1_
              have HO931:=n2_
              have BK912:=n3_
              have BK913:=n4_
              have HB:=n5_
              have BK934:=n6_
              have GW934:=n7_
              have GE934:=n8_
              have NB912_934:=n9_
              have NB934_912:=n10_
              have NB913_934:=n11_
              have NB934_913:=n12_
              clear n0_ n1_ n2_ n3_ n4_ n5_ n6_ n7_ n8_ n9_ n10_ n11_ n12_
              clear hb hbox hg
              refine hK.out _ _ ⟨HS0_,HS1_,HS2_⟩ (fun hHeld => ?_)
              clear hK K
              refine norm_ (a':=?_) ?_ ?_
              rotate_left
              ·show Act.put _ (some 10) _ = _
               simp only [Act.put,List.setIfInBounds_toArray,List.set_cons_zero,List.set_cons_succ,i64_w,i32_w]
               rfl
              exact norm_ (by (simp only [putAll,Act.put,List.setIfInBounds_toArray,List.set_cons_zero,List.set_cons_succ]; rfl)) (hJ3_7_9_16 (v925,v930,gb934) _ ⟨hHeld,(by exact HO926.out),(by exact HO931.out),(by exact HO_5.out),(by exact BK912.out),(by exact BK913.out),(by exact BK934.out),GW934.out,GE934.out,NB912_934.out,NB934_912.out,NB913_934.out,NB934_913.out,(by repeat (((with_reducible (exact HB.out)))))⟩)
           ·skip
            rintro ⟨v925,v930,gb934⟩ w40 ⟨hS_,h0_,h1_,h2_,h3_,h4_,h5_,h6_,h7_,h8_,h9_,h10_,h11_,h12_⟩
            have n0_ : Aside0 (Kd.R Kd.string 9 w40 w.heap.size (fun k_ => some k_ ≠ (v930 : Value).ownBlock ∧ some k_ ≠ (.slice (some ad917) t914.length co30 : Value).ownBlock) v925 y924):=⟨h0_⟩
            have n1_ : Aside0 (Kd.R Kd.string 9 w40 w.heap.size (fun k_ => some k_ ≠ (v925 : Value).ownBlock ∧ some k_ ≠ (.slice (some ad917) t914.length co30 : Value).ownBlock) v930 y929):=⟨h1_⟩
            have n2_ : Aside0 (Kd.R Kd.string 9 w40 w.heap.size (fun k_ => some k_ ≠ (v925 : Value).ownBlock ∧ some k_ ≠ (v930 : Value).ownBlock) (.slice (some ad917) t914.length co30) t914):=⟨h2_⟩
            have n3_ : Aside0 (w40.heap[gb912]? = some (.cells #[.string (⟨#[]⟩ : ByteArray),.int .i64 0,.int .i64 0,.int .i64 0,.int .i64 0] 50 (0,0))):=⟨h3_⟩
            have n4_ : Aside0 (w40.heap[gb913]? = some (.cells #[.string (⟨#[]⟩ : ByteArray),.int .i64 0,.int .i64 0,.int .i64 0,.int .i64 0] 50 (0,0))):=⟨h4_⟩
            have n5_ : Aside0 (w40.heap[gb934]? = some (.cells #[.string (⟨#[]⟩ : ByteArray),.int .i64 0,.int .i64 0,.int .i64 0,.int .i64 0] 50 (0,0))):=⟨h5_⟩
            have n6_ : Aside0 (w.heap.size ≤ gb934):=⟨h6_⟩
            have n7_ : Aside0 (w.heap.size ≤ gb934):=⟨h7_⟩
            have n8_ : Aside0 (gb912 ≠ gb934):=⟨h8_⟩
            have n9_ : Aside0 (gb934 ≠ gb912):=⟨h9_⟩
            have n10_ : Aside0 (gb913 ≠ gb934):=⟨h10_⟩
            have n11_ : Aside0 (gb934 ≠ gb913):=⟨h11_⟩
            have n12_ : Aside0 (Below w.heap.size w w40):=⟨h12_⟩
            clear HO_5
            clear BK912
            clear BK913
            clear HB
            clear h0_ h1_ h2_ h3_ h4_ h5_ h6_ h7_ h8_ h9_ h10_ h11_ h12_
            have HO926:=n0_
            have HO931:=n1_
            have HO_5:=n2_
            have BK912:=n3_
            have BK913:=n4_
            have BK934:=n5_
            have GW934:=n6_
            have GE934:=n7_
            have NB912_934:=n8_
            have NB934_912:=n9_
            have NB913_934:=n10_
            have NB934_913:=n11_
            have HB:=n12_
            clear n0_ n1_ n2_ n3_ n4_ n5_ n6_ n7_ n8_ n9_ n10_ n11_ n12_
            have hHeld : w40.cell? ad917 = some (.string (rdOf ByteArray.empty t914 0)) ∧ w40.cell? ⟨ad917.block,ad917.off + 1,none⟩ = some (.string (rdOf ByteArray.empty t914 1)) ∧ w40.cell? ⟨ad917.block,ad917.off + 3,none⟩ = some (.string (rdOf ByteArray.empty t914 3)):=hS_
            obtain ⟨Ao41,co41,eo41⟩:=Kd.R_slice HO931.out
            (subst eo41)
            refine norm_ (a':=?_) ?_ ?_
            rotate_left
            ·simp only [putAll,Act.put,List.setIfInBounds_toArray,List.set_cons_zero,List.set_cons_succ]
             rfl
            refine one_ (i:=13) (N:=some 50) (bda4 18 98303) rfl rfl (one_of HT_.out (by kernel_rfl)) (by decide) (fun K hK => ?_)
            refine goes_ Tryz.func87 (by kernel_rfl) rfl #[.slice Ao41 y929.length co41,.string (rdOf ByteArray.empty t914 3)] (by rfl) rfl rfl (by (try simp only [List.map_toArray,List.map_cons,List.map_nil]); (rfl)) ?_
            with_reducible refine (spec_l4Index.calls kj2 _ _ y929 (rdOf ByteArray.empty t914 3) t933 _ ?side1 ?side2 A23.out).mono ?_
            (case side1 => repeat ((exact (Kd.R_reads' HO931.out).2.2)))
            (case side2 => exact (Kd.R_reads' HO931.out).2.1)
            rintro e w' ⟨rfl,⟨nd,rfl⟩⟩
            refine ⟨_,rfl,?_⟩
            refine hK.out _ _ ⟨hHeld.1,hHeld.2.1,hHeld.2.2⟩ (fun hHeld => ?_)
            clear hK K
            refine norm_ (a':=?_) ?_ ?_
            rotate_left
            ·show Act.put _ (some 50) _ = _
             simp only [Act.put,List.setIfInBounds_toArray,List.set_cons_zero,List.set_cons_succ,i64_w,i32_w]
             rfl
            refine pure_ (i:=15) (N:=some 52) (v:=?_) (a':=?_) (bda4 18 131071) rfl rfl (any_of HT_.out (by kernel_rfl)) (fun _ _ _ h => h) (Or.inl ⟨by rfl,?_⟩) ?_ ?_
            rotate_left
            ·intro w'
             go_simp
             with_reducible rfl
            rotate_left
            ·simp only [Act.put,List.setIfInBounds_toArray,List.set_cons_zero,List.set_cons_succ,i64_w,i32_w]
             rfl
            exact norm_ (by (simp only [putAll,Act.put,List.setIfInBounds_toArray,List.set_cons_zero,List.set_cons_succ]; done)) (hJ3_7_9_13_16 (v925,.slice Ao41 y929.length co41,gb934) _ ⟨hHeld,(by (with_reducible repeat (apply Kd.R_drewN)); exact HO926.out),(by (with_reducible repeat (apply Kd.R_drewN)); exact HO931.out),(by (with_reducible repeat (apply Kd.R_drewN)); exact HO_5.out),(by (with_reducible repeat (refine blk_drewN ?_ _)); exact BK912.out),(by (with_reducible repeat (refine blk_drewN ?_ _)); exact BK913.out),(by (with_reducible repeat (refine blk_drewN ?_ _)); exact BK934.out),GW934.out,GE934.out,NB912_934.out,NB934_912.out,NB913_934.out,NB934_913.out,(by repeat (with_reducible first|exact HB.out|apply pw_below_drewN))⟩)
          ·skip
           rintro ⟨v925,v930⟩ w40 ⟨hS_,h0_,h1_,h2_,h3_,h4_,h5_⟩
           have n0_ : Aside0 (Kd.R Kd.string 9 w40 w.heap.size (fun k_ => some k_ ≠ (v930 : Value).ownBlock ∧ some k_ ≠ (.slice (some ad917) t914.length co30 : Value).ownBlock) v925 y924):=⟨h0_⟩
           have n1_ : Aside0 (Kd.R Kd.string 9 w40 w.heap.size (fun k_ => some k_ ≠ (v925 : Value).ownBlock ∧ some k_ ≠ (.slice (some ad917) t914.length co30 : Value).ownBlock) v930 y929):=⟨h1_⟩
           have n2_ : Aside0 (Kd.R Kd.string 9 w40 w.heap.size (fun k_ => some k_ ≠ (v925 : Value).ownBlock ∧ some k_ ≠ (v930 : Value).ownBlock) (.slice (some ad917) t914.length co30) t914):=⟨h2_⟩
           have n3_ : Aside0 (w40.heap[gb912]? = some (.cells #[.string (⟨#[]⟩ : ByteArray),.int .i64 0,.int .i64 0,.int .i64 0,.int .i64 0] 50 (0,0))):=⟨h3_⟩
           have n4_ : Aside0 (w40.heap[gb913]? = some (.cells #[.string (⟨#[]⟩ : ByteArray),.int .i64 0,.int .i64 0,.int .i64 0,.int .i64 0] 50 (0,0))):=⟨h4_⟩
           have n5_ : Aside0 (Below w.heap.size w w40):=⟨h5_⟩
           clear HO_5
           clear BK912
           clear BK913
           clear HB
           clear h0_ h1_ h2_ h3_ h4_ h5_
           have HO926:=n0_
           have HO931:=n1_
           have HO_5:=n2_
           have BK912:=n3_
           have BK913:=n4_
           have HB:=n5_
           clear n0_ n1_ n2_ n3_ n4_ n5_
           have hHeld : w40.cell? ad917 = some (.string (rdOf ByteArray.empty t914 0)) ∧ w40.cell? ⟨ad917.block,ad917.off + 1,none⟩ = some (.string (rdOf ByteArray.empty t914 1)) ∧ w40.cell? ⟨ad917.block,ad917.off + 3,none⟩ = some (.string (rdOf ByteArray.empty t914 3)):=hS_
           refine norm_ (a':=?_) ?_ ?_
           rotate_left
           ·simp only [putAll,Act.put,List.setIfInBounds_toArray,List.set_cons_zero,List.set_cons_succ]
            rfl
           refine one_ (i:=16) (N:=some 10) (bda4 18 131071) rfl rfl (one_of HT_.out (by kernel_rfl)) (by decide) (fun K hK => ?_)
           refine box_step ?hg (N:=10) ?hd (cs:=#[.string (⟨#[]⟩ : ByteArray),.int .i64 0,.int .i64 0,.int .i64 0,.int .i64 0]) (t:=50) ?hr ?_; (case hd => rfl); (case hg => rfl); (case hr => (go_simp; done))
           intro gb934 hg w41 hbox hb
           have HS0_:=(hb.cell (World.block_lt_of_cell? _ _ (hHeld.1))).trans (hHeld.1)
           have HS1_:=(hb.cell (World.block_lt_of_cell? _ _ (hHeld.2.1))).trans (hHeld.2.1)
           have HS2_:=(hb.cell (World.block_lt_of_cell? _ _ (hHeld.2.2))).trans (hHeld.2.2)
           have n0_:=Aside0.mk (Kd.R_below (by exact HO_5.out) hb)
           have n1_:=Aside0.mk (Kd.R_below (by exact HO926.out) hb)
           have n2_:=Aside0.mk (Kd.R_below (by exact HO931.out) hb)
           have n3_:=Aside0.mk (blk_below (g:=gb912) (o:=.cells #[.string (⟨#[]⟩ : ByteArray),.int .i64 0,.int .i64 0,.int .i64 0,.int .i64 0] 50 (0,0)) (by exact BK912.out) hb)
           have n4_:=Aside0.mk (blk_below (g:=gb913) (o:=.cells #[.string (⟨#[]⟩ : ByteArray),.int .i64 0,.int .i64 0,.int .i64 0,.int .i64 0] 50 (0,0)) (by exact BK913.out) hb)
           have n5_:=Aside0.mk (below_step (by repeat (((with_reducible (exact HB.out))))) hb)
           have n6_:=Aside0.mk (hbox)
           have n7_:=Aside0.mk ((by rw [hg]; exact (below_size (by repeat (((with_reducible (exact HB.out)))))) : w.heap.size ≤ gb934))
           have n8_:=Aside0.mk ((by rw [hg]; exact (below_size (by repeat (((with_reducible (exact HB.out)))))) : w.heap.size ≤ gb934))
           have n9_:=Aside0.mk ((by rw [hg]; exact Nat.ne_of_lt (blk_lt (g:=gb912) (o:=.cells #[.string (⟨#[]⟩ : ByteArray),.int .i64 0,.int .i64 0,.int .i64 0,.int .i64 0] 50 (0,0)) (by exact BK912.out)) : gb912 ≠ gb934))
           have n10_:=Aside0.mk ((by rw [hg]; exact Nat.ne_of_gt (blk_lt (g:=gb912) (o:=.cells #[.string (⟨#[]⟩ : ByteArray),.int .i64 0,.int .i64 0,.int .i64 0,.int .i64 0] 50 (0,0)) (by exact BK912.out)) : gb934 ≠ gb912))
           have n11_:=Aside0.mk ((by rw [hg]; exact Nat.ne_of_lt (blk_lt (g:=gb913) (o:=.cells #[.string (⟨#[]⟩ : ByteArray),.int .i64 0,.int .i64 0,.int .i64 0,.int .i64 0] 50 (0,0)) (by exact BK913.out)) : gb913 ≠ gb934))
           have n12_:=Aside0.mk ((by rw [hg]; exact Nat.ne_of_gt (blk_lt (g:=gb913) (o:=.cells #[.string (⟨#[]⟩ : ByteArray),.int .i64 0,.int .i64 0,.int .i64 0,.int .i64 0] 50 (0,0)) (by exact BK913.out)) : gb934 ≠ gb913))
           clear HO_5
           clear HO926
           clear HO931
           clear BK912
           clear BK913
           clear HB
           have HO_5:=n0_
           have HO926:=n1_
           have HO931:=n2_
           have BK912:=n3_
           have BK913:=n4_
           have HB:=n5_
           have BK934:=n6_
           have GW934:=n7_
           have GE934:=n8_
           have NB912_934:=n9_
           have NB934_912:=n10_
           have NB913_934:=n11_
           have NB934_913:=n12_
           clear n0_ n1_ n2_ n3_ n4_ n5_ n6_ n7_ n8_ n9_ n10_ n11_ n12_
           clear hb hbox hg
           refine hK.out _ _ ⟨HS0_,HS1_,HS2_⟩ (fun hHeld => ?_)
           clear hK K
           refine norm_ (a':=?_) ?_ ?_
           rotate_left
           ·show Act.put _ (some 10) _ = _
            simp only [Act.put,List.setIfInBounds_toArray,List.set_cons_zero,List.set_cons_succ,i64_w,i32_w]
            rfl
           exact norm_ (by (simp only [putAll,Act.put,List.setIfInBounds_toArray,List.set_cons_zero,List.set_cons_succ]; done)) (hJ3_7_9_13_16 (v925,v930,gb934) _ ⟨hHeld,(by exact HO926.out),(by exact HO931.out),(by exact HO_5.out),(by exact BK912.out),(by exact BK913.out),(by exact BK934.out),GW934.out,GE934.out,NB912_934.out,NB934_912.out,NB913_934.out,NB934_913.out,(by repeat (((with_reducible (exact HB.out)))))⟩)
         rintro ⟨v925,v930,gb934⟩ w41 ⟨hS_,h0_,h1_,h2_,h3_,h4_,h5_,h6_,h7_,h8_,h9_,h10_,h11_,h12_⟩
         have n0_ : Aside0 (Kd.R Kd.string 9 w41 w.heap.size (fun k_ => some k_ ≠ (v930 : Value).ownBlock ∧ some k_ ≠ (.slice (some ad917) t914.length co30 : Value).ownBlock) v925 y924):=⟨h0_⟩
         have n1_ : Aside0 (Kd.R Kd.string 9 w41 w.heap.size (fun k_ => some k_ ≠ (v925 : Value).ownBlock ∧ some k_ ≠ (.slice (some ad917) t914.length co30 : Value).ownBlock) v930 y929):=⟨h1_⟩
         have n2_ : Aside0 (Kd.R Kd.string 9 w41 w.heap.size (fun k_ => some k_ ≠ (v925 : Value).ownBlock ∧ some k_ ≠ (v930 : Value).ownBlock) (.slice (some ad917) t914.length co30) t914):=⟨h2_⟩
         have n3_ : Aside0 (w41.heap[gb912]? = some (.cells #[.string (⟨#[]⟩ : ByteArray),.int .i64 0,.int .i64 0,.int .i64 0,.int .i64 0] 50 (0,0))):=⟨h3_⟩
         have n4_ : Aside0 (w41.heap[gb913]? = some (.cells #[.string (⟨#[]⟩ : ByteArray),.int .i64 0,.int .i64 0,.int .i64 0,.int .i64 0] 50 (0,0))):=⟨h4_⟩
         have n5_ : Aside0 (w41.heap[gb934]? = some (.cells #[.string (⟨#[]⟩ : ByteArray),.int .i64 0,.int .i64 0,.int .i64 0,.int .i64 0] 50 (0,0))):=⟨h5_⟩
         have n6_ : Aside0 (w.heap.size ≤ gb934):=⟨h6_⟩
         have n7_ : Aside0 (w.heap.size ≤ gb934):=⟨h7_⟩
         have n8_ : Aside0 (gb912 ≠ gb934):=⟨h8_⟩
         have n9_ : Aside0 (gb934 ≠ gb912):=⟨h9_⟩
         have n10_ : Aside0 (gb913 ≠ gb934):=⟨h10_⟩
         have n11_ : Aside0 (gb934 ≠ gb913):=⟨h11_⟩
         have n12_ : Aside0 (Below w.heap.size w w41):=⟨h12_⟩
         clear HO_5
         clear BK912
         clear BK913
         clear HB
         clear h0_ h1_ h2_ h3_ h4_ h5_ h6_ h7_ h8_ h9_ h10_ h11_ h12_
         have HO926:=n0_
         have HO931:=n1_
         have HO_5:=n2_
         have BK912:=n3_
         have BK913:=n4_
         have BK934:=n5_
         have GW934:=n6_
         have GE934:=n7_
         have NB912_934:=n8_
         have NB934_912:=n9_
         have NB913_934:=n10_
         have NB934_913:=n11_
         have HB:=n12_
         clear n0_ n1_ n2_ n3_ n4_ n5_ n6_ n7_ n8_ n9_ n10_ n11_ n12_
         have hHeld : w41.cell? ad917 = some (.string (rdOf ByteArray.empty t914 0)) ∧ w41.cell? ⟨ad917.block,ad917.off + 1,none⟩ = some (.string (rdOf ByteArray.empty t914 1)) ∧ w41.cell? ⟨ad917.block,ad917.off + 3,none⟩ = some (.string (rdOf ByteArray.empty t914 3)):=hS_
         refine norm_ (a':=?_) ?_ ?_
         rotate_left
         ·simp only [putAll,Act.put,List.setIfInBounds_toArray,List.set_cons_zero,List.set_cons_succ]
          rfl
         refine one_ (i:=17) (N:=none) (bda4 18 262143) rfl rfl (one_of HT_.out (by kernel_rfl)) (by decide) (fun K hK => ?_)
         have hs42 : w41.cell? ⟨gb934,0,none⟩ = some (.string (⟨#[]⟩ : ByteArray)):=(blk_cell BK934.out 0).trans rfl
         have H:=HF_.out
         clear HF_
         by_cases c24 : t919 = true
         ·subst c24
          have H1 : (if t922 = true then ((spec_l2Good.f kj2 (rdOf ByteArray.empty t914 0) t928 t918 t933 t921).bind fun t935 => (if t935 = true then ((spec_l4Text.f kj2 (rdOf ByteArray.empty t914 0) t928 t918 t933 t921).bind fun t936 => (if t936.toList = a0.toList then (some (rdOf ByteArray.empty t914 0,t928,t918,t933,t921,true)) else (some ((⟨#[]⟩ : ByteArray),0,0,0,0,false)))) else (some ((⟨#[]⟩ : ByteArray),0,0,0,0,false)))) else (some ((⟨#[]⟩ : ByteArray),0,0,0,0,false))) = some (r1,r2,r3,r4,r5,r6):=by rw [if_pos rfl] at H; exact H
          clear H
          have H:=H1
          clear H1
          have HF_:=Aside0.mk H
          clear H
          have H:=HF_.out
          clear HF_
          by_cases c25 : t922 = true
          ·subst c25
           have H1 : ((spec_l2Good.f kj2 (rdOf ByteArray.empty t914 0) t928 t918 t933 t921).bind fun t935 => (if t935 = true then ((spec_l4Text.f kj2 (rdOf ByteArray.empty t914 0) t928 t918 t933 t921).bind fun t936 => (if t936.toList = a0.toList then (some (rdOf ByteArray.empty t914 0,t928,t918,t933,t921,true)) else (some ((⟨#[]⟩ : ByteArray),0,0,0,0,false)))) else (some ((⟨#[]⟩ : ByteArray),0,0,0,0,false)))) = some (r1,r2,r3,r4,r5,r6):=by rw [if_pos rfl] at H; exact H
           clear H
           have H:=H1
           clear H1
           replace H:=Option.bind_eq_some_iff.mp H
           obtain ⟨t935,A260,H⟩:=H
           replace H : (if t935 = true then ((spec_l4Text.f kj2 (rdOf ByteArray.empty t914 0) t928 t918 t933 t921).bind fun t936 => (if t936.toList = a0.toList then (some (rdOf ByteArray.empty t914 0,t928,t918,t933,t921,true)) else (some ((⟨#[]⟩ : ByteArray),0,0,0,0,false)))) else (some ((⟨#[]⟩ : ByteArray),0,0,0,0,false))) = some (r1,r2,r3,r4,r5,r6):=H
           have A26:=Aside0.mk A260
           clear A260
           by_cases c27 : t935 = true
           ·subst c27
            have H1 : ((spec_l4Text.f kj2 (rdOf ByteArray.empty t914 0) t928 t918 t933 t921).bind fun t936 => (if t936.toList = a0.toList then (some (rdOf ByteArray.empty t914 0,t928,t918,t933,t921,true)) else (some ((⟨#[]⟩ : ByteArray),0,0,0,0,false)))) = some (r1,r2,r3,r4,r5,r6):=by rw [if_pos rfl] at H; exact H
            clear H
            have H:=H1
            clear H1
            replace H:=Option.bind_eq_some_iff.mp H
            obtain ⟨t936,A280,H⟩:=H
            replace H : (if t936.toList = a0.toList then (some (rdOf ByteArray.empty t914 0,t928,t918,t933,t921,true)) else (some ((⟨#[]⟩ : ByteArray),0,0,0,0,false))) = some (r1,r2,r3,r4,r5,r6):=H
            have A28:=Aside0.mk A280
            clear A280
            by_cases c29 : t936.toList = a0.toList
            ·rw [if_pos c29] at H
             have c29b0 : (t936.toList == a0.toList) = true:=beq_iff_eq.mpr c29
             have c29b1 : (t936.toList != a0.toList) = false:=bne_eq_false_iff_eq.mpr c29
             clear c29
             simp only [Option.some.injEq,Prod.mk.injEq] at H
             obtain ⟨rfl,rfl,rfl,rfl,rfl,rfl⟩:=H
             have hfs42:=blk_frozen BK934.out 0
             have hns42_0:=NB912_934.out
             have hns42_1:=NB913_934.out
             have hms42_0:=NB934_912.out
             have hms42_1:=NB934_913.out
             have hs43 : w41.cell? ⟨gb934,1,none⟩ = some (.int .i64 0):=(blk_cell BK934.out 1).trans rfl
             have hfs43:=blk_frozen BK934.out 1
             have hns43_0:=NB912_934.out
             have hns43_1:=NB913_934.out
             have hms43_0:=NB934_912.out
             have hms43_1:=NB934_913.out
             have hs44 : w41.cell? ⟨gb934,2,none⟩ = some (.int .i64 0):=(blk_cell BK934.out 2).trans rfl
             have hfs44:=blk_frozen BK934.out 2
             have hns44_0:=NB912_934.out
             have hns44_1:=NB913_934.out
             have hms44_0:=NB934_912.out
             have hms44_1:=NB934_913.out
             have hs45 : w41.cell? ⟨gb934,3,none⟩ = some (.int .i64 0):=(blk_cell BK934.out 3).trans rfl
             have hfs45:=blk_frozen BK934.out 3
             have hns45_0:=NB912_934.out
             have hns45_1:=NB913_934.out
             have hms45_0:=NB934_912.out
             have hms45_1:=NB934_913.out
             have hs46 : w41.cell? ⟨gb934,4,none⟩ = some (.int .i64 0):=(blk_cell BK934.out 4).trans rfl
             have hfs46:=blk_frozen BK934.out 4
             have hns46_0:=NB912_934.out
             have hns46_1:=NB913_934.out
             have hms46_0:=NB934_912.out
             have hms46_1:=NB934_913.out
             refine skip_ (w1:=?_) (by rfl) rfl ?_ ?_
             rotate_left
             ·go_simp
              rfl
             have hne0_:=Kd.own_blk (Kd.R_ne HO_5.out BK934.out (by decide))
             refine hK.out _ _ ⟨?_,?_,?_⟩ (fun hHeld => ?_)
             ·(iterate 5 (refine (cell_far ?hh_ _).trans ?_; (case hh_ => exact hne0_))); exact hHeld.1
             ·(iterate 5 (refine (cell_far ?hh_ _).trans ?_; (case hh_ => exact hne0_))); exact hHeld.2.1
             ·(iterate 5 (refine (cell_far ?hh_ _).trans ?_; (case hh_ => exact hne0_))); exact hHeld.2.2
             clear hK K
             refine done_ (done_of HT_.out (by kernel_rfl)) ?_
             have hnb47:=NB934_912.out
             have hnc47:=NB912_934.out
             have hnb48:=NB934_913.out
             have hnc48:=NB913_934.out
             have hcz49_0 : w41.cell? ⟨gb934,0,none⟩ = some (.string (⟨#[]⟩ : ByteArray)):=(blk_cell BK934.out 0).trans rfl
             have hcz49_1 : w41.cell? ⟨gb934,1,none⟩ = some (.int .i64 0):=(blk_cell BK934.out 1).trans rfl
             have hcz49_2 : w41.cell? ⟨gb934,2,none⟩ = some (.int .i64 0):=(blk_cell BK934.out 2).trans rfl
             have hcz49_3 : w41.cell? ⟨gb934,3,none⟩ = some (.int .i64 0):=(blk_cell BK934.out 3).trans rfl
             have hcz49_4 : w41.cell? ⟨gb934,4,none⟩ = some (.int .i64 0):=(blk_cell BK934.out 4).trans rfl
             have hfz49_0:=blk_frozen BK934.out 0
             have hfz49_1:=blk_frozen BK934.out 1
             have hfz49_2:=blk_frozen BK934.out 2
             have hfz49_3:=blk_frozen BK934.out 3
             have hfz49_4:=blk_frozen BK934.out 4
             try go_wp2_with (first|(go_at_call 83; (with_reducible refine (spec_l2Good.calls kj2 (rdOf ByteArray.empty t914 0) t928 t918 t933 t921 true _ A26.out).mono ?_); rintro e w50 ⟨rfl,hb⟩; have n0_:=Aside0.mk (Kd.R_below (by exact (Kd.R_mono (Kd.R_far (p:=⟨gb934,4,none⟩) (Kd.R_far (p:=⟨gb934,3,none⟩) (Kd.R_far (p:=⟨gb934,2,none⟩) (Kd.R_far (p:=⟨gb934,1,none⟩) (Kd.R_far (p:=⟨gb934,0,none⟩) (Kd.R_types HO_5.out BK934.out (by decide)) (fun _ hk => hk.2) (.string (rdOf ByteArray.empty t914 0))) (fun _ hk => hk.2) (.int .i64 t928)) (fun _ hk => hk.2) (.int .i64 t918)) (fun _ hk => hk.2) (.int .i64 t933)) (fun _ hk => hk.2) (.int .i64 t921)) (fun _ h_ => h_.1))) hb); have n1_:=Aside0.mk (Kd.R_below (by exact (Kd.R_mono (Kd.R_far (p:=⟨gb934,4,none⟩) (Kd.R_far (p:=⟨gb934,3,none⟩) (Kd.R_far (p:=⟨gb934,2,none⟩) (Kd.R_far (p:=⟨gb934,1,none⟩) (Kd.R_far (p:=⟨gb934,0,none⟩) (Kd.R_types HO926.out BK934.out (by decide)) (fun _ hk => hk.2) (.string (rdOf ByteArray.empty t914 0))) (fun _ hk => hk.2) (.int .i64 t928)) (fun _ hk => hk.2) (.int .i64 t918)) (fun _ hk => hk.2) (.int .i64 t933)) (fun _ hk => hk.2) (.int .i64 t921)) (fun _ h_ => h_.1))) hb); have n2_:=Aside0.mk (Kd.R_below (by exact (Kd.R_mono (Kd.R_far (p:=⟨gb934,4,none⟩) (Kd.R_far (p:=⟨gb934,3,none⟩) (Kd.R_far (p:=⟨gb934,2,none⟩) (Kd.R_far (p:=⟨gb934,1,none⟩) (Kd.R_far (p:=⟨gb934,0,none⟩) (Kd.R_types HO931.out BK934.out (by decide)) (fun _ hk => hk.2) (.string (rdOf ByteArray.empty t914 0))) (fun _ hk => hk.2) (.int .i64 t928)) (fun _ hk => hk.2) (.int .i64 t918)) (fun _ hk => hk.2) (.int .i64 t933)) (fun _ hk => hk.2) (.int .i64 t921)) (fun _ h_ => h_.1))) hb); have n3_:=Aside0.mk (blk_below (g:=gb912) (o:=.cells #[.string (⟨#[]⟩ : ByteArray),.int .i64 0,.int .i64 0,.int .i64 0,.int .i64 0] 50 (0,0)) (by refine blk_far ?_ NB912_934.out _; refine blk_far ?_ NB912_934.out _; refine blk_far ?_ NB912_934.out _; refine blk_far ?_ NB912_934.out _; refine blk_far ?_ NB912_934.out _; exact BK912.out) hb); have n4_:=Aside0.mk (blk_below (g:=gb913) (o:=.cells #[.string (⟨#[]⟩ : ByteArray),.int .i64 0,.int .i64 0,.int .i64 0,.int .i64 0] 50 (0,0)) (by refine blk_far ?_ NB913_934.out _; refine blk_far ?_ NB913_934.out _; refine blk_far ?_ NB913_934.out _; refine blk_far ?_ NB913_934.out _; refine blk_far ?_ NB913_934.out _; exact BK913.out) hb); have n5_:=Aside0.mk (blk_below (g:=gb934) (o:=.cells #[.string (rdOf ByteArray.empty t914 0),.int .i64 t928,.int .i64 t918,.int .i64 t933,.int .i64 t921] 50 (0,0)) (by refine blk_put (cs:=#[.string (rdOf ByteArray.empty t914 0),.int .i64 t928,.int .i64 t918,.int .i64 t933,.int .i64 0]) ?_ 4 _ rfl; refine blk_put (cs:=#[.string (rdOf ByteArray.empty t914 0),.int .i64 t928,.int .i64 t918,.int .i64 0,.int .i64 0]) ?_ 3 _ rfl; refine blk_put (cs:=#[.string (rdOf ByteArray.empty t914 0),.int .i64 t928,.int .i64 0,.int .i64 0,.int .i64 0]) ?_ 2 _ rfl; refine blk_put (cs:=#[.string (rdOf ByteArray.empty t914 0),.int .i64 0,.int .i64 0,.int .i64 0,.int .i64 0]) ?_ 1 _ rfl; refine blk_put (cs:=#[.string (⟨#[]⟩ : ByteArray),.int .i64 0,.int .i64 0,.int .i64 0,.int .i64 0]) ?_ 0 _ rfl; exact BK934.out) hb); have n6_:=Aside0.mk (below_step (by repeat (with_reducible first|exact HB.out|refine below_set ?_ GE934.out)) hb); clear HO_5; clear HO926; clear HO931; clear BK912; clear BK913; clear BK934; clear HB; have HO_5:=n0_; have HO926:=n1_; have HO931:=n2_; have BK912:=n3_; have BK913:=n4_; have BK934:=n5_; have HB:=n6_; clear n0_ n1_ n2_ n3_ n4_ n5_ n6_; (try clear hb); (try clear hb2); (try clear hk); (try clear hi); have hcz51_0 : w50.cell? ⟨gb934,0,none⟩ = some (.string (rdOf ByteArray.empty t914 0)):=(blk_cell BK934.out 0).trans rfl; have hcz51_1 : w50.cell? ⟨gb934,1,none⟩ = some (.int .i64 t928):=(blk_cell BK934.out 1).trans rfl; have hcz51_2 : w50.cell? ⟨gb934,2,none⟩ = some (.int .i64 t918):=(blk_cell BK934.out 2).trans rfl; have hcz51_3 : w50.cell? ⟨gb934,3,none⟩ = some (.int .i64 t933):=(blk_cell BK934.out 3).trans rfl; have hcz51_4 : w50.cell? ⟨gb934,4,none⟩ = some (.int .i64 t921):=(blk_cell BK934.out 4).trans rfl; have hfz51_0:=blk_frozen BK934.out 0; have hfz51_1:=blk_frozen BK934.out 1; have hfz51_2:=blk_frozen BK934.out 2; have hfz51_3:=blk_frozen BK934.out 3; have hfz51_4:=blk_frozen BK934.out 4)|(go_at_call 60; (with_reducible refine (spec_l4Text.calls kj2 (rdOf ByteArray.empty t914 0) t928 t918 t933 t921 t936 _ A28.out).mono ?_); rintro e w52 ⟨rfl,hb⟩; have n0_:=Aside0.mk (Kd.R_below (by exact HO_5.out) hb); have n1_:=Aside0.mk (Kd.R_below (by exact HO926.out) hb); have n2_:=Aside0.mk (Kd.R_below (by exact HO931.out) hb); have n3_:=Aside0.mk (blk_below (g:=gb912) (o:=.cells #[.string (⟨#[]⟩ : ByteArray),.int .i64 0,.int .i64 0,.int .i64 0,.int .i64 0] 50 (0,0)) (by exact BK912.out) hb); have n4_:=Aside0.mk (blk_below (g:=gb913) (o:=.cells #[.string (⟨#[]⟩ : ByteArray),.int .i64 0,.int .i64 0,.int .i64 0,.int .i64 0] 50 (0,0)) (by exact BK913.out) hb); have n5_:=Aside0.mk (blk_below (g:=gb934) (o:=.cells #[.string (rdOf ByteArray.empty t914 0),.int .i64 t928,.int .i64 t918,.int .i64 t933,.int .i64 t921] 50 (0,0)) (by exact BK934.out) hb); have n6_:=Aside0.mk (below_step (by repeat (((with_reducible (exact HB.out))))) hb); clear HO_5; clear HO926; clear HO931; clear BK912; clear BK913; clear BK934; clear HB; have HO_5:=n0_; have HO926:=n1_; have HO931:=n2_; have BK912:=n3_; have BK913:=n4_; have BK934:=n5_; have HB:=n6_; clear n0_ n1_ n2_ n3_ n4_ n5_ n6_; (try clear hb); (try clear hb2); (try clear hk); (try clear hi); have hcz53_0 : w52.cell? ⟨gb934,0,none⟩ = some (.string (rdOf ByteArray.empty t914 0)):=(blk_cell BK934.out 0).trans rfl; have hcz53_1 : w52.cell? ⟨gb934,1,none⟩ = some (.int .i64 t928):=(blk_cell BK934.out 1).trans rfl; have hcz53_2 : w52.cell? ⟨gb934,2,none⟩ = some (.int .i64 t918):=(blk_cell BK934.out 2).trans rfl; have hcz53_3 : w52.cell? ⟨gb934,3,none⟩ = some (.int .i64 t933):=(blk_cell BK934.out 3).trans rfl; have hcz53_4 : w52.cell? ⟨gb934,4,none⟩ = some (.int .i64 t921):=(blk_cell BK934.out 4).trans rfl; have hfz53_0:=blk_frozen BK934.out 0; have hfz53_1:=blk_frozen BK934.out 1; have hfz53_2:=blk_frozen BK934.out 2; have hfz53_3:=blk_frozen BK934.out 3; have hfz53_4:=blk_frozen BK934.out 4; have hnb54:=NB912_913.out; have hnc54:=NB913_912.out; have hcz55_0 : w52.cell? ⟨gb912,0,none⟩ = some (.string (⟨#[]⟩ : ByteArray)):=(blk_cell BK912.out 0).trans rfl; have hcz55_1 : w52.cell? ⟨gb912,1,none⟩ = some (.int .i64 0):=(blk_cell BK912.out 1).trans rfl; have hcz55_2 : w52.cell? ⟨gb912,2,none⟩ = some (.int .i64 0):=(blk_cell BK912.out 2).trans rfl; have hcz55_3 : w52.cell? ⟨gb912,3,none⟩ = some (.int .i64 0):=(blk_cell BK912.out 3).trans rfl; have hcz55_4 : w52.cell? ⟨gb912,4,none⟩ = some (.int .i64 0):=(blk_cell BK912.out 4).trans rfl; have hfz55_0:=blk_frozen BK912.out 0; have hfz55_1:=blk_frozen BK912.out 1; have hfz55_2:=blk_frozen BK912.out 2; have hfz55_3:=blk_frozen BK912.out 3; have hfz55_4:=blk_frozen BK912.out 4))
             refine bodyPost_ret (results_ct rfl _ _ gb912 50 #[.string (rdOf ByteArray.empty t914 0),.int .i64 t928,.int .i64 t918,.int .i64 t933,.int .i64 t921] (0,0) _ rfl (by refine blk_put (cs:=#[.string (rdOf ByteArray.empty t914 0),.int .i64 t928,.int .i64 t918,.int .i64 t933,.int .i64 0]) ?_ 4 _ rfl; refine blk_put (cs:=#[.string (rdOf ByteArray.empty t914 0),.int .i64 t928,.int .i64 t918,.int .i64 0,.int .i64 0]) ?_ 3 _ rfl; refine blk_put (cs:=#[.string (rdOf ByteArray.empty t914 0),.int .i64 t928,.int .i64 0,.int .i64 0,.int .i64 0]) ?_ 2 _ rfl; refine blk_put (cs:=#[.string (rdOf ByteArray.empty t914 0),.int .i64 0,.int .i64 0,.int .i64 0,.int .i64 0]) ?_ 1 _ rfl; refine blk_put (cs:=#[.string (⟨#[]⟩ : ByteArray),.int .i64 0,.int .i64 0,.int .i64 0,.int .i64 0]) ?_ 0 _ rfl; exact BK912.out) Tryz.underlying50 rfl (by kernel_rfl)) rfl ?_
             exact ⟨by (rfl),by repeat (with_reducible first|exact HB.out|refine below_set ?_ GE912.out)⟩
            ·rw [if_neg c29] at H
             have c29b0 : (t936.toList == a0.toList) = false:=beq_eq_false_iff_ne.mpr c29
             have c29b1 : (t936.toList != a0.toList) = true:=bne_iff_ne.mpr c29
             simp only [Option.some.injEq,Prod.mk.injEq] at H
             obtain ⟨rfl,rfl,rfl,rfl,rfl,rfl⟩:=H
             have hfs68:=blk_frozen BK934.out 0
             have hns68_0:=NB912_934.out
             have hns68_1:=NB913_934.out
             have hms68_0:=NB934_912.out
             have hms68_1:=NB934_913.out
             have hs43 : w41.cell? ⟨gb934,1,none⟩ = some (.int .i64 0):=(blk_cell BK934.out 1).trans rfl
             have hfs69:=blk_frozen BK934.out 1
             have hns69_0:=NB912_934.out
             have hns69_1:=NB913_934.out
             have hms69_0:=NB934_912.out
             have hms69_1:=NB934_913.out
             have hs44 : w41.cell? ⟨gb934,2,none⟩ = some (.int .i64 0):=(blk_cell BK934.out 2).trans rfl
             have hfs70:=blk_frozen BK934.out 2
             have hns70_0:=NB912_934.out
             have hns70_1:=NB913_934.out
             have hms70_0:=NB934_912.out
             have hms70_1:=NB934_913.out
             have hs45 : w41.cell? ⟨gb934,3,none⟩ = some (.int .i64 0):=(blk_cell BK934.out 3).trans rfl
             have hfs71:=blk_frozen BK934.out 3
             have hns71_0:=NB912_934.out
             have hns71_1:=NB913_934.out
             have hms71_0:=NB934_912.out
             have hms71_1:=NB934_913.out
             have hs46 : w41.cell? ⟨gb934,4,none⟩ = some (.int .i64 0):=(blk_cell BK934.out 4).trans rfl
             have hfs72:=blk_frozen BK934.out 4
             have hns72_0:=NB912_934.out
             have hns72_1:=NB913_934.out
             have hms72_0:=NB934_912.out
             have hms72_1:=NB934_913.out
             refine skip_ (w1:=?_) (by rfl) rfl ?_ ?_
             rotate_left
             ·go_simp
              rfl
             have hne0_:=Kd.own_blk (Kd.R_ne HO_5.out BK934.out (by decide))
             refine hK.out _ _ ⟨?_,?_,?_⟩ (fun hHeld => ?_)
             ·(iterate 5 (refine (cell_far ?hh_ _).trans ?_; (case hh_ => exact hne0_))); exact hHeld.1
             ·(iterate 5 (refine (cell_far ?hh_ _).trans ?_; (case hh_ => exact hne0_))); exact hHeld.2.1
             ·(iterate 5 (refine (cell_far ?hh_ _).trans ?_; (case hh_ => exact hne0_))); exact hHeld.2.2
             clear hK K
             refine done_ (done_of HT_.out (by kernel_rfl)) ?_
             have hnb73:=NB934_912.out
             have hnc73:=NB912_934.out
             have hnb74:=NB934_913.out
             have hnc74:=NB913_934.out
             have hcz75_0 : w41.cell? ⟨gb934,0,none⟩ = some (.string (⟨#[]⟩ : ByteArray)):=(blk_cell BK934.out 0).trans rfl
             have hcz75_1 : w41.cell? ⟨gb934,1,none⟩ = some (.int .i64 0):=(blk_cell BK934.out 1).trans rfl
             have hcz75_2 : w41.cell? ⟨gb934,2,none⟩ = some (.int .i64 0):=(blk_cell BK934.out 2).trans rfl
             have hcz75_3 : w41.cell? ⟨gb934,3,none⟩ = some (.int .i64 0):=(blk_cell BK934.out 3).trans rfl
             have hcz75_4 : w41.cell? ⟨gb934,4,none⟩ = some (.int .i64 0):=(blk_cell BK934.out 4).trans rfl
             have hfz75_0:=blk_frozen BK934.out 0
             have hfz75_1:=blk_frozen BK934.out 1
             have hfz75_2:=blk_frozen BK934.out 2
             have hfz75_3:=blk_frozen BK934.out 3
             have hfz75_4:=blk_frozen BK934.out 4
             try go_wp2_with (first|(go_at_call 83; (with_reducible refine (spec_l2Good.calls kj2 (rdOf ByteArray.empty t914 0) t928 t918 t933 t921 true _ A26.out).mono ?_); rintro e w50 ⟨rfl,hb⟩; have n0_:=Aside0.mk (Kd.R_below (by exact (Kd.R_mono (Kd.R_far (p:=⟨gb934,4,none⟩) (Kd.R_far (p:=⟨gb934,3,none⟩) (Kd.R_far (p:=⟨gb934,2,none⟩) (Kd.R_far (p:=⟨gb934,1,none⟩) (Kd.R_far (p:=⟨gb934,0,none⟩) (Kd.R_types HO_5.out BK934.out (by decide)) (fun _ hk => hk.2) (.string (rdOf ByteArray.empty t914 0))) (fun _ hk => hk.2) (.int .i64 t928)) (fun _ hk => hk.2) (.int .i64 t918)) (fun _ hk => hk.2) (.int .i64 t933)) (fun _ hk => hk.2) (.int .i64 t921)) (fun _ h_ => h_.1))) hb); have n1_:=Aside0.mk (Kd.R_below (by exact (Kd.R_mono (Kd.R_far (p:=⟨gb934,4,none⟩) (Kd.R_far (p:=⟨gb934,3,none⟩) (Kd.R_far (p:=⟨gb934,2,none⟩) (Kd.R_far (p:=⟨gb934,1,none⟩) (Kd.R_far (p:=⟨gb934,0,none⟩) (Kd.R_types HO926.out BK934.out (by decide)) (fun _ hk => hk.2) (.string (rdOf ByteArray.empty t914 0))) (fun _ hk => hk.2) (.int .i64 t928)) (fun _ hk => hk.2) (.int .i64 t918)) (fun _ hk => hk.2) (.int .i64 t933)) (fun _ hk => hk.2) (.int .i64 t921)) (fun _ h_ => h_.1))) hb); have n2_:=Aside0.mk (Kd.R_below (by exact (Kd.R_mono (Kd.R_far (p:=⟨gb934,4,none⟩) (Kd.R_far (p:=⟨gb934,3,none⟩) (Kd.R_far (p:=⟨gb934,2,none⟩) (Kd.R_far (p:=⟨gb934,1,none⟩) (Kd.R_far (p:=⟨gb934,0,none⟩) (Kd.R_types HO931.out BK934.out (by decide)) (fun _ hk => hk.2) (.string (rdOf ByteArray.empty t914 0))) (fun _ hk => hk.2) (.int .i64 t928)) (fun _ hk => hk.2) (.int .i64 t918)) (fun _ hk => hk.2) (.int .i64 t933)) (fun _ hk => hk.2) (.int .i64 t921)) (fun _ h_ => h_.1))) hb); have n3_:=Aside0.mk (blk_below (g:=gb912) (o:=.cells #[.string (⟨#[]⟩ : ByteArray),.int .i64 0,.int .i64 0,.int .i64 0,.int .i64 0] 50 (0,0)) (by refine blk_far ?_ NB912_934.out _; refine blk_far ?_ NB912_934.out _; refine blk_far ?_ NB912_934.out _; refine blk_far ?_ NB912_934.out _; refine blk_far ?_ NB912_934.out _; exact BK912.out) hb); have n4_:=Aside0.mk (blk_below (g:=gb913) (o:=.cells #[.string (⟨#[]⟩ : ByteArray),.int .i64 0,.int .i64 0,.int .i64 0,.int .i64 0] 50 (0,0)) (by refine blk_far ?_ NB913_934.out _; refine blk_far ?_ NB913_934.out _; refine blk_far ?_ NB913_934.out _; refine blk_far ?_ NB913_934.out _; refine blk_far ?_ NB913_934.out _; exact BK913.out) hb); have n5_:=Aside0.mk (blk_below (g:=gb934) (o:=.cells #[.string (rdOf ByteArray.empty t914 0),.int .i64 t928,.int .i64 t918,.int .i64 t933,.int .i64 t921] 50 (0,0)) (by refine blk_put (cs:=#[.string (rdOf ByteArray.empty t914 0),.int .i64 t928,.int .i64 t918,.int .i64 t933,.int .i64 0]) ?_ 4 _ rfl; refine blk_put (cs:=#[.string (rdOf ByteArray.empty t914 0),.int .i64 t928,.int .i64 t918,.int .i64 0,.int .i64 0]) ?_ 3 _ rfl; refine blk_put (cs:=#[.string (rdOf ByteArray.empty t914 0),.int .i64 t928,.int .i64 0,.int .i64 0,.int .i64 0]) ?_ 2 _ rfl; refine blk_put (cs:=#[.string (rdOf ByteArray.empty t914 0),.int .i64 0,.int .i64 0,.int .i64 0,.int .i64 0]) ?_ 1 _ rfl; refine blk_put (cs:=#[.string (⟨#[]⟩ : ByteArray),.int .i64 0,.int .i64 0,.int .i64 0,.int .i64 0]) ?_ 0 _ rfl; exact BK934.out) hb); have n6_:=Aside0.mk (below_step (by repeat (with_reducible first|exact HB.out|refine below_set ?_ GE934.out)) hb); clear HO_5; clear HO926; clear HO931; clear BK912; clear BK913; clear BK934; clear HB; have HO_5:=n0_; have HO926:=n1_; have HO931:=n2_; have BK912:=n3_; have BK913:=n4_; have BK934:=n5_; have HB:=n6_; clear n0_ n1_ n2_ n3_ n4_ n5_ n6_; (try clear hb); (try clear hb2); (try clear hk); (try clear hi); have hcz77_0 : w50.cell? ⟨gb934,0,none⟩ = some (.string (rdOf ByteArray.empty t914 0)):=(blk_cell BK934.out 0).trans rfl; have hcz77_1 : w50.cell? ⟨gb934,1,none⟩ = some (.int .i64 t928):=(blk_cell BK934.out 1).trans rfl; have hcz77_2 : w50.cell? ⟨gb934,2,none⟩ = some (.int .i64 t918):=(blk_cell BK934.out 2).trans rfl; have hcz77_3 : w50.cell? ⟨gb934,3,none⟩ = some (.int .i64 t933):=(blk_cell BK934.out 3).trans rfl; have hcz77_4 : w50.cell? ⟨gb934,4,none⟩ = some (.int .i64 t921):=(blk_cell BK934.out 4).trans rfl; have hfz77_0:=blk_frozen BK934.out 0; have hfz77_1:=blk_frozen BK934.out 1; have hfz77_2:=blk_frozen BK934.out 2; have hfz77_3:=blk_frozen BK934.out 3; have hfz77_4:=blk_frozen BK934.out 4)|(go_at_call 60; (with_reducible refine (spec_l4Text.calls kj2 (rdOf ByteArray.empty t914 0) t928 t918 t933 t921 t936 _ A28.out).mono ?_); rintro e w52 ⟨rfl,hb⟩; have n0_:=Aside0.mk (Kd.R_below (by exact HO_5.out) hb); have n1_:=Aside0.mk (Kd.R_below (by exact HO926.out) hb); have n2_:=Aside0.mk (Kd.R_below (by exact HO931.out) hb); have n3_:=Aside0.mk (blk_below (g:=gb912) (o:=.cells #[.string (⟨#[]⟩ : ByteArray),.int .i64 0,.int .i64 0,.int .i64 0,.int .i64 0] 50 (0,0)) (by exact BK912.out) hb); have n4_:=Aside0.mk (blk_below (g:=gb913) (o:=.cells #[.string (⟨#[]⟩ : ByteArray),.int .i64 0,.int .i64 0,.int .i64 0,.int .i64 0] 50 (0,0)) (by exact BK913.out) hb); have n5_:=Aside0.mk (blk_below (g:=gb934) (o:=.cells #[.string (rdOf ByteArray.empty t914 0),.int .i64 t928,.int .i64 t918,.int .i64 t933,.int .i64 t921] 50 (0,0)) (by exact BK934.out) hb); have n6_:=Aside0.mk (below_step (by repeat (((with_reducible (exact HB.out))))) hb); clear HO_5; clear HO926; clear HO931; clear BK912; clear BK913; clear BK934; clear HB; have HO_5:=n0_; have HO926:=n1_; have HO931:=n2_; have BK912:=n3_; have BK913:=n4_; have BK934:=n5_; have HB:=n6_; clear n0_ n1_ n2_ n3_ n4_ n5_ n6_; (try clear hb); (try clear hb2); (try clear hk); (try clear hi); have hnb79:=NB913_912.out; have hnc79:=NB912_913.out; have hcz80_0 : w52.cell? ⟨gb913,0,none⟩ = some (.string (⟨#[]⟩ : ByteArray)):=(blk_cell BK913.out 0).trans rfl; have hcz80_1 : w52.cell? ⟨gb913,1,none⟩ = some (.int .i64 0):=(blk_cell BK913.out 1).trans rfl; have hcz80_2 : w52.cell? ⟨gb913,2,none⟩ = some (.int .i64 0):=(blk_cell BK913.out 2).trans rfl; have hcz80_3 : w52.cell? ⟨gb913,3,none⟩ = some (.int .i64 0):=(blk_cell BK913.out 3).trans rfl; have hcz80_4 : w52.cell? ⟨gb913,4,none⟩ = some (.int .i64 0):=(blk_cell BK913.out 4).trans rfl; have hfz80_0:=blk_frozen BK913.out 0; have hfz80_1:=blk_frozen BK913.out 1; have hfz80_2:=blk_frozen BK913.out 2; have hfz80_3:=blk_frozen BK913.out 3; have hfz80_4:=blk_frozen BK913.out 4; have hcz81_0 : w52.cell? ⟨gb912,0,none⟩ = some (.string (⟨#[]⟩ : ByteArray)):=(blk_cell BK912.out 0).trans rfl; have hcz81_1 : w52.cell? ⟨gb912,1,none⟩ = some (.int .i64 0):=(blk_cell BK912.out 1).trans rfl; have hcz81_2 : w52.cell? ⟨gb912,2,none⟩ = some (.int .i64 0):=(blk_cell BK912.out 2).trans rfl; have hcz81_3 : w52.cell? ⟨gb912,3,none⟩ = some (.int .i64 0):=(blk_cell BK912.out 3).trans rfl; have hcz81_4 : w52.cell? ⟨gb912,4,none⟩ = some (.int .i64 0):=(blk_cell BK912.out 4).trans rfl; have hfz81_0:=blk_frozen BK912.out 0; have hfz81_1:=blk_frozen BK912.out 1; have hfz81_2:=blk_frozen BK912.out 2; have hfz81_3:=blk_frozen BK912.out 3; have hfz81_4:=blk_frozen BK912.out 4))
             refine bodyPost_ret (results_ct rfl _ _ gb912 50 #[.string (⟨#[]⟩ : ByteArray),.int .i64 0,.int .i64 0,.int .i64 0,.int .i64 0] (0,0) _ rfl (by refine blk_put (cs:=#[.string (⟨#[]⟩ : ByteArray),.int .i64 0,.int .i64 0,.int .i64 0,.int .i64 0]) ?_ 4 _ rfl; refine blk_put (cs:=#[.string (⟨#[]⟩ : ByteArray),.int .i64 0,.int .i64 0,.int .i64 0,.int .i64 0]) ?_ 3 _ rfl; refine blk_put (cs:=#[.string (⟨#[]⟩ : ByteArray),.int .i64 0,.int .i64 0,.int .i64 0,.int .i64 0]) ?_ 2 _ rfl; refine blk_put (cs:=#[.string (⟨#[]⟩ : ByteArray),.int .i64 0,.int .i64 0,.int .i64 0,.int .i64 0]) ?_ 1 _ rfl; refine blk_put (cs:=#[.string (⟨#[]⟩ : ByteArray),.int .i64 0,.int .i64 0,.int .i64 0,.int .i64 0]) ?_ 0 _ rfl; exact BK912.out) Tryz.underlying50 rfl (by kernel_rfl)) rfl ?_
             exact ⟨by (rfl),by repeat (with_reducible first|exact HB.out|refine below_set ?_ GE912.out)⟩
           ·replace c27:=Bool.eq_false_iff.mpr c27
            subst c27
            have H1 : (some ((⟨#[]⟩ : ByteArray),0,0,0,0,false)) = some (r1,r2,r3,r4,r5,r6):=by rw [if_neg (show ¬ (false = true) by decide)] at H; exact H
            clear H
            have H:=H1
            clear H1
            simp only [Option.some.injEq,Prod.mk.injEq] at H
            obtain ⟨rfl,rfl,rfl,rfl,rfl,rfl⟩:=H
            have hfs94:=blk_frozen BK934.out 0
            have hns94_0:=NB912_934.out
            have hns94_1:=NB913_934.out
            have hms94_0:=NB934_912.out
            have hms94_1:=NB934_913.out
            have hs43 : w41.cell? ⟨gb934,1,none⟩ = some (.int .i64 0):=(blk_cell BK934.out 1).trans rfl
            have hfs95:=blk_frozen BK934.out 1
            have hns95_0:=NB912_934.out
            have hns95_1:=NB913_934.out
            have hms95_0:=NB934_912.out
            have hms95_1:=NB934_913.out
            have hs44 : w41.cell? ⟨gb934,2,none⟩ = some (.int .i64 0):=(blk_cell BK934.out 2).trans rfl
            have hfs96:=blk_frozen BK934.out 2
            have hns96_0:=NB912_934.out
            have hns96_1:=NB913_934.out
            have hms96_0:=NB934_912.out
            have hms96_1:=NB934_913.out
            have hs45 : w41.cell? ⟨gb934,3,none⟩ = some (.int .i64 0):=(blk_cell BK934.out 3).trans rfl
            have hfs97:=blk_frozen BK934.out 3
            have hns97_0:=NB912_934.out
            have hns97_1:=NB913_934.out
            have hms97_0:=NB934_912.out
            have hms97_1:=NB934_913.out
            have hs46 : w41.cell? ⟨gb934,4,none⟩ = some (.int .i64 0):=(blk_cell BK934.out 4).trans rfl
            have hfs98:=blk_frozen BK934.out 4
            have hns98_0:=NB912_934.out
            have hns98_1:=NB913_934.out
            have hms98_0:=NB934_912.out
            have hms98_1:=NB934_913.out
            refine skip_ (w1:=?_) (by rfl) rfl ?_ ?_
            rotate_left
            ·go_simp
             rfl
            have hne0_:=Kd.own_blk (Kd.R_ne HO_5.out BK934.out (by decide))
            refine hK.out _ _ ⟨?_,?_,?_⟩ (fun hHeld => ?_)
            ·(iterate 5 (refine (cell_far ?hh_ _).trans ?_; (case hh_ => exact hne0_))); exact hHeld.1
            ·(iterate 5 (refine (cell_far ?hh_ _).trans ?_; (case hh_ => exact hne0_))); exact hHeld.2.1
            ·(iterate 5 (refine (cell_far ?hh_ _).trans ?_; (case hh_ => exact hne0_))); exact hHeld.2.2
            clear hK K
            refine done_ (done_of HT_.out (by kernel_rfl)) ?_
            have hnb99:=NB934_912.out
            have hnc99:=NB912_934.out
            have hnb100:=NB934_913.out
            have hnc100:=NB913_934.out
            have hcz101_0 : w41.cell? ⟨gb934,0,none⟩ = some (.string (⟨#[]⟩ : ByteArray)):=(blk_cell BK934.out 0).trans rfl
            have hcz101_1 : w41.cell? ⟨gb934,1,none⟩ = some (.int .i64 0):=(blk_cell BK934.out 1).trans rfl
            have hcz101_2 : w41.cell? ⟨gb934,2,none⟩ = some (.int .i64 0):=(blk_cell BK934.out 2).trans rfl
            have hcz101_3 : w41.cell? ⟨gb934,3,none⟩ = some (.int .i64 0):=(blk_cell BK934.out 3).trans rfl
            have hcz101_4 : w41.cell? ⟨gb934,4,none⟩ = some (.int .i64 0):=(blk_cell BK934.out 4).trans rfl
            have hfz101_0:=blk_frozen BK934.out 0
            have hfz101_1:=blk_frozen BK934.out 1
            have hfz101_2:=blk_frozen BK934.out 2
            have hfz101_3:=blk_frozen BK934.out 3
            have hfz101_4:=blk_frozen BK934.out 4
            try go_wp2_with (((go_at_call 83; (with_reducible refine (spec_l2Good.calls kj2 (rdOf ByteArray.empty t914 0) t928 t918 t933 t921 false _ A26.out).mono ?_); rintro e w50 ⟨rfl,hb⟩; have n0_:=Aside0.mk (Kd.R_below (by exact (Kd.R_mono (Kd.R_far (p:=⟨gb934,4,none⟩) (Kd.R_far (p:=⟨gb934,3,none⟩) (Kd.R_far (p:=⟨gb934,2,none⟩) (Kd.R_far (p:=⟨gb934,1,none⟩) (Kd.R_far (p:=⟨gb934,0,none⟩) (Kd.R_types HO_5.out BK934.out (by decide)) (fun _ hk => hk.2) (.string (rdOf ByteArray.empty t914 0))) (fun _ hk => hk.2) (.int .i64 t928)) (fun _ hk => hk.2) (.int .i64 t918)) (fun _ hk => hk.2) (.int .i64 t933)) (fun _ hk => hk.2) (.int .i64 t921)) (fun _ h_ => h_.1))) hb); have n1_:=Aside0.mk (Kd.R_below (by exact (Kd.R_mono (Kd.R_far (p:=⟨gb934,4,none⟩) (Kd.R_far (p:=⟨gb934,3,none⟩) (Kd.R_far (p:=⟨gb934,2,none⟩) (Kd.R_far (p:=⟨gb934,1,none⟩) (Kd.R_far (p:=⟨gb934,0,none⟩) (Kd.R_types HO926.out BK934.out (by decide)) (fun _ hk => hk.2) (.string (rdOf ByteArray.empty t914 0))) (fun _ hk => hk.2) (.int .i64 t928)) (fun _ hk => hk.2) (.int .i64 t918)) (fun _ hk => hk.2) (.int .i64 t933)) (fun _ hk => hk.2) (.int .i64 t921)) (fun _ h_ => h_.1))) hb); have n2_:=Aside0.mk (Kd.R_below (by exact (Kd.R_mono (Kd.R_far (p:=⟨gb934,4,none⟩) (Kd.R_far (p:=⟨gb934,3,none⟩) (Kd.R_far (p:=⟨gb934,2,none⟩) (Kd.R_far (p:=⟨gb934,1,none⟩) (Kd.R_far (p:=⟨gb934,0,none⟩) (Kd.R_types HO931.out BK934.out (by decide)) (fun _ hk => hk.2) (.string (rdOf ByteArray.empty t914 0))) (fun _ hk => hk.2) (.int .i64 t928)) (fun _ hk => hk.2) (.int .i64 t918)) (fun _ hk => hk.2) (.int .i64 t933)) (fun _ hk => hk.2) (.int .i64 t921)) (fun _ h_ => h_.1))) hb); have n3_:=Aside0.mk (blk_below (g:=gb912) (o:=.cells #[.string (⟨#[]⟩ : ByteArray),.int .i64 0,.int .i64 0,.int .i64 0,.int .i64 0] 50 (0,0)) (by refine blk_far ?_ NB912_934.out _; refine blk_far ?_ NB912_934.out _; refine blk_far ?_ NB912_934.out _; refine blk_far ?_ NB912_934.out _; refine blk_far ?_ NB912_934.out _; exact BK912.out) hb); have n4_:=Aside0.mk (blk_below (g:=gb913) (o:=.cells #[.string (⟨#[]⟩ : ByteArray),.int .i64 0,.int .i64 0,.int .i64 0,.int .i64 0] 50 (0,0)) (by refine blk_far ?_ NB913_934.out _; refine blk_far ?_ NB913_934.out _; refine blk_far ?_ NB913_934.out _; refine blk_far ?_ NB913_934.out _; refine blk_far ?_ NB913_934.out _; exact BK913.out) hb); have n5_:=Aside0.mk (blk_below (g:=gb934) (o:=.cells #[.string (rdOf ByteArray.empty t914 0),.int .i64 t928,.int .i64 t918,.int .i64 t933,.int .i64 t921] 50 (0,0)) (by refine blk_put (cs:=#[.string (rdOf ByteArray.empty t914 0),.int .i64 t928,.int .i64 t918,.int .i64 t933,.int .i64 0]) ?_ 4 _ rfl; refine blk_put (cs:=#[.string (rdOf ByteArray.empty t914 0),.int .i64 t928,.int .i64 t918,.int .i64 0,.int .i64 0]) ?_ 3 _ rfl; refine blk_put (cs:=#[.string (rdOf ByteArray.empty t914 0),.int .i64 t928,.int .i64 0,.int .i64 0,.int .i64 0]) ?_ 2 _ rfl; refine blk_put (cs:=#[.string (rdOf ByteArray.empty t914 0),.int .i64 0,.int .i64 0,.int .i64 0,.int .i64 0]) ?_ 1 _ rfl; refine blk_put (cs:=#[.string (⟨#[]⟩ : ByteArray),.int .i64 0,.int .i64 0,.int .i64 0,.int .i64 0]) ?_ 0 _ rfl; exact BK934.out) hb); have n6_:=Aside0.mk (below_step (by repeat (with_reducible first|exact HB.out|refine below_set ?_ GE934.out)) hb); clear HO_5; clear HO926; clear HO931; clear BK912; clear BK913; clear BK934; clear HB; have HO_5:=n0_; have HO926:=n1_; have HO931:=n2_; have BK912:=n3_; have BK913:=n4_; have BK934:=n5_; have HB:=n6_; clear n0_ n1_ n2_ n3_ n4_ n5_ n6_; (try clear hb); (try clear hb2); (try clear hk); (try clear hi); have hnb103:=NB913_912.out; have hnc103:=NB912_913.out; have hcz104_0 : w50.cell? ⟨gb913,0,none⟩ = some (.string (⟨#[]⟩ : ByteArray)):=(blk_cell BK913.out 0).trans rfl; have hcz104_1 : w50.cell? ⟨gb913,1,none⟩ = some (.int .i64 0):=(blk_cell BK913.out 1).trans rfl; have hcz104_2 : w50.cell? ⟨gb913,2,none⟩ = some (.int .i64 0):=(blk_cell BK913.out 2).trans rfl; have hcz104_3 : w50.cell? ⟨gb913,3,none⟩ = some (.int .i64 0):=(blk_cell BK913.out 3).trans rfl; have hcz104_4 : w50.cell? ⟨gb913,4,none⟩ = some (.int .i64 0):=(blk_cell BK913.out 4).trans rfl; have hfz104_0:=blk_frozen BK913.out 0; have hfz104_1:=blk_frozen BK913.out 1; have hfz104_2:=blk_frozen BK913.out 2; have hfz104_3:=blk_frozen BK913.out 3; have hfz104_4:=blk_frozen BK913.out 4; have hcz105_0 : w50.cell? ⟨gb912,0,none⟩ = some (.string (⟨#[]⟩ : ByteArray)):=(blk_cell BK912.out 0).trans rfl; have hcz105_1 : w50.cell? ⟨gb912,1,none⟩ = some (.int .i64 0):=(blk_cell BK912.out 1).trans rfl; have hcz105_2 : w50.cell? ⟨gb912,2,none⟩ = some (.int .i64 0):=(blk_cell BK912.out 2).trans rfl; have hcz105_3 : w50.cell? ⟨gb912,3,none⟩ = some (.int .i64 0):=(blk_cell BK912.out 3).trans rfl; have hcz105_4 : w50.cell? ⟨gb912,4,none⟩ = some (.int .i64 0):=(blk_cell BK912.out 4).trans rfl; have hfz105_0:=blk_frozen BK912.out 0; have hfz105_1:=blk_frozen BK912.out 1; have hfz105_2:=blk_frozen BK912.out 2; have hfz105_3:=blk_frozen BK912.out 3; have hfz105_4:=blk_frozen BK912.out 4)))
            refine bodyPost_ret (results_ct rfl _ _ gb912 50 #[.string (⟨#[]⟩ : ByteArray),.int .i64 0,.int .i64 0,.int .i64 0,.int .i64 0] (0,0) _ rfl (by refine blk_put (cs:=#[.string (⟨#[]⟩ : ByteArray),.int .i64 0,.int .i64 0,.int .i64 0,.int .i64 0]) ?_ 4 _ rfl; refine blk_put (cs:=#[.string (⟨#[]⟩ : ByteArray),.int .i64 0,.int .i64 0,.int .i64 0,.int .i64 0]) ?_ 3 _ rfl; refine blk_put (cs:=#[.string (⟨#[]⟩ : ByteArray),.int .i64 0,.int .i64 0,.int .i64 0,.int .i64 0]) ?_ 2 _ rfl; refine blk_put (cs:=#[.string (⟨#[]⟩ : ByteArray),.int .i64 0,.int .i64 0,.int .i64 0,.int .i64 0]) ?_ 1 _ rfl; refine blk_put (cs:=#[.string (⟨#[]⟩ : ByteArray),.int .i64 0,.int .i64 0,.int .i64 0,.int .i64 0]) ?_ 0 _ rfl; exact BK912.out) Tryz.underlying50 rfl (by kernel_rfl)) rfl ?_
            exact ⟨by (rfl),by repeat (with_reducible first|exact HB.out|refine below_set ?_ GE912.out)⟩
          ·replace c25:=Bool.eq_false_iff.mpr c25
           subst c25
           have H1 : (some ((⟨#[]⟩ : ByteArray),0,0,0,0,false)) = some (r1,r2,r3,r4,r5,r6):=by rw [if_neg (show ¬ (false = true) by decide)] at H; exact H
           clear H
           have H:=H1
           clear H1
           simp only [Option.some.injEq,Prod.mk.injEq] at H
           obtain ⟨rfl,rfl,rfl,rfl,rfl,rfl⟩:=H
           have hfs118:=blk_frozen BK934.out 0
           have hns118_0:=NB912_934.out
           have hns118_1:=NB913_934.out
           have hms118_0:=NB934_912.out
           have hms118_1:=NB934_913.out
           have hs43 : w41.cell? ⟨gb934,1,none⟩ = some (.int .i64 0):=(blk_cell BK934.out 1).trans rfl
           have hfs119:=blk_frozen BK934.out 1
           have hns119_0:=NB912_934.out
           have hns119_1:=NB913_934.out
           have hms119_0:=NB934_912.out
           have hms119_1:=NB934_913.out
           have hs44 : w41.cell? ⟨gb934,2,none⟩ = some (.int .i64 0):=(blk_cell BK934.out 2).trans rfl
           have hfs120:=blk_frozen BK934.out 2
           have hns120_0:=NB912_934.out
           have hns120_1:=NB913_934.out
           have hms120_0:=NB934_912.out
           have hms120_1:=NB934_913.out
           have hs45 : w41.cell? ⟨gb934,3,none⟩ = some (.int .i64 0):=(blk_cell BK934.out 3).trans rfl
           have hfs121:=blk_frozen BK934.out 3
           have hns121_0:=NB912_934.out
           have hns121_1:=NB913_934.out
           have hms121_0:=NB934_912.out
           have hms121_1:=NB934_913.out
           have hs46 : w41.cell? ⟨gb934,4,none⟩ = some (.int .i64 0):=(blk_cell BK934.out 4).trans rfl
           have hfs122:=blk_frozen BK934.out 4
           have hns122_0:=NB912_934.out
           have hns122_1:=NB913_934.out
           have hms122_0:=NB934_912.out
           have hms122_1:=NB934_913.out
           refine skip_ (w1:=?_) (by rfl) rfl ?_ ?_
           rotate_left
           ·go_simp
            rfl
           have hne0_:=Kd.own_blk (Kd.R_ne HO_5.out BK934.out (by decide))
           refine hK.out _ _ ⟨?_,?_,?_⟩ (fun hHeld => ?_)
           ·(iterate 5 (refine (cell_far ?hh_ _).trans ?_; (case hh_ => exact hne0_))); exact hHeld.1
           ·(iterate 5 (refine (cell_far ?hh_ _).trans ?_; (case hh_ => exact hne0_))); exact hHeld.2.1
           ·(iterate 5 (refine (cell_far ?hh_ _).trans ?_; (case hh_ => exact hne0_))); exact hHeld.2.2
           clear hK K
           refine done_ (done_of HT_.out (by kernel_rfl)) ?_
           have hnb123:=NB913_912.out
           have hnc123:=NB912_913.out
           have hnb124:=NB913_934.out
           have hnc124:=NB934_913.out
           have hcz125_0 : w41.cell? ⟨gb913,0,none⟩ = some (.string (⟨#[]⟩ : ByteArray)):=(blk_cell BK913.out 0).trans rfl
           have hcz125_1 : w41.cell? ⟨gb913,1,none⟩ = some (.int .i64 0):=(blk_cell BK913.out 1).trans rfl
           have hcz125_2 : w41.cell? ⟨gb913,2,none⟩ = some (.int .i64 0):=(blk_cell BK913.out 2).trans rfl
           have hcz125_3 : w41.cell? ⟨gb913,3,none⟩ = some (.int .i64 0):=(blk_cell BK913.out 3).trans rfl
           have hcz125_4 : w41.cell? ⟨gb913,4,none⟩ = some (.int .i64 0):=(blk_cell BK913.out 4).trans rfl
           have hfz125_0:=blk_frozen BK913.out 0
           have hfz125_1:=blk_frozen BK913.out 1
           have hfz125_2:=blk_frozen BK913.out 2
           have hfz125_3:=blk_frozen BK913.out 3
           have hfz125_4:=blk_frozen BK913.out 4
           have hnb126:=NB912_934.out
           have hnc126:=NB934_912.out
           have hcz127_0 : w41.cell? ⟨gb912,0,none⟩ = some (.string (⟨#[]⟩ : ByteArray)):=(blk_cell BK912.out 0).trans rfl
           have hcz127_1 : w41.cell? ⟨gb912,1,none⟩ = some (.int .i64 0):=(blk_cell BK912.out 1).trans rfl
           have hcz127_2 : w41.cell? ⟨gb912,2,none⟩ = some (.int .i64 0):=(blk_cell BK912.out 2).trans rfl
           have hcz127_3 : w41.cell? ⟨gb912,3,none⟩ = some (.int .i64 0):=(blk_cell BK912.out 3).trans rfl
           have hcz127_4 : w41.cell? ⟨gb912,4,none⟩ = some (.int .i64 0):=(blk_cell BK912.out 4).trans rfl
           have hfz127_0:=blk_frozen BK912.out 0
           have hfz127_1:=blk_frozen BK912.out 1
           have hfz127_2:=blk_frozen BK912.out 2
           have hfz127_3:=blk_frozen BK912.out 3
           have hfz127_4:=blk_frozen BK912.out 4
           try go_wp2
           refine bodyPost_ret (results_ct rfl _ _ gb912 50 #[.string (⟨#[]⟩ : ByteArray),.int .i64 0,.int .i64 0,.int .i64 0,.int .i64 0] (0,0) _ rfl (by refine blk_put (cs:=#[.string (⟨#[]⟩ : ByteArray),.int .i64 0,.int .i64 0,.int .i64 0,.int .i64 0]) ?_ 4 _ rfl; refine blk_put (cs:=#[.string (⟨#[]⟩ : ByteArray),.int .i64 0,.int .i64 0,.int .i64 0,.int .i64 0]) ?_ 3 _ rfl; refine blk_put (cs:=#[.string (⟨#[]⟩ : ByteArray),.int .i64 0,.int .i64 0,.int .i64 0,.int .i64 0]) ?_ 2 _ rfl; refine blk_put (cs:=#[.string (⟨#[]⟩ : ByteArray),.int .i64 0,.int .i64 0,.int .i64 0,.int .i64 0]) ?_ 1 _ rfl; refine blk_put (cs:=#[.string (⟨#[]⟩ : ByteArray),.int .i64 0,.int .i64 0,.int .i64 0,.int .i64 0]) ?_ 0 _ rfl; refine blk_far ?_ NB912_934.out _; refine blk_far ?_ NB912_934.out _; refine blk_far ?_ NB912_934.out _; refine blk_far ?_ NB912_934.out _; refine blk_far ?_ NB912_934.out _; exact BK912.out) Tryz.underlying50 rfl (by kernel_rfl)) rfl ?_
           exact ⟨by (rfl),by repeat (with_reducible first|exact HB.out|refine below_set ?_ GE912.out|refine below_set ?_ GE934.out)⟩
         ·replace c24:=Bool.eq_false_iff.mpr c24
          subst c24
          have H1 : (some ((⟨#[]⟩ : ByteArray),0,0,0,0,false)) = some (r1,r2,r3,r4,r5,r6):=by rw [if_neg (show ¬ (false = true) by decide)] at H; exact H
          clear H
          have H:=H1
          clear H1
          simp only [Option.some.injEq,Prod.mk.injEq] at H
          obtain ⟨rfl,rfl,rfl,rfl,rfl,rfl⟩:=H
          have hfs140:=blk_frozen BK934.out 0
          have hns140_0:=NB912_934.out
          have hns140_1:=NB913_934.out
          have hms140_0:=NB934_912.out
          have hms140_1:=NB934_913.out
          have hs43 : w41.cell? ⟨gb934,1,none⟩ = some (.int .i64 0):=(blk_cell BK934.out 1).trans rfl
          have hfs141:=blk_frozen BK934.out 1
          have hns141_0:=NB912_934.out
          have hns141_1:=NB913_934.out
          have hms141_0:=NB934_912.out
          have hms141_1:=NB934_913.out
          have hs44 : w41.cell? ⟨gb934,2,none⟩ = some (.int .i64 0):=(blk_cell BK934.out 2).trans rfl
          have hfs142:=blk_frozen BK934.out 2
          have hns142_0:=NB912_934.out
          have hns142_1:=NB913_934.out
          have hms142_0:=NB934_912.out
          have hms142_1:=NB934_913.out
          have hs45 : w41.cell? ⟨gb934,3,none⟩ = some (.int .i64 0):=(blk_cell BK934.out 3).trans rfl
          have hfs143:=blk_frozen BK934.out 3
          have hns143_0:=NB912_934.out
          have hns143_1:=NB913_934.out
          have hms143_0:=NB934_912.out
          have hms143_1:=NB934_913.out
          have hs46 : w41.cell? ⟨gb934,4,none⟩ = some (.int .i64 0):=(blk_cell BK934.out 4).trans rfl
          have hfs144:=blk_frozen BK934.out 4
          have hns144_0:=NB912_934.out
          have hns144_1:=NB913_934.out
          have hms144_0:=NB934_912.out
          have hms144_1:=NB934_913.out
          refine skip_ (w1:=?_) (by rfl) rfl ?_ ?_
          rotate_left
          ·go_simp
           rfl
          have hne0_:=Kd.own_blk (Kd.R_ne HO_5.out BK934.out (by decide))
          refine hK.out _ _ ⟨?_,?_,?_⟩ (fun hHeld => ?_)
          ·(iterate 5 (refine (cell_far ?hh_ _).trans ?_; (case hh_ => exact hne0_))); exact hHeld.1
          ·(iterate 5 (refine (cell_far ?hh_ _).trans ?_; (case hh_ => exact hne0_))); exact hHeld.2.1
          ·(iterate 5 (refine (cell_far ?hh_ _).trans ?_; (case hh_ => exact hne0_))); exact hHeld.2.2
          clear hK K
          refine done_ (done_of HT_.out (by kernel_rfl)) ?_
          have hnb145:=NB913_912.out
          have hnc145:=NB912_913.out
          have hnb146:=NB913_934.out
          have hnc146:=NB934_913.out
          have hcz147_0 : w41.cell? ⟨gb913,0,none⟩ = some (.string (⟨#[]⟩ : ByteArray)):=(blk_cell BK913.out 0).trans rfl
          have hcz147_1 : w41.cell? ⟨gb913,1,none⟩ = some (.int .i64 0):=(blk_cell BK913.out 1).trans rfl
          have hcz147_2 : w41.cell? ⟨gb913,2,none⟩ = some (.int .i64 0):=(blk_cell BK913.out 2).trans rfl
          have hcz147_3 : w41.cell? ⟨gb913,3,none⟩ = some (.int .i64 0):=(blk_cell BK913.out 3).trans rfl
          have hcz147_4 : w41.cell? ⟨gb913,4,none⟩ = some (.int .i64 0):=(blk_cell BK913.out 4).trans rfl
          have hfz147_0:=blk_frozen BK913.out 0
          have hfz147_1:=blk_frozen BK913.out 1
          have hfz147_2:=blk_frozen BK913.out 2
          have hfz147_3:=blk_frozen BK913.out 3
          have hfz147_4:=blk_frozen BK913.out 4
          have hnb148:=NB912_934.out
          have hnc148:=NB934_912.out
          have hcz149_0 : w41.cell? ⟨gb912,0,none⟩ = some (.string (⟨#[]⟩ : ByteArray)):=(blk_cell BK912.out 0).trans rfl
          have hcz149_1 : w41.cell? ⟨gb912,1,none⟩ = some (.int .i64 0):=(blk_cell BK912.out 1).trans rfl
          have hcz149_2 : w41.cell? ⟨gb912,2,none⟩ = some (.int .i64 0):=(blk_cell BK912.out 2).trans rfl
          have hcz149_3 : w41.cell? ⟨gb912,3,none⟩ = some (.int .i64 0):=(blk_cell BK912.out 3).trans rfl
          have hcz149_4 : w41.cell? ⟨gb912,4,none⟩ = some (.int .i64 0):=(blk_cell BK912.out 4).trans rfl
          have hfz149_0:=blk_frozen BK912.out 0
          have hfz149_1:=blk_frozen BK912.out 1
          have hfz149_2:=blk_frozen BK912.out 2
          have hfz149_3:=blk_frozen BK912.out 3
          have hfz149_4:=blk_frozen BK912.out 4
          try go_wp2
          refine bodyPost_ret (results_ct rfl _ _ gb912 50 #[.string (⟨#[]⟩ : ByteArray),.int .i64 0,.int .i64 0,.int .i64 0,.int .i64 0] (0,0) _ rfl (by refine blk_put (cs:=#[.string (⟨#[]⟩ : ByteArray),.int .i64 0,.int .i64 0,.int .i64 0,.int .i64 0]) ?_ 4 _ rfl; refine blk_put (cs:=#[.string (⟨#[]⟩ : ByteArray),.int .i64 0,.int .i64 0,.int .i64 0,.int .i64 0]) ?_ 3 _ rfl; refine blk_put (cs:=#[.string (⟨#[]⟩ : ByteArray),.int .i64 0,.int .i64 0,.int .i64 0,.int .i64 0]) ?_ 2 _ rfl; refine blk_put (cs:=#[.string (⟨#[]⟩ : ByteArray),.int .i64 0,.int .i64 0,.int .i64 0,.int .i64 0]) ?_ 1 _ rfl; refine blk_put (cs:=#[.string (⟨#[]⟩ : ByteArray),.int .i64 0,.int .i64 0,.int .i64 0,.int .i64 0]) ?_ 0 _ rfl; refine blk_far ?_ NB912_934.out _; refine blk_far ?_ NB912_934.out _; refine blk_far ?_ NB912_934.out _; refine blk_far ?_ NB912_934.out _; refine blk_far ?_ NB912_934.out _; exact BK912.out) Tryz.underlying50 rfl (by kernel_rfl)) rfl ?_
          exact ⟨by (rfl),by repeat (with_reducible first|exact HB.out|refine below_set ?_ GE912.out|refine below_set ?_ GE934.out)⟩
        ·rw [if_neg c22] at H
         exact absurd H (by simp)
       ·rw [if_neg c20] at H
        exact absurd H (by simp)
      ·rw [if_neg c19] at H
       exact absurd H (by simp)
     ·rw [if_neg c17] at H
      exact absurd H (by simp)
    ·rw [if_neg c15] at H
     exact absurd H (by simp)

end Go.Proofs.YtfindomajbjacaaGreatDoor.X
