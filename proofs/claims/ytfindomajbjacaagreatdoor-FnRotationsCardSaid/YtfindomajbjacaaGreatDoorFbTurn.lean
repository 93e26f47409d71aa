-- Written by a program of ours (wip/bin/xprint.py,over the kit's print.py) out of the translation. Not trusted: Lean checks it.
import Derived.Test.YtfindomajbjacaaGreatDoorX0
import Derived.Test.YtfindomajbjacaaGreatDoorGClone
namespace Go.Proofs.YtfindomajbjacaaGreatDoor.X
open Go.RowKit Go.Proofs.YtfindomajbjacaaGreatDoorW.PrintWords Go.Proofs.YtfindomajbjacaaGreatDoorW.PrintLast Go.Proofs.YtfindomajbjacaaGreatDoorW.PrintMore
def lb613 : Nat → Nat → List Bool
 | 0,_ => []
 | n+1,m => (m%2==1) :: lb613 n (m/2)
def b613 (n m : Nat) : Array Bool := ⟨lb613 n m⟩
attribute [local go_sem] max2_int min2_int max_two min_two max_three min_three max_four min_four   -- for this text's walks alone
set_option linter.unusedVariables false
set_option linter.unusedSimpArgs false

/-! ### impl_turned: function 41 -/
def impl_turned.f (l0_0 : List Int) (l0_1 : List Int) (a1 : Int) : Option (List Int × List Int):=if 0 ≤ a1 then (if a1 ≤ (l0_0.length : Int) then ((slices_Clone_int_int.f (l0_0.drop (a1 : Int).toNat)).bind fun t337 => (if t337.length + (l0_0.take (a1 : Int).toNat).length < 17592186044416 then (if a1 ≤ (l0_1.length : Int) then ((slices_Clone_int_int.f (l0_1.drop (a1 : Int).toNat)).bind fun t345 => (if t345.length + (l0_1.take (a1 : Int).toNat).length < 17592186044416 then (some ((t337 ++ (l0_0.take (a1 : Int).toNat)),(t345 ++ (l0_1.take (a1 : Int).toNat)))) else (none))) else (none)) else (none))) else (none)) else (none)
def impl_turned.T1 : Bool × List (List Nat × List Nat):=(true,[([],[]),([0],[0]),([],[]),([1,2],[1,2]),([3],[3]),([],[]),([5],[5]),([],[]),([6,7],[6,7]),([4,8,4],[4,8]),([],[]),([10],[10]),([],[]),([11,12],[11,12]),([13,9],[13]),([],[]),([15],[15]),([],[]),([16,17],[16,17]),([14,18,14],[14,18]),([9,19],[9,19]),([20,19,0,1,2,3,4,5,6,7,8,9,10,11,12,13,14,15,16,17,18,19,20],[20])])
def impl_turned.B1 : List Nat:=[0,1,0,7,15,0,32,0,224,511,0,1024,0,7168,16383,0,32768,0,229376,524287,1048575,2097151]
theorem impl_turned.tab1 : rtab .any (opsOf Tryz.f41 1) = impl_turned.T1:=by kernel_rfl
theorem impl_turned.bits1 : waitsOk impl_turned.T1.2 impl_turned.B1 = true:=by kernel_rfl
set_option maxHeartbeats 8000000 in
set_option maxRecDepth 100000 in
theorem impl_turned.calls (A0_0 : Option Addr) (c0_0 : Nat) (l0_0 : List Int) (A0_1 : Option Addr) (c0_1 : Nat) (l0_1 : List Int) (a1 : Int) (r1 : List Int) (r2 : List Int) (w : World) (hr0_0 : Kd.C (Kd.int .i64) w A0_0 l0_0.length l0_0) (hc0_0 : l0_0.length ≤ c0_0) (hr0_1 : Kd.C (Kd.int .i64) w A0_1 l0_1.length l0_1) (hc0_1 : l0_1.length ≤ c0_1) (h : impl_turned.f l0_0 l0_1 a1 = some (r1,r2)) :
  Calls Tryz.prog 41 #[.agg #[.slice A0_0 l0_0.length c0_0,.slice A0_1 l0_1.length c0_1],.int .i64 a1] w fun e w' => ∃ v0_ v1_ : Value,e = .returned (.agg #[v0_,v1_]) ∧ Kd.R (Kd.int .i64) 3 w' w.heap.size (fun k_ => some k_ ≠ (v1_ : Value).ownBlock) v0_ r1 ∧ Kd.R (Kd.int .i64) 3 w' w.heap.size (fun k_ => some k_ ≠ (v0_ : Value).ownBlock) v1_ r2 ∧ Below w.heap.size w w':=by
 have hu26:=Tryz.underlying26
 have HR0_0:=Aside0.mk hr0_0
 have HC0_0:=Aside0.mk hc0_0
 clear hr0_0 hc0_0
 have HR0_1:=Aside0.mk hr0_1
 have HC0_1:=Aside0.mk hc0_1
 clear hr0_1 hc0_1
 have HB:=Aside0.mk (Below.refl w.heap.size w)
 have H : (if 0 ≤ a1 then (if a1 ≤ (l0_0.length : Int) then ((slices_Clone_int_int.f (l0_0.drop (a1 : Int).toNat)).bind fun t337 => (if t337.length + (l0_0.take (a1 : Int).toNat).length < 17592186044416 then (if a1 ≤ (l0_1.length : Int) then ((slices_Clone_int_int.f (l0_1.drop (a1 : Int).toNat)).bind fun t345 => (if t345.length + (l0_1.take (a1 : Int).toNat).length < 17592186044416 then (some ((t337 ++ (l0_0.take (a1 : Int).toNat)),(t345 ++ (l0_1.take (a1 : Int).toNat)))) else (none))) else (none)) else (none))) else (none)) else (none)) = some (r1,r2):=h
 clear h
 by_cases c3 : 0 ≤ a1
 ·rw [if_pos c3] at H
  have c3b0:=eq_true c3
  have c3b1 : decide (0 ≤ a1) = true:=decide_eq_true c3
  clear c3
  by_cases c4 : a1 ≤ (l0_0.length : Int)
  ·rw [if_pos c4] at H
   have c4b0:=eq_true c4
   have c4b1 : decide (a1 ≤ (l0_0.length : Int)) = true:=decide_eq_true c4
   clear c4
   replace H:=Option.bind_eq_some_iff.mp H
   obtain ⟨t337,A50,H⟩:=H
   replace H : (if t337.length + (l0_0.take (a1 : Int).toNat).length < 17592186044416 then (if a1 ≤ (l0_1.length : Int) then ((slices_Clone_int_int.f (l0_1.drop (a1 : Int).toNat)).bind fun t345 => (if t345.length + (l0_1.take (a1 : Int).toNat).length < 17592186044416 then (some ((t337 ++ (l0_0.take (a1 : Int).toNat)),(t345 ++ (l0_1.take (a1 : Int).toNat)))) else (none))) else (none)) else (none)) = some (r1,r2):=H
   have A5:=Aside0.mk A50
   clear A50
   have c6b0:=eq_true (of_decide_eq_true (by (with_reducible assumption)) : 0 ≤ a1)
   have c7b0:=eq_true (of_decide_eq_true (by (with_reducible assumption)) : a1 ≤ (l0_0.length : Int))
   by_cases c8 : t337.length + (l0_0.take (a1 : Int).toNat).length < 17592186044416
   ·rw [if_pos c8] at H
    have LMc8:=Aside0.mk c8
    clear c8
    obtain ⟨y341,hy341⟩ : ∃ y_ : List Int,y_ = (t337 ++ (l0_0.take (a1 : Int).toNat)):=⟨_,rfl⟩
    replace H : (if a1 ≤ (l0_1.length : Int) then ((slices_Clone_int_int.f (l0_1.drop (a1 : Int).toNat)).bind fun t345 => (if t345.length + (l0_1.take (a1 : Int).toNat).length < 17592186044416 then (some (y341,(t345 ++ (l0_1.take (a1 : Int).toNat)))) else (none))) else (none)) = some (r1,r2):=by (rw [hy341]; with_reducible exact H)
    have Ny341:=Aside0.mk hy341
    clear hy341
    have c9b0:=eq_true (of_decide_eq_true (by (with_reducible assumption)) : 0 ≤ a1)
    by_cases c10 : a1 ≤ (l0_1.length : Int)
    ·rw [if_pos c10] at H
     have c10b0:=eq_true c10
     have c10b1 : decide (a1 ≤ (l0_1.length : Int)) = true:=decide_eq_true c10
     clear c10
     replace H:=Option.bind_eq_some_iff.mp H
     obtain ⟨t345,A110,H⟩:=H
     replace H : (if t345.length + (l0_1.take (a1 : Int).toNat).length < 17592186044416 then (some (y341,(t345 ++ (l0_1.take (a1 : Int).toNat)))) else (none)) = some (r1,r2):=H
     have A11:=Aside0.mk A110
     clear A110
     have c12b0:=eq_true (of_decide_eq_true (by (with_reducible assumption)) : 0 ≤ a1)
     have c13b0:=eq_true (of_decide_eq_true (by (with_reducible assumption)) : a1 ≤ (l0_1.length : Int))
     by_cases c14 : t345.length + (l0_1.take (a1 : Int).toNat).length < 17592186044416
     ·rw [if_pos c14] at H
      have LMc14:=Aside0.mk c14
      clear c14
      obtain ⟨y349,hy349⟩ : ∃ y_ : List Int,y_ = (t345 ++ (l0_1.take (a1 : Int).toNat)):=⟨_,rfl⟩
      replace H : (some (y341,y349)) = some (r1,r2):=by (rw [hy349]; with_reducible exact H)
      have Ny349:=Aside0.mk hy349
      clear hy349
      simp only [Option.some.injEq,Prod.mk.injEq] at H
      obtain ⟨rfl,rfl⟩:=H
      go_enter Tryz.func41,Tryz.ntmps41
      try go_wp2_with (first|((with_reducible refine gate_dst (N:=2) rfl ?_); refine box_event ?hg (N:=2) ?hd (cs:=#[.slice A0_0 l0_0.length c0_0,.slice A0_1 l0_1.length c0_1]) (t:=26) ?hr ?_; (case hd => rfl); (case hg => rfl); (case hr => (go_simp; done)); intro gb334 hg w15 hbox hb; have n0_:=Aside0.mk (below_step (by repeat (((with_reducible (exact HB.out))))) hb); have n1_:=Aside0.mk (hbox); have n2_:=Aside0.mk ((by rw [hg]; exact (below_size (by repeat (((with_reducible (exact HB.out)))))) : w.heap.size ≤ gb334)); have n3_:=Aside0.mk ((by rw [hg]; exact (below_size (by repeat (((with_reducible (exact HB.out)))))) : w.heap.size ≤ gb334)); clear HB; have HB:=n0_; have BK334:=n1_; have GW334:=n2_; have GE334:=n3_; clear n0_ n1_ n2_ n3_; clear hb hbox hg)|((with_reducible refine gate_dst (N:=4) rfl ?_); refine box_event ?hg (N:=4) ?hd (cs:=#[.slice none 0 0,.slice none 0 0]) (t:=26) ?hr ?_; (case hd => rfl); (case hg => rfl); (case hr => (go_simp; done)); intro gb335 hg w16 hbox hb; have n0_:=Aside0.mk (blk_below (g:=gb334) (o:=.cells #[.slice A0_0 l0_0.length c0_0,.slice A0_1 l0_1.length c0_1] 26 (0,0)) (by exact BK334.out) hb); have n1_:=Aside0.mk (below_step (by repeat (((with_reducible (exact HB.out))))) hb); have n2_:=Aside0.mk (hbox); have n3_:=Aside0.mk ((by rw [hg]; exact (below_size (by repeat (((with_reducible (exact HB.out)))))) : w.heap.size ≤ gb335)); have n4_:=Aside0.mk ((by rw [hg]; exact (below_size (by repeat (((with_reducible (exact HB.out)))))) : w.heap.size ≤ gb335)); have n5_:=Aside0.mk ((by rw [hg]; exact Nat.ne_of_lt (blk_lt (g:=gb334) (o:=.cells #[.slice A0_0 l0_0.length c0_0,.slice A0_1 l0_1.length c0_1] 26 (0,0)) (by exact BK334.out)) : gb334 ≠ gb335)); have n6_:=Aside0.mk ((by rw [hg]; exact Nat.ne_of_gt (blk_lt (g:=gb334) (o:=.cells #[.slice A0_0 l0_0.length c0_0,.slice A0_1 l0_1.length c0_1] 26 (0,0)) (by exact BK334.out)) : gb335 ≠ gb334)); clear BK334; clear HB; have BK334:=n0_; have HB:=n1_; have BK335:=n2_; have GW335:=n3_; have GE335:=n4_; have NB334_335:=n5_; have NB335_334:=n6_; clear n0_ n1_ n2_ n3_ n4_ n5_ n6_; clear hb hbox hg))
      have n0_:=Aside0.mk (blk_drew BK334.out)
      have n1_:=Aside0.mk (blk_drew BK335.out)
      have n2_:=Aside0.mk (below_drew1 HB.out)
      clear BK334
      clear BK335
      clear HB
      have BK334:=n0_
      have BK335:=n1_
      have HB:=n2_
      clear n0_ n1_ n2_
      obtain ⟨i018,hi018,_,hsz18,_⟩:=info_parts info3
      obtain ⟨A18,hcut18,hA18,hC18⟩:=print_drop_of (P:=Tryz.prog) (Value.int .i64) 0 24 3 .i64 Tryz.underlying24 hi018 hsz18 A0_0 c0_0 l0_0 a1 (of_decide_eq_true (by (with_reducible assumption))) (of_decide_eq_true (by (with_reducible assumption))) HC0_0.out
      have HR336:=Aside0.mk (Kd.C_of_reads (h1:=fun _ => rfl) (hA18 _ (Kd.reads_of_C HR0_0.out)))
      have HC336:=Aside0.mk hC18
      clear hA18 hC18 hi018 hsz18
      obtain ⟨i019,hi019,_,hsz19,_⟩:=info_parts info3
      obtain ⟨hcut19,hA19,hC19⟩:=print_take_of (P:=Tryz.prog) (Value.int .i64) 0 24 3 .i64 Tryz.underlying24 hi019 hsz19 A0_0 c0_0 l0_0 a1 (of_decide_eq_true (by (with_reducible assumption))) (of_decide_eq_true (by (with_reducible assumption))) HC0_0.out
      have HR340:=Aside0.mk (Kd.C_of_reads (h1:=fun _ => rfl) (hA19 _ (Kd.reads_of_C HR0_0.out)))
      have HC340:=Aside0.mk hC19
      clear hA19 hC19 hi019 hsz19
      obtain ⟨i020,hi020,_,hsz20,_⟩:=info_parts info3
      obtain ⟨A20,hcut20,hA20,hC20⟩:=print_drop_of (P:=Tryz.prog) (Value.int .i64) 0 24 3 .i64 Tryz.underlying24 hi020 hsz20 A0_1 c0_1 l0_1 a1 (of_decide_eq_true (by (with_reducible assumption))) (of_decide_eq_true (by (with_reducible assumption))) HC0_1.out
      have HR344:=Aside0.mk (Kd.C_of_reads (h1:=fun _ => rfl) (hA20 _ (Kd.reads_of_C HR0_1.out)))
      have HC344:=Aside0.mk hC20
      clear hA20 hC20 hi020 hsz20
      obtain ⟨i021,hi021,_,hsz21,_⟩:=info_parts info3
      obtain ⟨hcut21,hA21,hC21⟩:=print_take_of (P:=Tryz.prog) (Value.int .i64) 0 24 3 .i64 Tryz.underlying24 hi021 hsz21 A0_1 c0_1 l0_1 a1 (of_decide_eq_true (by (with_reducible assumption))) (of_decide_eq_true (by (with_reducible assumption))) HC0_1.out
      have HR348:=Aside0.mk (Kd.C_of_reads (h1:=fun _ => rfl) (hA21 _ (Kd.reads_of_C HR0_1.out)))
      have HC348:=Aside0.mk hC21
      clear hA21 hC21 hi021 hsz21
      refine start_ (n:=22) (S:=fun w' => w'.cell? ⟨gb334,0,none⟩ = some (.slice A0_0 l0_0.length c0_0) ∧ w'.cell? ⟨gb334,1,none⟩ = some (.slice A0_1 l0_1.length c0_1)) (ds:=[]) (b613 22 0) (by kernel_rfl) rfl rfl ⟨(blk_cell BK334.out 0).trans rfl,(blk_cell BK334.out 1).trans rfl⟩ (fun hHeld => ?_); refine with_tabW impl_turned.tab1 impl_turned.bits1 (fun HT_ HW_ => ?_)
      generalize w16.drew = w17 at BK334 BK335 HB HR336 HR340 HR344 HR348 hHeld ⊢
      refine pure_ (i:=0) (N:=some 5) (v:=?_) (a':=?_) (b613 22 1) rfl rfl (any_of HT_.out (by kernel_rfl)) (fun _ _ _ h => h) (Or.inl ⟨by rfl,?_⟩) ?_ ?_
      rotate_left
      ·intro w'
       go_simp
       with_reducible rfl
      rotate_left
      ·simp only [Act.put,List.setIfInBounds_toArray,List.set_cons_zero,List.set_cons_succ,i64_w,i32_w]
       rfl
      refine pure_ (i:=2) (N:=some 7) (v:=?_) (a':=?_) (b613 22 5) rfl rfl (any_of HT_.out (by kernel_rfl)) (fun _ _ _ h => h) (Or.inl ⟨by rfl,?_⟩) ?_ ?_
      rotate_left
      ·intro w'
       go_simp
       with_reducible rfl
      rotate_left
      ·simp only [Act.put,List.setIfInBounds_toArray,List.set_cons_zero,List.set_cons_succ,i64_w,i32_w]
       rfl
      refine pure_ (i:=5) (N:=some 10) (v:=?_) (a':=?_) (b613 22 37) rfl rfl (any_of HT_.out (by kernel_rfl)) (fun _ _ _ h => h) (Or.inl ⟨by rfl,?_⟩) ?_ ?_
      rotate_left
      ·intro w'
       go_simp
       with_reducible rfl
      rotate_left
      ·simp only [Act.put,List.setIfInBounds_toArray,List.set_cons_zero,List.set_cons_succ,i64_w,i32_w]
       rfl
      refine pure_ (i:=7) (N:=some 12) (v:=?_) (a':=?_) (b613 22 165) rfl rfl (any_of HT_.out (by kernel_rfl)) (fun _ _ _ h => h) (Or.inl ⟨by rfl,?_⟩) ?_ ?_
      rotate_left
      ·intro w'
       go_simp
       with_reducible rfl
      rotate_left
      ·simp only [Act.put,List.setIfInBounds_toArray,List.set_cons_zero,List.set_cons_succ,i64_w,i32_w]
       rfl
      refine pure_ (i:=10) (N:=some 15) (v:=?_) (a':=?_) (b613 22 1189) rfl rfl (any_of HT_.out (by kernel_rfl)) (fun _ _ _ h => h) (Or.inl ⟨by rfl,?_⟩) ?_ ?_
      rotate_left
      ·intro w'
       go_simp
       with_reducible rfl
      rotate_left
      ·simp only [Act.put,List.setIfInBounds_toArray,List.set_cons_zero,List.set_cons_succ,i64_w,i32_w]
       rfl
      refine pure_ (i:=12) (N:=some 17) (v:=?_) (a':=?_) (b613 22 5285) rfl rfl (any_of HT_.out (by kernel_rfl)) (fun _ _ _ h => h) (Or.inl ⟨by rfl,?_⟩) ?_ ?_
      rotate_left
      ·intro w'
       go_simp
       with_reducible rfl
      rotate_left
      ·simp only [Act.put,List.setIfInBounds_toArray,List.set_cons_zero,List.set_cons_succ,i64_w,i32_w]
       rfl
      refine pure_ (i:=15) (N:=some 20) (v:=?_) (a':=?_) (b613 22 38053) rfl rfl (any_of HT_.out (by kernel_rfl)) (fun _ _ _ h => h) (Or.inl ⟨by rfl,?_⟩) ?_ ?_
      rotate_left
      ·intro w'
       go_simp
       with_reducible rfl
      rotate_left
      ·simp only [Act.put,List.setIfInBounds_toArray,List.set_cons_zero,List.set_cons_succ,i64_w,i32_w]
       rfl
      refine pure_ (i:=17) (N:=some 22) (v:=?_) (a':=?_) (b613 22 169125) rfl rfl (any_of HT_.out (by kernel_rfl)) (fun _ _ _ h => h) (Or.inl ⟨by rfl,?_⟩) ?_ ?_
      rotate_left
      ·intro w'
       go_simp
       with_reducible rfl
      rotate_left
      ·simp only [Act.put,List.setIfInBounds_toArray,List.set_cons_zero,List.set_cons_succ,i64_w,i32_w]
       rfl
      refine take_ (i:=1) (N:=some 6) (v:=?_) (a':=?_) (b613 22 169127) rfl rfl (take_ofW HT_.out HW_.out (by kernel_rfl)) (fun _ _ _ h => h) (Or.inl ⟨by rfl,?_⟩) hHeld ?_ ?_
      rotate_left
      ·rintro w' ⟨s0,s1⟩
       go_simp
       with_reducible rfl
      rotate_left
      ·simp only [Act.put,List.setIfInBounds_toArray,List.set_cons_zero,List.set_cons_succ,i64_w,i32_w]
       rfl
      refine pure_ (i:=3) (N:=some 8) (v:=?_) (a':=?_) (b613 22 169135) rfl rfl (any_of HT_.out (by kernel_rfl)) (fun _ _ _ h => h) (Or.inl ⟨by rfl,?_⟩) ?_ ?_
      rotate_left
      ·intro w'
       go_simp
       with_reducible rfl
      rotate_left
      ·simp only [Act.put,List.setIfInBounds_toArray,List.set_cons_zero,List.set_cons_succ,i64_w,i32_w]
       rfl
      refine take_ (i:=6) (N:=some 11) (v:=?_) (a':=?_) (b613 22 169199) rfl rfl (take_ofW HT_.out HW_.out (by kernel_rfl)) (fun _ _ _ h => h) (Or.inl ⟨by rfl,?_⟩) hHeld ?_ ?_
      rotate_left
      ·rintro w' ⟨s0,s1⟩
       go_simp
       with_reducible rfl
      rotate_left
      ·simp only [Act.put,List.setIfInBounds_toArray,List.set_cons_zero,List.set_cons_succ,i64_w,i32_w]
       rfl
      refine pure_ (i:=8) (N:=some 13) (v:=?_) (a':=?_) (b613 22 169455) rfl rfl (any_of HT_.out (by kernel_rfl)) (fun _ _ _ h => h) (Or.inl ⟨by rfl,?_⟩) ?_ ?_
      rotate_left
      ·intro w'
       go_simp
       with_reducible rfl
      rotate_left
      ·simp only [Act.put,List.setIfInBounds_toArray,List.set_cons_zero,List.set_cons_succ,i64_w,i32_w]
       rfl
      refine take_ (i:=11) (N:=some 16) (v:=?_) (a':=?_) (b613 22 171503) rfl rfl (take_ofW HT_.out HW_.out (by kernel_rfl)) (fun _ _ _ h => h) (Or.inl ⟨by rfl,?_⟩) hHeld ?_ ?_
      rotate_left
      ·rintro w' ⟨s0,s1⟩
       go_simp
       with_reducible rfl
      rotate_left
      ·simp only [Act.put,List.setIfInBounds_toArray,List.set_cons_zero,List.set_cons_succ,i64_w,i32_w]
       rfl
      refine pure_ (i:=13) (N:=some 18) (v:=?_) (a':=?_) (b613 22 179695) rfl rfl (any_of HT_.out (by kernel_rfl)) (fun _ _ _ h => h) (Or.inl ⟨by rfl,?_⟩) ?_ ?_
      rotate_left
      ·intro w'
       go_simp
       with_reducible rfl
      rotate_left
      ·simp only [Act.put,List.setIfInBounds_toArray,List.set_cons_zero,List.set_cons_succ,i64_w,i32_w]
       rfl
      refine take_ (i:=16) (N:=some 21) (v:=?_) (a':=?_) (b613 22 245231) rfl rfl (take_ofW HT_.out HW_.out (by kernel_rfl)) (fun _ _ _ h => h) (Or.inl ⟨by rfl,?_⟩) hHeld ?_ ?_
      rotate_left
      ·rintro w' ⟨s0,s1⟩
       go_simp
       with_reducible rfl
      rotate_left
      ·simp only [Act.put,List.setIfInBounds_toArray,List.set_cons_zero,List.set_cons_succ,i64_w,i32_w]
       rfl
      refine pure_ (i:=18) (N:=some 23) (v:=?_) (a':=?_) (b613 22 507375) rfl rfl (any_of HT_.out (by kernel_rfl)) (fun _ _ _ h => h) (Or.inl ⟨by rfl,?_⟩) ?_ ?_
      rotate_left
      ·intro w'
       go_simp
       with_reducible rfl
      rotate_left
      ·simp only [Act.put,List.setIfInBounds_toArray,List.set_cons_zero,List.set_cons_succ,i64_w,i32_w]
       rfl
      refine one_ (i:=4) (N:=some 9) (b613 22 507391) rfl rfl (one_of HT_.out (by kernel_rfl)) (by decide) (fun K hK => ?_)
      refine goes_ Tryz.func77 (by kernel_rfl) rfl #[.slice A18 (l0_0.drop (a1 : Int).toNat).length (c0_0 - a1.toNat)] (by rfl) rfl rfl (by (try simp only [List.map_toArray,List.map_cons,List.map_nil]); ((rw [show (l0_0.drop (a1 : Int).toNat).length = (l0_0.length - a1.toNat) from List.length_drop] <;> rfl))) ?_
      with_reducible refine (slices_Clone_int_int.calls _ _ (l0_0.drop (a1 : Int).toNat) t337 _ ?side1 ?side2 A5.out).mono ?_
      (case side1 => repeat ((exact (Kd.C_below HR336.out HB.out))))
      (case side2 => exact HC336.out)
      rintro e w22 ⟨v338,rfl,ho0,hb⟩
      refine ⟨_,rfl,?_⟩
      have n0_:=Aside0.mk (Kd.R_lower ho0 (below_size (by repeat (((with_reducible (exact HB.out)))))))
      have n1_:=Aside0.mk (blk_below (g:=gb334) (o:=.cells #[.slice A0_0 l0_0.length c0_0,.slice A0_1 l0_1.length c0_1] 26 (0,0)) (by exact BK334.out) hb)
      have n2_:=Aside0.mk (blk_below (g:=gb335) (o:=.cells #[.slice none 0 0,.slice none 0 0] 26 (0,0)) (by exact BK335.out) hb)
      have n3_:=Aside0.mk (below_step (by repeat (((with_reducible (exact HB.out))))) hb)
      clear BK334
      clear BK335
      clear HB
      have HO339:=n0_
      have BK334:=n1_
      have BK335:=n2_
      have HB:=n3_
      clear n0_ n1_ n2_ n3_
      (try clear hb)
      (try clear hb2)
      (try clear hk)
      (try clear hi)
      (try clear ho0)
      refine hK.out _ _ ⟨(blk_cell BK334.out 0).trans rfl,(blk_cell BK334.out 1).trans rfl⟩ (fun hHeld => ?_)
      clear hK K
      refine norm_ (a':=?_) ?_ ?_
      rotate_left
      ·show Act.put _ (some 9) _ = _
       simp only [Act.put,List.setIfInBounds_toArray,List.set_cons_zero,List.set_cons_succ,i64_w,i32_w]
       rfl
      refine one_ (i:=9) (N:=some 14) (b613 22 507903) rfl rfl (one_of HT_.out (by kernel_rfl)) (by decide) (fun K hK => ?_)
      refine Kd.R_append_rows_step (Kd.int .i64) (w0:=w) w.heap.size (by rfl) (.tmp 9) (.tmp 13) 24 3 (.int .i64 0) 8 rfl Tryz.underlying24 info3 rfl (by decide) (by omega) v338 t337 (l0_0.take (a1 : Int).toNat) _ _ _ (fun _ => True) (fun _ => False) rfl rfl ?aO ?aR (fun _ _ h => h) (fun _ h => h.elim) ?aF ?aB ?aS ?aL ?_
      (case aR => ((have h9_:=(Kd.C_below HR340.out HB.out); rw [show (l0_0.take (a1 : Int).toNat).length = a1.toNat from (by rw [List.length_take]; have h_ : (a1 : Int) ≤ (l0_0.length : Int):=of_decide_eq_true (by (with_reducible assumption)); omega)] at h9_; exact h9_)))
      (case aB => exact (by repeat (((with_reducible (exact HB.out))))))
      (case aF => exact (fun _ _ => trivial))
      (case aO => exact (by exact HO339.out))
      (case aS => exact (below_size (by repeat (((with_reducible (exact HB.out)))))))
      (case aL => have:=LMc8.out; have hlx_:=(show (l0_0.take (a1 : Int).toNat).length = a1.toNat from (by rw [List.length_take]; have h_ : (a1 : Int) ≤ (l0_0.length : Int):=of_decide_eq_true (by (with_reducible assumption)); omega)); omega)
      intro v342 w23 ho hb hg hat
      rw [← Ny341.out] at ho
      have n0_:=Aside0.mk (blk_grown (g:=gb334) (o:=.cells #[.slice A0_0 l0_0.length c0_0,.slice A0_1 l0_1.length c0_1] 26 (0,0)) (by exact BK334.out) hg (Kd.R_ne HO339.out BK334.out (by decide)))
      have n1_:=Aside0.mk (blk_grown (g:=gb335) (o:=.cells #[.slice none 0 0,.slice none 0 0] 26 (0,0)) (by exact BK335.out) hg (Kd.R_ne HO339.out BK335.out (by decide)))
      have n2_:=Aside0.mk (hb)
      have n3_:=Aside0.mk (ho)
      clear BK334
      clear BK335
      clear HB
      clear HO339
      have BK334:=n0_
      have BK335:=n1_
      have HB:=n2_
      have HO343:=n3_
      clear n0_ n1_ n2_ n3_
      clear ho hb hg hat
      refine hK.out _ _ ⟨(blk_cell BK334.out 0).trans rfl,(blk_cell BK334.out 1).trans rfl⟩ (fun hHeld => ?_)
      clear hK K
      refine norm_ (a':=?_) ?_ ?_
      rotate_left
      ·show Act.put _ (some 14) _ = _
       simp only [Act.put,List.setIfInBounds_toArray,List.set_cons_zero,List.set_cons_succ,i64_w,i32_w]
       rfl
      refine one_ (i:=14) (N:=some 19) (b613 22 524287) rfl rfl (one_of HT_.out (by kernel_rfl)) (by decide) (fun K hK => ?_)
      refine goes_ Tryz.func77 (by kernel_rfl) rfl #[.slice A20 (l0_1.drop (a1 : Int).toNat).length (c0_1 - a1.toNat)] (by rfl) rfl rfl (by (try simp only [List.map_toArray,List.map_cons,List.map_nil]); ((rw [show (l0_1.drop (a1 : Int).toNat).length = (l0_1.length - a1.toNat) from List.length_drop] <;> rfl))) ?_
      with_reducible refine (slices_Clone_int_int.calls _ _ (l0_1.drop (a1 : Int).toNat) t345 _ ?side1 ?side2 A11.out).mono ?_
      (case side1 => repeat ((exact (Kd.C_below HR344.out HB.out))))
      (case side2 => exact HC344.out)
      rintro e w24 ⟨v346,rfl,ho0,hb⟩
      refine ⟨_,rfl,?_⟩
      have n0_:=Aside0.mk (Kd.R_elder' (by exact HO343.out) (Kd.R_base ho0) hb)
      have n1_:=Aside0.mk (Kd.R_lower (Kd.R_new' ho0 (Kd.R_lt (by exact HO343.out))) (below_size (by repeat (((with_reducible (exact HB.out)))))))
      have n2_:=Aside0.mk (blk_below (g:=gb334) (o:=.cells #[.slice A0_0 l0_0.length c0_0,.slice A0_1 l0_1.length c0_1] 26 (0,0)) (by exact BK334.out) hb)
      have n3_:=Aside0.mk (blk_below (g:=gb335) (o:=.cells #[.slice none 0 0,.slice none 0 0] 26 (0,0)) (by exact BK335.out) hb)
      have n4_:=Aside0.mk (below_step (by repeat (((with_reducible (exact HB.out))))) hb)
      clear HO343
      clear BK334
      clear BK335
      clear HB
      have HO343:=n0_
      have HO347:=n1_
      have BK334:=n2_
      have BK335:=n3_
      have HB:=n4_
      clear n0_ n1_ n2_ n3_ n4_
      (try clear hb)
      (try clear hb2)
      (try clear hk)
      (try clear hi)
      (try clear ho0)
      refine hK.out _ _ ⟨(blk_cell BK334.out 0).trans rfl,(blk_cell BK334.out 1).trans rfl⟩ (fun hHeld => ?_)
      clear hK K
      refine norm_ (a':=?_) ?_ ?_
      rotate_left
      ·show Act.put _ (some 19) _ = _
       simp only [Act.put,List.setIfInBounds_toArray,List.set_cons_zero,List.set_cons_succ,i64_w,i32_w]
       rfl
      refine one_ (i:=19) (N:=some 24) (b613 22 1048575) rfl rfl (one_of HT_.out (by kernel_rfl)) (by decide) (fun K hK => ?_)
      refine Kd.R_append_rows_step (Kd.int .i64) (w0:=w) w.heap.size (by rfl) (.tmp 19) (.tmp 23) 24 3 (.int .i64 0) 8 rfl Tryz.underlying24 info3 rfl (by decide) (by omega) v346 t345 (l0_1.take (a1 : Int).toNat) _ _ _ (fun k_ => some k_ ≠ (v342 : Value).ownBlock) (fun _ => False) rfl rfl ?aO ?aR (fun _ _ h => h) (fun _ h => h.elim) ?aF ?aB ?aS ?aL ?_
      (case aR => ((have h9_:=(Kd.C_below HR348.out HB.out); rw [show (l0_1.take (a1 : Int).toNat).length = a1.toNat from (by rw [List.length_take]; have h_ : (a1 : Int) ≤ (l0_1.length : Int):=of_decide_eq_true (by (with_reducible assumption)); omega)] at h9_; exact h9_)))
      (case aB => exact (by repeat (((with_reducible (exact HB.out))))))
      (case aF => exact (fun k_ hk => Kd.fresh' (Kd.R_lt (by exact HO343.out)) k_ hk))
      (case aO => exact (by exact Kd.R_mono HO347.out (fun _ hk => hk.2)))
      (case aS => exact (below_size (by repeat (((with_reducible (exact HB.out)))))))
      (case aL => have:=LMc14.out; have hlx_:=(show (l0_1.take (a1 : Int).toNat).length = a1.toNat from (by rw [List.length_take]; have h_ : (a1 : Int) ≤ (l0_1.length : Int):=of_decide_eq_true (by (with_reducible assumption)); omega)); omega)
      intro v350 w25 ho hb hg hat
      rw [← Ny349.out] at ho
      have n0_:=Aside0.mk (blk_grown (g:=gb334) (o:=.cells #[.slice A0_0 l0_0.length c0_0,.slice A0_1 l0_1.length c0_1] 26 (0,0)) (by exact BK334.out) hg (Kd.R_ne HO347.out BK334.out (by decide)))
      have n1_:=Aside0.mk (blk_grown (g:=gb335) (o:=.cells #[.slice none 0 0,.slice none 0 0] 26 (0,0)) (by exact BK335.out) hg (Kd.R_ne HO347.out BK335.out (by decide)))
      have n2_:=Aside0.mk (Kd.R_after (ok:=(fun _ => True)) (by exact HO343.out) hg hat)
      have n3_:=Aside0.mk (hb)
      have n4_:=Aside0.mk (ho)
      clear BK334
      clear BK335
      clear HO343
      clear HB
      clear HO347
      have BK334:=n0_
      have BK335:=n1_
      have HO343:=n2_
      have HB:=n3_
      have HO351:=n4_
      clear n0_ n1_ n2_ n3_ n4_
      clear ho hb hg hat
      obtain ⟨Ao26,co26,eo26⟩:=Kd.R_slice HO351.out
      (subst eo26)
      obtain ⟨Ao27,co27,eo27⟩:=Kd.R_slice HO343.out
      (subst eo27)
      refine hK.out _ _ ⟨(blk_cell BK334.out 0).trans rfl,(blk_cell BK334.out 1).trans rfl⟩ (fun hHeld => ?_)
      clear hK K
      refine norm_ (a':=?_) ?_ ?_
      rotate_left
      ·show Act.put _ (some 24) _ = _
       simp only [Act.put,List.setIfInBounds_toArray,List.set_cons_zero,List.set_cons_succ,i64_w,i32_w]
       rfl
      refine pure_ (i:=20) (N:=some 25) (v:=?_) (a':=?_) (b613 22 2097151) rfl rfl (any_of HT_.out (by kernel_rfl)) (fun _ _ _ h => h) (Or.inl ⟨by rfl,?_⟩) ?_ ?_
      rotate_left
      ·intro w'
       go_simp
       with_reducible rfl
      rotate_left
      ·simp only [Act.put,List.setIfInBounds_toArray,List.set_cons_zero,List.set_cons_succ,i64_w,i32_w]
       rfl
      refine one_ (i:=21) (N:=none) (b613 22 4194303) rfl rfl (one_of HT_.out (by kernel_rfl)) (by decide) (fun K hK => ?_)
      have hs28 : w25.cell? ⟨gb335,0,none⟩ = some (.slice none 0 0):=(blk_cell BK335.out 0).trans rfl
      have hfs28:=blk_frozen BK335.out 0
      have hns28_0:=NB334_335.out
      have hms28_0:=NB335_334.out
      have hs29 : w25.cell? ⟨gb335,1,none⟩ = some (.slice none 0 0):=(blk_cell BK335.out 1).trans rfl
      have hfs29:=blk_frozen BK335.out 1
      have hns29_0:=NB334_335.out
      have hms29_0:=NB335_334.out
      refine skip_ (w1:=?_) (by rfl) rfl ?_ ?_
      rotate_left
      ·go_simp
       rfl
      refine hK.out _ _ ⟨((cell_far (p:=⟨gb335,_,none⟩) NB334_335.out _).trans (((cell_far (p:=⟨gb335,_,none⟩) NB334_335.out _).trans (hHeld.1)))),((cell_far (p:=⟨gb335,_,none⟩) NB334_335.out _).trans (((cell_far (p:=⟨gb335,_,none⟩) NB334_335.out _).trans (hHeld.2))))⟩ (fun hHeld => ?_)
      clear hK K
      refine done_ (done_of HT_.out (by kernel_rfl)) ?_
      try go_wp2
      refine bodyPost_ret (results_cell_row rfl _ _ gb335 26 #[.slice Ao27 y341.length co27,.slice Ao26 y349.length co26] (0,0) _ rfl (by refine blk_put (cs:=#[.slice Ao27 y341.length co27,.slice none 0 0]) ?_ 1 _ rfl; refine blk_put (cs:=#[.slice none 0 0,.slice none 0 0]) ?_ 0 _ rfl; exact BK335.out) Tryz.underlying26 rfl (by kernel_rfl)) rfl ?_
      exact ⟨_,_,by (rfl),by exact Kd.R_mono (Kd.R_far (p:=⟨gb335,1,none⟩) (Kd.R_far (p:=⟨gb335,0,none⟩) (Kd.R_types HO343.out BK335.out (by decide)) (fun _ hk => hk.2) (.slice Ao27 y341.length co27)) (fun _ hk => hk.2) (.slice Ao26 y349.length co26)) (fun _ hk => hk.1.2),by exact Kd.R_mono (Kd.R_far (p:=⟨gb335,1,none⟩) (Kd.R_far (p:=⟨gb335,0,none⟩) (Kd.R_types HO351.out BK335.out (by decide)) (fun _ hk => hk.2) (.slice Ao27 y341.length co27)) (fun _ hk => hk.2) (.slice Ao26 y349.length co26)) (fun _ hk => hk.1),by repeat (with_reducible first|exact HB.out|refine below_set ?_ GE335.out)⟩
     ·rw [if_neg c14] at H
      exact absurd H (by simp)
    ·rw [if_neg c10] at H
     exact absurd H (by simp)
   ·rw [if_neg c8] at H
    exact absurd H (by simp)
  ·rw [if_neg c4] at H
   exact absurd H (by simp)
 ·rw [if_neg c3] at H
  exact absurd H (by simp)

/-! ### spec_l3Turn: function 43 -/
def spec_l3Turn.f (l0_0 : List Int) (l0_1 : List Int) (a1 : Int) : Option (List Int × List Int):=(some (([] : List Int) : List Int)).bind fun y369 => (if 0 ≤ a1 then (if a1 ≤ (l0_0.length : Int) then (if y369.length + (l0_0.drop (a1 : Int).toNat).length < 17592186044416 then ((some (y369 ++ (l0_0.drop (a1 : Int).toNat) : List Int)).bind fun y373 => (if y373.length + (l0_0.take (a1 : Int).toNat).length < 17592186044416 then ((some (([] : List Int) : List Int)).bind fun y380 => (if a1 ≤ (l0_1.length : Int) then (if y380.length + (l0_1.drop (a1 : Int).toNat).length < 17592186044416 then ((some (y380 ++ (l0_1.drop (a1 : Int).toNat) : List Int)).bind fun y384 => (if y384.length + (l0_1.take (a1 : Int).toNat).length < 17592186044416 then (some ((y373 ++ (l0_0.take (a1 : Int).toNat)),(y384 ++ (l0_1.take (a1 : Int).toNat)))) else (none))) else (none)) else (none))) else (none))) else (none)) else (none)) else (none))
def spec_l3Turn.T1 : Bool × List (List Nat × List Nat):=(true,[([],[]),([],[]),([1],[1]),([],[]),([2,3],[2,3]),([0,4],[0,4]),([],[]),([6],[6]),([],[]),([7,8],[7,8]),([5,9,5],[5,9]),([],[]),([],[]),([12],[12]),([],[]),([13,14],[13,14]),([11,15,10],[11,15]),([],[]),([17],[17]),([],[]),([18,19],[18,19]),([16,20,16],[16,20]),([10,21],[10,21]),([22,21,0,1,2,3,4,5,6,7,8,9,10,11,12,13,14,15,16,17,18,19,20,21,22],[22])])
def spec_l3Turn.B1 : List Nat:=[0,0,2,0,14,31,0,64,0,448,1023,0,0,4096,0,28672,65535,0,131072,0,917504,2097151,4194303,8388607]
theorem spec_l3Turn.tab1 : rtab .any (opsOf Tryz.f43 1) = spec_l3Turn.T1:=by kernel_rfl
theorem spec_l3Turn.bits1 : waitsOk spec_l3Turn.T1.2 spec_l3Turn.B1 = true:=by kernel_rfl
set_option maxHeartbeats 8000000 in
set_option maxRecDepth 100000 in
theorem spec_l3Turn.calls (A0_0 : Option Addr) (c0_0 : Nat) (l0_0 : List Int) (A0_1 : Option Addr) (c0_1 : Nat) (l0_1 : List Int) (a1 : Int) (r1 : List Int) (r2 : List Int) (w : World) (hr0_0 : Kd.C (Kd.int .i64) w A0_0 l0_0.length l0_0) (hc0_0 : l0_0.length ≤ c0_0) (hr0_1 : Kd.C (Kd.int .i64) w A0_1 l0_1.length l0_1) (hc0_1 : l0_1.length ≤ c0_1) (h : spec_l3Turn.f l0_0 l0_1 a1 = some (r1,r2)) :
  Calls Tryz.prog 43 #[.agg #[.slice A0_0 l0_0.length c0_0,.slice A0_1 l0_1.length c0_1],.int .i64 a1] w fun e w' => ∃ v0_ v1_ : Value,e = .returned (.agg #[v0_,v1_]) ∧ Kd.R (Kd.int .i64) 3 w' w.heap.size (fun k_ => some k_ ≠ (v1_ : Value).ownBlock) v0_ r1 ∧ Kd.R (Kd.int .i64) 3 w' w.heap.size (fun k_ => some k_ ≠ (v0_ : Value).ownBlock) v1_ r2 ∧ Below w.heap.size w w':=by
 have hu26:=Tryz.underlying26
 have HR0_0:=Aside0.mk hr0_0
 have HC0_0:=Aside0.mk hc0_0
 clear hr0_0 hc0_0
 have HR0_1:=Aside0.mk hr0_1
 have HC0_1:=Aside0.mk hc0_1
 clear hr0_1 hc0_1
 have HB:=Aside0.mk (Below.refl w.heap.size w)
 have H : ((some (([] : List Int) : List Int)).bind fun y369 => (if 0 ≤ a1 then (if a1 ≤ (l0_0.length : Int) then (if y369.length + (l0_0.drop (a1 : Int).toNat).length < 17592186044416 then ((some (y369 ++ (l0_0.drop (a1 : Int).toNat) : List Int)).bind fun y373 => (if y373.length + (l0_0.take (a1 : Int).toNat).length < 17592186044416 then ((some (([] : List Int) : List Int)).bind fun y380 => (if a1 ≤ (l0_1.length : Int) then (if y380.length + (l0_1.drop (a1 : Int).toNat).length < 17592186044416 then ((some (y380 ++ (l0_1.drop (a1 : Int).toNat) : List Int)).bind fun y384 => (if y384.length + (l0_1.take (a1 : Int).toNat).length < 17592186044416 then (some ((y373 ++ (l0_0.take (a1 : Int).toNat)),(y384 ++ (l0_1.take (a1 : Int).toNat)))) else (none))) else (none)) else (none))) else (none))) else (none)) else (none)) else (none))) = some (r1,r2):=h
 clear h
 obtain ⟨y369,hy369⟩ : ∃ y_ : List Int,y_ = ([] : List Int):=⟨_,rfl⟩
 replace H : (if 0 ≤ a1 then (if a1 ≤ (l0_0.length : Int) then (if y369.length + (l0_0.drop (a1 : Int).toNat).length < 17592186044416 then ((some (y369 ++ (l0_0.drop (a1 : Int).toNat) : List Int)).bind fun y373 => (if y373.length + (l0_0.take (a1 : Int).toNat).length < 17592186044416 then ((some (([] : List Int) : List Int)).bind fun y380 => (if a1 ≤ (l0_1.length : Int) then (if y380.length + (l0_1.drop (a1 : Int).toNat).length < 17592186044416 then ((some (y380 ++ (l0_1.drop (a1 : Int).toNat) : List Int)).bind fun y384 => (if y384.length + (l0_1.take (a1 : Int).toNat).length < 17592186044416 then (some ((y373 ++ (l0_0.take (a1 : Int).toNat)),(y384 ++ (l0_1.take (a1 : Int).toNat)))) else (none))) else (none)) else (none))) else (none))) else (none)) else (none)) else (none)) = some (r1,r2):=by ((have H2_:=(Option.bind_some _ _).symm.trans H; rw [hy369]; with_reducible exact H2_))
 have Ny369:=Aside0.mk hy369
 clear hy369
 by_cases c3 : 0 ≤ a1
 ·rw [if_pos c3] at H
  have c3b0:=eq_true c3
  have c3b1 : decide (0 ≤ a1) = true:=decide_eq_true c3
  clear c3
  by_cases c4 : a1 ≤ (l0_0.length : Int)
  ·rw [if_pos c4] at H
   have c4b0:=eq_true c4
   have c4b1 : decide (a1 ≤ (l0_0.length : Int)) = true:=decide_eq_true c4
   clear c4
   by_cases c5 : y369.length + (l0_0.drop (a1 : Int).toNat).length < 17592186044416
   ·rw [if_pos c5] at H
    have LMc5:=Aside0.mk c5
    clear c5
    obtain ⟨y373,hy373⟩ : ∃ y_ : List Int,y_ = (y369 ++ (l0_0.drop (a1 : Int).toNat)):=⟨_,rfl⟩
    replace H : (if y373.length + (l0_0.take (a1 : Int).toNat).length < 17592186044416 then ((some (([] : List Int) : List Int)).bind fun y380 => (if a1 ≤ (l0_1.length : Int) then (if y380.length + (l0_1.drop (a1 : Int).toNat).length < 17592186044416 then ((some (y380 ++ (l0_1.drop (a1 : Int).toNat) : List Int)).bind fun y384 => (if y384.length + (l0_1.take (a1 : Int).toNat).length < 17592186044416 then (some ((y373 ++ (l0_0.take (a1 : Int).toNat)),(y384 ++ (l0_1.take (a1 : Int).toNat)))) else (none))) else (none)) else (none))) else (none)) = some (r1,r2):=by ((have H2_:=(Option.bind_some _ _).symm.trans H; rw [hy373]; with_reducible exact H2_))
    have Ny373:=Aside0.mk hy373
    clear hy373
    have c6b0:=eq_true (of_decide_eq_true (by (with_reducible assumption)) : 0 ≤ a1)
    have c7b0:=eq_true (of_decide_eq_true (by (with_reducible assumption)) : a1 ≤ (l0_0.length : Int))
    by_cases c8 : y373.length + (l0_0.take (a1 : Int).toNat).length < 17592186044416
    ·rw [if_pos c8] at H
     have LMc8:=Aside0.mk c8
     clear c8
     obtain ⟨y377,hy377⟩ : ∃ y_ : List Int,y_ = (y373 ++ (l0_0.take (a1 : Int).toNat)):=⟨_,rfl⟩
     replace H : ((some (([] : List Int) : List Int)).bind fun y380 => (if a1 ≤ (l0_1.length : Int) then (if y380.length + (l0_1.drop (a1 : Int).toNat).length < 17592186044416 then ((some (y380 ++ (l0_1.drop (a1 : Int).toNat) : List Int)).bind fun y384 => (if y384.length + (l0_1.take (a1 : Int).toNat).length < 17592186044416 then (some (y377,(y384 ++ (l0_1.take (a1 : Int).toNat)))) else (none))) else (none)) else (none))) = some (r1,r2):=by (rw [hy377]; with_reducible exact H)
     have Ny377:=Aside0.mk hy377
     clear hy377
     obtain ⟨y380,hy380⟩ : ∃ y_ : List Int,y_ = ([] : List Int):=⟨_,rfl⟩
     replace H : (if a1 ≤ (l0_1.length : Int) then (if y380.length + (l0_1.drop (a1 : Int).toNat).length < 17592186044416 then ((some (y380 ++ (l0_1.drop (a1 : Int).toNat) : List Int)).bind fun y384 => (if y384.length + (l0_1.take (a1 : Int).toNat).length < 17592186044416 then (some (y377,(y384 ++ (l0_1.take (a1 : Int).toNat)))) else (none))) else (none)) else (none)) = some (r1,r2):=by ((have H2_:=(Option.bind_some _ _).symm.trans H; rw [hy380]; with_reducible exact H2_))
     have Ny380:=Aside0.mk hy380
     clear hy380
     have c9b0:=eq_true (of_decide_eq_true (by (with_reducible assumption)) : 0 ≤ a1)
     by_cases c10 : a1 ≤ (l0_1.length : Int)
     ·rw [if_pos c10] at H
      have c10b0:=eq_true c10
      have c10b1 : decide (a1 ≤ (l0_1.length : Int)) = true:=decide_eq_true c10
      clear c10
      by_cases c11 : y380.length + (l0_1.drop (a1 : Int).toNat).length < 17592186044416
      ·rw [if_pos c11] at H
       have LMc11:=Aside0.mk c11
       clear c11
       obtain ⟨y384,hy384⟩ : ∃ y_ : List Int,y_ = (y380 ++ (l0_1.drop (a1 : Int).toNat)):=⟨_,rfl⟩
       replace H : (if y384.length + (l0_1.take (a1 : Int).toNat).length < 17592186044416 then (some (y377,(y384 ++ (l0_1.take (a1 : Int).toNat)))) else (none)) = some (r1,r2):=by ((have H2_:=(Option.bind_some _ _).symm.trans H; rw [hy384]; with_reducible exact H2_))
       have Ny384:=Aside0.mk hy384
       clear hy384
       have c12b0:=eq_true (of_decide_eq_true (by (with_reducible assumption)) : 0 ≤ a1)
       have c13b0:=eq_true (of_decide_eq_true (by (with_reducible assumption)) : a1 ≤ (l0_1.length : Int))
       by_cases c14 : y384.length + (l0_1.take (a1 : Int).toNat).length < 17592186044416
       ·rw [if_pos c14] at H
        have LMc14:=Aside0.mk c14
        clear c14
        obtain ⟨y388,hy388⟩ : ∃ y_ : List Int,y_ = (y384 ++ (l0_1.take (a1 : Int).toNat)):=⟨_,rfl⟩
        replace H : (some (y377,y388)) = some (r1,r2):=by (rw [hy388]; with_reducible exact H)
        have Ny388:=Aside0.mk hy388
        clear hy388
        simp only [Option.some.injEq,Prod.mk.injEq] at H
        obtain ⟨rfl,rfl⟩:=H
        go_enter Tryz.func43,Tryz.ntmps43
        try go_wp2_with (first|((with_reducible refine gate_dst (N:=2) rfl ?_); refine box_event ?hg (N:=2) ?hd (cs:=#[.slice A0_0 l0_0.length c0_0,.slice A0_1 l0_1.length c0_1]) (t:=26) ?hr ?_; (case hd => rfl); (case hg => rfl); (case hr => (go_simp; done)); intro gb367 hg w15 hbox hb; have n0_:=Aside0.mk (below_step (by repeat (((with_reducible (exact HB.out))))) hb); have n1_:=Aside0.mk (hbox); have n2_:=Aside0.mk ((by rw [hg]; exact (below_size (by repeat (((with_reducible (exact HB.out)))))) : w.heap.size ≤ gb367)); have n3_:=Aside0.mk ((by rw [hg]; exact (below_size (by repeat (((with_reducible (exact HB.out)))))) : w.heap.size ≤ gb367)); clear HB; have HB:=n0_; have BK367:=n1_; have GW367:=n2_; have GE367:=n3_; clear n0_ n1_ n2_ n3_; clear hb hbox hg)|((with_reducible refine gate_dst (N:=4) rfl ?_); refine box_event ?hg (N:=4) ?hd (cs:=#[.slice none 0 0,.slice none 0 0]) (t:=26) ?hr ?_; (case hd => rfl); (case hg => rfl); (case hr => (go_simp; done)); intro gb368 hg w16 hbox hb; have n0_:=Aside0.mk (blk_below (g:=gb367) (o:=.cells #[.slice A0_0 l0_0.length c0_0,.slice A0_1 l0_1.length c0_1] 26 (0,0)) (by exact BK367.out) hb); have n1_:=Aside0.mk (below_step (by repeat (((with_reducible (exact HB.out))))) hb); have n2_:=Aside0.mk (hbox); have n3_:=Aside0.mk ((by rw [hg]; exact (below_size (by repeat (((with_reducible (exact HB.out)))))) : w.heap.size ≤ gb368)); have n4_:=Aside0.mk ((by rw [hg]; exact (below_size (by repeat (((with_reducible (exact HB.out)))))) : w.heap.size ≤ gb368)); have n5_:=Aside0.mk ((by rw [hg]; exact Nat.ne_of_lt (blk_lt (g:=gb367) (o:=.cells #[.slice A0_0 l0_0.length c0_0,.slice A0_1 l0_1.length c0_1] 26 (0,0)) (by exact BK367.out)) : gb367 ≠ gb368)); have n6_:=Aside0.mk ((by rw [hg]; exact Nat.ne_of_gt (blk_lt (g:=gb367) (o:=.cells #[.slice A0_0 l0_0.length c0_0,.slice A0_1 l0_1.length c0_1] 26 (0,0)) (by exact BK367.out)) : gb368 ≠ gb367)); clear BK367; clear HB; have BK367:=n0_; have HB:=n1_; have BK368:=n2_; have GW368:=n3_; have GE368:=n4_; have NB367_368:=n5_; have NB368_367:=n6_; clear n0_ n1_ n2_ n3_ n4_ n5_ n6_; clear hb hbox hg))
        have n0_:=Aside0.mk (blk_drew BK367.out)
        have n1_:=Aside0.mk (blk_drew BK368.out)
        have n2_:=Aside0.mk (below_drew1 HB.out)
        clear BK367
        clear BK368
        clear HB
        have BK367:=n0_
        have BK368:=n1_
        have HB:=n2_
        clear n0_ n1_ n2_
        obtain ⟨i018,hi018,_,hsz18,_⟩:=info_parts info3
        obtain ⟨A18,hcut18,hA18,hC18⟩:=print_drop_of (P:=Tryz.prog) (Value.int .i64) 0 24 3 .i64 Tryz.underlying24 hi018 hsz18 A0_0 c0_0 l0_0 a1 (of_decide_eq_true (by (with_reducible assumption))) (of_decide_eq_true (by (with_reducible assumption))) HC0_0.out
        have HR372:=Aside0.mk (Kd.C_of_reads (h1:=fun _ => rfl) (hA18 _ (Kd.reads_of_C HR0_0.out)))
        have HC372:=Aside0.mk hC18
        clear hA18 hC18 hi018 hsz18
        obtain ⟨i019,hi019,_,hsz19,_⟩:=info_parts info3
        obtain ⟨hcut19,hA19,hC19⟩:=print_take_of (P:=Tryz.prog) (Value.int .i64) 0 24 3 .i64 Tryz.underlying24 hi019 hsz19 A0_0 c0_0 l0_0 a1 (of_decide_eq_true (by (with_reducible assumption))) (of_decide_eq_true (by (with_reducible assumption))) HC0_0.out
        have HR376:=Aside0.mk (Kd.C_of_reads (h1:=fun _ => rfl) (hA19 _ (Kd.reads_of_C HR0_0.out)))
        have HC376:=Aside0.mk hC19
        clear hA19 hC19 hi019 hsz19
        obtain ⟨i020,hi020,_,hsz20,_⟩:=info_parts info3
        obtain ⟨A20,hcut20,hA20,hC20⟩:=print_drop_of (P:=Tryz.prog) (Value.int .i64) 0 24 3 .i64 Tryz.underlying24 hi020 hsz20 A0_1 c0_1 l0_1 a1 (of_decide_eq_true (by (with_reducible assumption))) (of_decide_eq_true (by (with_reducible assumption))) HC0_1.out
        have HR383:=Aside0.mk (Kd.C_of_reads (h1:=fun _ => rfl) (hA20 _ (Kd.reads_of_C HR0_1.out)))
        have HC383:=Aside0.mk hC20
        clear hA20 hC20 hi020 hsz20
        obtain ⟨i021,hi021,_,hsz21,_⟩:=info_parts info3
        obtain ⟨hcut21,hA21,hC21⟩:=print_take_of (P:=Tryz.prog) (Value.int .i64) 0 24 3 .i64 Tryz.underlying24 hi021 hsz21 A0_1 c0_1 l0_1 a1 (of_decide_eq_true (by (with_reducible assumption))) (of_decide_eq_true (by (with_reducible assumption))) HC0_1.out
        have HR387:=Aside0.mk (Kd.C_of_reads (h1:=fun _ => rfl) (hA21 _ (Kd.reads_of_C HR0_1.out)))
        have HC387:=Aside0.mk hC21
        clear hA21 hC21 hi021 hsz21
        refine start_ (n:=24) (S:=fun w' => w'.cell? ⟨gb367,0,none⟩ = some (.slice A0_0 l0_0.length c0_0) ∧ w'.cell? ⟨gb367,1,none⟩ = some (.slice A0_1 l0_1.length c0_1)) (ds:=[]) (b613 24 0) (by kernel_rfl) rfl rfl ⟨(blk_cell BK367.out 0).trans rfl,(blk_cell BK367.out 1).trans rfl⟩ (fun hHeld => ?_); refine with_tabW spec_l3Turn.tab1 spec_l3Turn.bits1 (fun HT_ HW_ => ?_)
        generalize w16.drew = w17 at BK367 BK368 HB HR372 HR376 HR383 HR387 hHeld ⊢
        refine pure_ (i:=1) (N:=some 6) (v:=?_) (a':=?_) (b613 24 2) rfl rfl (any_of HT_.out (by kernel_rfl)) (fun _ _ _ h => h) (Or.inl ⟨by rfl,?_⟩) ?_ ?_
        rotate_left
        ·intro w'
         go_simp
         with_reducible rfl
        rotate_left
        ·simp only [Act.put,List.setIfInBounds_toArray,List.set_cons_zero,List.set_cons_succ,i64_w,i32_w]
         rfl
        refine pure_ (i:=3) (N:=some 8) (v:=?_) (a':=?_) (b613 24 10) rfl rfl (any_of HT_.out (by kernel_rfl)) (fun _ _ _ h => h) (Or.inl ⟨by rfl,?_⟩) ?_ ?_
        rotate_left
        ·intro w'
         go_simp
         with_reducible rfl
        rotate_left
        ·simp only [Act.put,List.setIfInBounds_toArray,List.set_cons_zero,List.set_cons_succ,i64_w,i32_w]
         rfl
        refine pure_ (i:=6) (N:=some 11) (v:=?_) (a':=?_) (b613 24 74) rfl rfl (any_of HT_.out (by kernel_rfl)) (fun _ _ _ h => h) (Or.inl ⟨by rfl,?_⟩) ?_ ?_
        rotate_left
        ·intro w'
         go_simp
         with_reducible rfl
        rotate_left
        ·simp only [Act.put,List.setIfInBounds_toArray,List.set_cons_zero,List.set_cons_succ,i64_w,i32_w]
         rfl
        refine pure_ (i:=8) (N:=some 13) (v:=?_) (a':=?_) (b613 24 330) rfl rfl (any_of HT_.out (by kernel_rfl)) (fun _ _ _ h => h) (Or.inl ⟨by rfl,?_⟩) ?_ ?_
        rotate_left
        ·intro w'
         go_simp
         with_reducible rfl
        rotate_left
        ·simp only [Act.put,List.setIfInBounds_toArray,List.set_cons_zero,List.set_cons_succ,i64_w,i32_w]
         rfl
        refine pure_ (i:=12) (N:=some 17) (v:=?_) (a':=?_) (b613 24 4426) rfl rfl (any_of HT_.out (by kernel_rfl)) (fun _ _ _ h => h) (Or.inl ⟨by rfl,?_⟩) ?_ ?_
        rotate_left
        ·intro w'
         go_simp
         with_reducible rfl
        rotate_left
        ·simp only [Act.put,List.setIfInBounds_toArray,List.set_cons_zero,List.set_cons_succ,i64_w,i32_w]
         rfl
        refine pure_ (i:=14) (N:=some 19) (v:=?_) (a':=?_) (b613 24 20810) rfl rfl (any_of HT_.out (by kernel_rfl)) (fun _ _ _ h => h) (Or.inl ⟨by rfl,?_⟩) ?_ ?_
        rotate_left
        ·intro w'
         go_simp
         with_reducible rfl
        rotate_left
        ·simp only [Act.put,List.setIfInBounds_toArray,List.set_cons_zero,List.set_cons_succ,i64_w,i32_w]
         rfl
        refine pure_ (i:=17) (N:=some 22) (v:=?_) (a':=?_) (b613 24 151882) rfl rfl (any_of HT_.out (by kernel_rfl)) (fun _ _ _ h => h) (Or.inl ⟨by rfl,?_⟩) ?_ ?_
        rotate_left
        ·intro w'
         go_simp
         with_reducible rfl
        rotate_left
        ·simp only [Act.put,List.setIfInBounds_toArray,List.set_cons_zero,List.set_cons_succ,i64_w,i32_w]
         rfl
        refine pure_ (i:=19) (N:=some 24) (v:=?_) (a':=?_) (b613 24 676170) rfl rfl (any_of HT_.out (by kernel_rfl)) (fun _ _ _ h => h) (Or.inl ⟨by rfl,?_⟩) ?_ ?_
        rotate_left
        ·intro w'
         go_simp
         with_reducible rfl
        rotate_left
        ·simp only [Act.put,List.setIfInBounds_toArray,List.set_cons_zero,List.set_cons_succ,i64_w,i32_w]
         rfl
        refine take_ (i:=2) (N:=some 7) (v:=?_) (a':=?_) (b613 24 676174) rfl rfl (take_ofW HT_.out HW_.out (by kernel_rfl)) (fun _ _ _ h => h) (Or.inl ⟨by rfl,?_⟩) hHeld ?_ ?_
        rotate_left
        ·rintro w' ⟨s0,s1⟩
         go_simp
         with_reducible rfl
        rotate_left
        ·simp only [Act.put,List.setIfInBounds_toArray,List.set_cons_zero,List.set_cons_succ,i64_w,i32_w]
         rfl
        refine pure_ (i:=4) (N:=some 9) (v:=?_) (a':=?_) (b613 24 676190) rfl rfl (any_of HT_.out (by kernel_rfl)) (fun _ _ _ h => h) (Or.inl ⟨by rfl,?_⟩) ?_ ?_
        rotate_left
        ·intro w'
         go_simp
         with_reducible rfl
        rotate_left
        ·simp only [Act.put,List.setIfInBounds_toArray,List.set_cons_zero,List.set_cons_succ,i64_w,i32_w]
         rfl
        refine take_ (i:=7) (N:=some 12) (v:=?_) (a':=?_) (b613 24 676318) rfl rfl (take_ofW HT_.out HW_.out (by kernel_rfl)) (fun _ _ _ h => h) (Or.inl ⟨by rfl,?_⟩) hHeld ?_ ?_
        rotate_left
        ·rintro w' ⟨s0,s1⟩
         go_simp
         with_reducible rfl
        rotate_left
        ·simp only [Act.put,List.setIfInBounds_toArray,List.set_cons_zero,List.set_cons_succ,i64_w,i32_w]
         rfl
        refine pure_ (i:=9) (N:=some 14) (v:=?_) (a':=?_) (b613 24 676830) rfl rfl (any_of HT_.out (by kernel_rfl)) (fun _ _ _ h => h) (Or.inl ⟨by rfl,?_⟩) ?_ ?_
        rotate_left
        ·intro w'
         go_simp
         with_reducible rfl
        rotate_left
        ·simp only [Act.put,List.setIfInBounds_toArray,List.set_cons_zero,List.set_cons_succ,i64_w,i32_w]
         rfl
        refine take_ (i:=13) (N:=some 18) (v:=?_) (a':=?_) (b613 24 685022) rfl rfl (take_ofW HT_.out HW_.out (by kernel_rfl)) (fun _ _ _ h => h) (Or.inl ⟨by rfl,?_⟩) hHeld ?_ ?_
        rotate_left
        ·rintro w' ⟨s0,s1⟩
         go_simp
         with_reducible rfl
        rotate_left
        ·simp only [Act.put,List.setIfInBounds_toArray,List.set_cons_zero,List.set_cons_succ,i64_w,i32_w]
         rfl
        refine pure_ (i:=15) (N:=some 20) (v:=?_) (a':=?_) (b613 24 717790) rfl rfl (any_of HT_.out (by kernel_rfl)) (fun _ _ _ h => h) (Or.inl ⟨by rfl,?_⟩) ?_ ?_
        rotate_left
        ·intro w'
         go_simp
         with_reducible rfl
        rotate_left
        ·simp only [Act.put,List.setIfInBounds_toArray,List.set_cons_zero,List.set_cons_succ,i64_w,i32_w]
         rfl
        refine take_ (i:=18) (N:=some 23) (v:=?_) (a':=?_) (b613 24 979934) rfl rfl (take_ofW HT_.out HW_.out (by kernel_rfl)) (fun _ _ _ h => h) (Or.inl ⟨by rfl,?_⟩) hHeld ?_ ?_
        rotate_left
        ·rintro w' ⟨s0,s1⟩
         go_simp
         with_reducible rfl
        rotate_left
        ·simp only [Act.put,List.setIfInBounds_toArray,List.set_cons_zero,List.set_cons_succ,i64_w,i32_w]
         rfl
        refine pure_ (i:=20) (N:=some 25) (v:=?_) (a':=?_) (b613 24 2028510) rfl rfl (any_of HT_.out (by kernel_rfl)) (fun _ _ _ h => h) (Or.inl ⟨by rfl,?_⟩) ?_ ?_
        rotate_left
        ·intro w'
         go_simp
         with_reducible rfl
        rotate_left
        ·simp only [Act.put,List.setIfInBounds_toArray,List.set_cons_zero,List.set_cons_succ,i64_w,i32_w]
         rfl
        refine join_ (σ:=Value × Value × Value × Value) 4 (b613 24 2031615) (fun s_ => [(5,s_.1),(10,s_.2.1),(15,s_.2.2.1),(16,s_.2.2.2)]) (fun s_ w' => (w'.cell? ⟨gb367,0,none⟩ = some (.slice A0_0 l0_0.length c0_0) ∧ w'.cell? ⟨gb367,1,none⟩ = some (.slice A0_1 l0_1.length c0_1)) ∧ (Kd.R (Kd.int .i64) 3 w' w.heap.size (fun k_ => some k_ ≠ (s_.2.2.2 : Value).ownBlock) s_.2.2.1 y377) ∧ (Kd.R (Kd.int .i64) 3 w' w.heap.size (fun k_ => some k_ ≠ (s_.2.2.1 : Value).ownBlock) s_.2.2.2 y380) ∧ (w'.heap[gb367]? = some (.cells #[.slice A0_0 l0_0.length c0_0,.slice A0_1 l0_1.length c0_1] 26 (0,0))) ∧ (w'.heap[gb368]? = some (.cells #[.slice none 0 0,.slice none 0 0] 26 (0,0))) ∧ (Below w.heap.size w w')) ?_ ?_
        rotate_left
        ·intro hCont
         refine two_ (i:=0) (j:=11) (Ni:=some 5) (Nj:=some 16) (b613 24 2028511) (b613 24 2030558) rfl rfl rfl rfl (two_of HT_.out (by kernel_rfl)) (by decide) (by decide) (fun K hK => ?_) (fun K hK => ?_)
         ·skip
          refine Kd.R_lit_step (Kd.int .i64) _ 3 ?hg (N:=5) ?hd (xs:=([] : List Int)) (inner:=[]) (ok:=fun _ => True) (okp:=fun _ => True) ?hr ?hp (fun _ hk => hk) trivial (Below.refl _ _) (Nat.le_refl _) (by simp) ?_; (case hd => rfl); (case hg => rfl); (case hr => (go_simp; done)); (case hp => exact (Reps.none _ _))
          intro v370 w22 ho23 hb hg_ hnew_
          clear hg_ hnew_
          (rw [← Ny369.out] at ho23)
          have n0_:=Aside0.mk (Kd.R_lower ho23 (below_size (by repeat (((with_reducible (exact HB.out)))))))
          have n1_:=Aside0.mk (blk_below (g:=gb367) (o:=.cells #[.slice A0_0 l0_0.length c0_0,.slice A0_1 l0_1.length c0_1] 26 (0,0)) (by exact BK367.out) hb)
          have n2_:=Aside0.mk (blk_below (g:=gb368) (o:=.cells #[.slice none 0 0,.slice none 0 0] 26 (0,0)) (by exact BK368.out) hb)
          have n3_:=Aside0.mk (below_step (by repeat (((with_reducible (exact HB.out))))) hb)
          clear BK367
          clear BK368
          clear HB
          have HO371:=n0_
          have BK367:=n1_
          have BK368:=n2_
          have HB:=n3_
          clear n0_ n1_ n2_ n3_
          clear hb ho23
          refine hK.out _ _ ⟨(blk_cell BK367.out 0).trans rfl,(blk_cell BK367.out 1).trans rfl⟩ (fun hHeld => ?_)
          clear hK K
          refine norm_ (a':=?_) ?_ ?_
          rotate_left
          ·show Act.put _ (some 5) _ = _
           simp only [Act.put,List.setIfInBounds_toArray,List.set_cons_zero,List.set_cons_succ,i64_w,i32_w]
           rfl
          refine two_ (i:=5) (j:=11) (Ni:=some 10) (Nj:=some 16) (b613 24 2028543) (b613 24 2030559) rfl rfl rfl rfl (two_of HT_.out (by kernel_rfl)) (by decide) (by decide) (fun K hK => ?_) (fun K hK => ?_)
          ·skip
           refine Kd.R_append_rows_step (Kd.int .i64) (w0:=w) w.heap.size (by rfl) (.tmp 5) (.tmp 9) 24 3 (.int .i64 0) 8 rfl Tryz.underlying24 info3 rfl (by decide) (by omega) v370 y369 (l0_0.drop (a1 : Int).toNat) _ _ _ (fun _ => True) (fun _ => False) rfl rfl ?aO ?aR (fun _ _ h => h) (fun _ h => h.elim) ?aF ?aB ?aS ?aL ?_
           (case aR => ((rw [← show (l0_0.drop (a1 : Int).toNat).length = (l0_0.length - a1.toNat) from List.length_drop]; repeat ((exact (Kd.C_below HR372.out HB.out))))))
           (case aB => exact (by repeat (((with_reducible (exact HB.out))))))
           (case aF => exact (fun _ _ => trivial))
           (case aO => exact (by exact HO371.out))
           (case aS => exact (below_size (by repeat (((with_reducible (exact HB.out)))))))
           (case aL => have:=LMc5.out; have hlx_:=(show (l0_0.drop (a1 : Int).toNat).length = (l0_0.length - a1.toNat) from List.length_drop); omega)
           intro v374 w24 ho hb hg hat
           rw [← Ny373.out] at ho
           have n0_:=Aside0.mk (blk_grown (g:=gb367) (o:=.cells #[.slice A0_0 l0_0.length c0_0,.slice A0_1 l0_1.length c0_1] 26 (0,0)) (by exact BK367.out) hg (Kd.R_ne HO371.out BK367.out (by decide)))
           have n1_:=Aside0.mk (blk_grown (g:=gb368) (o:=.cells #[.slice none 0 0,.slice none 0 0] 26 (0,0)) (by exact BK368.out) hg (Kd.R_ne HO371.out BK368.out (by decide)))
           have n2_:=Aside0.mk (hb)
           have n3_:=Aside0.mk (ho)
           clear BK367
           clear BK368
           clear HB
           clear HO371
           have BK367:=n0_
           have BK368:=n1_
           have HB:=n2_
           have HO375:=n3_
           clear n0_ n1_ n2_ n3_
           clear ho hb hg hat
           refine hK.out _ _ ⟨(blk_cell BK367.out 0).trans rfl,(blk_cell BK367.out 1).trans rfl⟩ (fun hHeld => ?_)
           clear hK K
           refine norm_ (a':=?_) ?_ ?_
           rotate_left
           ·show Act.put _ (some 10) _ = _
            simp only [Act.put,List.setIfInBounds_toArray,List.set_cons_zero,List.set_cons_succ,i64_w,i32_w]
            rfl
           refine two_ (i:=10) (j:=11) (Ni:=some 15) (Nj:=some 16) (b613 24 2029567) (b613 24 2030591) rfl rfl rfl rfl (two_of HT_.out (by kernel_rfl)) (by decide) (by decide) (fun K hK => ?_) (fun K hK => ?_)
           ·skip
            refine Kd.R_append_rows_step (Kd.int .i64) (w0:=w) w.heap.size (by rfl) (.tmp 10) (.tmp 14) 24 3 (.int .i64 0) 8 rfl Tryz.underlying24 info3 rfl (by decide) (by omega) v374 y373 (l0_0.take (a1 : Int).toNat) _ _ _ (fun _ => True) (fun _ => False) rfl rfl ?aO ?aR (fun _ _ h => h) (fun _ h => h.elim) ?aF ?aB ?aS ?aL ?_
            (case aR => ((have h9_:=(Kd.C_below HR376.out HB.out); rw [show (l0_0.take (a1 : Int).toNat).length = a1.toNat from (by rw [List.length_take]; have h_ : (a1 : Int) ≤ (l0_0.length : Int):=of_decide_eq_true (by (with_reducible assumption)); omega)] at h9_; exact h9_)))
            (case aB => exact (by repeat (((with_reducible (exact HB.out))))))
            (case aF => exact (fun _ _ => trivial))
            (case aO => exact (by exact HO375.out))
            (case aS => exact (below_size (by repeat (((with_reducible (exact HB.out)))))))
            (case aL => have:=LMc8.out; have hlx_:=(show (l0_0.take (a1 : Int).toNat).length = a1.toNat from (by rw [List.length_take]; have h_ : (a1 : Int) ≤ (l0_0.length : Int):=of_decide_eq_true (by (with_reducible assumption)); omega)); omega)
            intro v378 w25 ho hb hg hat
            rw [← Ny377.out] at ho
            have n0_:=Aside0.mk (blk_grown (g:=gb367) (o:=.cells #[.slice A0_0 l0_0.length c0_0,.slice A0_1 l0_1.length c0_1] 26 (0,0)) (by exact BK367.out) hg (Kd.R_ne HO375.out BK367.out (by decide)))
            have n1_:=Aside0.mk (blk_grown (g:=gb368) (o:=.cells #[.slice none 0 0,.slice none 0 0] 26 (0,0)) (by exact BK368.out) hg (Kd.R_ne HO375.out BK368.out (by decide)))
            have n2_:=Aside0.mk (hb)
            have n3_:=Aside0.mk (ho)
            clear BK367
            clear BK368
            clear HB
            clear HO375
            have BK367:=n0_
            have BK368:=n1_
            have HB:=n2_
            have HO379:=n3_
            clear n0_ n1_ n2_ n3_
            clear ho hb hg hat
            refine hK.out _ _ ⟨(blk_cell BK367.out 0).trans rfl,(blk_cell BK367.out 1).trans rfl⟩ (fun hHeld => ?_)
            clear hK K
            refine norm_ (a':=?_) ?_ ?_
            rotate_left
            ·show Act.put _ (some 15) _ = _
             simp only [Act.put,List.setIfInBounds_toArray,List.set_cons_zero,List.set_cons_succ,i64_w,i32_w]
             rfl
            refine one_ (i:=11) (N:=some 16) (b613 24 2031615) rfl rfl (one_of HT_.out (by kernel_rfl)) (by decide) (fun K hK => ?_)
            refine Kd.R_lit_step (Kd.int .i64) _ 3 ?hg (N:=16) ?hd (xs:=([] : List Int)) (inner:=[]) (ok:=fun _ => True) (okp:=fun _ => True) ?hr ?hp (fun _ hk => hk) trivial (Below.refl _ _) (Nat.le_refl _) (by simp) ?_; (case hd => rfl); (case hg => rfl); (case hr => (go_simp; done)); (case hp => exact (Reps.none _ _))
            intro v381 w26 ho27 hb hg_ hnew_
            clear hg_ hnew_
            (rw [← Ny380.out] at ho27)
            have n0_:=Aside0.mk (Kd.R_elder' (by exact HO379.out) (Kd.R_base ho27) hb)
            have n1_:=Aside0.mk (Kd.R_lower (Kd.R_new' ho27 (Kd.R_lt (by exact HO379.out))) (below_size (by repeat (((with_reducible (exact HB.out)))))))
            have n2_:=Aside0.mk (blk_below (g:=gb367) (o:=.cells #[.slice A0_0 l0_0.length c0_0,.slice A0_1 l0_1.length c0_1] 26 (0,0)) (by exact BK367.out) hb)
            have n3_:=Aside0.mk (blk_below (g:=gb368) (o:=.cells #[.slice none 0 0,.slice none 0 0] 26 (0,0)) (by exact BK368.out) hb)
            have n4_:=Aside0.mk (below_step (by repeat (((with_reducible (exact HB.out))))) hb)
            clear HO379
            clear BK367
            clear BK368
            clear HB
            have HO379:=n0_
            have HO382:=n1_
            have BK367:=n2_
            have BK368:=n3_
            have HB:=n4_
            clear n0_ n1_ n2_ n3_ n4_
            clear hb ho27
            refine hK.out _ _ ⟨(blk_cell BK367.out 0).trans rfl,(blk_cell BK367.out 1).trans rfl⟩ (fun hHeld => ?_)
            clear hK K
            refine norm_ (a':=?_) ?_ ?_
            rotate_left
            ·show Act.put _ (some 16) _ = _
             simp only [Act.put,List.setIfInBounds_toArray,List.set_cons_zero,List.set_cons_succ,i64_w,i32_w]
             rfl
            exact norm_ (by simp only [putAll,Act.put,List.setIfInBounds_toArray,List.set_cons_zero,List.set_cons_succ]) (hCont (v370,v374,v378,v381) _ ⟨hHeld,(by exact Kd.R_mono HO379.out (fun _ hk => hk.2)),(by exact Kd.R_mono HO382.out (fun _ hk => hk.2)),(by exact BK367.out),(by exact BK368.out),(by repeat (((with_reducible (exact HB.out)))))⟩)
           ·skip
            refine Kd.R_lit_step (Kd.int .i64) _ 3 ?hg (N:=16) ?hd (xs:=([] : List Int)) (inner:=[]) (ok:=fun _ => True) (okp:=fun _ => True) ?hr ?hp (fun _ hk => hk) trivial (Below.refl _ _) (Nat.le_refl _) (by simp) ?_; (case hd => rfl); (case hg => rfl); (case hr => (go_simp; done)); (case hp => exact (Reps.none _ _))
            intro v381 w25 ho26 hb hg_ hnew_
            clear hg_ hnew_
            (rw [← Ny380.out] at ho26)
            have n0_:=Aside0.mk (Kd.R_elder' (by exact HO375.out) (Kd.R_base ho26) hb)
            have n1_:=Aside0.mk (Kd.R_lower (Kd.R_new' ho26 (Kd.R_lt (by exact HO375.out))) (below_size (by repeat (((with_reducible (exact HB.out)))))))
            have n2_:=Aside0.mk (blk_below (g:=gb367) (o:=.cells #[.slice A0_0 l0_0.length c0_0,.slice A0_1 l0_1.length c0_1] 26 (0,0)) (by exact BK367.out) hb)
            have n3_:=Aside0.mk (blk_below (g:=gb368) (o:=.cells #[.slice none 0 0,.slice none 0 0] 26 (0,0)) (by exact BK368.out) hb)
            have n4_:=Aside0.mk (below_step (by repeat (((with_reducible (exact HB.out))))) hb)
            clear HO375
            clear BK367
            clear BK368
            clear HB
            have HO375:=n0_
            have HO382:=n1_
            have BK367:=n2_
            have BK368:=n3_
            have HB:=n4_
            clear n0_ n1_ n2_ n3_ n4_
            clear hb ho26
            refine hK.out _ _ ⟨(blk_cell BK367.out 0).trans rfl,(blk_cell BK367.out 1).trans rfl⟩ (fun hHeld => ?_)
            clear hK K
            refine norm_ (a':=?_) ?_ ?_
            rotate_left
            ·show Act.put _ (some 16) _ = _
             simp only [Act.put,List.setIfInBounds_toArray,List.set_cons_zero,List.set_cons_succ,i64_w,i32_w]
             rfl
            refine one_ (i:=10) (N:=some 15) (b613 24 2031615) rfl rfl (one_of HT_.out (by kernel_rfl)) (by decide) (fun K hK => ?_)
            refine Kd.R_append_rows_step (Kd.int .i64) (w0:=w) w.heap.size (by rfl) (.tmp 10) (.tmp 14) 24 3 (.int .i64 0) 8 rfl Tryz.underlying24 info3 rfl (by decide) (by omega) v374 y373 (l0_0.take (a1 : Int).toNat) _ _ _ (fun k_ => some k_ ≠ (v381 : Value).ownBlock) (fun _ => False) rfl rfl ?aO ?aR (fun _ _ h => h) (fun _ h => h.elim) ?aF ?aB ?aS ?aL ?_
            (case aR => ((have h9_:=(Kd.C_below HR376.out HB.out); rw [show (l0_0.take (a1 : Int).toNat).length = a1.toNat from (by rw [List.length_take]; have h_ : (a1 : Int) ≤ (l0_0.length : Int):=of_decide_eq_true (by (with_reducible assumption)); omega)] at h9_; exact h9_)))
            (case aB => exact (by repeat (((with_reducible (exact HB.out))))))
            (case aF => exact (fun k_ hk => Kd.fresh' (Kd.R_lt (by exact HO382.out)) k_ hk))
            (case aO => exact (by exact Kd.R_mono HO375.out (fun _ hk => hk.2)))
            (case aS => exact (below_size (by repeat (((with_reducible (exact HB.out)))))))
            (case aL => have:=LMc8.out; have hlx_:=(show (l0_0.take (a1 : Int).toNat).length = a1.toNat from (by rw [List.length_take]; have h_ : (a1 : Int) ≤ (l0_0.length : Int):=of_decide_eq_true (by (with_reducible assumption)); omega)); omega)
            intro v378 w27 ho hb hg hat
            rw [← Ny377.out] at ho
            have n0_:=Aside0.mk (blk_grown (g:=gb367) (o:=.cells #[.slice A0_0 l0_0.length c0_0,.slice A0_1 l0_1.length c0_1] 26 (0,0)) (by exact BK367.out) hg (Kd.R_ne HO375.out BK367.out (by decide)))
            have n1_:=Aside0.mk (blk_grown (g:=gb368) (o:=.cells #[.slice none 0 0,.slice none 0 0] 26 (0,0)) (by exact BK368.out) hg (Kd.R_ne HO375.out BK368.out (by decide)))
            have n2_:=Aside0.mk (Kd.R_after (ok:=(fun _ => True)) (by exact HO382.out) hg hat)
            have n3_:=Aside0.mk (hb)
            have n4_:=Aside0.mk (ho)
            clear BK367
            clear BK368
            clear HO382
            clear HB
            clear HO375
            have BK367:=n0_
            have BK368:=n1_
            have HO382:=n2_
            have HB:=n3_
            have HO379:=n4_
            clear n0_ n1_ n2_ n3_ n4_
            clear ho hb hg hat
            refine hK.out _ _ ⟨(blk_cell BK367.out 0).trans rfl,(blk_cell BK367.out 1).trans rfl⟩ (fun hHeld => ?_)
            clear hK K
            refine norm_ (a':=?_) ?_ ?_
            rotate_left
            ·show Act.put _ (some 15) _ = _
             simp only [Act.put,List.setIfInBounds_toArray,List.set_cons_zero,List.set_cons_succ,i64_w,i32_w]
             rfl
            exact norm_ (by simp only [putAll,Act.put,List.setIfInBounds_toArray,List.set_cons_zero,List.set_cons_succ]) (hCont (v370,v374,v378,v381) _ ⟨hHeld,(by exact HO379.out),(by exact Kd.R_mono HO382.out (fun _ hk => hk.2)),(by exact BK367.out),(by exact BK368.out),(by repeat (((with_reducible (exact HB.out)))))⟩)
          ·skip
           refine Kd.R_lit_step (Kd.int .i64) _ 3 ?hg (N:=16) ?hd (xs:=([] : List Int)) (inner:=[]) (ok:=fun _ => True) (okp:=fun _ => True) ?hr ?hp (fun _ hk => hk) trivial (Below.refl _ _) (Nat.le_refl _) (by simp) ?_; (case hd => rfl); (case hg => rfl); (case hr => (go_simp; done)); (case hp => exact (Reps.none _ _))
           intro v381 w24 ho25 hb hg_ hnew_
           clear hg_ hnew_
           (rw [← Ny380.out] at ho25)
           have n0_:=Aside0.mk (Kd.R_elder' (by exact HO371.out) (Kd.R_base ho25) hb)
           have n1_:=Aside0.mk (Kd.R_lower (Kd.R_new' ho25 (Kd.R_lt (by exact HO371.out))) (below_size (by repeat (((with_reducible (exact HB.out)))))))
           have n2_:=Aside0.mk (blk_below (g:=gb367) (o:=.cells #[.slice A0_0 l0_0.length c0_0,.slice A0_1 l0_1.length c0_1] 26 (0,0)) (by exact BK367.out) hb)
           have n3_:=Aside0.mk (blk_below (g:=gb368) (o:=.cells #[.slice none 0 0,.slice none 0 0] 26 (0,0)) (by exact BK368.out) hb)
           have n4_:=Aside0.mk (below_step (by repeat (((with_reducible (exact HB.out))))) hb)
           clear HO371
           clear BK367
           clear BK368
           clear HB
           have HO371:=n0_
           have HO382:=n1_
           have BK367:=n2_
           have BK368:=n3_
           have HB:=n4_
           clear n0_ n1_ n2_ n3_ n4_
           clear hb ho25
           refine hK.out _ _ ⟨(blk_cell BK367.out 0).trans rfl,(blk_cell BK367.out 1).trans rfl⟩ (fun hHeld => ?_)
           clear hK K
           refine norm_ (a':=?_) ?_ ?_
           rotate_left
           ·show Act.put _ (some 16) _ = _
            simp only [Act.put,List.setIfInBounds_toArray,List.set_cons_zero,List.set_cons_succ,i64_w,i32_w]
            rfl
           refine one_ (i:=5) (N:=some 10) (b613 24 2030591) rfl rfl (one_of HT_.out (by kernel_rfl)) (by decide) (fun K hK => ?_)
           refine Kd.R_append_rows_step (Kd.int .i64) (w0:=w) w.heap.size (by rfl) (.tmp 5) (.tmp 9) 24 3 (.int .i64 0) 8 rfl Tryz.underlying24 info3 rfl (by decide) (by omega) v370 y369 (l0_0.drop (a1 : Int).toNat) _ _ _ (fun k_ => some k_ ≠ (v381 : Value).ownBlock) (fun _ => False) rfl rfl ?aO ?aR (fun _ _ h => h) (fun _ h => h.elim) ?aF ?aB ?aS ?aL ?_
           (case aR => ((rw [← show (l0_0.drop (a1 : Int).toNat).length = (l0_0.length - a1.toNat) from List.length_drop]; repeat ((exact (Kd.C_below HR372.out HB.out))))))
           (case aB => exact (by repeat (((with_reducible (exact HB.out))))))
           (case aF => exact (fun k_ hk => Kd.fresh' (Kd.R_lt (by exact HO382.out)) k_ hk))
           (case aO => exact (by exact Kd.R_mono HO371.out (fun _ hk => hk.2)))
           (case aS => exact (below_size (by repeat (((with_reducible (exact HB.out)))))))
           (case aL => have:=LMc5.out; have hlx_:=(show (l0_0.drop (a1 : Int).toNat).length = (l0_0.length - a1.toNat) from List.length_drop); omega)
           intro v374 w26 ho hb hg hat
           rw [← Ny373.out] at ho
           have n0_:=Aside0.mk (blk_grown (g:=gb367) (o:=.cells #[.slice A0_0 l0_0.length c0_0,.slice A0_1 l0_1.length c0_1] 26 (0,0)) (by exact BK367.out) hg (Kd.R_ne HO371.out BK367.out (by decide)))
           have n1_:=Aside0.mk (blk_grown (g:=gb368) (o:=.cells #[.slice none 0 0,.slice none 0 0] 26 (0,0)) (by exact BK368.out) hg (Kd.R_ne HO371.out BK368.out (by decide)))
           have n2_:=Aside0.mk (Kd.R_after (ok:=(fun _ => True)) (by exact HO382.out) hg hat)
           have n3_:=Aside0.mk (hb)
           have n4_:=Aside0.mk (ho)
           clear BK367
           clear BK368
           clear HO382
           clear HB
           clear HO371
           have BK367:=n0_
           have BK368:=n1_
           have HO382:=n2_
           have HB:=n3_
           have HO375:=n4_
           clear n0_ n1_ n2_ n3_ n4_
           clear ho hb hg hat
           refine hK.out _ _ ⟨(blk_cell BK367.out 0).trans rfl,(blk_cell BK367.out 1).trans rfl⟩ (fun hHeld => ?_)
           clear hK K
           refine norm_ (a':=?_) ?_ ?_
           rotate_left
           ·show Act.put _ (some 10) _ = _
            simp only [Act.put,List.setIfInBounds_toArray,List.set_cons_zero,List.set_cons_succ,i64_w,i32_w]
            rfl
           refine one_ (i:=10) (N:=some 15) (b613 24 2031615) rfl rfl (one_of HT_.out (by kernel_rfl)) (by decide) (fun K hK => ?_)
           refine Kd.R_append_rows_step (Kd.int .i64) (w0:=w) w.heap.size (by rfl) (.tmp 10) (.tmp 14) 24 3 (.int .i64 0) 8 rfl Tryz.underlying24 info3 rfl (by decide) (by omega) v374 y373 (l0_0.take (a1 : Int).toNat) _ _ _ (fun k_ => some k_ ≠ (v381 : Value).ownBlock) (fun _ => False) rfl rfl ?aO ?aR (fun _ _ h => h) (fun _ h => h.elim) ?aF ?aB ?aS ?aL ?_
           (case aR => ((have h9_:=(Kd.C_below HR376.out HB.out); rw [show (l0_0.take (a1 : Int).toNat).length = a1.toNat from (by rw [List.length_take]; have h_ : (a1 : Int) ≤ (l0_0.length : Int):=of_decide_eq_true (by (with_reducible assumption)); omega)] at h9_; exact h9_)))
           (case aB => exact (by repeat (((with_reducible (exact HB.out))))))
           (case aF => exact (fun k_ hk => Kd.fresh' (Kd.R_lt (by exact HO382.out)) k_ hk))
           (case aO => exact (by exact HO375.out))
           (case aS => exact (below_size (by repeat (((with_reducible (exact HB.out)))))))
           (case aL => have:=LMc8.out; have hlx_:=(show (l0_0.take (a1 : Int).toNat).length = a1.toNat from (by rw [List.length_take]; have h_ : (a1 : Int) ≤ (l0_0.length : Int):=of_decide_eq_true (by (with_reducible assumption)); omega)); omega)
           intro v378 w27 ho hb hg hat
           rw [← Ny377.out] at ho
           have n0_:=Aside0.mk (blk_grown (g:=gb367) (o:=.cells #[.slice A0_0 l0_0.length c0_0,.slice A0_1 l0_1.length c0_1] 26 (0,0)) (by exact BK367.out) hg (Kd.R_ne HO375.out BK367.out (by decide)))
           have n1_:=Aside0.mk (blk_grown (g:=gb368) (o:=.cells #[.slice none 0 0,.slice none 0 0] 26 (0,0)) (by exact BK368.out) hg (Kd.R_ne HO375.out BK368.out (by decide)))
           have n2_:=Aside0.mk (Kd.R_after (ok:=(fun _ => True)) (by exact HO382.out) hg hat)
           have n3_:=Aside0.mk (hb)
           have n4_:=Aside0.mk (ho)
           clear BK367
           clear BK368
           clear HO382
           clear HB
           clear HO375
           have BK367:=n0_
           have BK368:=n1_
           have HO382:=n2_
           have HB:=n3_
           have HO379:=n4_
           clear n0_ n1_ n2_ n3_ n4_
           clear ho hb hg hat
           refine hK.out _ _ ⟨(blk_cell BK367.out 0).trans rfl,(blk_cell BK367.out 1).trans rfl⟩ (fun hHeld => ?_)
           clear hK K
           refine norm_ (a':=?_) ?_ ?_
           rotate_left
           ·show Act.put _ (some 15) _ = _
            simp only [Act.put,List.setIfInBounds_toArray,List.set_cons_zero,List.set_cons_succ,i64_w,i32_w]
            rfl
           exact norm_ (by simp only [putAll,Act.put,List.setIfInBounds_toArray,List.set_cons_zero,List.set_cons_succ]) (hCont (v370,v374,v378,v381) _ ⟨hHeld,(by exact HO379.out),(by exact Kd.R_mono HO382.out (fun _ hk => hk.2)),(by exact BK367.out),(by exact BK368.out),(by repeat (((with_reducible (exact HB.out)))))⟩)
         ·skip
          refine Kd.R_lit_step (Kd.int .i64) _ 3 ?hg (N:=16) ?hd (xs:=([] : List Int)) (inner:=[]) (ok:=fun _ => True) (okp:=fun _ => True) ?hr ?hp (fun _ hk => hk) trivial (Below.refl _ _) (Nat.le_refl _) (by simp) ?_; (case hd => rfl); (case hg => rfl); (case hr => (go_simp; done)); (case hp => exact (Reps.none _ _))
          intro v381 w22 ho23 hb hg_ hnew_
          clear hg_ hnew_
          (rw [← Ny380.out] at ho23)
          have n0_:=Aside0.mk (Kd.R_lower ho23 (below_size (by repeat (((with_reducible (exact HB.out)))))))
          have n1_:=Aside0.mk (blk_below (g:=gb367) (o:=.cells #[.slice A0_0 l0_0.length c0_0,.slice A0_1 l0_1.length c0_1] 26 (0,0)) (by exact BK367.out) hb)
          have n2_:=Aside0.mk (blk_below (g:=gb368) (o:=.cells #[.slice none 0 0,.slice none 0 0] 26 (0,0)) (by exact BK368.out) hb)
          have n3_:=Aside0.mk (below_step (by repeat (((with_reducible (exact HB.out))))) hb)
          clear BK367
          clear BK368
          clear HB
          have HO382:=n0_
          have BK367:=n1_
          have BK368:=n2_
          have HB:=n3_
          clear n0_ n1_ n2_ n3_
          clear hb ho23
          refine hK.out _ _ ⟨(blk_cell BK367.out 0).trans rfl,(blk_cell BK367.out 1).trans rfl⟩ (fun hHeld => ?_)
          clear hK K
          refine norm_ (a':=?_) ?_ ?_
          rotate_left
          ·show Act.put _ (some 16) _ = _
           simp only [Act.put,List.setIfInBounds_toArray,List.set_cons_zero,List.set_cons_succ,i64_w,i32_w]
           rfl
          refine one_ (i:=0) (N:=some 5) (b613 24 2030559) rfl rfl (one_of HT_.out (by kernel_rfl)) (by decide) (fun K hK => ?_)
          refine Kd.R_lit_step (Kd.int .i64) _ 3 ?hg (N:=5) ?hd (xs:=([] : List Int)) (inner:=[]) (ok:=fun _ => True) (okp:=fun _ => True) ?hr ?hp (fun _ hk => hk) trivial (Below.refl _ _) (Nat.le_refl _) (by simp) ?_; (case hd => rfl); (case hg => rfl); (case hr => (go_simp; done)); (case hp => exact (Reps.none _ _))
          intro v370 w24 ho25 hb hg_ hnew_
          clear hg_ hnew_
          (rw [← Ny369.out] at ho25)
          have n0_:=Aside0.mk (Kd.R_elder' (by exact HO382.out) (Kd.R_base ho25) hb)
          have n1_:=Aside0.mk (Kd.R_lower (Kd.R_new' ho25 (Kd.R_lt (by exact HO382.out))) (below_size (by repeat (((with_reducible (exact HB.out)))))))
          have n2_:=Aside0.mk (blk_below (g:=gb367) (o:=.cells #[.slice A0_0 l0_0.length c0_0,.slice A0_1 l0_1.length c0_1] 26 (0,0)) (by exact BK367.out) hb)
          have n3_:=Aside0.mk (blk_below (g:=gb368) (o:=.cells #[.slice none 0 0,.slice none 0 0] 26 (0,0)) (by exact BK368.out) hb)
          have n4_:=Aside0.mk (below_step (by repeat (((with_reducible (exact HB.out))))) hb)
          clear HO382
          clear BK367
          clear BK368
          clear HB
          have HO382:=n0_
          have HO371:=n1_
          have BK367:=n2_
          have BK368:=n3_
          have HB:=n4_
          clear n0_ n1_ n2_ n3_ n4_
          clear hb ho25
          refine hK.out _ _ ⟨(blk_cell BK367.out 0).trans rfl,(blk_cell BK367.out 1).trans rfl⟩ (fun hHeld => ?_)
          clear hK K
          refine norm_ (a':=?_) ?_ ?_
          rotate_left
          ·show Act.put _ (some 5) _ = _
           simp only [Act.put,List.setIfInBounds_toArray,List.set_cons_zero,List.set_cons_succ,i64_w,i32_w]
           rfl
          refine one_ (i:=5) (N:=some 10) (b613 24 2030591) rfl rfl (one_of HT_.out (by kernel_rfl)) (by decide) (fun K hK => ?_)
          refine Kd.R_append_rows_step (Kd.int .i64) (w0:=w) w.heap.size (by rfl) (.tmp 5) (.tmp 9) 24 3 (.int .i64 0) 8 rfl Tryz.underlying24 info3 rfl (by decide) (by omega) v370 y369 (l0_0.drop (a1 : Int).toNat) _ _ _ (fun k_ => some k_ ≠ (v381 : Value).ownBlock) (fun _ => False) rfl rfl ?aO ?aR (fun _ _ h => h) (fun _ h => h.elim) ?aF ?aB ?aS ?aL ?_
          (case aR => ((rw [← show (l0_0.drop (a1 : Int).toNat).length = (l0_0.length - a1.toNat) from List.length_drop]; repeat ((exact (Kd.C_below HR372.out HB.out))))))
          (case aB => exact (by repeat (((with_reducible (exact HB.out))))))
          (case aF => exact (fun k_ hk => Kd.fresh' (Kd.R_lt (by exact HO382.out)) k_ hk))
          (case aO => exact (by exact Kd.R_mono HO371.out (fun _ hk => hk.2)))
          (case aS => exact (below_size (by repeat (((with_reducible (exact HB.out)))))))
          (case aL => have:=LMc5.out; have hlx_:=(show (l0_0.drop (a1 : Int).toNat).length = (l0_0.length - a1.toNat) from List.length_drop); omega)
          intro v374 w26 ho hb hg hat
          rw [← Ny373.out] at ho
          have n0_:=Aside0.mk (blk_grown (g:=gb367) (o:=.cells #[.slice A0_0 l0_0.length c0_0,.slice A0_1 l0_1.length c0_1] 26 (0,0)) (by exact BK367.out) hg (Kd.R_ne HO371.out BK367.out (by decide)))
          have n1_:=Aside0.mk (blk_grown (g:=gb368) (o:=.cells #[.slice none 0 0,.slice none 0 0] 26 (0,0)) (by exact BK368.out) hg (Kd.R_ne HO371.out BK368.out (by decide)))
          have n2_:=Aside0.mk (Kd.R_after (ok:=(fun _ => True)) (by exact HO382.out) hg hat)
          have n3_:=Aside0.mk (hb)
          have n4_:=Aside0.mk (ho)
          clear BK367
          clear BK368
          clear HO382
          clear HB
          clear HO371
          have BK367:=n0_
          have BK368:=n1_
          have HO382:=n2_
          have HB:=n3_
          have HO375:=n4_
          clear n0_ n1_ n2_ n3_ n4_
          clear ho hb hg hat
          refine hK.out _ _ ⟨(blk_cell BK367.out 0).trans rfl,(blk_cell BK367.out 1).trans rfl⟩ (fun hHeld => ?_)
          clear hK K
          refine norm_ (a':=?_) ?_ ?_
          rotate_left
          ·show Act.put _ (some 10) _ = _
           simp only [Act.put,List.setIfInBounds_toArray,List.set_cons_zero,List.set_cons_succ,i64_w,i32_w]
           rfl
          refine one_ (i:=10) (N:=some 15) (b613 24 2031615) rfl rfl (one_of HT_.out (by kernel_rfl)) (by decide) (fun K hK => ?_)
          refine Kd.R_append_rows_step (Kd.int .i64) (w0:=w) w.heap.size (by rfl) (.tmp 10) (.tmp 14) 24 3 (.int .i64 0) 8 rfl Tryz.underlying24 info3 rfl (by decide) (by omega) v374 y373 (l0_0.take (a1 : Int).toNat) _ _ _ (fun k_ => some k_ ≠ (v381 : Value).ownBlock) (fun _ => False) rfl rfl ?aO ?aR (fun _ _ h => h) (fun _ h => h.elim) ?aF ?aB ?aS ?aL ?_
          (case aR => ((have h9_:=(Kd.C_below HR376.out HB.out); rw [show (l0_0.take (a1 : Int).toNat).length = a1.toNat from (by rw [List.length_take]; have h_ : (a1 : Int) ≤ (l0_0.length : Int):=of_decide_eq_true (by (with_reducible assumption)); omega)] at h9_; exact h9_)))
          (case aB => exact (by repeat (((with_reducible (exact HB.out))))))
          (case aF => exact (fun k_ hk => Kd.fresh' (Kd.R_lt (by exact HO382.out)) k_ hk))
          (case aO => exact (by exact HO375.out))
          (case aS => exact (below_size (by repeat (((with_reducible (exact HB.out)))))))
          (case aL => have:=LMc8.out; have hlx_:=(show (l0_0.take (a1 : Int).toNat).length = a1.toNat from (by rw [List.length_take]; have h_ : (a1 : Int) ≤ (l0_0.length : Int):=of_decide_eq_true (by (with_reducible assumption)); omega)); omega)
          intro v378 w27 ho hb hg hat
          rw [← Ny377.out] at ho
          have n0_:=Aside0.mk (blk_grown (g:=gb367) (o:=.cells #[.slice A0_0 l0_0.length c0_0,.slice A0_1 l0_1.length c0_1] 26 (0,0)) (by exact BK367.out) hg (Kd.R_ne HO375.out BK367.out (by decide)))
          have n1_:=Aside0.mk (blk_grown (g:=gb368) (o:=.cells #[.slice none 0 0,.slice none 0 0] 26 (0,0)) (by exact BK368.out) hg (Kd.R_ne HO375.out BK368.out (by decide)))
          have n2_:=Aside0.mk (Kd.R_after (ok:=(fun _ => True)) (by exact HO382.out) hg hat)
          have n3_:=Aside0.mk (hb)
          have n4_:=Aside0.mk (ho)
          clear BK367
          clear BK368
          clear HO382
          clear HB
          clear HO375
          have BK367:=n0_
          have BK368:=n1_
          have HO382:=n2_
          have HB:=n3_
          have HO379:=n4_
          clear n0_ n1_ n2_ n3_ n4_
          clear ho hb hg hat
          refine hK.out _ _ ⟨(blk_cell BK367.out 0).trans rfl,(blk_cell BK367.out 1).trans rfl⟩ (fun hHeld => ?_)
          clear hK K
          refine norm_ (a':=?_) ?_ ?_
          rotate_left
          ·show Act.put _ (some 15) _ = _
           simp only [Act.put,List.setIfInBounds_toArray,List.set_cons_zero,List.set_cons_succ,i64_w,i32_w]
           rfl
          exact norm_ (by simp only [putAll,Act.put,List.setIfInBounds_toArray,List.set_cons_zero,List.set_cons_succ]) (hCont (v370,v374,v378,v381) _ ⟨hHeld,(by exact HO379.out),(by exact Kd.R_mono HO382.out (fun _ hk => hk.2)),(by exact BK367.out),(by exact BK368.out),(by repeat (((with_reducible (exact HB.out)))))⟩)
        rintro ⟨v370,v374,v378,v381⟩ w28 ⟨hS_,h0_,h1_,h2_,h3_,h4_⟩
        have n0_ : Aside0 (Kd.R (Kd.int .i64) 3 w28 w.heap.size (fun k_ => some k_ ≠ (v381 : Value).ownBlock) v378 y377):=⟨h0_⟩
        have n1_ : Aside0 (Kd.R (Kd.int .i64) 3 w28 w.heap.size (fun k_ => some k_ ≠ (v378 : Value).ownBlock) v381 y380):=⟨h1_⟩
        have n2_ : Aside0 (w28.heap[gb367]? = some (.cells #[.slice A0_0 l0_0.length c0_0,.slice A0_1 l0_1.length c0_1] 26 (0,0))):=⟨h2_⟩
        have n3_ : Aside0 (w28.heap[gb368]? = some (.cells #[.slice none 0 0,.slice none 0 0] 26 (0,0))):=⟨h3_⟩
        have n4_ : Aside0 (Below w.heap.size w w28):=⟨h4_⟩
        clear BK367
        clear BK368
        clear HB
        clear h0_ h1_ h2_ h3_ h4_
        have HO379:=n0_
        have HO382:=n1_
        have BK367:=n2_
        have BK368:=n3_
        have HB:=n4_
        clear n0_ n1_ n2_ n3_ n4_
        have hHeld : w28.cell? ⟨gb367,0,none⟩ = some (.slice A0_0 l0_0.length c0_0) ∧ w28.cell? ⟨gb367,1,none⟩ = some (.slice A0_1 l0_1.length c0_1):=hS_
        refine norm_ (a':=?_) ?_ ?_
        rotate_left
        ·simp only [putAll,Act.put,List.setIfInBounds_toArray,List.set_cons_zero,List.set_cons_succ]
         rfl
        refine one_ (i:=16) (N:=some 21) (b613 24 2097151) rfl rfl (one_of HT_.out (by kernel_rfl)) (by decide) (fun K hK => ?_)
        refine Kd.R_append_rows_step (Kd.int .i64) (w0:=w) w.heap.size (by rfl) (.tmp 16) (.tmp 20) 24 3 (.int .i64 0) 8 rfl Tryz.underlying24 info3 rfl (by decide) (by omega) v381 y380 (l0_1.drop (a1 : Int).toNat) _ _ _ (fun k_ => some k_ ≠ (v378 : Value).ownBlock) (fun _ => False) rfl rfl ?aO ?aR (fun _ _ h => h) (fun _ h => h.elim) ?aF ?aB ?aS ?aL ?_
        (case aR => ((rw [← show (l0_1.drop (a1 : Int).toNat).length = (l0_1.length - a1.toNat) from List.length_drop]; repeat ((exact (Kd.C_below HR383.out HB.out))))))
        (case aB => exact (by repeat (((with_reducible (exact HB.out))))))
        (case aF => exact (fun k_ hk => Kd.fresh' (Kd.R_lt (by exact HO379.out)) k_ hk))
        (case aO => exact (by exact HO382.out))
        (case aS => exact (below_size (by repeat (((with_reducible (exact HB.out)))))))
        (case aL => have:=LMc11.out; have hlx_:=(show (l0_1.drop (a1 : Int).toNat).length = (l0_1.length - a1.toNat) from List.length_drop); omega)
        intro v385 w29 ho hb hg hat
        rw [← Ny384.out] at ho
        have n0_:=Aside0.mk (blk_grown (g:=gb367) (o:=.cells #[.slice A0_0 l0_0.length c0_0,.slice A0_1 l0_1.length c0_1] 26 (0,0)) (by exact BK367.out) hg (Kd.R_ne HO382.out BK367.out (by decide)))
        have n1_:=Aside0.mk (blk_grown (g:=gb368) (o:=.cells #[.slice none 0 0,.slice none 0 0] 26 (0,0)) (by exact BK368.out) hg (Kd.R_ne HO382.out BK368.out (by decide)))
        have n2_:=Aside0.mk (Kd.R_after (ok:=(fun _ => True)) (by exact Kd.R_mono HO379.out (fun _ hk => ⟨trivial,hk⟩)) hg hat)
        have n3_:=Aside0.mk (hb)
        have n4_:=Aside0.mk (ho)
        clear BK367
        clear BK368
        clear HO379
        clear HB
        clear HO382
        have BK367:=n0_
        have BK368:=n1_
        have HO379:=n2_
        have HB:=n3_
        have HO386:=n4_
        clear n0_ n1_ n2_ n3_ n4_
        clear ho hb hg hat
        refine hK.out _ _ ⟨(blk_cell BK367.out 0).trans rfl,(blk_cell BK367.out 1).trans rfl⟩ (fun hHeld => ?_)
        clear hK K
        refine norm_ (a':=?_) ?_ ?_
        rotate_left
        ·show Act.put _ (some 21) _ = _
         simp only [Act.put,List.setIfInBounds_toArray,List.set_cons_zero,List.set_cons_succ,i64_w,i32_w]
         rfl
        refine one_ (i:=21) (N:=some 26) (b613 24 4194303) rfl rfl (one_of HT_.out (by kernel_rfl)) (by decide) (fun K hK => ?_)
        refine Kd.R_append_rows_step (Kd.int .i64) (w0:=w) w.heap.size (by rfl) (.tmp 21) (.tmp 25) 24 3 (.int .i64 0) 8 rfl Tryz.underlying24 info3 rfl (by decide) (by omega) v385 y384 (l0_1.take (a1 : Int).toNat) _ _ _ (fun k_ => some k_ ≠ (v378 : Value).ownBlock) (fun _ => False) rfl rfl ?aO ?aR (fun _ _ h => h) (fun _ h => h.elim) ?aF ?aB ?aS ?aL ?_
        (case aR => ((have h9_:=(Kd.C_below HR387.out HB.out); rw [show (l0_1.take (a1 : Int).toNat).length = a1.toNat from (by rw [List.length_take]; have h_ : (a1 : Int) ≤ (l0_1.length : Int):=of_decide_eq_true (by (with_reducible assumption)); omega)] at h9_; exact h9_)))
        (case aB => exact (by repeat (((with_reducible (exact HB.out))))))
        (case aF => exact (fun k_ hk => Kd.fresh' (Kd.R_lt (by exact HO379.out)) k_ hk))
        (case aO => exact (by exact HO386.out))
        (case aS => exact (below_size (by repeat (((with_reducible (exact HB.out)))))))
        (case aL => have:=LMc14.out; have hlx_:=(show (l0_1.take (a1 : Int).toNat).length = a1.toNat from (by rw [List.length_take]; have h_ : (a1 : Int) ≤ (l0_1.length : Int):=of_decide_eq_true (by (with_reducible assumption)); omega)); omega)
        intro v389 w30 ho hb hg hat
        rw [← Ny388.out] at ho
        have n0_:=Aside0.mk (blk_grown (g:=gb367) (o:=.cells #[.slice A0_0 l0_0.length c0_0,.slice A0_1 l0_1.length c0_1] 26 (0,0)) (by exact BK367.out) hg (Kd.R_ne HO386.out BK367.out (by decide)))
        have n1_:=Aside0.mk (blk_grown (g:=gb368) (o:=.cells #[.slice none 0 0,.slice none 0 0] 26 (0,0)) (by exact BK368.out) hg (Kd.R_ne HO386.out BK368.out (by decide)))
        have n2_:=Aside0.mk (Kd.R_after (ok:=(fun _ => True)) (by exact HO379.out) hg hat)
        have n3_:=Aside0.mk (hb)
        have n4_:=Aside0.mk (ho)
        clear BK367
        clear BK368
        clear HO379
        clear HB
        clear HO386
        have BK367:=n0_
        have BK368:=n1_
        have HO379:=n2_
        have HB:=n3_
        have HO390:=n4_
        clear n0_ n1_ n2_ n3_ n4_
        clear ho hb hg hat
        obtain ⟨Ao31,co31,eo31⟩:=Kd.R_slice HO390.out
        (subst eo31)
        obtain ⟨Ao32,co32,eo32⟩:=Kd.R_slice HO379.out
        (subst eo32)
        refine hK.out _ _ ⟨(blk_cell BK367.out 0).trans rfl,(blk_cell BK367.out 1).trans rfl⟩ (fun hHeld => ?_)
        clear hK K
        refine norm_ (a':=?_) ?_ ?_
        rotate_left
        ·show Act.put _ (some 26) _ = _
         simp only [Act.put,List.setIfInBounds_toArray,List.set_cons_zero,List.set_cons_succ,i64_w,i32_w]
         rfl
        refine pure_ (i:=22) (N:=some 27) (v:=?_) (a':=?_) (b613 24 8388607) rfl rfl (any_of HT_.out (by kernel_rfl)) (fun _ _ _ h => h) (Or.inl ⟨by rfl,?_⟩) ?_ ?_
        rotate_left
        ·intro w'
         go_simp
         with_reducible rfl
        rotate_left
        ·simp only [Act.put,List.setIfInBounds_toArray,List.set_cons_zero,List.set_cons_succ,i64_w,i32_w]
         rfl
        refine one_ (i:=23) (N:=none) (b613 24 16777215) rfl rfl (one_of HT_.out (by kernel_rfl)) (by decide) (fun K hK => ?_)
        have hs33 : w30.cell? ⟨gb368,0,none⟩ = some (.slice none 0 0):=(blk_cell BK368.out 0).trans rfl
        have hfs33:=blk_frozen BK368.out 0
        have hns33_0:=NB367_368.out
        have hms33_0:=NB368_367.out
        have hs34 : w30.cell? ⟨gb368,1,none⟩ = some (.slice none 0 0):=(blk_cell BK368.out 1).trans rfl
        have hfs34:=blk_frozen BK368.out 1
        have hns34_0:=NB367_368.out
        have hms34_0:=NB368_367.out
        refine skip_ (w1:=?_) (by rfl) rfl ?_ ?_
        rotate_left
        ·go_simp
         rfl
        refine hK.out _ _ ⟨((cell_far (p:=⟨gb368,_,none⟩) NB367_368.out _).trans (((cell_far (p:=⟨gb368,_,none⟩) NB367_368.out _).trans (hHeld.1)))),((cell_far (p:=⟨gb368,_,none⟩) NB367_368.out _).trans (((cell_far (p:=⟨gb368,_,none⟩) NB367_368.out _).trans (hHeld.2))))⟩ (fun hHeld => ?_)
        clear hK K
        refine done_ (done_of HT_.out (by kernel_rfl)) ?_
        try go_wp2
        refine bodyPost_ret (results_cell_row rfl _ _ gb368 26 #[.slice Ao32 y377.length co32,.slice Ao31 y388.length co31] (0,0) _ rfl (by refine blk_put (cs:=#[.slice Ao32 y377.length co32,.slice none 0 0]) ?_ 1 _ rfl; refine blk_put (cs:=#[.slice none 0 0,.slice none 0 0]) ?_ 0 _ rfl; exact BK368.out) Tryz.underlying26 rfl (by kernel_rfl)) rfl ?_
        exact ⟨_,_,by (rfl),by exact Kd.R_mono (Kd.R_far (p:=⟨gb368,1,none⟩) (Kd.R_far (p:=⟨gb368,0,none⟩) (Kd.R_types HO379.out BK368.out (by decide)) (fun _ hk => hk.2) (.slice Ao32 y377.length co32)) (fun _ hk => hk.2) (.slice Ao31 y388.length co31)) (fun _ hk => hk.1.2),by exact Kd.R_mono (Kd.R_far (p:=⟨gb368,1,none⟩) (Kd.R_far (p:=⟨gb368,0,none⟩) (Kd.R_types HO390.out BK368.out (by decide)) (fun _ hk => hk.2) (.slice Ao32 y377.length co32)) (fun _ hk => hk.2) (.slice Ao31 y388.length co31)) (fun _ hk => hk.1),by repeat (with_reducible first|exact HB.out|refine below_set ?_ GE368.out)⟩
       ·rw [if_neg c14] at H
        exact absurd H (by simp)
      ·rw [if_neg c11] at H
       exact absurd H (by simp)
     ·rw [if_neg c10] at H
      exact absurd H (by simp)
    ·rw [if_neg c8] at H
     exact absurd H (by simp)
   ·rw [if_neg c5] at H
    exact absurd H (by simp)
  ·rw [if_neg c4] at H
   exact absurd H (by simp)
 ·rw [if_neg c3] at H
  exact absurd H (by simp)

end Go.Proofs.YtfindomajbjacaaGreatDoor.X
