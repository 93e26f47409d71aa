-- Written by a program of ours (wip/bin/xprint.py,over the kit's print.py) out of the translation. Not trusted: Lean checks it.
import Derived.Test.YtfindomajbjacaaGreatDoorX0
import Derived.Test.YtfindomajbjacaaGreatDoorLaid
import Derived.Test.YtfindomajbjacaaGreatDoorXMore
import Derived.Test.YtfindomajbjacaaGreatDoorFimpldecimal
import Derived.Test.YtfindomajbjacaaGreatDoorGJoin
namespace Go.Proofs.YtfindomajbjacaaGreatDoor.X
open Go.RowKit Go.Proofs.YtfindomajbjacaaGreatDoorW.PrintWords Go.Proofs.YtfindomajbjacaaGreatDoorW.PrintLast Go.Proofs.YtfindomajbjacaaGreatDoorW.PrintMore
def lba9e : Nat → Nat → List Bool
 | 0,_ => []
 | n+1,m => (m%2==1) :: lba9e n (m/2)
def ba9e (n m : Nat) : Array Bool := ⟨lba9e n m⟩
attribute [local go_sem] max2_int min2_int max_two min_two max_three min_three max_four min_four   -- for this text's walks alone
set_option linter.unusedVariables false
set_option linter.unusedSimpArgs false

/-! ### impl_sizeWords: function 63 -/
def impl_sizeWords.f  : Option (List ByteArray):=some (([(⟨#[]⟩ : ByteArray),(⟨#[115,109,97,108,108]⟩ : ByteArray),(⟨#[108,97,114,103,101]⟩ : ByteArray)] : List ByteArray))
set_option maxHeartbeats 8000000 in
set_option maxRecDepth 100000 in
theorem impl_sizeWords.calls  (r : List ByteArray) (w : World) (h : impl_sizeWords.f  = some r) :
  Calls Tryz.prog 63 #[] w fun e w' => ∃ v0_ : Value,e = .returned (v0_) ∧ Kd.R Kd.string 9 w' w.heap.size (fun _ => True) v0_ r ∧ Below w.heap.size w w':=by
 have HB:=Aside0.mk (Below.refl w.heap.size w)
 have H : (some (([(⟨#[]⟩ : ByteArray),(⟨#[115,109,97,108,108]⟩ : ByteArray),(⟨#[108,97,114,103,101]⟩ : ByteArray)] : List ByteArray))) = some r:=h
 clear h
 obtain ⟨y782,hy782⟩ : ∃ y_ : List ByteArray,y_ = (([(⟨#[]⟩ : ByteArray),(⟨#[115,109,97,108,108]⟩ : ByteArray),(⟨#[108,97,114,103,101]⟩ : ByteArray)] : List ByteArray)):=⟨_,rfl⟩
 replace H : (some y782) = some r:=by (rw [hy782]; with_reducible exact H)
 have Ny782:=Aside0.mk hy782
 clear hy782
 obtain rfl:=Option.some.inj H
 go_enter Tryz.func63,Tryz.ntmps63
 go_wp2_with ((((with_reducible refine gate_dst (N:=1) rfl ?_); refine Kd.R_lit Kd.string _ 9 ?hg (N:=1) ?hd (xs:=([(⟨#[]⟩ : ByteArray),(⟨#[115,109,97,108,108]⟩ : ByteArray),(⟨#[108,97,114,103,101]⟩ : ByteArray)] : List ByteArray)) (inner:=[.string (⟨#[]⟩ : ByteArray),.string (⟨#[115,109,97,108,108]⟩ : ByteArray),.string (⟨#[108,97,114,103,101]⟩ : ByteArray)]) (ok:=fun _ => True) (okp:=fun _ => True) ?hr ?hp (fun _ hk => hk) trivial (Below.refl _ _) (Nat.le_refl _) (by simp) ?_; (case hd => rfl); (case hg => rfl); (case hr => (go_simp; done)); (case hp => exact (Reps.one (show Kd.M Kd.string _ _ _ (⟨#[]⟩ : ByteArray) [.string (⟨#[]⟩ : ByteArray)] from rfl) (Reps.one (show Kd.M Kd.string _ _ _ (⟨#[115,109,97,108,108]⟩ : ByteArray) [.string (⟨#[115,109,97,108,108]⟩ : ByteArray)] from rfl) (Reps.one (show Kd.M Kd.string _ _ _ (⟨#[108,97,114,103,101]⟩ : ByteArray) [.string (⟨#[108,97,114,103,101]⟩ : ByteArray)] from rfl) (Reps.none _ _))))); intro v783 w1 ho2 hb hg_ hnew_; clear hg_ hnew_; (rw [← Ny782.out] at ho2); have n0_:=Aside0.mk (Kd.R_lower ho2 (below_size (by repeat (((with_reducible (exact HB.out))))))); have n1_:=Aside0.mk (below_step (by repeat (((with_reducible (exact HB.out))))) hb); clear HB; have HO784:=n0_; have HB:=n1_; clear n0_ n1_; clear hb ho2)))
 go_ret
 exact ⟨_,by (rfl),by exact HO784.out,by repeat (((with_reducible (exact HB.out))))⟩

/-! ### impl_cargoWords: function 64 -/
def impl_cargoWords.f  : Option (List ByteArray):=some (([(⟨#[]⟩ : ByteArray),(⟨#[112,108,97,105,110]⟩ : ByteArray),(⟨#[114,101,101,102,101,114]⟩ : ByteArray),(⟨#[100,97,110,103,101,114]⟩ : ByteArray)] : List ByteArray))
set_option maxHeartbeats 8000000 in
set_option maxRecDepth 100000 in
theorem impl_cargoWords.calls  (r : List ByteArray) (w : World) (h : impl_cargoWords.f  = some r) :
  Calls Tryz.prog 64 #[] w fun e w' => ∃ v0_ : Value,e = .returned (v0_) ∧ Kd.R Kd.string 9 w' w.heap.size (fun _ => True) v0_ r ∧ Below w.heap.size w w':=by
 have HB:=Aside0.mk (Below.refl w.heap.size w)
 have H : (some (([(⟨#[]⟩ : ByteArray),(⟨#[112,108,97,105,110]⟩ : ByteArray),(⟨#[114,101,101,102,101,114]⟩ : ByteArray),(⟨#[100,97,110,103,101,114]⟩ : ByteArray)] : List ByteArray))) = some r:=h
 clear h
 obtain ⟨y785,hy785⟩ : ∃ y_ : List ByteArray,y_ = (([(⟨#[]⟩ : ByteArray),(⟨#[112,108,97,105,110]⟩ : ByteArray),(⟨#[114,101,101,102,101,114]⟩ : ByteArray),(⟨#[100,97,110,103,101,114]⟩ : ByteArray)] : List ByteArray)):=⟨_,rfl⟩
 replace H : (some y785) = some r:=by (rw [hy785]; with_reducible exact H)
 have Ny785:=Aside0.mk hy785
 clear hy785
 obtain rfl:=Option.some.inj H
 go_enter Tryz.func64,Tryz.ntmps64
 go_wp2_with ((((with_reducible refine gate_dst (N:=1) rfl ?_); refine Kd.R_lit Kd.string _ 9 ?hg (N:=1) ?hd (xs:=([(⟨#[]⟩ : ByteArray),(⟨#[112,108,97,105,110]⟩ : ByteArray),(⟨#[114,101,101,102,101,114]⟩ : ByteArray),(⟨#[100,97,110,103,101,114]⟩ : ByteArray)] : List ByteArray)) (inner:=[.string (⟨#[]⟩ : ByteArray),.string (⟨#[112,108,97,105,110]⟩ : ByteArray),.string (⟨#[114,101,101,102,101,114]⟩ : ByteArray),.string (⟨#[100,97,110,103,101,114]⟩ : ByteArray)]) (ok:=fun _ => True) (okp:=fun _ => True) ?hr ?hp (fun _ hk => hk) trivial (Below.refl _ _) (Nat.le_refl _) (by simp) ?_; (case hd => rfl); (case hg => rfl); (case hr => (go_simp; done)); (case hp => exact (Reps.one (show Kd.M Kd.string _ _ _ (⟨#[]⟩ : ByteArray) [.string (⟨#[]⟩ : ByteArray)] from rfl) (Reps.one (show Kd.M Kd.string _ _ _ (⟨#[112,108,97,105,110]⟩ : ByteArray) [.string (⟨#[112,108,97,105,110]⟩ : ByteArray)] from rfl) (Reps.one (show Kd.M Kd.string _ _ _ (⟨#[114,101,101,102,101,114]⟩ : ByteArray) [.string (⟨#[114,101,101,102,101,114]⟩ : ByteArray)] from rfl) (Reps.one (show Kd.M Kd.string _ _ _ (⟨#[100,97,110,103,101,114]⟩ : ByteArray) [.string (⟨#[100,97,110,103,101,114]⟩ : ByteArray)] from rfl) (Reps.none _ _)))))); intro v786 w1 ho2 hb hg_ hnew_; clear hg_ hnew_; (rw [← Ny785.out] at ho2); have n0_:=Aside0.mk (Kd.R_lower ho2 (below_size (by repeat (((with_reducible (exact HB.out))))))); have n1_:=Aside0.mk (below_step (by repeat (((with_reducible (exact HB.out))))) hb); clear HB; have HO787:=n0_; have HB:=n1_; clear n0_ n1_; clear hb ho2)))
 go_ret
 exact ⟨_,by (rfl),by exact HO787.out,by repeat (((with_reducible (exact HB.out))))⟩

/-! ### impl_containerText: function 66 -/
def impl_containerText.f (a0_0 : ByteArray) (a0_1 : Int) (a0_2 : Int) (a0_3 : Int) (a0_4 : Int) : Option (ByteArray):=(impl_sizeWords.f).bind fun t789 => (if 0 ≤ a0_1 then (if a0_1 < (t789.length : Int) then ((impl_decimal.f a0_2).bind fun t793 => ((impl_cargoWords.f).bind fun t794 => (if 0 ≤ a0_3 then (if a0_3 < (t794.length : Int) then ((impl_decimal.f a0_4).bind fun t798 => ((strings_Join.f ([a0_0,rdOf ByteArray.empty t789 a0_1,t793,rdOf ByteArray.empty t794 a0_3,t798] : List ByteArray) (⟨#[32]⟩ : ByteArray)).bind fun t802 => (some t802))) else (none)) else (none)))) else (none)) else (none))
def impl_containerText.T1 : Bool × List (List Nat × List Nat):=(true,[([],[]),([0],[0]),([],[]),([],[]),([3],[3]),([2,4],[2,4]),([5],[5]),([],[]),([7],[7]),([8,2],[8]),([9],[]),([],[]),([11],[11]),([10,12],[10,12]),([13],[13]),([],[]),([15],[15]),([16,10],[16]),([1,6,9,14,17],[1,6,9,14,17]),([18,17],[18]),([19,19,0,1,2,3,4,5,6,7,8,9,10,11,12,13,14,15,16,17,18,19],[19])])
def impl_containerText.B1 : List Nat:=[0,1,0,0,8,28,60,0,128,388,900,0,2048,8068,16260,0,32768,100228,262143,524287,1048575]
theorem impl_containerText.tab1 : rtab .any (opsOf Tryz.f66 1) = impl_containerText.T1:=by kernel_rfl
theorem impl_containerText.bits1 : waitsOk impl_containerText.T1.2 impl_containerText.B1 = true:=by kernel_rfl
set_option maxHeartbeats 8000000 in
set_option maxRecDepth 100000 in
theorem impl_containerText.calls (a0_0 : ByteArray) (a0_1 : Int) (a0_2 : Int) (a0_3 : Int) (a0_4 : Int) (r : ByteArray) (w : World) (hL : Laid w) (h : impl_containerText.f a0_0 a0_1 a0_2 a0_3 a0_4 = some r) :
  Calls Tryz.prog 66 #[.agg #[.string a0_0,.int .i64 a0_1,.int .i64 a0_2,.int .i64 a0_3,.int .i64 a0_4]] w fun e w' => e = .returned (.string r) ∧ Below w.heap.size w w':=by
 have HL:=Aside0.mk hL
 clear hL
 have hu50:=Tryz.underlying50
 have HB:=Aside0.mk (Below.refl w.heap.size w)
 have H : ((impl_sizeWords.f).bind fun t789 => (if 0 ≤ a0_1 then (if a0_1 < (t789.length : Int) then ((impl_decimal.f a0_2).bind fun t793 => ((impl_cargoWords.f).bind fun t794 => (if 0 ≤ a0_3 then (if a0_3 < (t794.length : Int) then ((impl_decimal.f a0_4).bind fun t798 => ((strings_Join.f ([a0_0,rdOf ByteArray.empty t789 a0_1,t793,rdOf ByteArray.empty t794 a0_3,t798] : List ByteArray) (⟨#[32]⟩ : ByteArray)).bind fun t802 => (some t802))) else (none)) else (none)))) else (none)) else (none))) = some r:=h
 clear h
 replace H:=Option.bind_eq_some_iff.mp H
 obtain ⟨t789,A20,H⟩:=H
 replace H : (if 0 ≤ a0_1 then (if a0_1 < (t789.length : Int) then ((impl_decimal.f a0_2).bind fun t793 => ((impl_cargoWords.f).bind fun t794 => (if 0 ≤ a0_3 then (if a0_3 < (t794.length : Int) then ((impl_decimal.f a0_4).bind fun t798 => ((strings_Join.f ([a0_0,rdOf ByteArray.empty t789 a0_1,t793,rdOf ByteArray.empty t794 a0_3,t798] : List ByteArray) (⟨#[32]⟩ : ByteArray)).bind fun t802 => (some t802))) else (none)) else (none)))) else (none)) else (none)) = some r:=H
 have A2:=Aside0.mk A20
 clear A20
 by_cases c3 : 0 ≤ a0_1
 ·rw [if_pos c3] at H
  have c3b0 : decide (0 ≤ a0_1) = true:=decide_eq_true c3
  clear c3
  by_cases c4 : a0_1 < (t789.length : Int)
  ·rw [if_pos c4] at H
   have c4b0 : decide (a0_1 < (t789.length : Int)) = true:=decide_eq_true c4
   clear c4
   replace H:=Option.bind_eq_some_iff.mp H
   obtain ⟨t793,A50,H⟩:=H
   replace H : ((impl_cargoWords.f).bind fun t794 => (if 0 ≤ a0_3 then (if a0_3 < (t794.length : Int) then ((impl_decimal.f a0_4).bind fun t798 => ((strings_Join.f ([a0_0,rdOf ByteArray.empty t789 a0_1,t793,rdOf ByteArray.empty t794 a0_3,t798] : List ByteArray) (⟨#[32]⟩ : ByteArray)).bind fun t802 => (some t802))) else (none)) else (none))) = some r:=H
   have A5:=Aside0.mk A50
   clear A50
   replace H:=Option.bind_eq_some_iff.mp H
   obtain ⟨t794,A60,H⟩:=H
   replace H : (if 0 ≤ a0_3 then (if a0_3 < (t794.length : Int) then ((impl_decimal.f a0_4).bind fun t798 => ((strings_Join.f ([a0_0,rdOf ByteArray.empty t789 a0_1,t793,rdOf ByteArray.empty t794 a0_3,t798] : List ByteArray) (⟨#[32]⟩ : ByteArray)).bind fun t802 => (some t802))) else (none)) else (none)) = some r:=H
   have A6:=Aside0.mk A60
   clear A60
   by_cases c7 : 0 ≤ a0_3
   ·rw [if_pos c7] at H
    have c7b0 : decide (0 ≤ a0_3) = true:=decide_eq_true c7
    clear c7
    by_cases c8 : a0_3 < (t794.length : Int)
    ·rw [if_pos c8] at H
     have c8b0 : decide (a0_3 < (t794.length : Int)) = true:=decide_eq_true c8
     clear c8
     replace H:=Option.bind_eq_some_iff.mp H
     obtain ⟨t798,A90,H⟩:=H
     replace H : ((strings_Join.f ([a0_0,rdOf ByteArray.empty t789 a0_1,t793,rdOf ByteArray.empty t794 a0_3,t798] : List ByteArray) (⟨#[32]⟩ : ByteArray)).bind fun t802 => (some t802)) = some r:=H
     have A9:=Aside0.mk A90
     clear A90
     obtain ⟨y799,hy799⟩ : ∃ y_ : List ByteArray,y_ = ([a0_0,rdOf ByteArray.empty t789 a0_1,t793,rdOf ByteArray.empty t794 a0_3,t798] : List ByteArray):=⟨_,rfl⟩
     replace H : ((strings_Join.f y799 (⟨#[32]⟩ : ByteArray)).bind fun t802 => (some t802)) = some r:=by (rw [hy799]; with_reducible exact H)
     have Ny799:=Aside0.mk hy799
     clear hy799
     replace H:=Option.bind_eq_some_iff.mp H
     obtain ⟨t802,A100,H⟩:=H
     replace H : (some t802) = some r:=H
     have A10:=Aside0.mk A100
     clear A100
     obtain rfl:=Option.some.inj H
     go_enter Tryz.func66,Tryz.ntmps66
     try go_wp2_with ((((with_reducible refine gate_dst (N:=1) rfl ?_); refine box_event ?hg (N:=1) ?hd (cs:=#[.string a0_0,.int .i64 a0_1,.int .i64 a0_2,.int .i64 a0_3,.int .i64 a0_4]) (t:=50) ?hr ?_; (case hd => rfl); (case hg => rfl); (case hr => (go_simp; done)); intro gb788 hg w11 hbox hb; have n0_:=Aside0.mk (below_step (by repeat (((with_reducible (exact HB.out))))) hb); have n1_:=Aside0.mk (hbox); have n2_:=Aside0.mk ((by rw [hg]; exact (below_size (by repeat (((with_reducible (exact HB.out)))))) : w.heap.size ≤ gb788)); have n3_:=Aside0.mk ((by rw [hg]; exact (below_size (by repeat (((with_reducible (exact HB.out)))))) : w.heap.size ≤ gb788)); clear HB; have HB:=n0_; have BK788:=n1_; have GW788:=n2_; have GE788:=n3_; clear n0_ n1_ n2_ n3_; clear hb hbox hg)))
     have n0_:=Aside0.mk (blk_drew BK788.out)
     have n1_:=Aside0.mk (below_drew1 HB.out)
     clear BK788
     clear HB
     have BK788:=n0_
     have HB:=n1_
     clear n0_ n1_
     refine start_ (n:=21) (S:=fun w' => w'.cell? ⟨gb788,0,none⟩ = some (.string a0_0) ∧ w'.cell? ⟨gb788,1,none⟩ = some (.int .i64 a0_1) ∧ w'.cell? ⟨gb788,2,none⟩ = some (.int .i64 a0_2) ∧ w'.cell? ⟨gb788,3,none⟩ = some (.int .i64 a0_3) ∧ w'.cell? ⟨gb788,4,none⟩ = some (.int .i64 a0_4)) (ds:=[]) (ba9e 21 0) (by kernel_rfl) rfl rfl ⟨(blk_cell BK788.out 0).trans rfl,(blk_cell BK788.out 1).trans rfl,(blk_cell BK788.out 2).trans rfl,(blk_cell BK788.out 3).trans rfl,(blk_cell BK788.out 4).trans rfl⟩ (fun hHeld => ?_); refine with_tabW impl_containerText.tab1 impl_containerText.bits1 (fun HT_ HW_ => ?_)
     generalize w11.drew = w12 at BK788 HB hHeld ⊢
     refine pure_ (i:=0) (N:=some 3) (v:=?_) (a':=?_) (ba9e 21 1) rfl rfl (any_of HT_.out (by kernel_rfl)) (fun _ _ _ h => h) (Or.inl ⟨by rfl,?_⟩) ?_ ?_
     rotate_left
     ·intro w'
      go_simp
      with_reducible rfl
     rotate_left
     ·simp only [Act.put,List.setIfInBounds_toArray,List.set_cons_zero,List.set_cons_succ,i64_w,i32_w]
      rfl
     refine pure_ (i:=3) (N:=some 6) (v:=?_) (a':=?_) (ba9e 21 9) rfl rfl (any_of HT_.out (by kernel_rfl)) (fun _ _ _ h => h) (Or.inl ⟨by rfl,?_⟩) ?_ ?_
     rotate_left
     ·intro w'
      go_simp
      with_reducible rfl
     rotate_left
     ·simp only [Act.put,List.setIfInBounds_toArray,List.set_cons_zero,List.set_cons_succ,i64_w,i32_w]
      rfl
     refine pure_ (i:=7) (N:=some 10) (v:=?_) (a':=?_) (ba9e 21 137) rfl rfl (any_of HT_.out (by kernel_rfl)) (fun _ _ _ h => h) (Or.inl ⟨by rfl,?_⟩) ?_ ?_
     rotate_left
     ·intro w'
      go_simp
      with_reducible rfl
     rotate_left
     ·simp only [Act.put,List.setIfInBounds_toArray,List.set_cons_zero,List.set_cons_succ,i64_w,i32_w]
      rfl
     refine pure_ (i:=11) (N:=some 14) (v:=?_) (a':=?_) (ba9e 21 2185) rfl rfl (any_of HT_.out (by kernel_rfl)) (fun _ _ _ h => h) (Or.inl ⟨by rfl,?_⟩) ?_ ?_
     rotate_left
     ·intro w'
      go_simp
      with_reducible rfl
     rotate_left
     ·simp only [Act.put,List.setIfInBounds_toArray,List.set_cons_zero,List.set_cons_succ,i64_w,i32_w]
      rfl
     refine pure_ (i:=15) (N:=some 18) (v:=?_) (a':=?_) (ba9e 21 34953) rfl rfl (any_of HT_.out (by kernel_rfl)) (fun _ _ _ h => h) (Or.inl ⟨by rfl,?_⟩) ?_ ?_
     rotate_left
     ·intro w'
      go_simp
      with_reducible rfl
     rotate_left
     ·simp only [Act.put,List.setIfInBounds_toArray,List.set_cons_zero,List.set_cons_succ,i64_w,i32_w]
      rfl
     refine take_ (i:=1) (N:=some 4) (v:=?_) (a':=?_) (ba9e 21 34955) rfl rfl (take_ofW HT_.out HW_.out (by kernel_rfl)) (fun _ _ _ h => h) (Or.inl ⟨by rfl,?_⟩) hHeld ?_ ?_
     rotate_left
     ·rintro w' ⟨s0,s1,s2,s3,s4⟩
      go_simp
      with_reducible rfl
     rotate_left
     ·simp only [Act.put,List.setIfInBounds_toArray,List.set_cons_zero,List.set_cons_succ,i64_w,i32_w]
      rfl
     refine take_ (i:=4) (N:=some 7) (v:=?_) (a':=?_) (ba9e 21 34971) rfl rfl (take_ofW HT_.out HW_.out (by kernel_rfl)) (fun _ _ _ h => h) (Or.inl ⟨by rfl,?_⟩) hHeld ?_ ?_
     rotate_left
     ·rintro w' ⟨s0,s1,s2,s3,s4⟩
      go_simp
      with_reducible rfl
     rotate_left
     ·simp only [Act.put,List.setIfInBounds_toArray,List.set_cons_zero,List.set_cons_succ,i64_w,i32_w]
      rfl
     refine take_ (i:=8) (N:=some 11) (v:=?_) (a':=?_) (ba9e 21 35227) rfl rfl (take_ofW HT_.out HW_.out (by kernel_rfl)) (fun _ _ _ h => h) (Or.inl ⟨by rfl,?_⟩) hHeld ?_ ?_
     rotate_left
     ·rintro w' ⟨s0,s1,s2,s3,s4⟩
      go_simp
      with_reducible rfl
     rotate_left
     ·simp only [Act.put,List.setIfInBounds_toArray,List.set_cons_zero,List.set_cons_succ,i64_w,i32_w]
      rfl
     refine take_ (i:=12) (N:=some 15) (v:=?_) (a':=?_) (ba9e 21 39323) rfl rfl (take_ofW HT_.out HW_.out (by kernel_rfl)) (fun _ _ _ h => h) (Or.inl ⟨by rfl,?_⟩) hHeld ?_ ?_
     rotate_left
     ·rintro w' ⟨s0,s1,s2,s3,s4⟩
      go_simp
      with_reducible rfl
     rotate_left
     ·simp only [Act.put,List.setIfInBounds_toArray,List.set_cons_zero,List.set_cons_succ,i64_w,i32_w]
      rfl
     refine take_ (i:=16) (N:=some 19) (v:=?_) (a':=?_) (ba9e 21 104859) rfl rfl (take_ofW HT_.out HW_.out (by kernel_rfl)) (fun _ _ _ h => h) (Or.inl ⟨by rfl,?_⟩) hHeld ?_ ?_
     rotate_left
     ·rintro w' ⟨s0,s1,s2,s3,s4⟩
      go_simp
      with_reducible rfl
     rotate_left
     ·simp only [Act.put,List.setIfInBounds_toArray,List.set_cons_zero,List.set_cons_succ,i64_w,i32_w]
      rfl
     refine one_ (i:=2) (N:=some 5) (ba9e 21 104863) rfl rfl (one_of HT_.out (by kernel_rfl)) (by decide) (fun K hK => ?_)
     refine goes_ Tryz.func63 (by kernel_rfl) rfl #[] (by rfl) rfl rfl (by (try simp only [List.map_toArray,List.map_cons,List.map_nil]); (done)) ?_
     with_reducible refine (impl_sizeWords.calls  t789 _ A2.out).mono ?_
     rintro e w13 ⟨v790,rfl,ho0,hb⟩
     refine ⟨_,rfl,?_⟩
     have n0_:=Aside0.mk (Kd.R_lower ho0 (below_size (by repeat (((with_reducible (exact HB.out)))))))
     have n1_:=Aside0.mk (blk_below (g:=gb788) (o:=.cells #[.string a0_0,.int .i64 a0_1,.int .i64 a0_2,.int .i64 a0_3,.int .i64 a0_4] 50 (0,0)) (by exact BK788.out) hb)
     have n2_:=Aside0.mk (below_step (by repeat (((with_reducible (exact HB.out))))) hb)
     clear BK788
     clear HB
     have HO791:=n0_
     have BK788:=n1_
     have HB:=n2_
     clear n0_ n1_ n2_
     (try clear hb)
     (try clear hb2)
     (try clear hk)
     (try clear hi)
     (try clear ho0)
     obtain ⟨Ao14,co14,eo14⟩:=Kd.R_slice HO791.out
     (subst eo14)
     have p792 : 0 ≤ (a0_1 : Int):=of_decide_eq_true (by (with_reducible assumption))
     have q792 : a0_1 < (t789.length : Int):=of_decide_eq_true (by (with_reducible assumption))
     obtain ⟨ad792,e792,hx792_0⟩:=Kd.at_string (Kd.R_reads' HO791.out).2.2 a0_1 p792 q792
     cases e792
     replace p792:=eq_true p792
     replace q792:=eq_true q792
     refine hK.out _ _ ⟨(blk_cell BK788.out 0).trans rfl,(blk_cell BK788.out 1).trans rfl,(blk_cell BK788.out 2).trans rfl,(blk_cell BK788.out 3).trans rfl,(blk_cell BK788.out 4).trans rfl⟩ (fun hHeld => ?_)
     clear hK K
     refine more_ (S':=fun w' => w'.cell? ⟨gb788,0,none⟩ = some (.string a0_0) ∧ w'.cell? ⟨gb788,1,none⟩ = some (.int .i64 a0_1) ∧ w'.cell? ⟨gb788,2,none⟩ = some (.int .i64 a0_2) ∧ w'.cell? ⟨gb788,3,none⟩ = some (.int .i64 a0_3) ∧ w'.cell? ⟨gb788,4,none⟩ = some (.int .i64 a0_4) ∧ w'.cell? (ad792.add (a0_1).toNat) = some (.string (rdOf ByteArray.empty t789 a0_1))) (fun _ h_ => ⟨h_.1,h_.2.1,h_.2.2.1,h_.2.2.2.1,h_.2.2.2.2.1⟩) ⟨hHeld.1,hHeld.2.1,hHeld.2.2.1,hHeld.2.2.2.1,hHeld.2.2.2.2,hx792_0⟩ (fun hHeld => ?_)
     refine norm_ (a':=?_) ?_ ?_
     rotate_left
     ·show Act.put _ (some 5) _ = _
      simp only [Act.put,List.setIfInBounds_toArray,List.set_cons_zero,List.set_cons_succ,i64_w,i32_w]
      rfl
     refine pure_ (i:=5) (N:=some 8) (v:=?_) (a':=?_) (ba9e 21 104895) rfl rfl (any_of HT_.out (by kernel_rfl)) (fun _ _ _ h => h) (Or.inl ⟨by rfl,?_⟩) ?_ ?_
     rotate_left
     ·intro w'
      go_simp
      with_reducible rfl
     rotate_left
     ·simp only [Act.put,List.setIfInBounds_toArray,List.set_cons_zero,List.set_cons_succ,i64_w,i32_w]
      rfl
     refine take_ (i:=6) (N:=some 9) (v:=?_) (a':=?_) (ba9e 21 104959) rfl rfl (take_ofW HT_.out HW_.out (by kernel_rfl)) (fun _ _ _ h => h) (Or.inl ⟨by rfl,?_⟩) hHeld ?_ ?_
     rotate_left
     ·rintro w' ⟨s0,s1,s2,s3,s4,s5⟩
      go_simp
      with_reducible rfl
     rotate_left
     ·simp only [Act.put,List.setIfInBounds_toArray,List.set_cons_zero,List.set_cons_succ,i64_w,i32_w]
      rfl
     refine one_ (i:=9) (N:=some 12) (ba9e 21 105471) rfl rfl (one_of HT_.out (by kernel_rfl)) (by decide) (fun K hK => ?_)
     refine goes_ Tryz.func69 (by kernel_rfl) rfl #[.int .i64 a0_2] (by rfl) rfl rfl (by (try simp only [List.map_toArray,List.map_cons,List.map_nil]); (rfl)) ?_
     with_reducible refine (impl_decimal.calls a0_2 t793 _ ?sideL A5.out).mono ?_
     (case sideL => (with_reducible exact Laid.below HL.out HB.out))
     rintro e w15 ⟨rfl,hb⟩
     have HS5_:=(hb.cell (World.block_lt_of_cell? _ _ (hHeld.2.2.2.2.2))).trans (hHeld.2.2.2.2.2)
     refine ⟨_,rfl,?_⟩
     have n0_:=Aside0.mk (Kd.R_below (by exact HO791.out) hb)
     have n1_:=Aside0.mk (blk_below (g:=gb788) (o:=.cells #[.string a0_0,.int .i64 a0_1,.int .i64 a0_2,.int .i64 a0_3,.int .i64 a0_4] 50 (0,0)) (by exact BK788.out) hb)
     have n2_:=Aside0.mk (below_step (by repeat (((with_reducible (exact HB.out))))) hb)
     clear HO791
     clear BK788
     clear HB
     have HO791:=n0_
     have BK788:=n1_
     have HB:=n2_
     clear n0_ n1_ n2_
     (try clear hb)
     (try clear hb2)
     (try clear hk)
     (try clear hi)
     refine hK.out _ _ ⟨(blk_cell BK788.out 0).trans rfl,(blk_cell BK788.out 1).trans rfl,(blk_cell BK788.out 2).trans rfl,(blk_cell BK788.out 3).trans rfl,(blk_cell BK788.out 4).trans rfl,HS5_⟩ (fun hHeld => ?_)
     clear hK K
     refine norm_ (a':=?_) ?_ ?_
     rotate_left
     ·show Act.put _ (some 12) _ = _
      simp only [Act.put,List.setIfInBounds_toArray,List.set_cons_zero,List.set_cons_succ,i64_w,i32_w]
      rfl
     refine one_ (i:=10) (N:=some 13) (ba9e 21 106495) rfl rfl (one_of HT_.out (by kernel_rfl)) (by decide) (fun K hK => ?_)
     refine goes_ Tryz.func64 (by kernel_rfl) rfl #[] (by rfl) rfl rfl (by (try simp only [List.map_toArray,List.map_cons,List.map_nil]); (done)) ?_
     with_reducible refine (impl_cargoWords.calls  t794 _ A6.out).mono ?_
     rintro e w16 ⟨v795,rfl,ho0,hb⟩
     have HS5_:=(hb.cell (World.block_lt_of_cell? _ _ (hHeld.2.2.2.2.2))).trans (hHeld.2.2.2.2.2)
     refine ⟨_,rfl,?_⟩
     have n0_:=Aside0.mk (Kd.R_elder' (by exact HO791.out) (Kd.R_base ho0) hb)
     have n1_:=Aside0.mk (Kd.R_lower (Kd.R_new' ho0 (Kd.R_lt (by exact HO791.out))) (below_size (by repeat (((with_reducible (exact HB.out)))))))
     have n2_:=Aside0.mk (blk_below (g:=gb788) (o:=.cells #[.string a0_0,.int .i64 a0_1,.int .i64 a0_2,.int .i64 a0_3,.int .i64 a0_4] 50 (0,0)) (by exact BK788.out) hb)
     have n3_:=Aside0.mk (below_step (by repeat (((with_reducible (exact HB.out))))) hb)
     clear HO791
     clear BK788
     clear HB
     have HO791:=n0_
     have HO796:=n1_
     have BK788:=n2_
     have HB:=n3_
     clear n0_ n1_ n2_ n3_
     (try clear hb)
     (try clear hb2)
     (try clear hk)
     (try clear hi)
     (try clear ho0)
     obtain ⟨Ao17,co17,eo17⟩:=Kd.R_slice HO796.out
     (subst eo17)
     have p797 : 0 ≤ (a0_3 : Int):=of_decide_eq_true (by (with_reducible assumption))
     have q797 : a0_3 < (t794.length : Int):=of_decide_eq_true (by (with_reducible assumption))
     obtain ⟨ad797,e797,hx797_0⟩:=Kd.at_string (Kd.R_reads' HO796.out).2.2 a0_3 p797 q797
     cases e797
     replace p797:=eq_true p797
     replace q797:=eq_true q797
     refine hK.out _ _ ⟨(blk_cell BK788.out 0).trans rfl,(blk_cell BK788.out 1).trans rfl,(blk_cell BK788.out 2).trans rfl,(blk_cell BK788.out 3).trans rfl,(blk_cell BK788.out 4).trans rfl,HS5_⟩ (fun hHeld => ?_)
     clear hK K
     refine more_ (S':=fun w' => w'.cell? ⟨gb788,0,none⟩ = some (.string a0_0) ∧ w'.cell? ⟨gb788,1,none⟩ = some (.int .i64 a0_1) ∧ w'.cell? ⟨gb788,2,none⟩ = some (.int .i64 a0_2) ∧ w'.cell? ⟨gb788,3,none⟩ = some (.int .i64 a0_3) ∧ w'.cell? ⟨gb788,4,none⟩ = some (.int .i64 a0_4) ∧ w'.cell? (ad792.add (a0_1).toNat) = some (.string (rdOf ByteArray.empty t789 a0_1)) ∧ w'.cell? (ad797.add (a0_3).toNat) = some (.string (rdOf ByteArray.empty t794 a0_3))) (fun _ h_ => ⟨h_.1,h_.2.1,h_.2.2.1,h_.2.2.2.1,h_.2.2.2.2.1,h_.2.2.2.2.2.1⟩) ⟨hHeld.1,hHeld.2.1,hHeld.2.2.1,hHeld.2.2.2.1,hHeld.2.2.2.2.1,hHeld.2.2.2.2.2,hx797_0⟩ (fun hHeld => ?_)
     refine norm_ (a':=?_) ?_ ?_
     rotate_left
     ·show Act.put _ (some 13) _ = _
      simp only [Act.put,List.setIfInBounds_toArray,List.set_cons_zero,List.set_cons_succ,i64_w,i32_w]
      rfl
     refine pure_ (i:=13) (N:=some 16) (v:=?_) (a':=?_) (ba9e 21 114687) rfl rfl (any_of HT_.out (by kernel_rfl)) (fun _ _ _ h => h) (Or.inl ⟨by rfl,?_⟩) ?_ ?_
     rotate_left
     ·intro w'
      go_simp
      with_reducible rfl
     rotate_left
     ·simp only [Act.put,List.setIfInBounds_toArray,List.set_cons_zero,List.set_cons_succ,i64_w,i32_w]
      rfl
     refine take_ (i:=14) (N:=some 17) (v:=?_) (a':=?_) (ba9e 21 131071) rfl rfl (take_ofW HT_.out HW_.out (by kernel_rfl)) (fun _ _ _ h => h) (Or.inl ⟨by rfl,?_⟩) hHeld ?_ ?_
     rotate_left
     ·rintro w' ⟨s0,s1,s2,s3,s4,s5,s6⟩
      go_simp
      with_reducible rfl
     rotate_left
     ·simp only [Act.put,List.setIfInBounds_toArray,List.set_cons_zero,List.set_cons_succ,i64_w,i32_w]
      rfl
     refine one_ (i:=17) (N:=some 20) (ba9e 21 262143) rfl rfl (one_of HT_.out (by kernel_rfl)) (by decide) (fun K hK => ?_)
     refine goes_ Tryz.func69 (by kernel_rfl) rfl #[.int .i64 a0_4] (by rfl) rfl rfl (by (try simp only [List.map_toArray,List.map_cons,List.map_nil]); (rfl)) ?_
     with_reducible refine (impl_decimal.calls a0_4 t798 _ ?sideL A9.out).mono ?_
     (case sideL => (with_reducible exact Laid.below HL.out HB.out))
     rintro e w18 ⟨rfl,hb⟩
     have HS5_:=(hb.cell (World.block_lt_of_cell? _ _ (hHeld.2.2.2.2.2.1))).trans (hHeld.2.2.2.2.2.1)
     have HS6_:=(hb.cell (World.block_lt_of_cell? _ _ (hHeld.2.2.2.2.2.2))).trans (hHeld.2.2.2.2.2.2)
     refine ⟨_,rfl,?_⟩
     have n0_:=Aside0.mk (Kd.R_below (by exact HO791.out) hb)
     have n1_:=Aside0.mk (Kd.R_below (by exact HO796.out) hb)
     have n2_:=Aside0.mk (blk_below (g:=gb788) (o:=.cells #[.string a0_0,.int .i64 a0_1,.int .i64 a0_2,.int .i64 a0_3,.int .i64 a0_4] 50 (0,0)) (by exact BK788.out) hb)
     have n3_:=Aside0.mk (below_step (by repeat (((with_reducible (exact HB.out))))) hb)
     clear HO791
     clear HO796
     clear BK788
     clear HB
     have HO791:=n0_
     have HO796:=n1_
     have BK788:=n2_
     have HB:=n3_
     clear n0_ n1_ n2_ n3_
     (try clear hb)
     (try clear hb2)
     (try clear hk)
     (try clear hi)
     refine hK.out _ _ ⟨(blk_cell BK788.out 0).trans rfl,(blk_cell BK788.out 1).trans rfl,(blk_cell BK788.out 2).trans rfl,(blk_cell BK788.out 3).trans rfl,(blk_cell BK788.out 4).trans rfl,HS5_,HS6_⟩ (fun hHeld => ?_)
     clear hK K
     refine norm_ (a':=?_) ?_ ?_
     rotate_left
     ·show Act.put _ (some 20) _ = _
      simp only [Act.put,List.setIfInBounds_toArray,List.set_cons_zero,List.set_cons_succ,i64_w,i32_w]
      rfl
     refine one_ (i:=18) (N:=some 21) (ba9e 21 524287) rfl rfl (one_of HT_.out (by kernel_rfl)) (by decide) (fun K hK => ?_)
     refine Kd.R_lit_step Kd.string _ 9 ?hg (N:=21) ?hd (xs:=([a0_0,rdOf ByteArray.empty t789 a0_1,t793,rdOf ByteArray.empty t794 a0_3,t798] : List ByteArray)) (inner:=[.string a0_0,.string (rdOf ByteArray.empty t789 a0_1),.string t793,.string (rdOf ByteArray.empty t794 a0_3),.string t798]) (ok:=fun _ => True) (okp:=fun _ => True) ?hr ?hp (fun _ hk => hk) trivial (Below.refl _ _) (Nat.le_refl _) (by simp) ?_; (case hd => rfl); (case hg => rfl); (case hr => (go_simp; done)); (case hp => exact (Reps.one (show Kd.M Kd.string _ _ _ a0_0 [.string a0_0] from rfl) (Reps.one (show Kd.M Kd.string _ _ _ (rdOf ByteArray.empty t789 a0_1) [.string (rdOf ByteArray.empty t789 a0_1)] from rfl) (Reps.one (show Kd.M Kd.string _ _ _ t793 [.string t793] from rfl) (Reps.one (show Kd.M Kd.string _ _ _ (rdOf ByteArray.empty t794 a0_3) [.string (rdOf ByteArray.empty t794 a0_3)] from rfl) (Reps.one (show Kd.M Kd.string _ _ _ t798 [.string t798] from rfl) (Reps.none _ _)))))))
     intro v800 w19 ho20 hb hg_ hnew_
     have HS5_:=(hb.cell (World.block_lt_of_cell? _ _ (hHeld.2.2.2.2.2.1))).trans (hHeld.2.2.2.2.2.1)
     have HS6_:=(hb.cell (World.block_lt_of_cell? _ _ (hHeld.2.2.2.2.2.2))).trans (hHeld.2.2.2.2.2.2)
     clear hg_ hnew_
     (rw [← Ny799.out] at ho20)
     have n0_:=Aside0.mk (Kd.R_elder' (by exact HO791.out) (Kd.R_base ho20) hb)
     have n1_:=Aside0.mk (Kd.R_elder' (by exact HO796.out) (Kd.R_base ho20) hb)
     have n2_:=Aside0.mk (Kd.R_lower (Kd.R_new' (Kd.R_new' ho20 (Kd.R_lt (by exact HO791.out))) (Kd.R_lt (by exact HO796.out))) (below_size (by repeat (((with_reducible (exact HB.out)))))))
     have n3_:=Aside0.mk (blk_below (g:=gb788) (o:=.cells #[.string a0_0,.int .i64 a0_1,.int .i64 a0_2,.int .i64 a0_3,.int .i64 a0_4] 50 (0,0)) (by exact BK788.out) hb)
     have n4_:=Aside0.mk (below_step (by repeat (((with_reducible (exact HB.out))))) hb)
     clear HO791
     clear HO796
     clear BK788
     clear HB
     have HO791:=n0_
     have HO796:=n1_
     have HO801:=n2_
     have BK788:=n3_
     have HB:=n4_
     clear n0_ n1_ n2_ n3_ n4_
     clear hb ho20
     obtain ⟨Ao21,co21,eo21⟩:=Kd.R_slice HO801.out
     (subst eo21)
     refine hK.out _ _ ⟨(blk_cell BK788.out 0).trans rfl,(blk_cell BK788.out 1).trans rfl,(blk_cell BK788.out 2).trans rfl,(blk_cell BK788.out 3).trans rfl,(blk_cell BK788.out 4).trans rfl,HS5_,HS6_⟩ (fun hHeld => ?_)
     clear hK K
     refine norm_ (a':=?_) ?_ ?_
     rotate_left
     ·show Act.put _ (some 21) _ = _
      simp only [Act.put,List.setIfInBounds_toArray,List.set_cons_zero,List.set_cons_succ,i64_w,i32_w]
      rfl
     refine one_ (i:=19) (N:=some 22) (ba9e 21 1048575) rfl rfl (one_of HT_.out (by kernel_rfl)) (by decide) (fun K hK => ?_)
     refine goes_ Tryz.func70 (by kernel_rfl) rfl #[.slice Ao21 y799.length co21,.string (⟨#[32]⟩ : ByteArray)] (by rfl) rfl rfl (by (try simp only [List.map_toArray,List.map_cons,List.map_nil]); (rfl)) ?_
     with_reducible refine (strings_Join.calls _ _ y799 (⟨#[32]⟩ : ByteArray) t802 _ ?side1 ?side2 A10.out).mono ?_
     (case side1 => repeat ((exact (Kd.R_reads' HO801.out).2.2)))
     (case side2 => exact (Kd.R_reads' HO801.out).2.1)
     rintro e w22 ⟨rfl,hb⟩
     have HS5_:=(hb.cell (World.block_lt_of_cell? _ _ (hHeld.2.2.2.2.2.1))).trans (hHeld.2.2.2.2.2.1)
     have HS6_:=(hb.cell (World.block_lt_of_cell? _ _ (hHeld.2.2.2.2.2.2))).trans (hHeld.2.2.2.2.2.2)
     refine ⟨_,rfl,?_⟩
     have n0_:=Aside0.mk (Kd.R_below (by exact HO791.out) hb)
     have n1_:=Aside0.mk (Kd.R_below (by exact HO796.out) hb)
     have n2_:=Aside0.mk (Kd.R_below (by exact HO801.out) hb)
     have n3_:=Aside0.mk (blk_below (g:=gb788) (o:=.cells #[.string a0_0,.int .i64 a0_1,.int .i64 a0_2,.int .i64 a0_3,.int .i64 a0_4] 50 (0,0)) (by exact BK788.out) hb)
     have n4_:=Aside0.mk (below_step (by repeat (((with_reducible (exact HB.out))))) hb)
     clear HO791
     clear HO796
     clear HO801
     clear BK788
     clear HB
     have HO791:=n0_
     have HO796:=n1_
     have HO801:=n2_
     have BK788:=n3_
     have HB:=n4_
     clear n0_ n1_ n2_ n3_ n4_
     (try clear hb)
     (try clear hb2)
     (try clear hk)
     (try clear hi)
     refine hK.out _ _ ⟨(blk_cell BK788.out 0).trans rfl,(blk_cell BK788.out 1).trans rfl,(blk_cell BK788.out 2).trans rfl,(blk_cell BK788.out 3).trans rfl,(blk_cell BK788.out 4).trans rfl,HS5_,HS6_⟩ (fun hHeld => ?_)
     clear hK K
     refine norm_ (a':=?_) ?_ ?_
     rotate_left
     ·show Act.put _ (some 22) _ = _
      simp only [Act.put,List.setIfInBounds_toArray,List.set_cons_zero,List.set_cons_succ,i64_w,i32_w]
      rfl
     refine pure_ (i:=20) (N:=some 2) (v:=?_) (a':=?_) (ba9e 21 2097151) rfl rfl (any_of HT_.out (by kernel_rfl)) (fun _ _ _ h => h) (Or.inl ⟨by rfl,?_⟩) ?_ ?_
     rotate_left
     ·intro w'
      go_simp
      with_reducible rfl
     rotate_left
     ·simp only [Act.put,List.setIfInBounds_toArray,List.set_cons_zero,List.set_cons_succ,i64_w,i32_w]
      rfl
     refine done_ (done_of HT_.out (by kernel_rfl)) ?_
     try go_wp2
     go_ret
     exact ⟨by (rfl),by repeat (((with_reducible (exact HB.out))))⟩
    ·rw [if_neg c8] at H
     exact absurd H (by simp)
   ·rw [if_neg c7] at H
    exact absurd H (by simp)
  ·rw [if_neg c4] at H
   exact absurd H (by simp)
 ·rw [if_neg c3] at H
  exact absurd H (by simp)

end Go.Proofs.YtfindomajbjacaaGreatDoor.X
