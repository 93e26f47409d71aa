-- Written by a program of ours (wip/bin/xprint.py,over the kit's print.py) out of the translation. Not trusted: Lean checks it.
import Derived.Test.YtfindomajbjacaaDoorX0
import Derived.Test.YtfindomajbjacaaDoorLaid
import Derived.Test.YtfindomajbjacaaDoorXMore
import Derived.Test.YtfindomajbjacaaDoorFimpldecimal
import Derived.Test.YtfindomajbjacaaDoorGJoin
namespace Go.Proofs.YtfindomajbjacaaDoor.X
open Go.RowKit Go.Proofs.YtfindomajbjacaaDoorW.PrintWords Go.Proofs.YtfindomajbjacaaDoorW.PrintLast Go.Proofs.YtfindomajbjacaaDoorW.PrintMore
def lb087 : Nat → Nat → List Bool
 | 0,_ => []
 | n+1,m => (m%2==1) :: lb087 n (m/2)
def b087 (n m : Nat) : Array Bool := ⟨lb087 n m⟩
attribute [local go_sem] max2_int min2_int max_two min_two max_three min_three max_four min_four   -- for this text's walks alone
set_option linter.unusedVariables false
set_option linter.unusedSimpArgs false

/-! ### impl_sizeWords: function 52 -/
def impl_sizeWords.f  : Option (List ByteArray):=some (([(⟨#[]⟩ : ByteArray),(⟨#[115,109,97,108,108]⟩ : ByteArray),(⟨#[108,97,114,103,101]⟩ : ByteArray)] : List ByteArray))
set_option maxHeartbeats 8000000 in
set_option maxRecDepth 100000 in
theorem impl_sizeWords.calls  (r : List ByteArray) (w : World) (h : impl_sizeWords.f  = some r) :
  Calls Tryd.prog 52 #[] w fun e w' => ∃ v0_ : Value,e = .returned (v0_) ∧ Kd.R Kd.string 9 w' w.heap.size (fun _ => True) v0_ r ∧ Below w.heap.size w w':=by
 have HB:=Aside0.mk (Below.refl w.heap.size w)
 have H : (some (([(⟨#[]⟩ : ByteArray),(⟨#[115,109,97,108,108]⟩ : ByteArray),(⟨#[108,97,114,103,101]⟩ : ByteArray)] : List ByteArray))) = some r:=h
 clear h
 obtain ⟨y137,hy137⟩ : ∃ y_ : List ByteArray,y_ = (([(⟨#[]⟩ : ByteArray),(⟨#[115,109,97,108,108]⟩ : ByteArray),(⟨#[108,97,114,103,101]⟩ : ByteArray)] : List ByteArray)):=⟨_,rfl⟩
 replace H : (some y137) = some r:=by first|(rw [hy137]; with_reducible exact H)|(have H2_:=(Option.bind_some _ _).symm.trans H; rw [hy137]; with_reducible exact H2_)|(have H2_:=(Option.bind_some _ _).symm.trans H; with_reducible exact H2_)|with_reducible exact H|(rw [hy137]; exact H)|exact H
 have Ny137:=Aside0.mk hy137
 clear hy137
 obtain rfl:=Option.some.inj H
 go_enter Tryd.func52,Tryd.ntmps52
 go_wp2_with (first|((with_reducible refine gate_dst (N:=1) rfl ?_); refine Kd.R_lit Kd.string _ 9 ?hg (N:=1) ?hd (xs:=([(⟨#[]⟩ : ByteArray),(⟨#[115,109,97,108,108]⟩ : ByteArray),(⟨#[108,97,114,103,101]⟩ : ByteArray)] : List ByteArray)) (inner:=[.string (⟨#[]⟩ : ByteArray),.string (⟨#[115,109,97,108,108]⟩ : ByteArray),.string (⟨#[108,97,114,103,101]⟩ : ByteArray)]) (ok:=fun _ => True) (okp:=fun _ => True) ?hr ?hp (fun _ hk => hk) trivial (Below.refl _ _) (Nat.le_refl _) (by simp) ?_; (case hd => rfl); (case hg => rfl); (case hr => first|(go_simp; done)|(go_simp; rfl)); (case hp => exact (Reps.one (show Kd.M Kd.string _ _ _ (⟨#[]⟩ : ByteArray) [.string (⟨#[]⟩ : ByteArray)] from rfl) (Reps.one (show Kd.M Kd.string _ _ _ (⟨#[115,109,97,108,108]⟩ : ByteArray) [.string (⟨#[115,109,97,108,108]⟩ : ByteArray)] from rfl) (Reps.one (show Kd.M Kd.string _ _ _ (⟨#[108,97,114,103,101]⟩ : ByteArray) [.string (⟨#[108,97,114,103,101]⟩ : ByteArray)] from rfl) (Reps.none _ _))))); intro v138 w1 ho2 hb hg_ hnew_; clear hg_ hnew_; (first|rw [← Ny137.out] at ho2|(simp only [Int.reduceToNat] at ho2; rw [← Ny137.out] at ho2)); have n0_:=Aside0.mk (Kd.R_lower ho2 (below_size (by repeat (first|(with_reducible first|exact HB.out|apply below_alloc|apply pw_below_drewN|apply below_drew1)|exact HB.out)))); have n1_:=Aside0.mk (below_step (by repeat (first|(with_reducible first|exact HB.out|apply below_alloc|apply pw_below_drewN|apply below_drew1)|exact HB.out)) hb); clear HB; have HO139:=n0_; have HB:=n1_; clear n0_ n1_; clear hb ho2))
 go_ret
 exact ⟨_,by first|rfl|(simp [errW_none,errW_some] <;> rfl)|(simp [*,errW_none,errW_some] <;> rfl),by (with_reducible repeat (first|apply Kd.R_alloc|apply Kd.R_drewN|apply Kd.R_drew)); exact HO139.out,by repeat (first|(with_reducible first|exact HB.out|apply below_alloc|apply pw_below_drewN|apply below_drew1)|exact HB.out)⟩

/-! ### impl_cargoWords: function 53 -/
def impl_cargoWords.f  : Option (List ByteArray):=some (([(⟨#[]⟩ : ByteArray),(⟨#[112,108,97,105,110]⟩ : ByteArray),(⟨#[114,101,101,102,101,114]⟩ : ByteArray),(⟨#[100,97,110,103,101,114]⟩ : ByteArray)] : List ByteArray))
set_option maxHeartbeats 8000000 in
set_option maxRecDepth 100000 in
theorem impl_cargoWords.calls  (r : List ByteArray) (w : World) (h : impl_cargoWords.f  = some r) :
  Calls Tryd.prog 53 #[] w fun e w' => ∃ v0_ : Value,e = .returned (v0_) ∧ Kd.R Kd.string 9 w' w.heap.size (fun _ => True) v0_ r ∧ Below w.heap.size w w':=by
 have HB:=Aside0.mk (Below.refl w.heap.size w)
 have H : (some (([(⟨#[]⟩ : ByteArray),(⟨#[112,108,97,105,110]⟩ : ByteArray),(⟨#[114,101,101,102,101,114]⟩ : ByteArray),(⟨#[100,97,110,103,101,114]⟩ : ByteArray)] : List ByteArray))) = some r:=h
 clear h
 obtain ⟨y140,hy140⟩ : ∃ y_ : List ByteArray,y_ = (([(⟨#[]⟩ : ByteArray),(⟨#[112,108,97,105,110]⟩ : ByteArray),(⟨#[114,101,101,102,101,114]⟩ : ByteArray),(⟨#[100,97,110,103,101,114]⟩ : ByteArray)] : List ByteArray)):=⟨_,rfl⟩
 replace H : (some y140) = some r:=by first|(rw [hy140]; with_reducible exact H)|(have H2_:=(Option.bind_some _ _).symm.trans H; rw [hy140]; with_reducible exact H2_)|(have H2_:=(Option.bind_some _ _).symm.trans H; with_reducible exact H2_)|with_reducible exact H|(rw [hy140]; exact H)|exact H
 have Ny140:=Aside0.mk hy140
 clear hy140
 obtain rfl:=Option.some.inj H
 go_enter Tryd.func53,Tryd.ntmps53
 go_wp2_with (first|((with_reducible refine gate_dst (N:=1) rfl ?_); refine Kd.R_lit Kd.string _ 9 ?hg (N:=1) ?hd (xs:=([(⟨#[]⟩ : ByteArray),(⟨#[112,108,97,105,110]⟩ : ByteArray),(⟨#[114,101,101,102,101,114]⟩ : ByteArray),(⟨#[100,97,110,103,101,114]⟩ : ByteArray)] : List ByteArray)) (inner:=[.string (⟨#[]⟩ : ByteArray),.string (⟨#[112,108,97,105,110]⟩ : ByteArray),.string (⟨#[114,101,101,102,101,114]⟩ : ByteArray),.string (⟨#[100,97,110,103,101,114]⟩ : ByteArray)]) (ok:=fun _ => True) (okp:=fun _ => True) ?hr ?hp (fun _ hk => hk) trivial (Below.refl _ _) (Nat.le_refl _) (by simp) ?_; (case hd => rfl); (case hg => rfl); (case hr => first|(go_simp; done)|(go_simp; rfl)); (case hp => exact (Reps.one (show Kd.M Kd.string _ _ _ (⟨#[]⟩ : ByteArray) [.string (⟨#[]⟩ : ByteArray)] from rfl) (Reps.one (show Kd.M Kd.string _ _ _ (⟨#[112,108,97,105,110]⟩ : ByteArray) [.string (⟨#[112,108,97,105,110]⟩ : ByteArray)] from rfl) (Reps.one (show Kd.M Kd.string _ _ _ (⟨#[114,101,101,102,101,114]⟩ : ByteArray) [.string (⟨#[114,101,101,102,101,114]⟩ : ByteArray)] from rfl) (Reps.one (show Kd.M Kd.string _ _ _ (⟨#[100,97,110,103,101,114]⟩ : ByteArray) [.string (⟨#[100,97,110,103,101,114]⟩ : ByteArray)] from rfl) (Reps.none _ _)))))); intro v141 w1 ho2 hb hg_ hnew_; clear hg_ hnew_; (first|rw [← Ny140.out] at ho2|(simp only [Int.reduceToNat] at ho2; rw [← Ny140.out] at ho2)); have n0_:=Aside0.mk (Kd.R_lower ho2 (below_size (by repeat (first|(with_reducible first|exact HB.out|apply below_alloc|apply pw_below_drewN|apply below_drew1)|exact HB.out)))); have n1_:=Aside0.mk (below_step (by repeat (first|(with_reducible first|exact HB.out|apply below_alloc|apply pw_below_drewN|apply below_drew1)|exact HB.out)) hb); clear HB; have HO142:=n0_; have HB:=n1_; clear n0_ n1_; clear hb ho2))
 go_ret
 exact ⟨_,by first|rfl|(simp [errW_none,errW_some] <;> rfl)|(simp [*,errW_none,errW_some] <;> rfl),by (with_reducible repeat (first|apply Kd.R_alloc|apply Kd.R_drewN|apply Kd.R_drew)); exact HO142.out,by repeat (first|(with_reducible first|exact HB.out|apply below_alloc|apply pw_below_drewN|apply below_drew1)|exact HB.out)⟩

/-! ### impl_containerText: function 37 -/
def impl_containerText.f (a0_0 : ByteArray) (a0_1 : Int) (a0_2 : Int) (a0_3 : Int) (a0_4 : Int) : Option (ByteArray):=(impl_sizeWords.f).bind fun t145 => (if 0 ≤ a0_1 then (if a0_1 < (t145.length : Int) then ((impl_decimal.f a0_2).bind fun t149 => ((impl_cargoWords.f).bind fun t150 => (if 0 ≤ a0_3 then (if a0_3 < (t150.length : Int) then ((impl_decimal.f a0_4).bind fun t154 => ((strings_Join.f (([a0_0,rdOf ByteArray.empty t145 a0_1,t149,rdOf ByteArray.empty t150 a0_3,t154] : List ByteArray)) (⟨#[32]⟩ : ByteArray)).bind fun t158 => (some t158))) else (none)) else (none)))) else (none)) else (none))
def impl_containerText.T1 : Bool × List (List Nat × List Nat):=(true,[([],[]),([0],[0]),([],[]),([],[]),([3],[3]),([2,4],[2,4]),([5],[5]),([],[]),([7],[7]),([8,2],[8]),([9],[]),([],[]),([11],[11]),([10,12],[10,12]),([13],[13]),([],[]),([15],[15]),([16,10],[16]),([1,6,9,14,17],[1,6,9,14,17]),([18,17],[18]),([19,19,0,1,2,3,4,5,6,7,8,9,10,11,12,13,14,15,16,17,18,19],[19])])
def impl_containerText.B1 : List Nat:=[0,1,0,0,8,28,60,0,128,388,900,0,2048,8068,16260,0,32768,100228,262143,524287,1048575]
theorem impl_containerText.tab1 : rtab .any (opsOf Tryd.f37 1) = impl_containerText.T1:=by kernel_rfl
theorem impl_containerText.bits1 : waitsOk impl_containerText.T1.2 impl_containerText.B1 = true:=by kernel_rfl
set_option maxHeartbeats 8000000 in
set_option maxRecDepth 100000 in
theorem impl_containerText.calls (a0_0 : ByteArray) (a0_1 : Int) (a0_2 : Int) (a0_3 : Int) (a0_4 : Int) (r : ByteArray) (w : World) (hL : Laid w) (h : impl_containerText.f a0_0 a0_1 a0_2 a0_3 a0_4 = some r) :
  Calls Tryd.prog 37 #[.agg #[.string a0_0,.int .i64 a0_1,.int .i64 a0_2,.int .i64 a0_3,.int .i64 a0_4]] w fun e w' => e = .returned (.string r) ∧ Below w.heap.size w w':=by
 have HL:=Aside0.mk hL
 clear hL
 have hu27:=Tryd.underlying27
 have HB:=Aside0.mk (Below.refl w.heap.size w)
 have H : ((impl_sizeWords.f).bind fun t145 => (if 0 ≤ a0_1 then (if a0_1 < (t145.length : Int) then ((impl_decimal.f a0_2).bind fun t149 => ((impl_cargoWords.f).bind fun t150 => (if 0 ≤ a0_3 then (if a0_3 < (t150.length : Int) then ((impl_decimal.f a0_4).bind fun t154 => ((strings_Join.f (([a0_0,rdOf ByteArray.empty t145 a0_1,t149,rdOf ByteArray.empty t150 a0_3,t154] : List ByteArray)) (⟨#[32]⟩ : ByteArray)).bind fun t158 => (some t158))) else (none)) else (none)))) else (none)) else (none))) = some r:=h
 clear h
 replace H:=Option.bind_eq_some_iff.mp H
 obtain ⟨t145,A20,H⟩:=H
 replace H : (if 0 ≤ a0_1 then (if a0_1 < (t145.length : Int) then ((impl_decimal.f a0_2).bind fun t149 => ((impl_cargoWords.f).bind fun t150 => (if 0 ≤ a0_3 then (if a0_3 < (t150.length : Int) then ((impl_decimal.f a0_4).bind fun t154 => ((strings_Join.f (([a0_0,rdOf ByteArray.empty t145 a0_1,t149,rdOf ByteArray.empty t150 a0_3,t154] : List ByteArray)) (⟨#[32]⟩ : ByteArray)).bind fun t158 => (some t158))) else (none)) else (none)))) else (none)) else (none)) = some r:=H
 have A2:=Aside0.mk A20
 clear A20
 by_cases c3 : 0 ≤ a0_1
 ·rw [if_pos c3] at H
  have c3b0 : decide (0 ≤ a0_1) = true:=decide_eq_true c3
  clear c3
  by_cases c4 : a0_1 < (t145.length : Int)
  ·rw [if_pos c4] at H
   have c4b0 : decide (a0_1 < (t145.length : Int)) = true:=decide_eq_true c4
   clear c4
   replace H:=Option.bind_eq_some_iff.mp H
   obtain ⟨t149,A50,H⟩:=H
   replace H : ((impl_cargoWords.f).bind fun t150 => (if 0 ≤ a0_3 then (if a0_3 < (t150.length : Int) then ((impl_decimal.f a0_4).bind fun t154 => ((strings_Join.f (([a0_0,rdOf ByteArray.empty t145 a0_1,t149,rdOf ByteArray.empty t150 a0_3,t154] : List ByteArray)) (⟨#[32]⟩ : ByteArray)).bind fun t158 => (some t158))) else (none)) else (none))) = some r:=H
   have A5:=Aside0.mk A50
   clear A50
   replace H:=Option.bind_eq_some_iff.mp H
   obtain ⟨t150,A60,H⟩:=H
   replace H : (if 0 ≤ a0_3 then (if a0_3 < (t150.length : Int) then ((impl_decimal.f a0_4).bind fun t154 => ((strings_Join.f (([a0_0,rdOf ByteArray.empty t145 a0_1,t149,rdOf ByteArray.empty t150 a0_3,t154] : List ByteArray)) (⟨#[32]⟩ : ByteArray)).bind fun t158 => (some t158))) else (none)) else (none)) = some r:=H
   have A6:=Aside0.mk A60
   clear A60
   by_cases c7 : 0 ≤ a0_3
   ·rw [if_pos c7] at H
    have c7b0 : decide (0 ≤ a0_3) = true:=decide_eq_true c7
    clear c7
    by_cases c8 : a0_3 < (t150.length : Int)
    ·rw [if_pos c8] at H
     have c8b0 : decide (a0_3 < (t150.length : Int)) = true:=decide_eq_true c8
     clear c8
     replace H:=Option.bind_eq_some_iff.mp H
     obtain ⟨t154,A90,H⟩:=H
     replace H : ((strings_Join.f (([a0_0,rdOf ByteArray.empty t145 a0_1,t149,rdOf ByteArray.empty t150 a0_3,t154] : List ByteArray)) (⟨#[32]⟩ : ByteArray)).bind fun t158 => (some t158)) = some r:=H
     have A9:=Aside0.mk A90
     clear A90
     obtain ⟨y155,hy155⟩ : ∃ y_ : List ByteArray,y_ = (([a0_0,rdOf ByteArray.empty t145 a0_1,t149,rdOf ByteArray.empty t150 a0_3,t154] : List ByteArray)):=⟨_,rfl⟩
     replace H : ((strings_Join.f y155 (⟨#[32]⟩ : ByteArray)).bind fun t158 => (some t158)) = some r:=by first|(rw [hy155]; with_reducible exact H)|(have H2_:=(Option.bind_some _ _).symm.trans H; rw [hy155]; with_reducible exact H2_)|(have H2_:=(Option.bind_some _ _).symm.trans H; with_reducible exact H2_)|with_reducible exact H|(rw [hy155]; exact H)|exact H
     have Ny155:=Aside0.mk hy155
     clear hy155
     replace H:=Option.bind_eq_some_iff.mp H
     obtain ⟨t158,A100,H⟩:=H
     replace H : (some t158) = some r:=H
     have A10:=Aside0.mk A100
     clear A100
     obtain rfl:=Option.some.inj H
     go_enter Tryd.func37,Tryd.ntmps37
     try go_wp2_with (first|((with_reducible refine gate_dst (N:=1) rfl ?_); refine box_event ?hg (N:=1) ?hd (cs:=#[.string a0_0,.int .i64 a0_1,.int .i64 a0_2,.int .i64 a0_3,.int .i64 a0_4]) (t:=27) ?hr ?_; (case hd => rfl); (case hg => rfl); (case hr => first|(go_simp; done)|(go_simp; rfl)); intro gb144 hg w11 hbox hb; have n0_:=Aside0.mk (below_step (by repeat (first|(with_reducible first|exact HB.out|apply below_alloc|apply pw_below_drewN|apply below_drew1)|exact HB.out)) hb); have n1_:=Aside0.mk (hbox); have n2_:=Aside0.mk ((by rw [hg]; exact (below_size (by repeat (first|(with_reducible first|exact HB.out|apply below_alloc|apply pw_below_drewN|apply below_drew1)|exact HB.out))) : w.heap.size ≤ gb144)); have n3_:=Aside0.mk ((by rw [hg]; exact (below_size (by repeat (first|(with_reducible first|exact HB.out|apply below_alloc|apply pw_below_drewN|apply below_drew1)|exact HB.out))) : w.heap.size ≤ gb144)); clear HB; have HB:=n0_; have BK144:=n1_; have GW144:=n2_; have GE144:=n3_; clear n0_ n1_ n2_ n3_; clear hb hbox hg))
     have n0_:=Aside0.mk (blk_drew BK144.out)
     have n1_:=Aside0.mk (below_drew1 HB.out)
     clear BK144
     clear HB
     have BK144:=n0_
     have HB:=n1_
     clear n0_ n1_
     refine start_ (n:=21) (S:=fun w' => w'.cell? ⟨gb144,0,none⟩ = some (.string a0_0) ∧ w'.cell? ⟨gb144,1,none⟩ = some (.int .i64 a0_1) ∧ w'.cell? ⟨gb144,2,none⟩ = some (.int .i64 a0_2) ∧ w'.cell? ⟨gb144,3,none⟩ = some (.int .i64 a0_3) ∧ w'.cell? ⟨gb144,4,none⟩ = some (.int .i64 a0_4)) (ds:=[]) (b087 21 0) (by kernel_rfl) rfl rfl ⟨(blk_cell BK144.out 0).trans rfl,(blk_cell BK144.out 1).trans rfl,(blk_cell BK144.out 2).trans rfl,(blk_cell BK144.out 3).trans rfl,(blk_cell BK144.out 4).trans rfl⟩ (fun hHeld => ?_); refine with_tabW impl_containerText.tab1 impl_containerText.bits1 (fun HT_ HW_ => ?_)
     generalize w11.drew = w12 at BK144 HB hHeld ⊢
     refine pure_ (i:=0) (N:=some 3) (v:=?_) (a':=?_) (b087 21 1) rfl rfl (any_of HT_.out (by kernel_rfl)) (fun _ _ _ h => h) (Or.inl ⟨by rfl,?_⟩) ?_ ?_
     rotate_left
     ·intro w'
      go_simp
      with_reducible rfl
     rotate_left
     ·simp only [Act.put,List.setIfInBounds_toArray,List.set_cons_zero,List.set_cons_succ,i64_w,i32_w]
      rfl
     refine pure_ (i:=3) (N:=some 6) (v:=?_) (a':=?_) (b087 21 9) rfl rfl (any_of HT_.out (by kernel_rfl)) (fun _ _ _ h => h) (Or.inl ⟨by rfl,?_⟩) ?_ ?_
     rotate_left
     ·intro w'
      go_simp
      with_reducible rfl
     rotate_left
     ·simp only [Act.put,List.setIfInBounds_toArray,List.set_cons_zero,List.set_cons_succ,i64_w,i32_w]
      rfl
     refine pure_ (i:=7) (N:=some 10) (v:=?_) (a':=?_) (b087 21 137) rfl rfl (any_of HT_.out (by kernel_rfl)) (fun _ _ _ h => h) (Or.inl ⟨by rfl,?_⟩) ?_ ?_
     rotate_left
     ·intro w'
      go_simp
      with_reducible rfl
     rotate_left
     ·simp only [Act.put,List.setIfInBounds_toArray,List.set_cons_zero,List.set_cons_succ,i64_w,i32_w]
      rfl
     refine pure_ (i:=11) (N:=some 14) (v:=?_) (a':=?_) (b087 21 2185) rfl rfl (any_of HT_.out (by kernel_rfl)) (fun _ _ _ h => h) (Or.inl ⟨by rfl,?_⟩) ?_ ?_
     rotate_left
     ·intro w'
      go_simp
      with_reducible rfl
     rotate_left
     ·simp only [Act.put,List.setIfInBounds_toArray,List.set_cons_zero,List.set_cons_succ,i64_w,i32_w]
      rfl
     refine pure_ (i:=15) (N:=some 18) (v:=?_) (a':=?_) (b087 21 34953) rfl rfl (any_of HT_.out (by kernel_rfl)) (fun _ _ _ h => h) (Or.inl ⟨by rfl,?_⟩) ?_ ?_
     rotate_left
     ·intro w'
      go_simp
      with_reducible rfl
     rotate_left
     ·simp only [Act.put,List.setIfInBounds_toArray,List.set_cons_zero,List.set_cons_succ,i64_w,i32_w]
      rfl
     refine take_ (i:=1) (N:=some 4) (v:=?_) (a':=?_) (b087 21 34955) rfl rfl (take_ofW HT_.out HW_.out (by kernel_rfl)) (fun _ _ _ h => h) (Or.inl ⟨by rfl,?_⟩) hHeld ?_ ?_
     rotate_left
     ·rintro w' ⟨s0,s1,s2,s3,s4⟩
      go_simp
      with_reducible rfl
     rotate_left
     ·simp only [Act.put,List.setIfInBounds_toArray,List.set_cons_zero,List.set_cons_succ,i64_w,i32_w]
      rfl
     refine take_ (i:=4) (N:=some 7) (v:=?_) (a':=?_) (b087 21 34971) rfl rfl (take_ofW HT_.out HW_.out (by kernel_rfl)) (fun _ _ _ h => h) (Or.inl ⟨by rfl,?_⟩) hHeld ?_ ?_
     rotate_left
     ·rintro w' ⟨s0,s1,s2,s3,s4⟩
      go_simp
      with_reducible rfl
     rotate_left
     ·simp only [Act.put,List.setIfInBounds_toArray,List.set_cons_zero,List.set_cons_succ,i64_w,i32_w]
      rfl
     refine take_ (i:=8) (N:=some 11) (v:=?_) (a':=?_) (b087 21 35227) rfl rfl (take_ofW HT_.out HW_.out (by kernel_rfl)) (fun _ _ _ h => h) (Or.inl ⟨by rfl,?_⟩) hHeld ?_ ?_
     rotate_left
     ·rintro w' ⟨s0,s1,s2,s3,s4⟩
      go_simp
      with_reducible rfl
     rotate_left
     ·simp only [Act.put,List.setIfInBounds_toArray,List.set_cons_zero,List.set_cons_succ,i64_w,i32_w]
      rfl
     refine take_ (i:=12) (N:=some 15) (v:=?_) (a':=?_) (b087 21 39323) rfl rfl (take_ofW HT_.out HW_.out (by kernel_rfl)) (fun _ _ _ h => h) (Or.inl ⟨by rfl,?_⟩) hHeld ?_ ?_
     rotate_left
     ·rintro w' ⟨s0,s1,s2,s3,s4⟩
      go_simp
      with_reducible rfl
     rotate_left
     ·simp only [Act.put,List.setIfInBounds_toArray,List.set_cons_zero,List.set_cons_succ,i64_w,i32_w]
      rfl
     refine take_ (i:=16) (N:=some 19) (v:=?_) (a':=?_) (b087 21 104859) rfl rfl (take_ofW HT_.out HW_.out (by kernel_rfl)) (fun _ _ _ h => h) (Or.inl ⟨by rfl,?_⟩) hHeld ?_ ?_
     rotate_left
     ·rintro w' ⟨s0,s1,s2,s3,s4⟩
      go_simp
      with_reducible rfl
     rotate_left
     ·simp only [Act.put,List.setIfInBounds_toArray,List.set_cons_zero,List.set_cons_succ,i64_w,i32_w]
      rfl
     refine one_ (i:=2) (N:=some 5) (b087 21 104863) rfl rfl (one_of HT_.out (by kernel_rfl)) (by decide) (fun K hK => ?_)
     refine goes_ Tryd.func52 (by kernel_rfl) rfl #[] (by rfl) rfl rfl (by (try simp only [List.map_toArray,List.map_cons,List.map_nil]); first|done|rfl|(simp only [List.length_drop,List.length_take]; rfl)) ?_
     with_reducible refine (impl_sizeWords.calls  t145 _ A2.out).mono ?_
     rintro e w13 ⟨v146,rfl,ho0,hb⟩
     refine ⟨_,rfl,?_⟩
     have n0_:=Aside0.mk (Kd.R_lower ho0 (below_size (by repeat (first|(with_reducible first|exact HB.out|apply below_alloc|apply pw_below_drewN|apply below_drew1|refine below_set ?_ GE144.out)|exact HB.out))))
     have n1_:=Aside0.mk (blk_below (g:=gb144) (o:=.cells #[.string a0_0,.int .i64 a0_1,.int .i64 a0_2,.int .i64 a0_3,.int .i64 a0_4] 27 (0,0)) (by (with_reducible repeat (first|refine blk_drewN ?_ _|refine blk_drew ?_|refine blk_alloc ?_ _)); exact BK144.out) hb)
     have n2_:=Aside0.mk (below_step (by repeat (first|(with_reducible first|exact HB.out|apply below_alloc|apply pw_below_drewN|apply below_drew1|refine below_set ?_ GE144.out)|exact HB.out)) hb)
     clear BK144
     clear HB
     have HO147:=n0_
     have BK144:=n1_
     have HB:=n2_
     clear n0_ n1_ n2_
     (try clear hb)
     (try clear hb2)
     (try clear hk)
     (try clear hi)
     (try clear ho0)
     obtain ⟨Ao14,co14,eo14⟩:=Kd.R_slice HO147.out
     (first|subst eo14|(injection eo14 with f1_ f2_ f3_; have f4_:=f1_.symm; have f5_:=f3_.symm; clear f1_ f2_ f3_; subst f4_; subst f5_))
     have p148 : 0 ≤ (a0_1 : Int):=of_decide_eq_true (by first|(with_reducible assumption)|assumption)
     have q148 : a0_1 < (t145.length : Int):=of_decide_eq_true (by first|(with_reducible assumption)|assumption)
     obtain ⟨ad148,e148,hx148_0⟩:=Kd.at_string (Kd.R_reads' HO147.out).2.2 a0_1 p148 q148
     cases e148
     replace p148:=eq_true p148
     replace q148:=eq_true q148
     refine hK.out _ _ ⟨(blk_cell BK144.out 0).trans rfl,(blk_cell BK144.out 1).trans rfl,(blk_cell BK144.out 2).trans rfl,(blk_cell BK144.out 3).trans rfl,(blk_cell BK144.out 4).trans rfl⟩ (fun hHeld => ?_)
     clear hK K
     refine more_ (S':=fun w' => w'.cell? ⟨gb144,0,none⟩ = some (.string a0_0) ∧ w'.cell? ⟨gb144,1,none⟩ = some (.int .i64 a0_1) ∧ w'.cell? ⟨gb144,2,none⟩ = some (.int .i64 a0_2) ∧ w'.cell? ⟨gb144,3,none⟩ = some (.int .i64 a0_3) ∧ w'.cell? ⟨gb144,4,none⟩ = some (.int .i64 a0_4) ∧ w'.cell? (ad148.add (a0_1).toNat) = some (.string (rdOf ByteArray.empty t145 a0_1))) (fun _ h_ => ⟨h_.1,h_.2.1,h_.2.2.1,h_.2.2.2.1,h_.2.2.2.2.1⟩) ⟨hHeld.1,hHeld.2.1,hHeld.2.2.1,hHeld.2.2.2.1,hHeld.2.2.2.2,hx148_0⟩ (fun hHeld => ?_)
     refine norm_ (a':=?_) ?_ ?_
     rotate_left
     ·show Act.put _ (some 5) _ = _
      simp only [Act.put,List.setIfInBounds_toArray,List.set_cons_zero,List.set_cons_succ,i64_w,i32_w]
      rfl
     refine pure_ (i:=5) (N:=some 8) (v:=?_) (a':=?_) (b087 21 104895) rfl rfl (any_of HT_.out (by kernel_rfl)) (fun _ _ _ h => h) (Or.inl ⟨by rfl,?_⟩) ?_ ?_
     rotate_left
     ·intro w'
      go_simp
      with_reducible rfl
     rotate_left
     ·simp only [Act.put,List.setIfInBounds_toArray,List.set_cons_zero,List.set_cons_succ,i64_w,i32_w]
      rfl
     refine take_ (i:=6) (N:=some 9) (v:=?_) (a':=?_) (b087 21 104959) rfl rfl (take_ofW HT_.out HW_.out (by kernel_rfl)) (fun _ _ _ h => h) (Or.inl ⟨by rfl,?_⟩) hHeld ?_ ?_
     rotate_left
     ·rintro w' ⟨s0,s1,s2,s3,s4,s5⟩
      go_simp
      with_reducible rfl
     rotate_left
     ·simp only [Act.put,List.setIfInBounds_toArray,List.set_cons_zero,List.set_cons_succ,i64_w,i32_w]
      rfl
     refine one_ (i:=9) (N:=some 12) (b087 21 105471) rfl rfl (one_of HT_.out (by kernel_rfl)) (by decide) (fun K hK => ?_)
     refine goes_ Tryd.func67 (by kernel_rfl) rfl #[.int .i64 a0_2] (by rfl) rfl rfl (by (try simp only [List.map_toArray,List.map_cons,List.map_nil]); first|done|rfl|(simp only [List.length_drop,List.length_take]; rfl)) ?_
     with_reducible refine (impl_decimal.calls a0_2 t149 _ ?sideL A5.out).mono ?_
     (case sideL => first|(with_reducible exact HL.out)|(with_reducible exact Laid.below HL.out HB.out)|(exact Laid.below HL.out (by repeat (first|(with_reducible first|exact HB.out|apply below_alloc|apply pw_below_drewN|apply below_drew1|refine below_set ?_ GE144.out)|exact HB.out)))|(repeat (first|exact HL.out|exact Laid.below HL.out HB.out|(with_reducible refine Laid.alloc ?_ _)|(with_reducible refine Laid.drewN ?_ _)|(with_reducible refine Laid.drew ?_))))
     rintro e w15 ⟨rfl,hb⟩
     have HS5_:=(hb.cell (World.block_lt_of_cell? _ _ (hHeld.2.2.2.2.2))).trans (hHeld.2.2.2.2.2)
     refine ⟨_,rfl,?_⟩
     have n0_:=Aside0.mk (Kd.R_below (by (with_reducible repeat (first|apply Kd.R_alloc|apply Kd.R_drewN|apply Kd.R_drew)); exact HO147.out) hb)
     have n1_:=Aside0.mk (blk_below (g:=gb144) (o:=.cells #[.string a0_0,.int .i64 a0_1,.int .i64 a0_2,.int .i64 a0_3,.int .i64 a0_4] 27 (0,0)) (by (with_reducible repeat (first|refine blk_drewN ?_ _|refine blk_drew ?_|refine blk_alloc ?_ _)); exact BK144.out) hb)
     have n2_:=Aside0.mk (below_step (by repeat (first|(with_reducible first|exact HB.out|apply below_alloc|apply pw_below_drewN|apply below_drew1|refine below_set ?_ GE144.out)|exact HB.out)) hb)
     clear HO147
     clear BK144
     clear HB
     have HO147:=n0_
     have BK144:=n1_
     have HB:=n2_
     clear n0_ n1_ n2_
     (try clear hb)
     (try clear hb2)
     (try clear hk)
     (try clear hi)
     refine hK.out _ _ ⟨(blk_cell BK144.out 0).trans rfl,(blk_cell BK144.out 1).trans rfl,(blk_cell BK144.out 2).trans rfl,(blk_cell BK144.out 3).trans rfl,(blk_cell BK144.out 4).trans rfl,HS5_⟩ (fun hHeld => ?_)
     clear hK K
     refine norm_ (a':=?_) ?_ ?_
     rotate_left
     ·show Act.put _ (some 12) _ = _
      simp only [Act.put,List.setIfInBounds_toArray,List.set_cons_zero,List.set_cons_succ,i64_w,i32_w]
      rfl
     refine one_ (i:=10) (N:=some 13) (b087 21 106495) rfl rfl (one_of HT_.out (by kernel_rfl)) (by decide) (fun K hK => ?_)
     refine goes_ Tryd.func53 (by kernel_rfl) rfl #[] (by rfl) rfl rfl (by (try simp only [List.map_toArray,List.map_cons,List.map_nil]); first|done|rfl|(simp only [List.length_drop,List.length_take]; rfl)) ?_
     with_reducible refine (impl_cargoWords.calls  t150 _ A6.out).mono ?_
     rintro e w16 ⟨v151,rfl,ho0,hb⟩
     have HS5_:=(hb.cell (World.block_lt_of_cell? _ _ (hHeld.2.2.2.2.2))).trans (hHeld.2.2.2.2.2)
     refine ⟨_,rfl,?_⟩
     have n0_:=Aside0.mk (Kd.R_elder' (by (with_reducible repeat (first|apply Kd.R_alloc|apply Kd.R_drewN|apply Kd.R_drew)); exact HO147.out) (Kd.R_base ho0) hb)
     have n1_:=Aside0.mk (Kd.R_lower (Kd.R_new' ho0 (Kd.R_lt (by (with_reducible repeat (first|apply Kd.R_alloc|apply Kd.R_drewN|apply Kd.R_drew)); exact HO147.out))) (below_size (by repeat (first|(with_reducible first|exact HB.out|apply below_alloc|apply pw_below_drewN|apply below_drew1|refine below_set ?_ GE144.out)|exact HB.out))))
     have n2_:=Aside0.mk (blk_below (g:=gb144) (o:=.cells #[.string a0_0,.int .i64 a0_1,.int .i64 a0_2,.int .i64 a0_3,.int .i64 a0_4] 27 (0,0)) (by (with_reducible repeat (first|refine blk_drewN ?_ _|refine blk_drew ?_|refine blk_alloc ?_ _)); exact BK144.out) hb)
     have n3_:=Aside0.mk (below_step (by repeat (first|(with_reducible first|exact HB.out|apply below_alloc|apply pw_below_drewN|apply below_drew1|refine below_set ?_ GE144.out)|exact HB.out)) hb)
     clear HO147
     clear BK144
     clear HB
     have HO147:=n0_
     have HO152:=n1_
     have BK144:=n2_
     have HB:=n3_
     clear n0_ n1_ n2_ n3_
     (try clear hb)
     (try clear hb2)
     (try clear hk)
     (try clear hi)
     (try clear ho0)
     obtain ⟨Ao17,co17,eo17⟩:=Kd.R_slice HO152.out
     (first|subst eo17|(injection eo17 with f1_ f2_ f3_; have f4_:=f1_.symm; have f5_:=f3_.symm; clear f1_ f2_ f3_; subst f4_; subst f5_))
     have p153 : 0 ≤ (a0_3 : Int):=of_decide_eq_true (by first|(with_reducible assumption)|assumption)
     have q153 : a0_3 < (t150.length : Int):=of_decide_eq_true (by first|(with_reducible assumption)|assumption)
     obtain ⟨ad153,e153,hx153_0⟩:=Kd.at_string (Kd.R_reads' HO152.out).2.2 a0_3 p153 q153
     cases e153
     replace p153:=eq_true p153
     replace q153:=eq_true q153
     refine hK.out _ _ ⟨(blk_cell BK144.out 0).trans rfl,(blk_cell BK144.out 1).trans rfl,(blk_cell BK144.out 2).trans rfl,(blk_cell BK144.out 3).trans rfl,(blk_cell BK144.out 4).trans rfl,HS5_⟩ (fun hHeld => ?_)
     clear hK K
     refine more_ (S':=fun w' => w'.cell? ⟨gb144,0,none⟩ = some (.string a0_0) ∧ w'.cell? ⟨gb144,1,none⟩ = some (.int .i64 a0_1) ∧ w'.cell? ⟨gb144,2,none⟩ = some (.int .i64 a0_2) ∧ w'.cell? ⟨gb144,3,none⟩ = some (.int .i64 a0_3) ∧ w'.cell? ⟨gb144,4,none⟩ = some (.int .i64 a0_4) ∧ w'.cell? (ad148.add (a0_1).toNat) = some (.string (rdOf ByteArray.empty t145 a0_1)) ∧ w'.cell? (ad153.add (a0_3).toNat) = some (.string (rdOf ByteArray.empty t150 a0_3))) (fun _ h_ => ⟨h_.1,h_.2.1,h_.2.2.1,h_.2.2.2.1,h_.2.2.2.2.1,h_.2.2.2.2.2.1⟩) ⟨hHeld.1,hHeld.2.1,hHeld.2.2.1,hHeld.2.2.2.1,hHeld.2.2.2.2.1,hHeld.2.2.2.2.2,hx153_0⟩ (fun hHeld => ?_)
     refine norm_ (a':=?_) ?_ ?_
     rotate_left
     ·show Act.put _ (some 13) _ = _
      simp only [Act.put,List.setIfInBounds_toArray,List.set_cons_zero,List.set_cons_succ,i64_w,i32_w]
      rfl
     refine pure_ (i:=13) (N:=some 16) (v:=?_) (a':=?_) (b087 21 114687) rfl rfl (any_of HT_.out (by kernel_rfl)) (fun _ _ _ h => h) (Or.inl ⟨by rfl,?_⟩) ?_ ?_
     rotate_left
     ·intro w'
      go_simp
      with_reducible rfl
     rotate_left
     ·simp only [Act.put,List.setIfInBounds_toArray,List.set_cons_zero,List.set_cons_succ,i64_w,i32_w]
      rfl
     refine take_ (i:=14) (N:=some 17) (v:=?_) (a':=?_) (b087 21 131071) rfl rfl (take_ofW HT_.out HW_.out (by kernel_rfl)) (fun _ _ _ h => h) (Or.inl ⟨by rfl,?_⟩) hHeld ?_ ?_
     rotate_left
     ·rintro w' ⟨s0,s1,s2,s3,s4,s5,s6⟩
      go_simp
      with_reducible rfl
     rotate_left
     ·simp only [Act.put,List.setIfInBounds_toArray,List.set_cons_zero,List.set_cons_succ,i64_w,i32_w]
      rfl
     refine one_ (i:=17) (N:=some 20) (b087 21 262143) rfl rfl (one_of HT_.out (by kernel_rfl)) (by decide) (fun K hK => ?_)
     refine goes_ Tryd.func67 (by kernel_rfl) rfl #[.int .i64 a0_4] (by rfl) rfl rfl (by (try simp only [List.map_toArray,List.map_cons,List.map_nil]); first|done|rfl|(simp only [List.length_drop,List.length_take]; rfl)) ?_
     with_reducible refine (impl_decimal.calls a0_4 t154 _ ?sideL A9.out).mono ?_
     (case sideL => first|(with_reducible exact HL.out)|(with_reducible exact Laid.below HL.out HB.out)|(exact Laid.below HL.out (by repeat (first|(with_reducible first|exact HB.out|apply below_alloc|apply pw_below_drewN|apply below_drew1|refine below_set ?_ GE144.out)|exact HB.out)))|(repeat (first|exact HL.out|exact Laid.below HL.out HB.out|(with_reducible refine Laid.alloc ?_ _)|(with_reducible refine Laid.drewN ?_ _)|(with_reducible refine Laid.drew ?_))))
     rintro e w18 ⟨rfl,hb⟩
     have HS5_:=(hb.cell (World.block_lt_of_cell? _ _ (hHeld.2.2.2.2.2.1))).trans (hHeld.2.2.2.2.2.1)
     have HS6_:=(hb.cell (World.block_lt_of_cell? _ _ (hHeld.2.2.2.2.2.2))).trans (hHeld.2.2.2.2.2.2)
     refine ⟨_,rfl,?_⟩
     have n0_:=Aside0.mk (Kd.R_below (by (with_reducible repeat (first|apply Kd.R_alloc|apply Kd.R_drewN|apply Kd.R_drew)); exact HO147.out) hb)
     have n1_:=Aside0.mk (Kd.R_below (by (with_reducible repeat (first|apply Kd.R_alloc|apply Kd.R_drewN|apply Kd.R_drew)); exact HO152.out) hb)
     have n2_:=Aside0.mk (blk_below (g:=gb144) (o:=.cells #[.string a0_0,.int .i64 a0_1,.int .i64 a0_2,.int .i64 a0_3,.int .i64 a0_4] 27 (0,0)) (by (with_reducible repeat (first|refine blk_drewN ?_ _|refine blk_drew ?_|refine blk_alloc ?_ _)); exact BK144.out) hb)
     have n3_:=Aside0.mk (below_step (by repeat (first|(with_reducible first|exact HB.out|apply below_alloc|apply pw_below_drewN|apply below_drew1|refine below_set ?_ GE144.out)|exact HB.out)) hb)
     clear HO147
     clear HO152
     clear BK144
     clear HB
     have HO147:=n0_
     have HO152:=n1_
     have BK144:=n2_
     have HB:=n3_
     clear n0_ n1_ n2_ n3_
     (try clear hb)
     (try clear hb2)
     (try clear hk)
     (try clear hi)
     refine hK.out _ _ ⟨(blk_cell BK144.out 0).trans rfl,(blk_cell BK144.out 1).trans rfl,(blk_cell BK144.out 2).trans rfl,(blk_cell BK144.out 3).trans rfl,(blk_cell BK144.out 4).trans rfl,HS5_,HS6_⟩ (fun hHeld => ?_)
     clear hK K
     refine norm_ (a':=?_) ?_ ?_
     rotate_left
     ·show Act.put _ (some 20) _ = _
      simp only [Act.put,List.setIfInBounds_toArray,List.set_cons_zero,List.set_cons_succ,i64_w,i32_w]
      rfl
     refine one_ (i:=18) (N:=some 21) (b087 21 524287) rfl rfl (one_of HT_.out (by kernel_rfl)) (by decide) (fun K hK => ?_)
     refine Kd.R_lit_step Kd.string _ 9 ?hg (N:=21) ?hd (xs:=([a0_0,rdOf ByteArray.empty t145 a0_1,t149,rdOf ByteArray.empty t150 a0_3,t154] : List ByteArray)) (inner:=[.string a0_0,.string (rdOf ByteArray.empty t145 a0_1),.string t149,.string (rdOf ByteArray.empty t150 a0_3),.string t154]) (ok:=fun _ => True) (okp:=fun _ => True) ?hr ?hp (fun _ hk => hk) trivial (Below.refl _ _) (Nat.le_refl _) (by simp) ?_; (case hd => rfl); (case hg => rfl); (case hr => first|(go_simp; done)|(go_simp; rfl)); (case hp => exact (Reps.one (show Kd.M Kd.string _ _ _ a0_0 [.string a0_0] from rfl) (Reps.one (show Kd.M Kd.string _ _ _ (rdOf ByteArray.empty t145 a0_1) [.string (rdOf ByteArray.empty t145 a0_1)] from rfl) (Reps.one (show Kd.M Kd.string _ _ _ t149 [.string t149] from rfl) (Reps.one (show Kd.M Kd.string _ _ _ (rdOf ByteArray.empty t150 a0_3) [.string (rdOf ByteArray.empty t150 a0_3)] from rfl) (Reps.one (show Kd.M Kd.string _ _ _ t154 [.string t154] from rfl) (Reps.none _ _)))))))
     intro v156 w19 ho20 hb hg_ hnew_
     have HS5_:=(hb.cell (World.block_lt_of_cell? _ _ (hHeld.2.2.2.2.2.1))).trans (hHeld.2.2.2.2.2.1)
     have HS6_:=(hb.cell (World.block_lt_of_cell? _ _ (hHeld.2.2.2.2.2.2))).trans (hHeld.2.2.2.2.2.2)
     clear hg_ hnew_
     (first|rw [← Ny155.out] at ho20|(simp only [Int.reduceToNat] at ho20; rw [← Ny155.out] at ho20))
     have n0_:=Aside0.mk (Kd.R_elder' (by (with_reducible repeat (first|apply Kd.R_alloc|apply Kd.R_drewN|apply Kd.R_drew)); exact HO147.out) (Kd.R_base ho20) hb)
     have n1_:=Aside0.mk (Kd.R_elder' (by (with_reducible repeat (first|apply Kd.R_alloc|apply Kd.R_drewN|apply Kd.R_drew)); exact HO152.out) (Kd.R_base ho20) hb)
     have n2_:=Aside0.mk (Kd.R_lower (Kd.R_new' (Kd.R_new' ho20 (Kd.R_lt (by (with_reducible repeat (first|apply Kd.R_alloc|apply Kd.R_drewN|apply Kd.R_drew)); exact HO147.out))) (Kd.R_lt (by (with_reducible repeat (first|apply Kd.R_alloc|apply Kd.R_drewN|apply Kd.R_drew)); exact HO152.out))) (below_size (by repeat (first|(with_reducible first|exact HB.out|apply below_alloc|apply pw_below_drewN|apply below_drew1|refine below_set ?_ GE144.out)|exact HB.out))))
     have n3_:=Aside0.mk (blk_below (g:=gb144) (o:=.cells #[.string a0_0,.int .i64 a0_1,.int .i64 a0_2,.int .i64 a0_3,.int .i64 a0_4] 27 (0,0)) (by (with_reducible repeat (first|refine blk_drewN ?_ _|refine blk_drew ?_|refine blk_alloc ?_ _)); exact BK144.out) hb)
     have n4_:=Aside0.mk (below_step (by repeat (first|(with_reducible first|exact HB.out|apply below_alloc|apply pw_below_drewN|apply below_drew1|refine below_set ?_ GE144.out)|exact HB.out)) hb)
     clear HO147
     clear HO152
     clear BK144
     clear HB
     have HO147:=n0_
     have HO152:=n1_
     have HO157:=n2_
     have BK144:=n3_
     have HB:=n4_
     clear n0_ n1_ n2_ n3_ n4_
     clear hb ho20
     obtain ⟨Ao21,co21,eo21⟩:=Kd.R_slice HO157.out
     (first|subst eo21|(injection eo21 with f1_ f2_ f3_; have f4_:=f1_.symm; have f5_:=f3_.symm; clear f1_ f2_ f3_; subst f4_; subst f5_))
     refine hK.out _ _ ⟨(blk_cell BK144.out 0).trans rfl,(blk_cell BK144.out 1).trans rfl,(blk_cell BK144.out 2).trans rfl,(blk_cell BK144.out 3).trans rfl,(blk_cell BK144.out 4).trans rfl,HS5_,HS6_⟩ (fun hHeld => ?_)
     clear hK K
     refine norm_ (a':=?_) ?_ ?_
     rotate_left
     ·show Act.put _ (some 21) _ = _
      simp only [Act.put,List.setIfInBounds_toArray,List.set_cons_zero,List.set_cons_succ,i64_w,i32_w]
      rfl
     refine one_ (i:=19) (N:=some 22) (b087 21 1048575) rfl rfl (one_of HT_.out (by kernel_rfl)) (by decide) (fun K hK => ?_)
     refine goes_ Tryd.func66 (by kernel_rfl) rfl #[.slice Ao21 y155.length co21,.string (⟨#[32]⟩ : ByteArray)] (by rfl) rfl rfl (by (try simp only [List.map_toArray,List.map_cons,List.map_nil]); first|done|rfl|(simp only [List.length_drop,List.length_take]; rfl)) ?_
     with_reducible refine (strings_Join.calls _ _ y155 (⟨#[32]⟩ : ByteArray) t158 _ ?side1 ?side2 A10.out).mono ?_
     (case side1 => repeat (first|exact (Kd.R_reads' HO157.out).2.2|(with_reducible refine Kd.C_alloc ?_ _)|(with_reducible refine Kd.C_drewN ?_ _)|(with_reducible refine Kd.C_drew ?_)))
     (case side2 => exact (Kd.R_reads' HO157.out).2.1)
     rintro e w22 ⟨rfl,hb⟩
     have HS5_:=(hb.cell (World.block_lt_of_cell? _ _ (hHeld.2.2.2.2.2.1))).trans (hHeld.2.2.2.2.2.1)
     have HS6_:=(hb.cell (World.block_lt_of_cell? _ _ (hHeld.2.2.2.2.2.2))).trans (hHeld.2.2.2.2.2.2)
     refine ⟨_,rfl,?_⟩
     have n0_:=Aside0.mk (Kd.R_below (by (with_reducible repeat (first|apply Kd.R_alloc|apply Kd.R_drewN|apply Kd.R_drew)); exact HO147.out) hb)
     have n1_:=Aside0.mk (Kd.R_below (by (with_reducible repeat (first|apply Kd.R_alloc|apply Kd.R_drewN|apply Kd.R_drew)); exact HO152.out) hb)
     have n2_:=Aside0.mk (Kd.R_below (by (with_reducible repeat (first|apply Kd.R_alloc|apply Kd.R_drewN|apply Kd.R_drew)); exact HO157.out) hb)
     have n3_:=Aside0.mk (blk_below (g:=gb144) (o:=.cells #[.string a0_0,.int .i64 a0_1,.int .i64 a0_2,.int .i64 a0_3,.int .i64 a0_4] 27 (0,0)) (by (with_reducible repeat (first|refine blk_drewN ?_ _|refine blk_drew ?_|refine blk_alloc ?_ _)); exact BK144.out) hb)
     have n4_:=Aside0.mk (below_step (by repeat (first|(with_reducible first|exact HB.out|apply below_alloc|apply pw_below_drewN|apply below_drew1|refine below_set ?_ GE144.out)|exact HB.out)) hb)
     clear HO147
     clear HO152
     clear HO157
     clear BK144
     clear HB
     have HO147:=n0_
     have HO152:=n1_
     have HO157:=n2_
     have BK144:=n3_
     have HB:=n4_
     clear n0_ n1_ n2_ n3_ n4_
     (try clear hb)
     (try clear hb2)
     (try clear hk)
     (try clear hi)
     refine hK.out _ _ ⟨(blk_cell BK144.out 0).trans rfl,(blk_cell BK144.out 1).trans rfl,(blk_cell BK144.out 2).trans rfl,(blk_cell BK144.out 3).trans rfl,(blk_cell BK144.out 4).trans rfl,HS5_,HS6_⟩ (fun hHeld => ?_)
     clear hK K
     refine norm_ (a':=?_) ?_ ?_
     rotate_left
     ·show Act.put _ (some 22) _ = _
      simp only [Act.put,List.setIfInBounds_toArray,List.set_cons_zero,List.set_cons_succ,i64_w,i32_w]
      rfl
     refine pure_ (i:=20) (N:=some 2) (v:=?_) (a':=?_) (b087 21 2097151) rfl rfl (any_of HT_.out (by kernel_rfl)) (fun _ _ _ h => h) (Or.inl ⟨by rfl,?_⟩) ?_ ?_
     rotate_left
     ·intro w'
      go_simp
      with_reducible rfl
     rotate_left
     ·simp only [Act.put,List.setIfInBounds_toArray,List.set_cons_zero,List.set_cons_succ,i64_w,i32_w]
      rfl
     refine done_ (done_of HT_.out (by kernel_rfl)) ?_
     try go_wp2
     go_ret
     exact ⟨by first|rfl|(simp [errW_none,errW_some] <;> rfl)|(simp [*,errW_none,errW_some] <;> rfl),by repeat (first|(with_reducible first|exact HB.out|apply below_alloc|apply pw_below_drewN|apply below_drew1|refine below_set ?_ GE144.out)|exact HB.out)⟩
    ·rw [if_neg c8] at H
     exact absurd H (by simp)
   ·rw [if_neg c7] at H
    exact absurd H (by simp)
  ·rw [if_neg c4] at H
   exact absurd H (by simp)
 ·rw [if_neg c3] at H
  exact absurd H (by simp)

end Go.Proofs.YtfindomajbjacaaDoor.X
