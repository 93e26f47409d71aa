-- Written by a program of ours (wip/bin/xprint.py,over the kit's print.py) out of the translation. Not trusted: Lean checks it.
import Derived.Test.YtfindomajbjacaaGreatDoorX0
import Derived.Test.YtfindomajbjacaaGreatDoorLaid
import Derived.Test.YtfindomajbjacaaGreatDoorFimpldecimal
import Derived.Test.YtfindomajbjacaaGreatDoorGJoin
namespace Go.Proofs.YtfindomajbjacaaGreatDoor.X
open Go.RowKit Go.Proofs.YtfindomajbjacaaGreatDoorW.PrintWords Go.Proofs.YtfindomajbjacaaGreatDoorW.PrintLast Go.Proofs.YtfindomajbjacaaGreatDoorW.PrintMore
def lbc48 : Nat → Nat → List Bool
 | 0,_ => []
 | n+1,m => (m%2==1) :: lbc48 n (m/2)
def bc48 (n m : Nat) : Array Bool := ⟨lbc48 n m⟩
attribute [local go_sem] max2_int min2_int max_two min_two max_three min_three max_four min_four   -- for this text's walks alone
set_option linter.unusedVariables false
set_option linter.unusedSimpArgs false

/-! ### impl_rotationText: function 32 -/
def impl_rotationText.l0 : Nat → List ByteArray → List Int → Int → Int → List Int → List Int → Option (ByteArray)
 | 0,_,_,_,_,_,_ => none
 | k + 1,x3,x8,x9,x10,x281000,x281001 => if x10 < x9 then (if 0 ≤ x10 then (if x10 < (x8.length : Int) then ((impl_decimal.f (rd x8 x10)).bind fun t285 => (if t285.size + 1 ≤ 9223372036854775807 then (if x10 < (x281001.length : Int) then ((impl_decimal.f (rd x281001 x10)).bind fun t287 => (if (t285 ++ (⟨#[58]⟩ : ByteArray)).size + t287.size ≤ 9223372036854775807 then (if x3.length < 8796093022208 then (impl_rotationText.l0 k (x3 ++ [(t285 ++ (⟨#[58]⟩ : ByteArray)) ++ t287]) x8 x9 (wrap64 (x10 + 1)) x281000 x281001) else (none)) else (none))) else (none)) else (none))) else (none)) else (none)) else ((strings_Join.f x3 (⟨#[32]⟩ : ByteArray)).bind fun t291 => (some t291))
def impl_rotationText.f (k : Nat) (l0_0 : List Int) (l0_1 : List Int) : Option (ByteArray):=impl_rotationText.l0 k ([] : List ByteArray) l0_0 (l0_0.length : Int) 0 l0_0 l0_1
theorem impl_rotationText.mono_l : ∀ k,(∀ y0 y1 y2 y3 y4 y5,LeO (impl_rotationText.l0 k y0 y1 y2 y3 y4 y5) (impl_rotationText.l0 (k + 1) y0 y1 y2 y3 y4 y5))
 | 0 => fun _ _ _ _ _ _ r h => by simp [impl_rotationText.l0] at h
 | k + 1 => by
  have ih0:=impl_rotationText.mono_l k
  ·intro y0 y1 y2 y3 y4 y5
   unfold impl_rotationText.l0
   repeat' first
   | (with_reducible exact ih0 _ _ _ _ _ _)
   | (with_reducible exact LeO.refl _)
   | (with_reducible exact LeO.none _)
   | (with_reducible refine LeO.ite ?_ ?_)
   | (with_reducible refine LeO.bind ?_ (fun _ => ?_))
   | exact ih0 _ _ _ _ _ _
   | exact LeO.none _
   | refine LeO.ite ?_ ?_
   | refine LeO.bind ?_ (fun _ => ?_)
theorem impl_rotationText.mono : ∀ a0 a1 k,LeO (impl_rotationText.f k a0 a1) (impl_rotationText.f (k + 1) a0 a1):=by
 intro a0 a1 k
 have ih0:=impl_rotationText.mono_l k
 unfold impl_rotationText.f
 repeat' first
   | (with_reducible exact ih0 _ _ _ _ _ _)
   | (with_reducible exact LeO.refl _)
   | (with_reducible exact LeO.none _)
   | (with_reducible refine LeO.ite ?_ ?_)
   | (with_reducible refine LeO.bind ?_ (fun _ => ?_))
   | exact ih0 _ _ _ _ _ _
   | exact LeO.none _
   | refine LeO.ite ?_ ?_
   | refine LeO.bind ?_ (fun _ => ?_)
def impl_rotationText.T5 : Bool × List (List Nat × List Nat):=(true,[([],[]),([],[]),([1],[1]),([2],[2]),([],[]),([4],[4]),([],[]),([5,6],[5,6]),([7],[7]),([8,2],[8]),([3,9],[3,9]),([10],[10]),([0,11,9],[0,11]),([12,12,0,1,2,3,4,5,6,7,8,9,10,11,12],[0,12])])
def impl_rotationText.B5 : List Nat:=[0,0,2,6,0,16,0,112,240,502,1022,2046,4095,8191]
theorem impl_rotationText.tab5 : rtab .any (opsOf Tryz.f32 5) = impl_rotationText.T5:=by kernel_rfl
theorem impl_rotationText.bits5 : waitsOk impl_rotationText.T5.2 impl_rotationText.B5 = true:=by kernel_rfl
set_option maxHeartbeats 8000000 in
set_option maxRecDepth 100000 in
theorem impl_rotationText.calls (k : Nat) (A0_0 : Option Addr) (c0_0 : Nat) (l0_0 : List Int) (A0_1 : Option Addr) (c0_1 : Nat) (l0_1 : List Int) (r : ByteArray) (w : World) (hr0_0 : Kd.C (Kd.int .i64) w A0_0 l0_0.length l0_0) (hc0_0 : l0_0.length ≤ c0_0) (hr0_1 : Kd.C (Kd.int .i64) w A0_1 l0_1.length l0_1) (hc0_1 : l0_1.length ≤ c0_1) (hL : Laid w) (h : impl_rotationText.f k l0_0 l0_1 = some r) :
  Calls Tryz.prog 32 #[.agg #[.slice A0_0 l0_0.length c0_0,.slice A0_1 l0_1.length c0_1]] w fun e w' => e = .returned (.string r) ∧ Below w.heap.size w w':=by
 have HL:=Aside0.mk hL
 clear hL
 have hu26:=Tryz.underlying26
 have HR0_0:=Aside0.mk hr0_0
 have HC0_0:=Aside0.mk hc0_0
 clear hr0_0 hc0_0
 have HR0_1:=Aside0.mk hr0_1
 have HC0_1:=Aside0.mk hc0_1
 clear hr0_1 hc0_1
 have HB:=Aside0.mk (Below.refl w.heap.size w)
 have H : (impl_rotationText.l0 k ([] : List ByteArray) l0_0 (l0_0.length : Int) 0 l0_0 l0_1) = some r:=h
 clear h
 obtain ⟨y281,hy281⟩ : ∃ y_ : List ByteArray,y_ = ([] : List ByteArray):=⟨_,rfl⟩
 replace H : (impl_rotationText.l0 k y281 l0_0 (l0_0.length : Int) 0 l0_0 l0_1) = some r:=by (rw [hy281]; with_reducible exact H)
 have Ny281:=Aside0.mk hy281
 clear hy281
 have H':=Aside0.mk H
 clear H
 go_enter Tryz.func32,Tryz.ntmps32
 go_wp2_with (first|((with_reducible refine gate_dst (N:=1) rfl ?_); refine box_event ?hg (N:=1) ?hd (cs:=#[.slice A0_0 l0_0.length c0_0,.slice A0_1 l0_1.length c0_1]) (t:=26) ?hr ?_; (case hd => rfl); (case hg => rfl); (case hr => (go_simp; done)); intro gb280 hg w2 hbox hb; have n0_:=Aside0.mk (below_step (by repeat (((with_reducible (exact HB.out))))) hb); have n1_:=Aside0.mk (hbox); have n2_:=Aside0.mk ((by rw [hg]; exact (below_size (by repeat (((with_reducible (exact HB.out)))))) : w.heap.size ≤ gb280)); have n3_:=Aside0.mk ((by rw [hg]; exact (below_size (by repeat (((with_reducible (exact HB.out)))))) : w.heap.size ≤ gb280)); clear HB; have HB:=n0_; have BK280:=n1_; have GW280:=n2_; have GE280:=n3_; clear n0_ n1_ n2_ n3_; clear hb hbox hg)|((with_reducible refine gate_dst (N:=6) rfl ?_); refine Kd.R_lit Kd.string _ 9 ?hg (N:=6) ?hd (xs:=([] : List ByteArray)) (inner:=[]) (ok:=fun _ => True) (okp:=fun _ => True) ?hr ?hp (fun _ hk => hk) trivial (Below.refl _ _) (Nat.le_refl _) (by simp) ?_; (case hd => rfl); (case hg => rfl); (case hr => (go_simp; done)); (case hp => exact (Reps.none _ _)); intro v282 w3 ho4 hb hg_ hnew_; clear hg_ hnew_; (rw [← Ny281.out] at ho4); have n0_:=Aside0.mk (Kd.R_lower ho4 (below_size (by repeat (((with_reducible (exact HB.out))))))); have n1_:=Aside0.mk (blk_below (g:=gb280) (o:=.cells #[.slice A0_0 l0_0.length c0_0,.slice A0_1 l0_1.length c0_1] 26 (0,0)) (by exact BK280.out) hb); have n2_:=Aside0.mk (below_step (by repeat (((with_reducible (exact HB.out))))) hb); clear BK280; clear HB; have HO283:=n0_; have BK280:=n1_; have HB:=n2_; clear n0_ n1_ n2_; clear hb ho4; have hcz5_0 : w3.cell? ⟨gb280,0,none⟩ = some (.slice A0_0 l0_0.length c0_0):=(blk_cell BK280.out 0).trans rfl; have hcz5_1 : w3.cell? ⟨gb280,1,none⟩ = some (.slice A0_1 l0_1.length c0_1):=(blk_cell BK280.out 1).trans rfl; have hfz5_0:=blk_frozen BK280.out 0; have hfz5_1:=blk_frozen BK280.out 1))
 go_loopg [3,10] k (fun kq v3 v10 w' => ∃ (x3_1 : List ByteArray) (x10_1 : Int),v10 = .int .i64 x10_1 ∧ Aside0 (impl_rotationText.l0 kq x3_1 l0_0 (l0_0.length : Int) x10_1 l0_0 l0_1 = some r) ∧ Aside0 (kq ≤ k) ∧ Aside0 (Kd.R Kd.string 9 w' w.heap.size (fun _ => True) v3 x3_1) ∧ Aside0 (w'.heap[gb280]? = some (.cells #[(.slice A0_0 l0_0.length c0_0),(.slice A0_1 l0_1.length c0_1)] 26 (0,0))) ∧ Aside0 (Below w.heap.size w w'))
 case atStart => exact ⟨(y281),(0),(by (rfl)),H',⟨Nat.le_refl _⟩,⟨by exact HO283.out⟩,⟨by exact BK280.out⟩,⟨by repeat (((with_reducible (exact HB.out))))⟩⟩
 case round =>
  clear H'
  try clear p2
  try clear c3
  try clear hcz5_0
  try clear hcz5_1
  try clear hfz5_0
  try clear hfz5_1
  obtain ⟨x3_1,x10_1,rfl,HA,HK1,HO_3,BK280,HB⟩:=hrel
  cases gk with
  | zero => exact absurd HA.out (by simp [impl_rotationText.l0])
  | succ k1 =>
   have H:=HA.out
   clear HA
   simp only [impl_rotationText.l0] at H
   by_cases c6 : x10_1 < (l0_0.length : Int)
   ·rw [if_pos c6] at H
    have c6b0 : decide (x10_1 < (l0_0.length : Int)) = true:=decide_eq_true c6
    clear c6
    by_cases c7 : 0 ≤ x10_1
    ·rw [if_pos c7] at H
     have c7b0 : decide (0 ≤ x10_1) = true:=decide_eq_true c7
     clear c7
     by_cases c8 : x10_1 < (l0_0.length : Int)
     ·rw [if_pos c8] at H
      have c8b0 : decide (x10_1 < (l0_0.length : Int)) = true:=decide_eq_true c8
      clear c8
      replace H:=Option.bind_eq_some_iff.mp H
      obtain ⟨t285,A90,H⟩:=H
      replace H : (if t285.size + 1 ≤ 9223372036854775807 then (if x10_1 < (l0_1.length : Int) then ((impl_decimal.f (rd l0_1 x10_1)).bind fun t287 => (if (t285 ++ (⟨#[58]⟩ : ByteArray)).size + t287.size ≤ 9223372036854775807 then (if x3_1.length < 8796093022208 then (impl_rotationText.l0 k1 (x3_1 ++ [(t285 ++ (⟨#[58]⟩ : ByteArray)) ++ t287]) l0_0 (l0_0.length : Int) (wrap64 (x10_1 + 1)) l0_0 l0_1) else (none)) else (none))) else (none)) else (none)) = some r:=H
      have A9:=Aside0.mk A90
      clear A90
      by_cases c10 : t285.size + 1 ≤ 9223372036854775807
      ·rw [if_pos c10] at H
       have c10b0:=eq_true c10
       have c10b1 : decide (t285.size + 1 ≤ 9223372036854775807) = true:=decide_eq_true c10
       try have c10b2 : (9223372036854775807 < t285.size + 1) = False:=eq_false (Nat.not_lt.2 c10)
       by_cases c11 : x10_1 < (l0_1.length : Int)
       ·rw [if_pos c11] at H
        have c11b0 : decide (x10_1 < (l0_1.length : Int)) = true:=decide_eq_true c11
        clear c11
        replace H:=Option.bind_eq_some_iff.mp H
        obtain ⟨t287,A120,H⟩:=H
        replace H : (if (t285 ++ (⟨#[58]⟩ : ByteArray)).size + t287.size ≤ 9223372036854775807 then (if x3_1.length < 8796093022208 then (impl_rotationText.l0 k1 (x3_1 ++ [(t285 ++ (⟨#[58]⟩ : ByteArray)) ++ t287]) l0_0 (l0_0.length : Int) (wrap64 (x10_1 + 1)) l0_0 l0_1) else (none)) else (none)) = some r:=H
        have A12:=Aside0.mk A120
        clear A120
        by_cases c13 : (t285 ++ (⟨#[58]⟩ : ByteArray)).size + t287.size ≤ 9223372036854775807
        ·rw [if_pos c13] at H
         have c13b0:=eq_true c13
         have c13b1 : decide ((t285 ++ (⟨#[58]⟩ : ByteArray)).size + t287.size ≤ 9223372036854775807) = true:=decide_eq_true c13
         try have c13b2 : (9223372036854775807 < (t285 ++ (⟨#[58]⟩ : ByteArray)).size + t287.size) = False:=eq_false (Nat.not_lt.2 c13)
         try have c13b9 : (9223372036854775807 < t285.size + 1 + t287.size) = False:=eq_false (by have h_:=c13; simp only [ByteArray.size_append] at h_; exact Nat.not_lt.2 h_)
         try have c13b4 : (9223372036854775807 < t285.size + 1 + t287.size) = False:=eq_false (by have h_:=c13; rw [ByteArray.size_append] at h_; exact Nat.not_lt.2 h_)
         by_cases c14 : x3_1.length < 8796093022208
         ·rw [if_pos c14] at H
          have LMc14:=Aside0.mk c14
          clear c14
          obtain ⟨y288,hy288⟩ : ∃ y_ : List ByteArray,y_ = (x3_1 ++ [(t285 ++ (⟨#[58]⟩ : ByteArray)) ++ t287]):=⟨_,rfl⟩
          replace H : (impl_rotationText.l0 k1 y288 l0_0 (l0_0.length : Int) (wrap64 (x10_1 + 1)) l0_0 l0_1) = some r:=by (rw [hy288]; with_reducible exact H)
          have Ny288:=Aside0.mk hy288
          clear hy288
          have H':=Aside0.mk H
          clear H
          have p284 : 0 ≤ (x10_1 : Int):=of_decide_eq_true (by (with_reducible assumption))
          have q284 : x10_1 < (l0_0.length : Int):=of_decide_eq_true (by (with_reducible assumption))
          obtain ⟨ad284,e284,hx284_0⟩:=Kd.at_int HR0_0.out x10_1 p284 q284
          cases e284
          replace hx284_0:=(HB.out.cell (World.block_lt_of_cell? w _ hx284_0)).trans hx284_0
          replace p284:=eq_true p284
          replace q284:=eq_true q284
          try go_wp2
          have n0_:=Aside0.mk (Kd.R_drew HO_3.out)
          have n1_:=Aside0.mk (blk_drew BK280.out)
          have n2_:=Aside0.mk (below_drew1 HB.out)
          clear HO_3
          clear BK280
          clear HB
          have HO_3:=n0_
          have BK280:=n1_
          have HB:=n2_
          clear n0_ n1_ n2_
          have p286 : 0 ≤ (x10_1 : Int):=of_decide_eq_true (by (with_reducible assumption))
          have q286 : x10_1 < (l0_1.length : Int):=of_decide_eq_true (by (with_reducible assumption))
          obtain ⟨ad286,e286,hx286_0⟩:=Kd.at_int HR0_1.out x10_1 p286 q286
          have hw286_0:=hx286_0
          cases e286
          replace hx286_0:=(HB.out.cell (World.block_lt_of_cell? w _ hx286_0)).trans hx286_0
          replace p286:=eq_true p286
          replace q286:=eq_true q286
          refine start_ (n:=14) (S:=fun w' => w'.cell? ⟨gb280,0,none⟩ = some (.slice (some ad284) l0_0.length c0_0) ∧ w'.cell? ⟨gb280,1,none⟩ = some (.slice (some ad286) l0_1.length c0_1) ∧ w'.cell? (ad286.add (x10_1).toNat) = some (.int .i64 (rd l0_1 x10_1))) (ds:=[]) (bc48 14 0) (by kernel_rfl) rfl rfl ⟨(blk_cell BK280.out 0).trans rfl,(blk_cell BK280.out 1).trans rfl,((HB.out.cell (World.block_lt_of_cell? w _ hw286_0)).trans hw286_0)⟩ (fun hHeld => ?_); refine with_tabW impl_rotationText.tab5 impl_rotationText.bits5 (fun HT_ HW_ => ?_)
          generalize wr.drew = w15 at HO_3 BK280 HB hx286_0 hHeld ⊢
          refine pure_ (i:=0) (N:=some 15) (v:=?_) (a':=?_) (bc48 14 1) rfl rfl (any_of HT_.out (by kernel_rfl)) (fun _ _ _ h => h) (Or.inl ⟨by rfl,?_⟩) ?_ ?_
          rotate_left
          ·intro w'
           go_simp
           with_reducible rfl
          rotate_left
          ·simp only [Act.put,List.setIfInBounds_toArray,List.set_cons_zero,List.set_cons_succ,i64_w,i32_w]
           rfl
          refine pure_ (i:=1) (N:=some 16) (v:=?_) (a':=?_) (bc48 14 3) rfl rfl (any_of HT_.out (by kernel_rfl)) (fun _ _ _ h => h) (Or.inl ⟨by rfl,?_⟩) ?_ ?_
          rotate_left
          ·intro w'
           go_simp
           with_reducible rfl
          rotate_left
          ·simp only [Act.put,List.setIfInBounds_toArray,List.set_cons_zero,List.set_cons_succ,i64_w,i32_w]
           rfl
          refine pure_ (i:=4) (N:=some 19) (v:=?_) (a':=?_) (bc48 14 19) rfl rfl (any_of HT_.out (by kernel_rfl)) (fun _ _ _ h => h) (Or.inl ⟨by rfl,?_⟩) ?_ ?_
          rotate_left
          ·intro w'
           go_simp
           with_reducible rfl
          rotate_left
          ·simp only [Act.put,List.setIfInBounds_toArray,List.set_cons_zero,List.set_cons_succ,i64_w,i32_w]
           rfl
          refine pure_ (i:=6) (N:=some 21) (v:=?_) (a':=?_) (bc48 14 83) rfl rfl (any_of HT_.out (by kernel_rfl)) (fun _ _ _ h => h) (Or.inl ⟨by rfl,?_⟩) ?_ ?_
          rotate_left
          ·intro w'
           go_simp
           with_reducible rfl
          rotate_left
          ·simp only [Act.put,List.setIfInBounds_toArray,List.set_cons_zero,List.set_cons_succ,i64_w,i32_w]
           rfl
          refine take_ (i:=5) (N:=some 20) (v:=?_) (a':=?_) (bc48 14 115) rfl rfl (take_ofW HT_.out HW_.out (by kernel_rfl)) (fun _ _ _ h => h) (Or.inl ⟨by rfl,?_⟩) hHeld ?_ ?_
          rotate_left
          ·rintro w' ⟨s0,s1,s2⟩
           go_simp
           with_reducible rfl
          rotate_left
          ·simp only [Act.put,List.setIfInBounds_toArray,List.set_cons_zero,List.set_cons_succ,i64_w,i32_w]
           rfl
          refine pure_ (i:=7) (N:=some 22) (v:=?_) (a':=?_) (bc48 14 243) rfl rfl (any_of HT_.out (by kernel_rfl)) (fun _ _ _ h => h) (Or.inl ⟨by rfl,?_⟩) ?_ ?_
          rotate_left
          ·intro w'
           go_simp
           with_reducible rfl
          rotate_left
          ·simp only [Act.put,List.setIfInBounds_toArray,List.set_cons_zero,List.set_cons_succ,i64_w,i32_w]
           rfl
          refine take_ (i:=8) (N:=some 23) (v:=?_) (a':=?_) (bc48 14 499) rfl rfl (take_ofW HT_.out HW_.out (by kernel_rfl)) (fun _ _ _ h => h) (Or.inl ⟨by rfl,?_⟩) hHeld ?_ ?_
          rotate_left
          ·rintro w' ⟨s0,s1,s2⟩
           go_simp
           with_reducible rfl
          rotate_left
          ·simp only [Act.put,List.setIfInBounds_toArray,List.set_cons_zero,List.set_cons_succ,i64_w,i32_w]
           rfl
          refine one_ (i:=2) (N:=some 17) (bc48 14 503) rfl rfl (one_of HT_.out (by kernel_rfl)) (by decide) (fun K hK => ?_)
          refine goes_ Tryz.func69 (by kernel_rfl) rfl #[.int .i64 (rd l0_0 x10_1)] (by rfl) rfl rfl (by (try simp only [List.map_toArray,List.map_cons,List.map_nil]); (rfl)) ?_
          with_reducible refine (impl_decimal.calls (rd l0_0 x10_1) t285 _ ?sideL A9.out).mono ?_
          (case sideL => (with_reducible exact Laid.below HL.out HB.out))
          rintro e w16 ⟨rfl,hb⟩
          refine ⟨_,rfl,?_⟩
          have n0_:=Aside0.mk (Kd.R_below (by exact HO_3.out) hb)
          have n1_:=Aside0.mk (blk_below (g:=gb280) (o:=.cells #[.slice (some ad284) l0_0.length c0_0,.slice (some ad286) l0_1.length c0_1] 26 (0,0)) (by exact BK280.out) hb)
          have n2_:=Aside0.mk (below_step (by repeat (((with_reducible (exact HB.out))))) hb)
          clear HO_3
          clear BK280
          clear HB
          have HO_3:=n0_
          have BK280:=n1_
          have HB:=n2_
          clear n0_ n1_ n2_
          (try clear hb)
          (try clear hb2)
          (try clear hk)
          (try clear hi)
          refine hK.out _ _ ⟨(blk_cell BK280.out 0).trans rfl,(blk_cell BK280.out 1).trans rfl,((HB.out.cell (World.block_lt_of_cell? w _ hw286_0)).trans hw286_0)⟩ (fun hHeld => ?_)
          clear hK K
          refine norm_ (a':=?_) ?_ ?_
          rotate_left
          ·show Act.put _ (some 17) _ = _
           simp only [Act.put,List.setIfInBounds_toArray,List.set_cons_zero,List.set_cons_succ,i64_w,i32_w]
           rfl
          refine pure_ (i:=3) (N:=some 18) (v:=?_) (a':=?_) (bc48 14 511) rfl rfl (any_of HT_.out (by kernel_rfl)) (fun _ _ _ h => h) (Or.inl ⟨by rfl,?_⟩) ?_ ?_
          rotate_left
          ·intro w'
           go_simp
           with_reducible rfl
          rotate_left
          ·simp only [Act.put,List.setIfInBounds_toArray,List.set_cons_zero,List.set_cons_succ,i64_w,i32_w]
           rfl
          refine one_ (i:=9) (N:=some 24) (bc48 14 1023) rfl rfl (one_of HT_.out (by kernel_rfl)) (by decide) (fun K hK => ?_)
          refine goes_ Tryz.func69 (by kernel_rfl) rfl #[.int .i64 (rd l0_1 x10_1)] (by rfl) rfl rfl (by (try simp only [List.map_toArray,List.map_cons,List.map_nil]); (rfl)) ?_
          with_reducible refine (impl_decimal.calls (rd l0_1 x10_1) t287 _ ?sideL A12.out).mono ?_
          (case sideL => (with_reducible exact Laid.below HL.out HB.out))
          rintro e w17 ⟨rfl,hb⟩
          refine ⟨_,rfl,?_⟩
          have n0_:=Aside0.mk (Kd.R_below (by exact HO_3.out) hb)
          have n1_:=Aside0.mk (blk_below (g:=gb280) (o:=.cells #[.slice (some ad284) l0_0.length c0_0,.slice (some ad286) l0_1.length c0_1] 26 (0,0)) (by exact BK280.out) hb)
          have n2_:=Aside0.mk (below_step (by repeat (((with_reducible (exact HB.out))))) hb)
          clear HO_3
          clear BK280
          clear HB
          have HO_3:=n0_
          have BK280:=n1_
          have HB:=n2_
          clear n0_ n1_ n2_
          (try clear hb)
          (try clear hb2)
          (try clear hk)
          (try clear hi)
          refine hK.out _ _ ⟨(blk_cell BK280.out 0).trans rfl,(blk_cell BK280.out 1).trans rfl,((HB.out.cell (World.block_lt_of_cell? w _ hw286_0)).trans hw286_0)⟩ (fun hHeld => ?_)
          clear hK K
          refine norm_ (a':=?_) ?_ ?_
          rotate_left
          ·show Act.put _ (some 24) _ = _
           simp only [Act.put,List.setIfInBounds_toArray,List.set_cons_zero,List.set_cons_succ,i64_w,i32_w]
           rfl
          refine pure_ (i:=10) (N:=some 25) (v:=?_) (a':=?_) (bc48 14 2047) rfl rfl (any_of HT_.out (by kernel_rfl)) (fun _ _ _ h => h) (Or.inl ⟨by rfl,?_⟩) ?_ ?_
          rotate_left
          ·intro w'
           go_simp
           with_reducible rfl
          rotate_left
          ·simp only [Act.put,List.setIfInBounds_toArray,List.set_cons_zero,List.set_cons_succ,i64_w,i32_w]
           rfl
          refine one_ (i:=11) (N:=some 26) (bc48 14 4095) rfl rfl (one_of HT_.out (by kernel_rfl)) (by decide) (fun K hK => ?_)
          refine value_ (w1:=?_) (v:=?_) (by rfl) rfl ?_ ?_
          rotate_left 2
          ·go_simp
           constructor
           ·rfl
           ·rfl
          refine hK.out _ _ ⟨(blk_cell (blk_alloc BK280.out _) 0).trans rfl,(blk_cell (blk_alloc BK280.out _) 1).trans rfl,(World.cell?_alloc_lt _ _ _ (World.block_lt_of_cell? _ _ (((HB.out.cell (World.block_lt_of_cell? w _ hw286_0)).trans hw286_0)))).trans (((HB.out.cell (World.block_lt_of_cell? w _ hw286_0)).trans hw286_0))⟩ (fun hHeld => ?_)
          clear hK K
          refine norm_ (a':=?_) ?_ ?_
          rotate_left
          ·show Act.put _ (some 26) _ = _
           simp only [Act.put,List.setIfInBounds_toArray,List.set_cons_zero,List.set_cons_succ,i64_w,i32_w]
           rfl
          refine one_ (i:=12) (N:=some 27) (bc48 14 8191) rfl rfl (one_of HT_.out (by kernel_rfl)) (by decide) (fun K hK => ?_)
          refine Kd.R_append_step Kd.string (w0:=w) w.heap.size (by rfl) (.tmp 15) (.tmp 26) 57 9 (.string ⟨#[]⟩) 16 rfl Tryz.underlying57 info9 rfl (by decide) (by omega) u3 x3_1 ((t285 ++ (⟨#[58]⟩ : ByteArray)) ++ t287) [.string ((t285 ++ (⟨#[58]⟩ : ByteArray)) ++ t287)] (fun _ => True) (fun _ => False) rfl rfl ?aP (fun _ hk => hk.elim) ?aF ?aO ?aB ?aS ?aL ?_
          (case aP => exact rfl)
          (case aB => exact (by repeat (((with_reducible (exact HB.out))))))
          (case aF => exact (fun _ _ => trivial))
          (case aO => exact (by exact HO_3.out))
          (case aS => exact (below_size (by repeat (((with_reducible (exact HB.out)))))))
          (case aL => have:=LMc14.out; omega)
          intro v289 w18 ho hb hg hat
          rw [← Ny288.out] at ho
          have n0_:=Aside0.mk (blk_grown (g:=gb280) (o:=.cells #[.slice (some ad284) l0_0.length c0_0,.slice (some ad286) l0_1.length c0_1] 26 (0,0)) (by exact BK280.out) hg (Kd.R_ne HO_3.out BK280.out (by decide)))
          have n1_:=Aside0.mk (hb)
          have n2_:=Aside0.mk (ho)
          clear BK280
          clear HB
          clear HO_3
          have BK280:=n0_
          have HB:=n1_
          have HO290:=n2_
          clear n0_ n1_ n2_
          clear ho hb hg hat
          refine hK.out _ _ ⟨(blk_cell BK280.out 0).trans rfl,(blk_cell BK280.out 1).trans rfl,((HB.out.cell (World.block_lt_of_cell? w _ hw286_0)).trans hw286_0)⟩ (fun hHeld => ?_)
          clear hK K
          refine norm_ (a':=?_) ?_ ?_
          rotate_left
          ·show Act.put _ (some 27) _ = _
           simp only [Act.put,List.setIfInBounds_toArray,List.set_cons_zero,List.set_cons_succ,i64_w,i32_w]
           rfl
          refine pure_ (i:=13) (N:=some 3) (v:=?_) (a':=?_) (bc48 14 16383) rfl rfl (any_of HT_.out (by kernel_rfl)) (fun _ _ _ h => h) (Or.inl ⟨by rfl,?_⟩) ?_ ?_
          rotate_left
          ·intro w'
           go_simp
           with_reducible rfl
          rotate_left
          ·simp only [Act.put,List.setIfInBounds_toArray,List.set_cons_zero,List.set_cons_succ,i64_w,i32_w]
           rfl
          refine done_ (done_of HT_.out (by kernel_rfl)) ?_
          try go_wp2
          go_roundg k1
          case measure => have:=HK1.out; omega
          case rel => exact ⟨(y288),(wrap64 (x10_1 + 1)),(by (rfl)),H',⟨by have:=HK1.out; omega⟩,⟨by exact HO290.out⟩,⟨by exact BK280.out⟩,⟨by repeat (((with_reducible (exact HB.out))))⟩⟩
         ·rw [if_neg c14] at H
          exact absurd H (by simp)
        ·rw [if_neg c13] at H
         exact absurd H (by simp)
       ·rw [if_neg c11] at H
        exact absurd H (by simp)
      ·rw [if_neg c10] at H
       exact absurd H (by simp)
     ·rw [if_neg c8] at H
      exact absurd H (by simp)
    ·rw [if_neg c7] at H
     exact absurd H (by simp)
   ·rw [if_neg c6] at H
    have c6b0 : decide (x10_1 < (l0_0.length : Int)) = false:=decide_eq_false c6
    clear c6
    replace H:=Option.bind_eq_some_iff.mp H
    obtain ⟨t291,A190,H⟩:=H
    replace H : (some t291) = some r:=H
    have A19:=Aside0.mk A190
    clear A190
    obtain rfl:=Option.some.inj H
    obtain ⟨Ao20,co20,eo20⟩:=Kd.R_slice HO_3.out
    subst eo20
    go_wp2_with ((((with_reducible refine gate_callee (f:=70) rfl ?_); refine goesL_ (some 30) rfl rfl Tryz.func70 (by kernel_rfl) rfl #[.slice Ao20 x3_1.length co20,.string (⟨#[32]⟩ : ByteArray)] rfl (by (try simp only [List.map_toArray,List.map_cons,List.map_nil]); (rfl)) ?_; (with_reducible refine (strings_Join.calls _ _ x3_1 (⟨#[32]⟩ : ByteArray) t291 _ ?side1 ?side2 A19.out).mono ?_); (case side1 => repeat ((exact (Kd.R_reads' HO_3.out).2.2))); (case side2 => exact (Kd.R_reads' HO_3.out).2.1); rintro e w21 ⟨rfl,hb⟩; refine ⟨_,rfl,?_⟩; have n0_:=Aside0.mk (Kd.R_below (by exact HO_3.out) hb); have n1_:=Aside0.mk (blk_below (g:=gb280) (o:=.cells #[.slice A0_0 l0_0.length c0_0,.slice A0_1 l0_1.length c0_1] 26 (0,0)) (by exact BK280.out) hb); have n2_:=Aside0.mk (below_step (by repeat (((with_reducible (exact HB.out))))) hb); clear HO_3; clear BK280; clear HB; have HO_3:=n0_; have BK280:=n1_; have HB:=n2_; clear n0_ n1_ n2_; (try clear hb); (try clear hb2); (try clear hk); (try clear hi))))
    go_ret
    exact ⟨by (rfl),by repeat (((with_reducible (exact HB.out))))⟩

end Go.Proofs.YtfindomajbjacaaGreatDoor.X
