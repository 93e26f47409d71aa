-- Written by a program of ours (wip/bin/xprint.py,over the kit's print.py) out of the translation. Not trusted: Lean checks it.
import Derived.Test.YtfindomajbjacaaGreatDoorX0
import Derived.Test.YtfindomajbjacaaGreatDoorFspecl1Num
import Derived.Test.YtfindomajbjacaaGreatDoorGl3Good
namespace Go.Proofs.YtfindomajbjacaaGreatDoor.X
open Go.RowKit Go.Proofs.YtfindomajbjacaaGreatDoorW.PrintWords Go.Proofs.YtfindomajbjacaaGreatDoorW.PrintLast Go.Proofs.YtfindomajbjacaaGreatDoorW.PrintMore
def lbc63 : Nat → Nat → List Bool
 | 0,_ => []
 | n+1,m => (m%2==1) :: lbc63 n (m/2)
def bc63 (n m : Nat) : Array Bool := ⟨lbc63 n m⟩
attribute [local go_sem] max2_int min2_int max_two min_two max_three min_three max_four min_four   -- for this text's walks alone
set_option linter.unusedVariables false
set_option linter.unusedSimpArgs false

/-! ### spec_RotationText: function 8 -/
mutual
def spec_RotationText.l0 : Nat → ByteArray → Int → List Int → List Int → Option (ByteArray × Bool)
 | 0,_,_,_,_ => none
 | k + 1,x4,x5,x238000,x238001 => if x5 < (x238000.length : Int) then (if x5 > 0 then (if x4.size + 1 ≤ 9223372036854775807 then (spec_RotationText.j1 k (x4 ++ (⟨#[32]⟩ : ByteArray)) x5 x238000 x238001) else (none)) else (spec_RotationText.j1 k x4 x5 x238000 x238001)) else (some (x4,true))
def spec_RotationText.j1 : Nat → ByteArray → Int → List Int → List Int → Option (ByteArray × Bool)
 | 0,_,_,_,_ => none
 | k + 1,x4,x5,x238000,x238001 => if 0 ≤ x5 then (if x5 < (x238000.length : Int) then ((spec_l1Num.f k (rd x238000 x5)).bind fun t240 => (if x4.size + t240.size ≤ 9223372036854775807 then (if (x4 ++ t240).size + 1 ≤ 9223372036854775807 then (if x5 < (x238001.length : Int) then ((spec_l1Num.f k (rd x238001 x5)).bind fun t242 => (if ((x4 ++ t240) ++ (⟨#[58]⟩ : ByteArray)).size + t242.size ≤ 9223372036854775807 then (spec_RotationText.l0 k (((x4 ++ t240) ++ (⟨#[58]⟩ : ByteArray)) ++ t242) (wrap64 (x5 + 1)) x238000 x238001) else (none))) else (none)) else (none)) else (none))) else (none)) else (none)
end
def spec_RotationText.f (k : Nat) (l0_0 : List Int) (l0_1 : List Int) : Option (ByteArray × Bool):=(spec_l3Good.f k l0_0 l0_1).bind fun t238 => (if t238 = true then (spec_RotationText.l0 k (⟨#[]⟩ : ByteArray) 0 l0_0 l0_1) else (some ((⟨#[]⟩ : ByteArray),false)))
theorem spec_RotationText.mono_l : ∀ k,(∀ y0 y1 y2 y3,LeO (spec_RotationText.l0 k y0 y1 y2 y3) (spec_RotationText.l0 (k + 1) y0 y1 y2 y3)) ∧ (∀ y0 y1 y2 y3,LeO (spec_RotationText.j1 k y0 y1 y2 y3) (spec_RotationText.j1 (k + 1) y0 y1 y2 y3))
 | 0 => ⟨fun _ _ _ _ r h => by simp [spec_RotationText.l0] at h,fun _ _ _ _ r h => by simp [spec_RotationText.j1] at h⟩
 | k + 1 => by
  obtain ⟨ih0,ih1⟩:=spec_RotationText.mono_l k
  refine ⟨?_,?_⟩ <;> intros <;> first | unfold spec_RotationText.l0 | unfold spec_RotationText.j1
  all_goals repeat' first | (with_reducible exact ih0 _ _ _ _) | (with_reducible exact ih1 _ _ _ _) | (with_reducible exact spec_l1Num.mono _ _) | (with_reducible exact spec_l3Good.mono _ _ _) | (with_reducible exact LeO.refl _) | (with_reducible exact LeO.none _) | (with_reducible refine LeO.ite ?_ ?_) | (with_reducible refine LeO.bind ?_ (fun _ => ?_)) | exact ih0 _ _ _ _ | exact ih1 _ _ _ _ | refine LeO.ite ?_ ?_ | refine LeO.bind ?_ (fun _ => ?_)
theorem spec_RotationText.mono : ∀ a0 a1 k,LeO (spec_RotationText.f k a0 a1) (spec_RotationText.f (k + 1) a0 a1):=by
 intro a0 a1 k
 obtain ⟨ih0,ih1⟩:=spec_RotationText.mono_l k
 unfold spec_RotationText.f
 repeat' first
   | (with_reducible exact ih0 _ _ _ _)
   | (with_reducible exact ih1 _ _ _ _)
   | (with_reducible exact spec_l1Num.mono _ _)
   | (with_reducible exact spec_l3Good.mono _ _ _)
   | (with_reducible exact LeO.refl _)
   | (with_reducible exact LeO.none _)
   | (with_reducible refine LeO.ite ?_ ?_)
   | (with_reducible refine LeO.bind ?_ (fun _ => ?_))
   | exact ih0 _ _ _ _
   | exact ih1 _ _ _ _
   | exact spec_l1Num.mono _ _
   | exact spec_l3Good.mono _ _ _
   | exact LeO.none _
   | refine LeO.ite ?_ ?_
   | refine LeO.bind ?_ (fun _ => ?_)
def spec_RotationText.T9 : Bool × List (List Nat × List Nat):=(true,[([],[]),([],[]),([1],[1]),([],[]),([2,3],[2,3]),([4],[4]),([5],[5]),([0,6],[0,6]),([7],[7]),([],[]),([9],[9]),([],[]),([10,11],[10,11]),([12],[12]),([13,6],[13]),([8,14],[8,14]),([15,14,0,1,2,3,4,5,6,7,8,9,10,11,12,13,14,15],[0,15])])
def spec_RotationText.B9 : List Nat:=[0,0,2,0,14,30,62,127,255,0,512,0,3584,7680,15998,32767,65535]
theorem spec_RotationText.tab9 : rtab .any (opsOf Tryz.f8 9) = spec_RotationText.T9:=by kernel_rfl
theorem spec_RotationText.bits9 : waitsOk spec_RotationText.T9.2 spec_RotationText.B9 = true:=by kernel_rfl
set_option maxHeartbeats 8000000 in
set_option maxRecDepth 100000 in
theorem spec_RotationText.calls (k : Nat) (A0_0 : Option Addr) (c0_0 : Nat) (l0_0 : List Int) (A0_1 : Option Addr) (c0_1 : Nat) (l0_1 : List Int) (r1 : ByteArray) (r2 : Bool) (w : World) (hr0_0 : Kd.C (Kd.int .i64) w A0_0 l0_0.length l0_0) (hc0_0 : l0_0.length ≤ c0_0) (hr0_1 : Kd.C (Kd.int .i64) w A0_1 l0_1.length l0_1) (hc0_1 : l0_1.length ≤ c0_1) (h : spec_RotationText.f k l0_0 l0_1 = some (r1,r2)) :
  Calls Tryz.prog 8 #[.agg #[.slice A0_0 l0_0.length c0_0,.slice A0_1 l0_1.length c0_1]] w fun e w' => e = .returned (.tuple #[.string r1,.bool r2]) ∧ Below w.heap.size w w':=by
 have hu26:=Tryz.underlying26
 have HR0_0:=Aside0.mk hr0_0
 have HC0_0:=Aside0.mk hc0_0
 clear hr0_0 hc0_0
 have HR0_1:=Aside0.mk hr0_1
 have HC0_1:=Aside0.mk hc0_1
 clear hr0_1 hc0_1
 have HB:=Aside0.mk (Below.refl w.heap.size w)
 have H : ((spec_l3Good.f k l0_0 l0_1).bind fun t238 => (if t238 = true then (spec_RotationText.l0 k (⟨#[]⟩ : ByteArray) 0 l0_0 l0_1) else (some ((⟨#[]⟩ : ByteArray),false)))) = some (r1,r2):=h
 clear h
 replace H:=Option.bind_eq_some_iff.mp H
 obtain ⟨t238,A20,H⟩:=H
 replace H : (if t238 = true then (spec_RotationText.l0 k (⟨#[]⟩ : ByteArray) 0 l0_0 l0_1) else (some ((⟨#[]⟩ : ByteArray),false))) = some (r1,r2):=H
 have A2:=Aside0.mk A20
 clear A20
 by_cases c3 : t238 = true
 ·subst c3
  have H1 : (spec_RotationText.l0 k (⟨#[]⟩ : ByteArray) 0 l0_0 l0_1) = some (r1,r2):=by rw [if_pos rfl] at H; exact H
  clear H
  have H:=H1
  clear H1
  have H':=Aside0.mk H
  clear H
  go_enter Tryz.func8,Tryz.ntmps8
  go_wp2_with (first|((with_reducible refine gate_dst (N:=1) rfl ?_); refine box_event ?hg (N:=1) ?hd (cs:=#[.slice A0_0 l0_0.length c0_0,.slice A0_1 l0_1.length c0_1]) (t:=26) ?hr ?_; (case hd => rfl); (case hg => rfl); (case hr => (go_simp; done)); intro gb237 hg w4 hbox hb; have n0_:=Aside0.mk (below_step (by repeat (((with_reducible (exact HB.out))))) hb); have n1_:=Aside0.mk (hbox); have n2_:=Aside0.mk ((by rw [hg]; exact (below_size (by repeat (((with_reducible (exact HB.out)))))) : w.heap.size ≤ gb237)); have n3_:=Aside0.mk ((by rw [hg]; exact (below_size (by repeat (((with_reducible (exact HB.out)))))) : w.heap.size ≤ gb237)); clear HB; have HB:=n0_; have BK237:=n1_; have GW237:=n2_; have GE237:=n3_; clear n0_ n1_ n2_ n3_; clear hb hbox hg; have hcz5_0 : w4.cell? ⟨gb237,0,none⟩ = some (.slice A0_0 l0_0.length c0_0):=(blk_cell BK237.out 0).trans rfl; have hcz5_1 : w4.cell? ⟨gb237,1,none⟩ = some (.slice A0_1 l0_1.length c0_1):=(blk_cell BK237.out 1).trans rfl; have hfz5_0:=blk_frozen BK237.out 0; have hfz5_1:=blk_frozen BK237.out 1)|((with_reducible refine gate_callee (f:=33) rfl ?_); refine goesL_ (some 7) rfl rfl Tryz.func33 (by kernel_rfl) rfl #[.agg #[.slice A0_0 l0_0.length c0_0,.slice A0_1 l0_1.length c0_1]] rfl (by (try simp only [List.map_toArray,List.map_cons,List.map_nil]); (rfl)) ?_; (with_reducible refine (spec_l3Good.calls k _ _ l0_0 _ _ l0_1 true _ ?side1 ?side2 ?side3 ?side4 A2.out).mono ?_); (case side1 => repeat ((exact (Kd.C_below HR0_0.out HB.out)))); (case side2 => exact HC0_0.out); (case side3 => repeat ((exact (Kd.C_below HR0_1.out HB.out)))); (case side4 => exact HC0_1.out); rintro e w6 ⟨rfl,hb⟩; refine ⟨_,rfl,?_⟩; have n0_:=Aside0.mk (blk_below (g:=gb237) (o:=.cells #[.slice A0_0 l0_0.length c0_0,.slice A0_1 l0_1.length c0_1] 26 (0,0)) (by exact BK237.out) hb); have n1_:=Aside0.mk (below_step (by repeat (((with_reducible (exact HB.out))))) hb); clear BK237; clear HB; have BK237:=n0_; have HB:=n1_; clear n0_ n1_; (try clear hb); (try clear hb2); (try clear hk); (try clear hi)))
  go_loopg [4,5] k (fun kq v4 v5 w' => ∃ (x4_1 : ByteArray) (x5_1 : Int),v4 = .string x4_1 ∧ v5 = .int .i64 x5_1 ∧ Aside0 (spec_RotationText.l0 kq x4_1 x5_1 l0_0 l0_1 = some (r1,r2)) ∧ Aside0 (kq ≤ k) ∧ Aside0 (w'.heap[gb237]? = some (.cells #[(.slice A0_0 l0_0.length c0_0),(.slice A0_1 l0_1.length c0_1)] 26 (0,0))) ∧ Aside0 (Below w.heap.size w w'))
  case atStart => exact ⟨(⟨#[]⟩ : ByteArray),(0),(by (rfl)),(by (rfl)),H',⟨Nat.le_refl _⟩,⟨by exact BK237.out⟩,⟨by repeat (((with_reducible (exact HB.out))))⟩⟩
  case round =>
   clear H'
   try clear p2
   try clear c3
   try clear hcz5_0
   try clear hcz5_1
   try clear hfz5_0
   try clear hfz5_1
   obtain ⟨x4_1,x5_1,rfl,rfl,HA,HK1,BK237,HB⟩:=hrel
   cases gk with
   | zero => exact absurd HA.out (by simp [spec_RotationText.l0])
   | succ k1 =>
    have H:=HA.out
    clear HA
    simp only [spec_RotationText.l0] at H
    by_cases c7 : x5_1 < (l0_0.length : Int)
    ·rw [if_pos c7] at H
     have c7b0 : decide (x5_1 < (l0_0.length : Int)) = true:=decide_eq_true c7
     clear c7
     have HC8:=Aside0.mk H
     clear H
     have hcz9_0 : wr.cell? ⟨gb237,0,none⟩ = some (.slice A0_0 l0_0.length c0_0):=(blk_cell BK237.out 0).trans rfl
     have hcz9_1 : wr.cell? ⟨gb237,1,none⟩ = some (.slice A0_1 l0_1.length c0_1):=(blk_cell BK237.out 1).trans rfl
     have hfz9_0:=blk_frozen BK237.out 0
     have hfz9_1:=blk_frozen BK237.out 1
     go_upto_if 17 with (fail)
     go_cut [4] (fun v4 wc => ∃ (kq : Nat) (x4_7 : ByteArray),v4 = .string x4_7 ∧ Aside0 (spec_RotationText.j1 kq x4_7 x5_1 l0_0 l0_1 = some (r1,r2)) ∧ Aside0 (kq ≤ k1) ∧ Aside0 (wc.heap[gb237]? = some (.cells #[(.slice A0_0 l0_0.length c0_0),(.slice A0_1 l0_1.length c0_1)] 26 (0,0))) ∧ Aside0 (Below w.heap.size w wc))
     case first =>
      have H:=HC8.out
      clear HC8
      by_cases c10 : x5_1 > 0
      ·rw [if_pos c10] at H
       have c10b0 : decide (0 < x5_1) = true:=decide_eq_true c10
       clear c10
       (rw [c10b0])
       by_cases c11 : x4_1.size + 1 ≤ 9223372036854775807
       ·rw [if_pos c11] at H
        have c11b0:=eq_true c11
        have c11b1 : decide (x4_1.size + 1 ≤ 9223372036854775807) = true:=decide_eq_true c11
        try have c11b2 : (9223372036854775807 < x4_1.size + 1) = False:=eq_false (Nat.not_lt.2 c11)
        have H':=Aside0.mk H
        clear H
        go_wp2
        go_meet
        case rel => exact ⟨_,(x4_1 ++ (⟨#[32]⟩ : ByteArray)),(by (rfl)),H',⟨by have:=HK1.out; (omega)⟩,⟨by exact BK237.out⟩,⟨by repeat (((with_reducible (exact HB.out))))⟩⟩
       ·rw [if_neg c11] at H
        exact absurd H (by simp)
      ·rw [if_neg c10] at H
       have c10b0 : decide (0 < x5_1) = false:=decide_eq_false c10
       clear c10
       (rw [c10b0])
       have H':=Aside0.mk H
       clear H
       go_wp2
       go_meet
       case rel => exact ⟨_,(x4_1),(by (rfl)),H',⟨by have:=HK1.out; (omega)⟩,⟨by exact BK237.out⟩,⟨by repeat (((with_reducible (exact HB.out))))⟩⟩
     case rest =>
      clear HC8
      try clear c1
      try clear p2
      try clear c3
      try clear c7
      try clear c7b0
      try clear c8
      try clear c10
      try clear c10b0
      try clear c11
      try clear c11b0
      try clear c11b1
      try clear c11b2
      try clear hcz5_0
      try clear hcz5_1
      try clear hcz9_0
      try clear hcz9_1
      try clear hfz5_0
      try clear hfz5_1
      try clear hfz9_0
      try clear hfz9_1
      try clear p2
      obtain ⟨kq,x4_7,rfl,HA,HJ7,BK237,HB⟩:=hcut
      cases kq with
      | zero => exact absurd HA.out (by simp [spec_RotationText.j1])
      | succ kj7 =>
       have H:=HA.out
       clear HA
       simp only [spec_RotationText.j1] at H
       by_cases c12 : 0 ≤ x5_1
       ·rw [if_pos c12] at H
        have c12b0 : decide (0 ≤ x5_1) = true:=decide_eq_true c12
        clear c12
        by_cases c13 : x5_1 < (l0_0.length : Int)
        ·rw [if_pos c13] at H
         have c13b0 : decide (x5_1 < (l0_0.length : Int)) = true:=decide_eq_true c13
         clear c13
         replace H:=Option.bind_eq_some_iff.mp H
         obtain ⟨t240,A140,H⟩:=H
         replace H : (if x4_7.size + t240.size ≤ 9223372036854775807 then (if (x4_7 ++ t240).size + 1 ≤ 9223372036854775807 then (if x5_1 < (l0_1.length : Int) then ((spec_l1Num.f kj7 (rd l0_1 x5_1)).bind fun t242 => (if ((x4_7 ++ t240) ++ (⟨#[58]⟩ : ByteArray)).size + t242.size ≤ 9223372036854775807 then (spec_RotationText.l0 kj7 (((x4_7 ++ t240) ++ (⟨#[58]⟩ : ByteArray)) ++ t242) (wrap64 (x5_1 + 1)) l0_0 l0_1) else (none))) else (none)) else (none)) else (none)) = some (r1,r2):=H
         have A14:=Aside0.mk A140
         clear A140
         by_cases c15 : x4_7.size + t240.size ≤ 9223372036854775807
         ·rw [if_pos c15] at H
          have c15b0:=eq_true c15
          have c15b1 : decide (x4_7.size + t240.size ≤ 9223372036854775807) = true:=decide_eq_true c15
          try have c15b2 : (9223372036854775807 < x4_7.size + t240.size) = False:=eq_false (Nat.not_lt.2 c15)
          by_cases c16 : (x4_7 ++ t240).size + 1 ≤ 9223372036854775807
          ·rw [if_pos c16] at H
           have c16b0:=eq_true c16
           have c16b1 : decide ((x4_7 ++ t240).size + 1 ≤ 9223372036854775807) = true:=decide_eq_true c16
           try have c16b2 : (9223372036854775807 < (x4_7 ++ t240).size + 1) = False:=eq_false (Nat.not_lt.2 c16)
           try have c16b9 : (9223372036854775807 < x4_7.size + t240.size + 1) = False:=eq_false (by have h_:=c16; simp only [ByteArray.size_append] at h_; exact Nat.not_lt.2 h_)
           try (have c16b7:=c16b2; simp only [ByteArray.size_append] at c16b7)
           by_cases c17 : x5_1 < (l0_1.length : Int)
           ·rw [if_pos c17] at H
            have c17b0 : decide (x5_1 < (l0_1.length : Int)) = true:=decide_eq_true c17
            clear c17
            replace H:=Option.bind_eq_some_iff.mp H
            obtain ⟨t242,A180,H⟩:=H
            replace H : (if ((x4_7 ++ t240) ++ (⟨#[58]⟩ : ByteArray)).size + t242.size ≤ 9223372036854775807 then (spec_RotationText.l0 kj7 (((x4_7 ++ t240) ++ (⟨#[58]⟩ : ByteArray)) ++ t242) (wrap64 (x5_1 + 1)) l0_0 l0_1) else (none)) = some (r1,r2):=H
            have A18:=Aside0.mk A180
            clear A180
            by_cases c19 : ((x4_7 ++ t240) ++ (⟨#[58]⟩ : ByteArray)).size + t242.size ≤ 9223372036854775807
            ·rw [if_pos c19] at H
             have c19b0:=eq_true c19
             have c19b1 : decide (((x4_7 ++ t240) ++ (⟨#[58]⟩ : ByteArray)).size + t242.size ≤ 9223372036854775807) = true:=decide_eq_true c19
             try have c19b2 : (9223372036854775807 < ((x4_7 ++ t240) ++ (⟨#[58]⟩ : ByteArray)).size + t242.size) = False:=eq_false (Nat.not_lt.2 c19)
             try have c19b9 : (9223372036854775807 < x4_7.size + t240.size + 1 + t242.size) = False:=eq_false (by have h_:=c19; simp only [ByteArray.size_append] at h_; exact Nat.not_lt.2 h_)
             have H':=Aside0.mk H
             clear H
             try go_wp2
             have n0_:=Aside0.mk (blk_drew BK237.out)
             have n1_:=Aside0.mk (below_drew1 HB.out)
             clear BK237
             clear HB
             have BK237:=n0_
             have HB:=n1_
             clear n0_ n1_
             have p239 : 0 ≤ (x5_1 : Int):=of_decide_eq_true (by (with_reducible assumption))
             have q239 : x5_1 < (l0_0.length : Int):=of_decide_eq_true (by (with_reducible assumption))
             obtain ⟨ad239,e239,hx239_0⟩:=Kd.at_int HR0_0.out x5_1 p239 q239
             have hw239_0:=hx239_0
             cases e239
             replace hx239_0:=(HB.out.cell (World.block_lt_of_cell? w _ hx239_0)).trans hx239_0
             replace p239:=eq_true p239
             replace q239:=eq_true q239
             have p241 : 0 ≤ (x5_1 : Int):=of_decide_eq_true (by (with_reducible assumption))
             have q241 : x5_1 < (l0_1.length : Int):=of_decide_eq_true (by (with_reducible assumption))
             obtain ⟨ad241,e241,hx241_0⟩:=Kd.at_int HR0_1.out x5_1 p241 q241
             have hw241_0:=hx241_0
             cases e241
             replace hx241_0:=(HB.out.cell (World.block_lt_of_cell? w _ hx241_0)).trans hx241_0
             replace p241:=eq_true p241
             replace q241:=eq_true q241
             refine start_ (n:=17) (S:=fun w' => w'.cell? ⟨gb237,0,none⟩ = some (.slice (some ad239) l0_0.length c0_0) ∧ w'.cell? ⟨gb237,1,none⟩ = some (.slice (some ad241) l0_1.length c0_1) ∧ w'.cell? (ad239.add (x5_1).toNat) = some (.int .i64 (rd l0_0 x5_1)) ∧ w'.cell? (ad241.add (x5_1).toNat) = some (.int .i64 (rd l0_1 x5_1))) (ds:=[]) (bc63 17 0) (by kernel_rfl) rfl rfl ⟨(blk_cell BK237.out 0).trans rfl,(blk_cell BK237.out 1).trans rfl,((HB.out.cell (World.block_lt_of_cell? w _ hw239_0)).trans hw239_0),((HB.out.cell (World.block_lt_of_cell? w _ hw241_0)).trans hw241_0)⟩ (fun hHeld => ?_); refine with_tabW spec_RotationText.tab9 spec_RotationText.bits9 (fun HT_ HW_ => ?_)
             generalize wc.drew = w20 at BK237 HB hx239_0 hx241_0 hHeld ⊢
             refine pure_ (i:=0) (N:=some 20) (v:=?_) (a':=?_) (bc63 17 1) rfl rfl (any_of HT_.out (by kernel_rfl)) (fun _ _ _ h => h) (Or.inl ⟨by rfl,?_⟩) ?_ ?_
             rotate_left
             ·intro w'
              go_simp
              with_reducible rfl
             rotate_left
             ·simp only [Act.put,List.setIfInBounds_toArray,List.set_cons_zero,List.set_cons_succ,i64_w,i32_w]
              rfl
             refine pure_ (i:=1) (N:=some 21) (v:=?_) (a':=?_) (bc63 17 3) rfl rfl (any_of HT_.out (by kernel_rfl)) (fun _ _ _ h => h) (Or.inl ⟨by rfl,?_⟩) ?_ ?_
             rotate_left
             ·intro w'
              go_simp
              with_reducible rfl
             rotate_left
             ·simp only [Act.put,List.setIfInBounds_toArray,List.set_cons_zero,List.set_cons_succ,i64_w,i32_w]
              rfl
             refine pure_ (i:=3) (N:=some 23) (v:=?_) (a':=?_) (bc63 17 11) rfl rfl (any_of HT_.out (by kernel_rfl)) (fun _ _ _ h => h) (Or.inl ⟨by rfl,?_⟩) ?_ ?_
             rotate_left
             ·intro w'
              go_simp
              with_reducible rfl
             rotate_left
             ·simp only [Act.put,List.setIfInBounds_toArray,List.set_cons_zero,List.set_cons_succ,i64_w,i32_w]
              rfl
             refine pure_ (i:=9) (N:=some 29) (v:=?_) (a':=?_) (bc63 17 523) rfl rfl (any_of HT_.out (by kernel_rfl)) (fun _ _ _ h => h) (Or.inl ⟨by rfl,?_⟩) ?_ ?_
             rotate_left
             ·intro w'
              go_simp
              with_reducible rfl
             rotate_left
             ·simp only [Act.put,List.setIfInBounds_toArray,List.set_cons_zero,List.set_cons_succ,i64_w,i32_w]
              rfl
             refine pure_ (i:=11) (N:=some 31) (v:=?_) (a':=?_) (bc63 17 2571) rfl rfl (any_of HT_.out (by kernel_rfl)) (fun _ _ _ h => h) (Or.inl ⟨by rfl,?_⟩) ?_ ?_
             rotate_left
             ·intro w'
              go_simp
              with_reducible rfl
             rotate_left
             ·simp only [Act.put,List.setIfInBounds_toArray,List.set_cons_zero,List.set_cons_succ,i64_w,i32_w]
              rfl
             refine take_ (i:=2) (N:=some 22) (v:=?_) (a':=?_) (bc63 17 2575) rfl rfl (take_ofW HT_.out HW_.out (by kernel_rfl)) (fun _ _ _ h => h) (Or.inl ⟨by rfl,?_⟩) hHeld ?_ ?_
             rotate_left
             ·rintro w' ⟨s0,s1,s2,s3⟩
              go_simp
              with_reducible rfl
             rotate_left
             ·simp only [Act.put,List.setIfInBounds_toArray,List.set_cons_zero,List.set_cons_succ,i64_w,i32_w]
              rfl
             refine pure_ (i:=4) (N:=some 24) (v:=?_) (a':=?_) (bc63 17 2591) rfl rfl (any_of HT_.out (by kernel_rfl)) (fun _ _ _ h => h) (Or.inl ⟨by rfl,?_⟩) ?_ ?_
             rotate_left
             ·intro w'
              go_simp
              with_reducible rfl
             rotate_left
             ·simp only [Act.put,List.setIfInBounds_toArray,List.set_cons_zero,List.set_cons_succ,i64_w,i32_w]
              rfl
             refine take_ (i:=5) (N:=some 25) (v:=?_) (a':=?_) (bc63 17 2623) rfl rfl (take_ofW HT_.out HW_.out (by kernel_rfl)) (fun _ _ _ h => h) (Or.inl ⟨by rfl,?_⟩) hHeld ?_ ?_
             rotate_left
             ·rintro w' ⟨s0,s1,s2,s3⟩
              go_simp
              with_reducible rfl
             rotate_left
             ·simp only [Act.put,List.setIfInBounds_toArray,List.set_cons_zero,List.set_cons_succ,i64_w,i32_w]
              rfl
             refine take_ (i:=10) (N:=some 30) (v:=?_) (a':=?_) (bc63 17 3647) rfl rfl (take_ofW HT_.out HW_.out (by kernel_rfl)) (fun _ _ _ h => h) (Or.inl ⟨by rfl,?_⟩) hHeld ?_ ?_
             rotate_left
             ·rintro w' ⟨s0,s1,s2,s3⟩
              go_simp
              with_reducible rfl
             rotate_left
             ·simp only [Act.put,List.setIfInBounds_toArray,List.set_cons_zero,List.set_cons_succ,i64_w,i32_w]
              rfl
             refine pure_ (i:=12) (N:=some 32) (v:=?_) (a':=?_) (bc63 17 7743) rfl rfl (any_of HT_.out (by kernel_rfl)) (fun _ _ _ h => h) (Or.inl ⟨by rfl,?_⟩) ?_ ?_
             rotate_left
             ·intro w'
              go_simp
              with_reducible rfl
             rotate_left
             ·simp only [Act.put,List.setIfInBounds_toArray,List.set_cons_zero,List.set_cons_succ,i64_w,i32_w]
              rfl
             refine take_ (i:=13) (N:=some 33) (v:=?_) (a':=?_) (bc63 17 15935) rfl rfl (take_ofW HT_.out HW_.out (by kernel_rfl)) (fun _ _ _ h => h) (Or.inl ⟨by rfl,?_⟩) hHeld ?_ ?_
             rotate_left
             ·rintro w' ⟨s0,s1,s2,s3⟩
              go_simp
              with_reducible rfl
             rotate_left
             ·simp only [Act.put,List.setIfInBounds_toArray,List.set_cons_zero,List.set_cons_succ,i64_w,i32_w]
              rfl
             refine one_ (i:=6) (N:=some 26) (bc63 17 15999) rfl rfl (one_of HT_.out (by kernel_rfl)) (by decide) (fun K hK => ?_)
             refine goes_ Tryz.func34 (by kernel_rfl) rfl #[.int .i64 (rd l0_0 x5_1)] (by rfl) rfl rfl (by (try simp only [List.map_toArray,List.map_cons,List.map_nil]); (rfl)) ?_
             with_reducible refine (spec_l1Num.calls kj7 (rd l0_0 x5_1) t240 _ A14.out).mono ?_
             rintro e w21 ⟨rfl,hb⟩
             refine ⟨_,rfl,?_⟩
             have n0_:=Aside0.mk (blk_below (g:=gb237) (o:=.cells #[.slice (some ad239) l0_0.length c0_0,.slice (some ad241) l0_1.length c0_1] 26 (0,0)) (by exact BK237.out) hb)
             have n1_:=Aside0.mk (below_step (by repeat (((with_reducible (exact HB.out))))) hb)
             clear BK237
             clear HB
             have BK237:=n0_
             have HB:=n1_
             clear n0_ n1_
             (try clear hb)
             (try clear hb2)
             (try clear hk)
             (try clear hi)
             refine hK.out _ _ ⟨(blk_cell BK237.out 0).trans rfl,(blk_cell BK237.out 1).trans rfl,((HB.out.cell (World.block_lt_of_cell? w _ hw239_0)).trans hw239_0),((HB.out.cell (World.block_lt_of_cell? w _ hw241_0)).trans hw241_0)⟩ (fun hHeld => ?_)
             clear hK K
             refine norm_ (a':=?_) ?_ ?_
             rotate_left
             ·show Act.put _ (some 26) _ = _
              simp only [Act.put,List.setIfInBounds_toArray,List.set_cons_zero,List.set_cons_succ,i64_w,i32_w]
              rfl
             refine pure_ (i:=7) (N:=some 27) (v:=?_) (a':=?_) (bc63 17 16127) rfl rfl (any_of HT_.out (by kernel_rfl)) (fun _ _ _ h => h) (Or.inl ⟨by rfl,?_⟩) ?_ ?_
             rotate_left
             ·intro w'
              go_simp
              with_reducible rfl
             rotate_left
             ·simp only [Act.put,List.setIfInBounds_toArray,List.set_cons_zero,List.set_cons_succ,i64_w,i32_w]
              rfl
             refine pure_ (i:=8) (N:=some 28) (v:=?_) (a':=?_) (bc63 17 16383) rfl rfl (any_of HT_.out (by kernel_rfl)) (fun _ _ _ h => h) (Or.inl ⟨by rfl,?_⟩) ?_ ?_
             rotate_left
             ·intro w'
              go_simp
              with_reducible rfl
             rotate_left
             ·simp only [Act.put,List.setIfInBounds_toArray,List.set_cons_zero,List.set_cons_succ,i64_w,i32_w]
              rfl
             refine one_ (i:=14) (N:=some 34) (bc63 17 32767) rfl rfl (one_of HT_.out (by kernel_rfl)) (by decide) (fun K hK => ?_)
             refine goes_ Tryz.func34 (by kernel_rfl) rfl #[.int .i64 (rd l0_1 x5_1)] (by rfl) rfl rfl (by (try simp only [List.map_toArray,List.map_cons,List.map_nil]); (rfl)) ?_
             with_reducible refine (spec_l1Num.calls kj7 (rd l0_1 x5_1) t242 _ A18.out).mono ?_
             rintro e w22 ⟨rfl,hb⟩
             refine ⟨_,rfl,?_⟩
             have n0_:=Aside0.mk (blk_below (g:=gb237) (o:=.cells #[.slice (some ad239) l0_0.length c0_0,.slice (some ad241) l0_1.length c0_1] 26 (0,0)) (by exact BK237.out) hb)
             have n1_:=Aside0.mk (below_step (by repeat (((with_reducible (exact HB.out))))) hb)
             clear BK237
             clear HB
             have BK237:=n0_
             have HB:=n1_
             clear n0_ n1_
             (try clear hb)
             (try clear hb2)
             (try clear hk)
             (try clear hi)
             refine hK.out _ _ ⟨(blk_cell BK237.out 0).trans rfl,(blk_cell BK237.out 1).trans rfl,((HB.out.cell (World.block_lt_of_cell? w _ hw239_0)).trans hw239_0),((HB.out.cell (World.block_lt_of_cell? w _ hw241_0)).trans hw241_0)⟩ (fun hHeld => ?_)
             clear hK K
             refine norm_ (a':=?_) ?_ ?_
             rotate_left
             ·show Act.put _ (some 34) _ = _
              simp only [Act.put,List.setIfInBounds_toArray,List.set_cons_zero,List.set_cons_succ,i64_w,i32_w]
              rfl
             refine pure_ (i:=15) (N:=some 35) (v:=?_) (a':=?_) (bc63 17 65535) rfl rfl (any_of HT_.out (by kernel_rfl)) (fun _ _ _ h => h) (Or.inl ⟨by rfl,?_⟩) ?_ ?_
             rotate_left
             ·intro w'
              go_simp
              with_reducible rfl
             rotate_left
             ·simp only [Act.put,List.setIfInBounds_toArray,List.set_cons_zero,List.set_cons_succ,i64_w,i32_w]
              rfl
             refine pure_ (i:=16) (N:=some 4) (v:=?_) (a':=?_) (bc63 17 131071) rfl rfl (any_of HT_.out (by kernel_rfl)) (fun _ _ _ h => h) (Or.inl ⟨by rfl,?_⟩) ?_ ?_
             rotate_left
             ·intro w'
              go_simp
              with_reducible rfl
             rotate_left
             ·simp only [Act.put,List.setIfInBounds_toArray,List.set_cons_zero,List.set_cons_succ,i64_w,i32_w]
              rfl
             refine done_ (done_of HT_.out (by kernel_rfl)) ?_
             try go_wp2
             go_roundg kj7
             case measure => have:=HK1.out; have:=HJ7.out; omega
             case rel => exact ⟨(((x4_7 ++ t240) ++ (⟨#[58]⟩ : ByteArray)) ++ t242),(wrap64 (x5_1 + 1)),(by (rfl)),(by (rfl)),H',⟨by have:=HK1.out; have:=HJ7.out; omega⟩,⟨by exact BK237.out⟩,⟨by repeat (((with_reducible (exact HB.out))))⟩⟩
            ·rw [if_neg c19] at H
             exact absurd H (by simp)
           ·rw [if_neg c17] at H
            exact absurd H (by simp)
          ·rw [if_neg c16] at H
           exact absurd H (by simp)
         ·rw [if_neg c15] at H
          exact absurd H (by simp)
        ·rw [if_neg c13] at H
         exact absurd H (by simp)
       ·rw [if_neg c12] at H
        exact absurd H (by simp)
    ·rw [if_neg c7] at H
     have c7b0 : decide (x5_1 < (l0_0.length : Int)) = false:=decide_eq_false c7
     clear c7
     simp only [Option.some.injEq,Prod.mk.injEq] at H
     obtain ⟨rfl,rfl⟩:=H
     have hcz23_0 : wr.cell? ⟨gb237,0,none⟩ = some (.slice A0_0 l0_0.length c0_0):=(blk_cell BK237.out 0).trans rfl
     have hcz23_1 : wr.cell? ⟨gb237,1,none⟩ = some (.slice A0_1 l0_1.length c0_1):=(blk_cell BK237.out 1).trans rfl
     have hfz23_0:=blk_frozen BK237.out 0
     have hfz23_1:=blk_frozen BK237.out 1
     go_wp2
     go_ret2
     exact ⟨by (rfl),by repeat (((with_reducible (exact HB.out))))⟩
 ·replace c3:=Bool.eq_false_iff.mpr c3
  subst c3
  have H1 : (some ((⟨#[]⟩ : ByteArray),false)) = some (r1,r2):=by rw [if_neg (show ¬ (false = true) by decide)] at H; exact H
  clear H
  have H:=H1
  clear H1
  simp only [Option.some.injEq,Prod.mk.injEq] at H
  obtain ⟨rfl,rfl⟩:=H
  go_enter Tryz.func8,Tryz.ntmps8
  go_wp2_with (first|((with_reducible refine gate_dst (N:=1) rfl ?_); refine box_event ?hg (N:=1) ?hd (cs:=#[.slice A0_0 l0_0.length c0_0,.slice A0_1 l0_1.length c0_1]) (t:=26) ?hr ?_; (case hd => rfl); (case hg => rfl); (case hr => (go_simp; done)); intro gb237 hg w24 hbox hb; have n0_:=Aside0.mk (below_step (by repeat (((with_reducible (exact HB.out))))) hb); have n1_:=Aside0.mk (hbox); have n2_:=Aside0.mk ((by rw [hg]; exact (below_size (by repeat (((with_reducible (exact HB.out)))))) : w.heap.size ≤ gb237)); have n3_:=Aside0.mk ((by rw [hg]; exact (below_size (by repeat (((with_reducible (exact HB.out)))))) : w.heap.size ≤ gb237)); clear HB; have HB:=n0_; have BK237:=n1_; have GW237:=n2_; have GE237:=n3_; clear n0_ n1_ n2_ n3_; clear hb hbox hg; have hcz25_0 : w24.cell? ⟨gb237,0,none⟩ = some (.slice A0_0 l0_0.length c0_0):=(blk_cell BK237.out 0).trans rfl; have hcz25_1 : w24.cell? ⟨gb237,1,none⟩ = some (.slice A0_1 l0_1.length c0_1):=(blk_cell BK237.out 1).trans rfl; have hfz25_0:=blk_frozen BK237.out 0; have hfz25_1:=blk_frozen BK237.out 1)|((with_reducible refine gate_callee (f:=33) rfl ?_); refine goesL_ (some 7) rfl rfl Tryz.func33 (by kernel_rfl) rfl #[.agg #[.slice A0_0 l0_0.length c0_0,.slice A0_1 l0_1.length c0_1]] rfl (by (try simp only [List.map_toArray,List.map_cons,List.map_nil]); (rfl)) ?_; (with_reducible refine (spec_l3Good.calls k _ _ l0_0 _ _ l0_1 false _ ?side1 ?side2 ?side3 ?side4 A2.out).mono ?_); (case side1 => repeat ((exact (Kd.C_below HR0_0.out HB.out)))); (case side2 => exact HC0_0.out); (case side3 => repeat ((exact (Kd.C_below HR0_1.out HB.out)))); (case side4 => exact HC0_1.out); rintro e w26 ⟨rfl,hb⟩; refine ⟨_,rfl,?_⟩; have n0_:=Aside0.mk (blk_below (g:=gb237) (o:=.cells #[.slice A0_0 l0_0.length c0_0,.slice A0_1 l0_1.length c0_1] 26 (0,0)) (by exact BK237.out) hb); have n1_:=Aside0.mk (below_step (by repeat (((with_reducible (exact HB.out))))) hb); clear BK237; clear HB; have BK237:=n0_; have HB:=n1_; clear n0_ n1_; (try clear hb); (try clear hb2); (try clear hk); (try clear hi)))
  go_ret2
  exact ⟨by (rfl),by repeat (((with_reducible (exact HB.out))))⟩

end Go.Proofs.YtfindomajbjacaaGreatDoor.X
