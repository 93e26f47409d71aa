-- Written by a program of ours (wip/bin/xprint.py,over the kit's print.py) out of the translation. Not trusted: Lean checks it.
import Derived.Test.YtfindomajbjacaaGreatDoorX0
import Derived.Test.YtfindomajbjacaaGreatDoorFbList
import Derived.Test.YtfindomajbjacaaGreatDoorFspecl1Num
namespace Go.Proofs.YtfindomajbjacaaGreatDoor.X
open Go.RowKit Go.Proofs.YtfindomajbjacaaGreatDoorW.PrintWords Go.Proofs.YtfindomajbjacaaGreatDoorW.PrintLast Go.Proofs.YtfindomajbjacaaGreatDoorW.PrintMore
attribute [local go_sem] max2_int min2_int max_two min_two max_three min_three max_four min_four   -- for this text's walks alone
set_option linter.unusedVariables false
set_option linter.unusedSimpArgs false

/-! ### spec_l1Read: function 53 -/
mutual
def spec_l1Read.j0 : Nat → ByteArray → ByteArray → Bool → Option (Int × Bool)
 | 0,_,_,_ => none
 | k + 1,x0,x4,x15 => if x15 = true then (if 1 ≤ (x4.size : Int) then (spec_l1Read.j1 k x0 (x4.extract 1 x4.size)) else (none)) else (spec_l1Read.j1 k x0 x4)
def spec_l1Read.j1 : Nat → ByteArray → ByteArray → Option (Int × Bool)
 | 0,_,_ => none
 | k + 1,x0,x4 => (spec_l1In.f (x4.size : Int) 1 6).bind fun t503 => (if t503 = true then (spec_l1Read.l0 k x0 x4 0 0) else (some (0,false)))
def spec_l1Read.l0 : Nat → ByteArray → ByteArray → Int → Int → Option (Int × Bool)
 | 0,_,_,_,_ => none
 | k + 1,x0,x4,x5,x6 => if x6 < (x4.size : Int) then (if 0 ≤ x6 then (if (bt x4 x6) < 48 then (some (0,false)) else (if (bt x4 x6) > 57 then (some (0,false)) else (spec_l1Read.l0 k x0 x4 (wrap64 ((wrap64 (10 * x5)) + (((bt x4 x6) - 48) % 256))) (wrap64 (x6 + 1))))) else (none)) else (if (x4.size : Int) < (x0.size : Int) then ((spec_l1Num.f k (wrap64 (-x5))).bind fun t504 => (if t504.toList = x0.toList then (some (wrap64 (-x5),true)) else (some (0,false)))) else ((spec_l1Num.f k x5).bind fun t505 => (if t505.toList = x0.toList then (some (x5,true)) else (some (0,false)))))
end
def spec_l1Read.f (k : Nat) (a0 : ByteArray) : Option (Int × Bool):=if (a0.size : Int) > 1 then (if 0 < (a0.size : Int) then (spec_l1Read.j0 k a0 a0 ((bt a0 0) == 45)) else (none)) else (spec_l1Read.j0 k a0 a0 false)
theorem spec_l1Read.mono_l : ∀ k,(∀ y0 y1 y2,LeO (spec_l1Read.j0 k y0 y1 y2) (spec_l1Read.j0 (k + 1) y0 y1 y2)) ∧ (∀ y0 y1,LeO (spec_l1Read.j1 k y0 y1) (spec_l1Read.j1 (k + 1) y0 y1)) ∧ (∀ y0 y1 y2 y3,LeO (spec_l1Read.l0 k y0 y1 y2 y3) (spec_l1Read.l0 (k + 1) y0 y1 y2 y3))
 | 0 => ⟨fun _ _ _ r h => by simp [spec_l1Read.j0] at h,fun _ _ r h => by simp [spec_l1Read.j1] at h,fun _ _ _ _ r h => by simp [spec_l1Read.l0] at h⟩
 | k + 1 => by
  obtain ⟨ih0,ih1,ih2⟩:=spec_l1Read.mono_l k
  refine ⟨?_,?_,?_⟩
  ·intro y0 y1 y2
   unfold spec_l1Read.j0
   repeat' first
   | (with_reducible exact ih0 _ _ _)
   | (with_reducible exact ih1 _ _)
   | (with_reducible exact ih2 _ _ _ _)
   | (with_reducible exact spec_l1Num.mono _ _)
   | (with_reducible exact LeO.refl _)
   | (with_reducible exact LeO.none _)
   | (with_reducible refine LeO.ite ?_ ?_)
   | (with_reducible refine LeO.bind ?_ (fun _ => ?_))
   | exact ih0 _ _ _
   | exact ih1 _ _
   | exact ih2 _ _ _ _
   | exact spec_l1Num.mono _ _
   | exact LeO.none _
   | refine LeO.ite ?_ ?_
   | refine LeO.bind ?_ (fun _ => ?_)
  ·intro y0 y1
   unfold spec_l1Read.j1
   repeat' first
   | (with_reducible exact ih0 _ _ _)
   | (with_reducible exact ih1 _ _)
   | (with_reducible exact ih2 _ _ _ _)
   | (with_reducible exact spec_l1Num.mono _ _)
   | (with_reducible exact LeO.refl _)
   | (with_reducible exact LeO.none _)
   | (with_reducible refine LeO.ite ?_ ?_)
   | (with_reducible refine LeO.bind ?_ (fun _ => ?_))
   | exact ih0 _ _ _
   | exact ih1 _ _
   | exact ih2 _ _ _ _
   | exact spec_l1Num.mono _ _
   | exact LeO.none _
   | refine LeO.ite ?_ ?_
   | refine LeO.bind ?_ (fun _ => ?_)
  ·intro y0 y1 y2 y3
   unfold spec_l1Read.l0
   repeat' first
   | (with_reducible exact ih0 _ _ _)
   | (with_reducible exact ih1 _ _)
   | (with_reducible exact ih2 _ _ _ _)
   | (with_reducible exact spec_l1Num.mono _ _)
   | (with_reducible exact LeO.refl _)
   | (with_reducible exact LeO.none _)
   | (with_reducible refine LeO.ite ?_ ?_)
   | (with_reducible refine LeO.bind ?_ (fun _ => ?_))
   | exact ih0 _ _ _
   | exact ih1 _ _
   | exact ih2 _ _ _ _
   | exact spec_l1Num.mono _ _
   | exact LeO.none _
   | refine LeO.ite ?_ ?_
   | refine LeO.bind ?_ (fun _ => ?_)
theorem spec_l1Read.mono : ∀ a0 k,LeO (spec_l1Read.f k a0) (spec_l1Read.f (k + 1) a0):=by
 intro a0 k
 obtain ⟨ih0,ih1,ih2⟩:=spec_l1Read.mono_l k
 unfold spec_l1Read.f
 repeat' first
   | (with_reducible exact ih0 _ _ _)
   | (with_reducible exact ih1 _ _)
   | (with_reducible exact ih2 _ _ _ _)
   | (with_reducible exact spec_l1Num.mono _ _)
   | (with_reducible exact LeO.refl _)
   | (with_reducible exact LeO.none _)
   | (with_reducible refine LeO.ite ?_ ?_)
   | (with_reducible refine LeO.bind ?_ (fun _ => ?_))
   | exact ih0 _ _ _
   | exact ih1 _ _
   | exact ih2 _ _ _ _
   | exact spec_l1Num.mono _ _
   | exact LeO.none _
   | refine LeO.ite ?_ ?_
   | refine LeO.bind ?_ (fun _ => ?_)
set_option maxHeartbeats 8000000 in
set_option maxRecDepth 100000 in
theorem spec_l1Read.calls (k : Nat) (a0 : ByteArray) (r1 : Int) (r2 : Bool) (w : World) (h : spec_l1Read.f k a0 = some (r1,r2)) :
  Calls Tryz.prog 53 #[.string a0] w fun e w' => e = .returned (.tuple #[.int .i64 r1,.bool r2]) ∧ Below w.heap.size w w':=by
 have HB:=Aside0.mk (Below.refl w.heap.size w)
 have H : (if (a0.size : Int) > 1 then (if 0 < (a0.size : Int) then (spec_l1Read.j0 k a0 a0 ((bt a0 0) == 45)) else (none)) else (spec_l1Read.j0 k a0 a0 false)) = some (r1,r2):=h
 clear h
 have HC2:=Aside0.mk H
 clear H
 go_enter Tryz.func53,Tryz.ntmps53
 go_upto_region 2 with (fail)
 go_cut [15] (fun v15 wc => ∃ (kq : Nat) (x15_1 : Bool),v15 = .bool x15_1 ∧ Aside0 (spec_l1Read.j0 kq a0 a0 x15_1 = some (r1,r2)) ∧ Aside0 (kq ≤ k) ∧ Aside0 (Below w.heap.size w wc))
 case first =>
  have H:=HC2.out
  clear HC2
  by_cases c3 : (a0.size : Int) > 1
  ·rw [if_pos c3] at H
   have c3b0 : decide (1 < (a0.size : Int)) = true:=decide_eq_true c3
   have c3b1 : decide (1 < a0.size) = true:=decide_eq_true (by omega)
   clear c3
   (skip)
   by_cases c4 : 0 < (a0.size : Int)
   ·rw [if_pos c4] at H
    have c4b0 : decide (0 < (a0.size : Int)) = true:=decide_eq_true c4
    have c4b1 : decide (0 < a0.size) = true:=decide_eq_true (by omega)
    clear c4
    have H':=Aside0.mk H
    clear H
    have p5 : 0 ≤ (0 : Int):=(by omega)
    have q5 : 0 < a0.size:=(by have : (0 : Int) < (a0.size : Int):=of_decide_eq_true (by (with_reducible assumption)); omega)
    have hx5 : ∀ h : 0 < a0.size,((a0[0]'h).toNat : Int) = bt a0 0:=bt_at a0 0
    clear p5
    have qi5 : (0 < (a0.size : Int)) = True:=eq_true (of_decide_eq_true (by (with_reducible assumption)))
    replace q5:=eq_true q5
    go_wp2
    go_meet
    case rel => exact ⟨_,(((bt a0 0) == 45)),(by (rfl)),H',⟨by (omega)⟩,⟨by repeat (((with_reducible (exact HB.out))))⟩⟩
   ·rw [if_neg c4] at H
    exact absurd H (by simp)
  ·rw [if_neg c3] at H
   have c3b0 : decide (1 < (a0.size : Int)) = false:=decide_eq_false c3
   have c3b1 : decide (1 < a0.size) = false:=decide_eq_false (by omega)
   clear c3
   (skip)
   have H':=Aside0.mk H
   clear H
   go_wp2
   go_meet
   case rel => exact ⟨_,(false),(by (rfl)),H',⟨by (omega)⟩,⟨by repeat (((with_reducible (exact HB.out))))⟩⟩
 case rest =>
  clear HC2
  try clear p2
  try clear c3
  try clear c3b0
  try clear c3b1
  try clear c4
  try clear c4b0
  try clear c4b1
  try clear c5
  try clear p5
  try clear q5
  try clear hx5
  try clear qi5
  try clear p5
  try clear q5
  obtain ⟨kq,x15_1,rfl,HA,HJ1,HB⟩:=hcut
  cases kq with
  | zero => exact absurd HA.out (by simp [spec_l1Read.j0])
  | succ kj1 =>
   have H:=HA.out
   clear HA
   simp only [spec_l1Read.j0] at H
   have HC6:=Aside0.mk H
   clear H
   go_upto_if 15 with (fail)
   go_cut [4] (fun v4 wc => ∃ (kq : Nat) (x4_5 : ByteArray),v4 = .string x4_5 ∧ Aside0 (spec_l1Read.j1 kq a0 x4_5 = some (r1,r2)) ∧ Aside0 (kq ≤ kj1) ∧ Aside0 (Below w.heap.size w wc))
   case first =>
    have H:=HC6.out
    clear HC6
    by_cases c7 : x15_1 = true
    ·subst c7
     have H1 : (if 1 ≤ (a0.size : Int) then (spec_l1Read.j1 kj1 a0 (a0.extract 1 a0.size)) else (none)) = some (r1,r2):=by rw [if_pos rfl] at H; exact H
     clear H
     have H:=H1
     clear H1
     by_cases c8 : 1 ≤ (a0.size : Int)
     ·rw [if_pos c8] at H
      have c8b0:=eq_true c8
      have c8b1 : decide (1 ≤ (a0.size : Int)) = true:=decide_eq_true c8
      clear c8
      have H':=Aside0.mk H
      clear H
      go_wp2
      go_meet
      case rel => exact ⟨_,(a0.extract 1 a0.size),(by (rfl)),H',⟨by have:=HJ1.out; (omega)⟩,⟨by repeat (((with_reducible (exact HB.out))))⟩⟩
     ·rw [if_neg c8] at H
      exact absurd H (by simp)
    ·replace c7:=Bool.eq_false_iff.mpr c7
     subst c7
     have H1 : (spec_l1Read.j1 kj1 a0 a0) = some (r1,r2):=by rw [if_neg (show ¬ (false = true) by decide)] at H; exact H
     clear H
     have H:=H1
     clear H1
     have H':=Aside0.mk H
     clear H
     go_wp2
     go_meet
     case rel => exact ⟨_,(a0),(by (rfl)),H',⟨by have:=HJ1.out; (omega)⟩,⟨by repeat (((with_reducible (exact HB.out))))⟩⟩
   case rest =>
    clear HC6
    try clear p2
    try clear c3
    try clear c3b0
    try clear c3b1
    try clear c4
    try clear c4b0
    try clear c4b1
    try clear c5
    try clear p5
    try clear q5
    try clear hx5
    try clear qi5
    try clear c7
    try clear c8
    try clear c8b0
    try clear c8b1
    try clear p2
    try clear p5
    try clear q5
    obtain ⟨kq,x4_5,rfl,HA,HJ5,HB⟩:=hcut
    cases kq with
    | zero => exact absurd HA.out (by simp [spec_l1Read.j1])
    | succ kj5 =>
     have H:=HA.out
     clear HA
     simp only [spec_l1Read.j1] at H
     replace H:=Option.bind_eq_some_iff.mp H
     obtain ⟨t503,A90,H⟩:=H
     replace H : (if t503 = true then (spec_l1Read.l0 kj5 a0 x4_5 0 0) else (some (0,false))) = some (r1,r2):=H
     have A9:=Aside0.mk A90
     clear A90
     by_cases c10 : t503 = true
     ·subst c10
      have H1 : (spec_l1Read.l0 kj5 a0 x4_5 0 0) = some (r1,r2):=by rw [if_pos rfl] at H; exact H
      clear H
      have H:=H1
      clear H1
      have H':=Aside0.mk H
      clear H
      go_wp2_with ((((with_reducible refine gate_callee (f:=71) rfl ?_); refine goesL_ (some 20) rfl rfl Tryz.func71 (by kernel_rfl) rfl #[.int .i64 (x4_5.size : Int),.int .i64 1,.int .i64 6] rfl (by (try simp only [List.map_toArray,List.map_cons,List.map_nil]); (rfl)) ?_; (with_reducible refine (spec_l1In.calls (x4_5.size : Int) 1 6 true _ A9.out).mono ?_); rintro e w' ⟨rfl,⟨nd,rfl⟩⟩; refine ⟨_,rfl,?_⟩)))
      go_loopg [5,6] kj5 (fun kq v5 v6 w' => ∃ (x5_3 : Int) (x6_3 : Int),v5 = .int .i64 x5_3 ∧ v6 = .int .i64 x6_3 ∧ Aside0 (spec_l1Read.l0 kq a0 x4_5 x5_3 x6_3 = some (r1,r2)) ∧ Aside0 (kq ≤ kj5) ∧ Aside0 (Below w.heap.size w w'))
      case atStart => exact ⟨(0),(0),(by (rfl)),(by (rfl)),H',⟨Nat.le_refl _⟩,⟨by repeat (with_reducible first|exact HB.out|apply pw_below_drewN)⟩⟩
      case round =>
       clear H'
       try clear c1
       try clear p2
       try clear c3
       try clear c3b0
       try clear c3b1
       try clear c4
       try clear c4b0
       try clear c4b1
       try clear c5
       try clear p5
       try clear q5
       try clear hx5
       try clear qi5
       try clear c7
       try clear c8
       try clear c8b0
       try clear c8b1
       try clear c10
       try clear p2
       try clear p5
       try clear q5
       obtain ⟨x5_3,x6_3,rfl,rfl,HA,HK3,HB⟩:=hrel
       cases gk with
       | zero => exact absurd HA.out (by simp [spec_l1Read.l0])
       | succ k3 =>
        have H:=HA.out
        clear HA
        simp only [spec_l1Read.l0] at H
        by_cases c11 : x6_3 < (x4_5.size : Int)
        ·rw [if_pos c11] at H
         have c11b0 : decide (x6_3 < (x4_5.size : Int)) = true:=decide_eq_true c11
         clear c11
         by_cases c12 : 0 ≤ x6_3
         ·rw [if_pos c12] at H
          have c12b0 : decide (0 ≤ x6_3) = true:=decide_eq_true c12
          clear c12
          by_cases c14 : (bt x4_5 x6_3) < 48
          ·rw [if_pos c14] at H
           have c14b0 : decide ((bt x4_5 x6_3) < 48) = true:=decide_eq_true c14
           clear c14
           simp only [Option.some.injEq,Prod.mk.injEq] at H
           obtain ⟨rfl,rfl⟩:=H
           have p13 : 0 ≤ (x6_3 : Int):=of_decide_eq_true (by (with_reducible assumption))
           have q13 : x6_3 < (x4_5.size : Int):=of_decide_eq_true (by (with_reducible assumption))
           have hx13:=bt_at x4_5 x6_3
           replace p13:=eq_true p13
           replace q13:=eq_true q13
           go_wp2
           go_ret2
           exact ⟨by (rfl),by repeat (((with_reducible (exact HB.out))))⟩
          ·rw [if_neg c14] at H
           have c14b0 : decide ((bt x4_5 x6_3) < 48) = false:=decide_eq_false c14
           clear c14
           by_cases c16 : (bt x4_5 x6_3) > 57
           ·rw [if_pos c16] at H
            have c16b0 : decide (57 < (bt x4_5 x6_3)) = true:=decide_eq_true c16
            clear c16
            simp only [Option.some.injEq,Prod.mk.injEq] at H
            obtain ⟨rfl,rfl⟩:=H
            have p13 : 0 ≤ (x6_3 : Int):=of_decide_eq_true (by (with_reducible assumption))
            have q13 : x6_3 < (x4_5.size : Int):=of_decide_eq_true (by (with_reducible assumption))
            have hx13:=bt_at x4_5 x6_3
            replace p13:=eq_true p13
            replace q13:=eq_true q13
            have p15 : 0 ≤ (x6_3 : Int):=of_decide_eq_true (by (with_reducible assumption))
            have q15 : x6_3 < (x4_5.size : Int):=of_decide_eq_true (by (with_reducible assumption))
            have hx15:=bt_at x4_5 x6_3
            replace p15:=eq_true p15
            replace q15:=eq_true q15
            go_wp2
            go_ret2
            exact ⟨by (rfl),by repeat (((with_reducible (exact HB.out))))⟩
           ·rw [if_neg c16] at H
            have c16b0 : decide (57 < (bt x4_5 x6_3)) = false:=decide_eq_false c16
            clear c16
            have H':=Aside0.mk H
            clear H
            have p13 : 0 ≤ (x6_3 : Int):=of_decide_eq_true (by (with_reducible assumption))
            have q13 : x6_3 < (x4_5.size : Int):=of_decide_eq_true (by (with_reducible assumption))
            have hx13:=bt_at x4_5 x6_3
            replace p13:=eq_true p13
            replace q13:=eq_true q13
            have p15 : 0 ≤ (x6_3 : Int):=of_decide_eq_true (by (with_reducible assumption))
            have q15 : x6_3 < (x4_5.size : Int):=of_decide_eq_true (by (with_reducible assumption))
            have hx15:=bt_at x4_5 x6_3
            replace p15:=eq_true p15
            replace q15:=eq_true q15
            have p17 : 0 ≤ (x6_3 : Int):=of_decide_eq_true (by (with_reducible assumption))
            have q17 : x6_3 < (x4_5.size : Int):=of_decide_eq_true (by (with_reducible assumption))
            have hx17:=bt_at x4_5 x6_3
            replace p17:=eq_true p17
            replace q17:=eq_true q17
            go_wp2
            go_roundg k3
            case measure => have:=HJ1.out; have:=HJ5.out; have:=HK3.out; omega
            case rel => exact ⟨(wrap64 ((wrap64 (10 * x5_3)) + (((bt x4_5 x6_3) - 48) % 256))),(wrap64 (x6_3 + 1)),(by (rfl)),(by (rfl)),H',⟨by have:=HJ1.out; have:=HJ5.out; have:=HK3.out; omega⟩,⟨by repeat (((with_reducible (exact HB.out))))⟩⟩
         ·rw [if_neg c12] at H
          exact absurd H (by simp)
        ·rw [if_neg c11] at H
         have c11b0 : decide (x6_3 < (x4_5.size : Int)) = false:=decide_eq_false c11
         clear c11
         by_cases c18 : (x4_5.size : Int) < (a0.size : Int)
         ·rw [if_pos c18] at H
          have c18b0 : decide ((x4_5.size : Int) < (a0.size : Int)) = true:=decide_eq_true c18
          have c18b1 : decide (x4_5.size < a0.size) = true:=decide_eq_true (Int.ofNat_lt.mp c18)
          clear c18
          replace H:=Option.bind_eq_some_iff.mp H
          obtain ⟨t504,A190,H⟩:=H
          replace H : (if t504.toList = a0.toList then (some (wrap64 (-x5_3),true)) else (some (0,false))) = some (r1,r2):=H
          have A19:=Aside0.mk A190
          clear A190
          by_cases c20 : t504.toList = a0.toList
          ·rw [if_pos c20] at H
           have c20b0 : (t504.toList == a0.toList) = true:=beq_iff_eq.mpr c20
           have c20b1 : (t504.toList != a0.toList) = false:=bne_eq_false_iff_eq.mpr c20
           clear c20
           simp only [Option.some.injEq,Prod.mk.injEq] at H
           obtain ⟨rfl,rfl⟩:=H
           go_wp2_with ((((with_reducible refine gate_callee (f:=34) rfl ?_); refine goesL_ (some 54) rfl rfl Tryz.func34 (by kernel_rfl) rfl #[.int .i64 (wrap64 (-x5_3))] rfl (by (try simp only [List.map_toArray,List.map_cons,List.map_nil]); (rfl)) ?_; (with_reducible refine (spec_l1Num.calls k3 (wrap64 (-x5_3)) t504 _ A19.out).mono ?_); rintro e w21 ⟨rfl,hb⟩; refine ⟨_,rfl,?_⟩; have n0_:=Aside0.mk (below_step (by repeat (((with_reducible (exact HB.out))))) hb); clear HB; have HB:=n0_; clear n0_; (try clear hb); (try clear hb2); (try clear hk); (try clear hi))))
           go_ret2
           exact ⟨by (rfl),by repeat (((with_reducible (exact HB.out))))⟩
          ·rw [if_neg c20] at H
           have c20b0 : (t504.toList == a0.toList) = false:=beq_eq_false_iff_ne.mpr c20
           have c20b1 : (t504.toList != a0.toList) = true:=bne_iff_ne.mpr c20
           simp only [Option.some.injEq,Prod.mk.injEq] at H
           obtain ⟨rfl,rfl⟩:=H
           go_wp2_with ((((with_reducible refine gate_callee (f:=34) rfl ?_); refine goesL_ (some 54) rfl rfl Tryz.func34 (by kernel_rfl) rfl #[.int .i64 (wrap64 (-x5_3))] rfl (by (try simp only [List.map_toArray,List.map_cons,List.map_nil]); (rfl)) ?_; (with_reducible refine (spec_l1Num.calls k3 (wrap64 (-x5_3)) t504 _ A19.out).mono ?_); rintro e w22 ⟨rfl,hb⟩; refine ⟨_,rfl,?_⟩; have n0_:=Aside0.mk (below_step (by repeat (((with_reducible (exact HB.out))))) hb); clear HB; have HB:=n0_; clear n0_; (try clear hb); (try clear hb2); (try clear hk); (try clear hi))))
           go_ret2
           exact ⟨by (rfl),by repeat (((with_reducible (exact HB.out))))⟩
         ·rw [if_neg c18] at H
          have c18b0 : decide ((x4_5.size : Int) < (a0.size : Int)) = false:=decide_eq_false c18
          have c18b1 : decide (x4_5.size < a0.size) = false:=decide_eq_false (fun h => c18 (Int.ofNat_lt.mpr h))
          clear c18
          replace H:=Option.bind_eq_some_iff.mp H
          obtain ⟨t505,A230,H⟩:=H
          replace H : (if t505.toList = a0.toList then (some (x5_3,true)) else (some (0,false))) = some (r1,r2):=H
          have A23:=Aside0.mk A230
          clear A230
          by_cases c24 : t505.toList = a0.toList
          ·rw [if_pos c24] at H
           have c24b0 : (t505.toList == a0.toList) = true:=beq_iff_eq.mpr c24
           have c24b1 : (t505.toList != a0.toList) = false:=bne_eq_false_iff_eq.mpr c24
           clear c24
           simp only [Option.some.injEq,Prod.mk.injEq] at H
           obtain ⟨rfl,rfl⟩:=H
           go_wp2_with ((((with_reducible refine gate_callee (f:=34) rfl ?_); refine goesL_ (some 54) rfl rfl Tryz.func34 (by kernel_rfl) rfl #[.int .i64 x5_3] rfl (by (try simp only [List.map_toArray,List.map_cons,List.map_nil]); (rfl)) ?_; (with_reducible refine (spec_l1Num.calls k3 x5_3 t505 _ A23.out).mono ?_); rintro e w25 ⟨rfl,hb⟩; refine ⟨_,rfl,?_⟩; have n0_:=Aside0.mk (below_step (by repeat (((with_reducible (exact HB.out))))) hb); clear HB; have HB:=n0_; clear n0_; (try clear hb); (try clear hb2); (try clear hk); (try clear hi))))
           go_ret2
           exact ⟨by (rfl),by repeat (((with_reducible (exact HB.out))))⟩
          ·rw [if_neg c24] at H
           have c24b0 : (t505.toList == a0.toList) = false:=beq_eq_false_iff_ne.mpr c24
           have c24b1 : (t505.toList != a0.toList) = true:=bne_iff_ne.mpr c24
           simp only [Option.some.injEq,Prod.mk.injEq] at H
           obtain ⟨rfl,rfl⟩:=H
           go_wp2_with ((((with_reducible refine gate_callee (f:=34) rfl ?_); refine goesL_ (some 54) rfl rfl Tryz.func34 (by kernel_rfl) rfl #[.int .i64 x5_3] rfl (by (try simp only [List.map_toArray,List.map_cons,List.map_nil]); (rfl)) ?_; (with_reducible refine (spec_l1Num.calls k3 x5_3 t505 _ A23.out).mono ?_); rintro e w26 ⟨rfl,hb⟩; refine ⟨_,rfl,?_⟩; have n0_:=Aside0.mk (below_step (by repeat (((with_reducible (exact HB.out))))) hb); clear HB; have HB:=n0_; clear n0_; (try clear hb); (try clear hb2); (try clear hk); (try clear hi))))
           go_ret2
           exact ⟨by (rfl),by repeat (((with_reducible (exact HB.out))))⟩
     ·replace c10:=Bool.eq_false_iff.mpr c10
      subst c10
      have H1 : (some (0,false)) = some (r1,r2):=by rw [if_neg (show ¬ (false = true) by decide)] at H; exact H
      clear H
      have H:=H1
      clear H1
      simp only [Option.some.injEq,Prod.mk.injEq] at H
      obtain ⟨rfl,rfl⟩:=H
      go_wp2_with ((((with_reducible refine gate_callee (f:=71) rfl ?_); refine goesL_ (some 20) rfl rfl Tryz.func71 (by kernel_rfl) rfl #[.int .i64 (x4_5.size : Int),.int .i64 1,.int .i64 6] rfl (by (try simp only [List.map_toArray,List.map_cons,List.map_nil]); (rfl)) ?_; (with_reducible refine (spec_l1In.calls (x4_5.size : Int) 1 6 false _ A9.out).mono ?_); rintro e w' ⟨rfl,⟨nd,rfl⟩⟩; refine ⟨_,rfl,?_⟩)))
      go_ret2
      exact ⟨by (rfl),by repeat (with_reducible first|exact HB.out|apply pw_below_drewN)⟩

end Go.Proofs.YtfindomajbjacaaGreatDoor.X
