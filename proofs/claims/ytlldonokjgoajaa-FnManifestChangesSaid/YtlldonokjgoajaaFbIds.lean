-- Written by a program of ours (wip/bin/xprint.py,over the kit's print.py) out of the translation. Not trusted: Lean checks it.
import Derived.Test.YtlldonokjgoajaaX0
namespace Go.Proofs.Ytlldonokjgoajaa.X
open Go.RowKit Go.Proofs.YtlldonokjgoajaaW.PrintWords Go.Proofs.YtlldonokjgoajaaW.PrintLast Go.Proofs.YtlldonokjgoajaaW.PrintMore
attribute [local go_sem] max2_int min2_int max_two min_two max_three min_three max_four min_four   -- for this text's walks alone
set_option linter.unusedVariables false
set_option linter.unusedSimpArgs false

/-! ### spec_l2Check: function 200 -/
def spec_l2Check.l0 : Nat → ByteArray → Int → Int → Option (Int)
 | 0,_,_,_ => none
 | k + 1,x0,x3,x4 => if x4 < 7 then (if 0 ≤ x4 then (if x4 < (x0.size : Int) then (if x4 < 3 then (spec_l2Check.l0 k x0 (wrap64 (x3 + (wrap64 ((wrap64 ((wrap64 ((wrap64 (bt x0 x4)) - 65)) + 1)) * (wrap64 (x4 + 2)))))) (wrap64 (x4 + 1))) else (spec_l2Check.l0 k x0 (wrap64 (x3 + (wrap64 ((wrap64 ((wrap64 (bt x0 x4)) - 48)) * (wrap64 (x4 + 2)))))) (wrap64 (x4 + 1)))) else (none)) else (none)) else (some ((65 + ((Int.tmod x3 23) % 256)) % 256))
def spec_l2Check.f (k : Nat) (a0 : ByteArray) : Option (Int):=spec_l2Check.l0 k a0 0 0
theorem spec_l2Check.mono_l : ∀ k,(∀ y0 y1 y2,LeO (spec_l2Check.l0 k y0 y1 y2) (spec_l2Check.l0 (k + 1) y0 y1 y2))
 | 0 => fun _ _ _ r h => by simp [spec_l2Check.l0] at h
 | k + 1 => by
  have ih0:=spec_l2Check.mono_l k
  ·intro y0 y1 y2
   unfold spec_l2Check.l0
   repeat' first
   | (with_reducible exact ih0 _ _ _)
   | (with_reducible exact LeO.refl _)
   | (with_reducible exact LeO.none _)
   | (with_reducible refine LeO.ite ?_ ?_)
   | (with_reducible refine LeO.bind ?_ (fun _ => ?_))
   | exact ih0 _ _ _
   | exact LeO.none _
   | refine LeO.ite ?_ ?_
   | refine LeO.bind ?_ (fun _ => ?_)
theorem spec_l2Check.mono : ∀ a0 k,LeO (spec_l2Check.f k a0) (spec_l2Check.f (k + 1) a0):=by
 intro a0 k
 have ih0:=spec_l2Check.mono_l k
 unfold spec_l2Check.f
 repeat' first
   | (with_reducible exact ih0 _ _ _)
   | (with_reducible exact LeO.refl _)
   | (with_reducible exact LeO.none _)
   | (with_reducible refine LeO.ite ?_ ?_)
   | (with_reducible refine LeO.bind ?_ (fun _ => ?_))
   | exact ih0 _ _ _
   | exact LeO.none _
   | refine LeO.ite ?_ ?_
   | refine LeO.bind ?_ (fun _ => ?_)
set_option maxHeartbeats 8000000 in
set_option maxRecDepth 100000 in
theorem spec_l2Check.calls (k : Nat) (a0 : ByteArray) (r : Int) (w : World) (h : spec_l2Check.f k a0 = some r) :
  Calls Try.prog 200 #[.string a0] w fun e w' => e = .returned (.int .u8 r) ∧ Drawn0 w w':=by
 have H : (spec_l2Check.l0 k a0 0 0) = some r:=h
 clear h
 have H':=Aside0.mk H
 clear H
 go_enter Try.func200,Try.ntmps200
 go_wp2
 go_loopg [3,4] k (fun kq v3 v4 w' => ∃ (x3_1 : Int) (x4_1 : Int),v3 = .int .i64 x3_1 ∧ v4 = .int .i64 x4_1 ∧ Aside0 (spec_l2Check.l0 kq a0 x3_1 x4_1 = some r) ∧ Aside0 (kq ≤ k) ∧ Drawn0 w w')
 case atStart => exact ⟨(0),(0),(by (rfl)),(by (rfl)),H',⟨Nat.le_refl _⟩,by repeat (exact Drawn0.refl _)⟩
 case round =>
  clear H'
  obtain ⟨x3_1,x4_1,rfl,rfl,HA,HK1,⟨m1,rfl⟩⟩:=hrel
  cases gk with
  | zero => exact absurd HA.out (by simp [spec_l2Check.l0])
  | succ k1 =>
   have H:=HA.out
   clear HA
   simp only [spec_l2Check.l0] at H
   by_cases c2 : x4_1 < 7
   ·rw [if_pos c2] at H
    have c2b0 : decide (x4_1 < 7) = true:=decide_eq_true c2
    clear c2
    by_cases c3 : 0 ≤ x4_1
    ·rw [if_pos c3] at H
     have c3b0 : decide (0 ≤ x4_1) = true:=decide_eq_true c3
     clear c3
     by_cases c4 : x4_1 < (a0.size : Int)
     ·rw [if_pos c4] at H
      have c4b0 : decide (x4_1 < (a0.size : Int)) = true:=decide_eq_true c4
      clear c4
      by_cases c6 : x4_1 < 3
      ·rw [if_pos c6] at H
       have c6b0 : decide (x4_1 < 3) = true:=decide_eq_true c6
       clear c6
       have H':=Aside0.mk H
       clear H
       have p5 : 0 ≤ (x4_1 : Int):=of_decide_eq_true (by (with_reducible assumption))
       have q5 : x4_1 < (a0.size : Int):=of_decide_eq_true (by (with_reducible assumption))
       have hx5:=bt_at a0 x4_1
       replace p5:=eq_true p5
       replace q5:=eq_true q5
       have p7 : 0 ≤ (x4_1 : Int):=of_decide_eq_true (by (with_reducible assumption))
       have q7 : x4_1 < (a0.size : Int):=of_decide_eq_true (by (with_reducible assumption))
       have hx7:=bt_at a0 x4_1
       replace p7:=eq_true p7
       replace q7:=eq_true q7
       go_wp2
       go_roundg k1
       case measure => have:=HK1.out; omega
       case rel => exact ⟨(wrap64 (x3_1 + (wrap64 ((wrap64 ((wrap64 ((wrap64 (bt a0 x4_1)) - 65)) + 1)) * (wrap64 (x4_1 + 2)))))),(wrap64 (x4_1 + 1)),(by (rfl)),(by (rfl)),H',⟨by have:=HK1.out; omega⟩,by repeat (first|exact Drawn0.refl _|apply Drawn0.step)⟩
      ·rw [if_neg c6] at H
       have c6b0 : decide (x4_1 < 3) = false:=decide_eq_false c6
       clear c6
       have H':=Aside0.mk H
       clear H
       have p5 : 0 ≤ (x4_1 : Int):=of_decide_eq_true (by (with_reducible assumption))
       have q5 : x4_1 < (a0.size : Int):=of_decide_eq_true (by (with_reducible assumption))
       have hx5:=bt_at a0 x4_1
       replace p5:=eq_true p5
       replace q5:=eq_true q5
       go_wp2
       go_roundg k1
       case measure => have:=HK1.out; omega
       case rel => exact ⟨(wrap64 (x3_1 + (wrap64 ((wrap64 ((wrap64 (bt a0 x4_1)) - 48)) * (wrap64 (x4_1 + 2)))))),(wrap64 (x4_1 + 1)),(by (rfl)),(by (rfl)),H',⟨by have:=HK1.out; omega⟩,by repeat (first|exact Drawn0.refl _|apply Drawn0.step)⟩
     ·rw [if_neg c4] at H
      exact absurd H (by simp)
    ·rw [if_neg c3] at H
     exact absurd H (by simp)
   ·rw [if_neg c2] at H
    have c2b0 : decide (x4_1 < 7) = false:=decide_eq_false c2
    clear c2
    obtain rfl:=Option.some.inj H
    go_wp2
    go_ret
    exact ⟨by (rfl),by repeat (first|exact Drawn0.refl _|apply Drawn0.step)⟩

/-! ### spec_l2Seven: function 210 -/
def spec_l2Seven.l0 : Nat → ByteArray → Int → Option (Bool)
 | 0,_,_ => none
 | k + 1,x0,x3 => if x3 < 7 then (if x3 < 3 then (if 0 ≤ x3 then (if x3 < (x0.size : Int) then (if (bt x0 x3) < 65 then (some false) else (if (bt x0 x3) > 90 then (some false) else (if x3 > 2 then (if (bt x0 x3) < 48 then (some false) else (if (bt x0 x3) > 57 then (some false) else (spec_l2Seven.l0 k x0 (wrap64 (x3 + 1))))) else (spec_l2Seven.l0 k x0 (wrap64 (x3 + 1)))))) else (none)) else (none)) else (if x3 > 2 then (if 0 ≤ x3 then (if x3 < (x0.size : Int) then (if (bt x0 x3) < 48 then (some false) else (if (bt x0 x3) > 57 then (some false) else (spec_l2Seven.l0 k x0 (wrap64 (x3 + 1))))) else (none)) else (none)) else (spec_l2Seven.l0 k x0 (wrap64 (x3 + 1))))) else (some true)
def spec_l2Seven.f (k : Nat) (a0 : ByteArray) : Option (Bool):=if (a0.size : Int) = 7 then (spec_l2Seven.l0 k a0 0) else (some false)
theorem spec_l2Seven.mono_l : ∀ k,(∀ y0 y1,LeO (spec_l2Seven.l0 k y0 y1) (spec_l2Seven.l0 (k + 1) y0 y1))
 | 0 => fun _ _ r h => by simp [spec_l2Seven.l0] at h
 | k + 1 => by
  have ih0:=spec_l2Seven.mono_l k
  ·intro y0 y1
   unfold spec_l2Seven.l0
   repeat' first
   | (with_reducible exact ih0 _ _)
   | (with_reducible exact LeO.refl _)
   | (with_reducible exact LeO.none _)
   | (with_reducible refine LeO.ite ?_ ?_)
   | (with_reducible refine LeO.bind ?_ (fun _ => ?_))
   | exact ih0 _ _
   | exact LeO.none _
   | refine LeO.ite ?_ ?_
   | refine LeO.bind ?_ (fun _ => ?_)
theorem spec_l2Seven.mono : ∀ a0 k,LeO (spec_l2Seven.f k a0) (spec_l2Seven.f (k + 1) a0):=by
 intro a0 k
 have ih0:=spec_l2Seven.mono_l k
 unfold spec_l2Seven.f
 repeat' first
   | (with_reducible exact ih0 _ _)
   | (with_reducible exact LeO.refl _)
   | (with_reducible exact LeO.none _)
   | (with_reducible refine LeO.ite ?_ ?_)
   | (with_reducible refine LeO.bind ?_ (fun _ => ?_))
   | exact ih0 _ _
   | exact LeO.none _
   | refine LeO.ite ?_ ?_
   | refine LeO.bind ?_ (fun _ => ?_)
set_option maxHeartbeats 8000000 in
set_option maxRecDepth 100000 in
theorem spec_l2Seven.calls (k : Nat) (a0 : ByteArray) (r : Bool) (w : World) (h : spec_l2Seven.f k a0 = some r) :
  Calls Try.prog 210 #[.string a0] w fun e w' => e = .returned (.bool r) ∧ Drawn0 w w':=by
 have H : (if (a0.size : Int) = 7 then (spec_l2Seven.l0 k a0 0) else (some false)) = some r:=h
 clear h
 by_cases c2 : (a0.size : Int) = 7
 ·rw [if_pos c2] at H
  have c2b0 : ((a0.size : Int) == 7) = true:=beq_iff_eq.mpr c2
  have c2b1 : ((a0.size : Int) != 7) = false:=bne_eq_false_iff_eq.mpr c2
  clear c2
  have H':=Aside0.mk H
  clear H
  go_enter Try.func210,Try.ntmps210
  go_wp2
  go_loopg [3] k (fun kq v3 w' => ∃ (x3_1 : Int),v3 = .int .i64 x3_1 ∧ Aside0 (spec_l2Seven.l0 kq a0 x3_1 = some r) ∧ Aside0 (kq ≤ k) ∧ Drawn0 w w')
  case atStart => exact ⟨(0),(by (rfl)),H',⟨Nat.le_refl _⟩,by repeat (exact Drawn0.refl _)⟩
  case round =>
   clear H'
   try clear c2
   try clear c2b0
   try clear c2b1
   try clear p2
   obtain ⟨x3_1,rfl,HA,HK1,⟨m1,rfl⟩⟩:=hrel
   cases gk with
   | zero => exact absurd HA.out (by simp [spec_l2Seven.l0])
   | succ k1 =>
    have H:=HA.out
    clear HA
    simp only [spec_l2Seven.l0] at H
    by_cases c3 : x3_1 < 7
    ·rw [if_pos c3] at H
     have c3b0 : decide (x3_1 < 7) = true:=decide_eq_true c3
     clear c3
     by_cases c4 : x3_1 < 3
     ·rw [if_pos c4] at H
      have c4b0 : decide (x3_1 < 3) = true:=decide_eq_true c4
      clear c4
      by_cases c5 : 0 ≤ x3_1
      ·rw [if_pos c5] at H
       have c5b0 : decide (0 ≤ x3_1) = true:=decide_eq_true c5
       clear c5
       by_cases c6 : x3_1 < (a0.size : Int)
       ·rw [if_pos c6] at H
        have c6b0 : decide (x3_1 < (a0.size : Int)) = true:=decide_eq_true c6
        clear c6
        by_cases c8 : (bt a0 x3_1) < 65
        ·rw [if_pos c8] at H
         have c8b0 : decide ((bt a0 x3_1) < 65) = true:=decide_eq_true c8
         clear c8
         obtain rfl:=Option.some.inj H
         have p7 : 0 ≤ (x3_1 : Int):=of_decide_eq_true (by (with_reducible assumption))
         have q7 : x3_1 < (a0.size : Int):=of_decide_eq_true (by (with_reducible assumption))
         have hx7:=bt_at a0 x3_1
         replace p7:=eq_true p7
         replace q7:=eq_true q7
         go_wp2
         go_ret
         exact ⟨by (rfl),by repeat (first|exact Drawn0.refl _|apply Drawn0.step)⟩
        ·rw [if_neg c8] at H
         have c8b0 : decide ((bt a0 x3_1) < 65) = false:=decide_eq_false c8
         clear c8
         by_cases c10 : (bt a0 x3_1) > 90
         ·rw [if_pos c10] at H
          have c10b0 : decide (90 < (bt a0 x3_1)) = true:=decide_eq_true c10
          clear c10
          obtain rfl:=Option.some.inj H
          have p7 : 0 ≤ (x3_1 : Int):=of_decide_eq_true (by (with_reducible assumption))
          have q7 : x3_1 < (a0.size : Int):=of_decide_eq_true (by (with_reducible assumption))
          have hx7:=bt_at a0 x3_1
          replace p7:=eq_true p7
          replace q7:=eq_true q7
          have p9 : 0 ≤ (x3_1 : Int):=of_decide_eq_true (by (with_reducible assumption))
          have q9 : x3_1 < (a0.size : Int):=of_decide_eq_true (by (with_reducible assumption))
          have hx9:=bt_at a0 x3_1
          replace p9:=eq_true p9
          replace q9:=eq_true q9
          go_wp2
          go_ret
          exact ⟨by (rfl),by repeat (first|exact Drawn0.refl _|apply Drawn0.step)⟩
         ·rw [if_neg c10] at H
          have c10b0 : decide (90 < (bt a0 x3_1)) = false:=decide_eq_false c10
          clear c10
          by_cases c11 : x3_1 > 2
          ·rw [if_pos c11] at H
           have c11b0 : decide (2 < x3_1) = true:=decide_eq_true c11
           clear c11
           by_cases c13 : (bt a0 x3_1) < 48
           ·rw [if_pos c13] at H
            have c13b0 : decide ((bt a0 x3_1) < 48) = true:=decide_eq_true c13
            clear c13
            obtain rfl:=Option.some.inj H
            have p7 : 0 ≤ (x3_1 : Int):=of_decide_eq_true (by (with_reducible assumption))
            have q7 : x3_1 < (a0.size : Int):=of_decide_eq_true (by (with_reducible assumption))
            have hx7:=bt_at a0 x3_1
            replace p7:=eq_true p7
            replace q7:=eq_true q7
            have p9 : 0 ≤ (x3_1 : Int):=of_decide_eq_true (by (with_reducible assumption))
            have q9 : x3_1 < (a0.size : Int):=of_decide_eq_true (by (with_reducible assumption))
            have hx9:=bt_at a0 x3_1
            replace p9:=eq_true p9
            replace q9:=eq_true q9
            have p12 : 0 ≤ (x3_1 : Int):=of_decide_eq_true (by (with_reducible assumption))
            have q12 : x3_1 < (a0.size : Int):=of_decide_eq_true (by (with_reducible assumption))
            have hx12:=bt_at a0 x3_1
            replace p12:=eq_true p12
            replace q12:=eq_true q12
            go_wp2
            go_ret
            exact ⟨by (rfl),by repeat (first|exact Drawn0.refl _|apply Drawn0.step)⟩
           ·rw [if_neg c13] at H
            have c13b0 : decide ((bt a0 x3_1) < 48) = false:=decide_eq_false c13
            clear c13
            by_cases c15 : (bt a0 x3_1) > 57
            ·rw [if_pos c15] at H
             have c15b0 : decide (57 < (bt a0 x3_1)) = true:=decide_eq_true c15
             clear c15
             obtain rfl:=Option.some.inj H
             have p7 : 0 ≤ (x3_1 : Int):=of_decide_eq_true (by (with_reducible assumption))
             have q7 : x3_1 < (a0.size : Int):=of_decide_eq_true (by (with_reducible assumption))
             have hx7:=bt_at a0 x3_1
             replace p7:=eq_true p7
             replace q7:=eq_true q7
             have p9 : 0 ≤ (x3_1 : Int):=of_decide_eq_true (by (with_reducible assumption))
             have q9 : x3_1 < (a0.size : Int):=of_decide_eq_true (by (with_reducible assumption))
             have hx9:=bt_at a0 x3_1
             replace p9:=eq_true p9
             replace q9:=eq_true q9
             have p12 : 0 ≤ (x3_1 : Int):=of_decide_eq_true (by (with_reducible assumption))
             have q12 : x3_1 < (a0.size : Int):=of_decide_eq_true (by (with_reducible assumption))
             have hx12:=bt_at a0 x3_1
             replace p12:=eq_true p12
             replace q12:=eq_true q12
             have p14 : 0 ≤ (x3_1 : Int):=of_decide_eq_true (by (with_reducible assumption))
             have q14 : x3_1 < (a0.size : Int):=of_decide_eq_true (by (with_reducible assumption))
             have hx14:=bt_at a0 x3_1
             replace p14:=eq_true p14
             replace q14:=eq_true q14
             go_wp2
             go_ret
             exact ⟨by (rfl),by repeat (first|exact Drawn0.refl _|apply Drawn0.step)⟩
            ·rw [if_neg c15] at H
             have c15b0 : decide (57 < (bt a0 x3_1)) = false:=decide_eq_false c15
             clear c15
             have H':=Aside0.mk H
             clear H
             have p7 : 0 ≤ (x3_1 : Int):=of_decide_eq_true (by (with_reducible assumption))
             have q7 : x3_1 < (a0.size : Int):=of_decide_eq_true (by (with_reducible assumption))
             have hx7:=bt_at a0 x3_1
             replace p7:=eq_true p7
             replace q7:=eq_true q7
             have p9 : 0 ≤ (x3_1 : Int):=of_decide_eq_true (by (with_reducible assumption))
             have q9 : x3_1 < (a0.size : Int):=of_decide_eq_true (by (with_reducible assumption))
             have hx9:=bt_at a0 x3_1
             replace p9:=eq_true p9
             replace q9:=eq_true q9
             have p12 : 0 ≤ (x3_1 : Int):=of_decide_eq_true (by (with_reducible assumption))
             have q12 : x3_1 < (a0.size : Int):=of_decide_eq_true (by (with_reducible assumption))
             have hx12:=bt_at a0 x3_1
             replace p12:=eq_true p12
             replace q12:=eq_true q12
             have p14 : 0 ≤ (x3_1 : Int):=of_decide_eq_true (by (with_reducible assumption))
             have q14 : x3_1 < (a0.size : Int):=of_decide_eq_true (by (with_reducible assumption))
             have hx14:=bt_at a0 x3_1
             replace p14:=eq_true p14
             replace q14:=eq_true q14
             go_wp2
             go_roundg k1
             case measure => have:=HK1.out; omega
             case rel => exact ⟨(wrap64 (x3_1 + 1)),(by (rfl)),H',⟨by have:=HK1.out; omega⟩,by repeat (first|exact Drawn0.refl _|apply Drawn0.step)⟩
          ·rw [if_neg c11] at H
           have c11b0 : decide (2 < x3_1) = false:=decide_eq_false c11
           clear c11
           have H':=Aside0.mk H
           clear H
           have p7 : 0 ≤ (x3_1 : Int):=of_decide_eq_true (by (with_reducible assumption))
           have q7 : x3_1 < (a0.size : Int):=of_decide_eq_true (by (with_reducible assumption))
           have hx7:=bt_at a0 x3_1
           replace p7:=eq_true p7
           replace q7:=eq_true q7
           have p9 : 0 ≤ (x3_1 : Int):=of_decide_eq_true (by (with_reducible assumption))
           have q9 : x3_1 < (a0.size : Int):=of_decide_eq_true (by (with_reducible assumption))
           have hx9:=bt_at a0 x3_1
           replace p9:=eq_true p9
           replace q9:=eq_true q9
           go_wp2
           go_roundg k1
           case measure => have:=HK1.out; omega
           case rel => exact ⟨(wrap64 (x3_1 + 1)),(by (rfl)),H',⟨by have:=HK1.out; omega⟩,by repeat (first|exact Drawn0.refl _|apply Drawn0.step)⟩
       ·rw [if_neg c6] at H
        exact absurd H (by simp)
      ·rw [if_neg c5] at H
       exact absurd H (by simp)
     ·rw [if_neg c4] at H
      have c4b0 : decide (x3_1 < 3) = false:=decide_eq_false c4
      clear c4
      by_cases c16 : x3_1 > 2
      ·rw [if_pos c16] at H
       have c16b0 : decide (2 < x3_1) = true:=decide_eq_true c16
       clear c16
       by_cases c17 : 0 ≤ x3_1
       ·rw [if_pos c17] at H
        have c17b0 : decide (0 ≤ x3_1) = true:=decide_eq_true c17
        clear c17
        by_cases c18 : x3_1 < (a0.size : Int)
        ·rw [if_pos c18] at H
         have c18b0 : decide (x3_1 < (a0.size : Int)) = true:=decide_eq_true c18
         clear c18
         by_cases c20 : (bt a0 x3_1) < 48
         ·rw [if_pos c20] at H
          have c20b0 : decide ((bt a0 x3_1) < 48) = true:=decide_eq_true c20
          clear c20
          obtain rfl:=Option.some.inj H
          have p19 : 0 ≤ (x3_1 : Int):=of_decide_eq_true (by (with_reducible assumption))
          have q19 : x3_1 < (a0.size : Int):=of_decide_eq_true (by (with_reducible assumption))
          have hx19:=bt_at a0 x3_1
          replace p19:=eq_true p19
          replace q19:=eq_true q19
          go_wp2
          go_ret
          exact ⟨by (rfl),by repeat (first|exact Drawn0.refl _|apply Drawn0.step)⟩
         ·rw [if_neg c20] at H
          have c20b0 : decide ((bt a0 x3_1) < 48) = false:=decide_eq_false c20
          clear c20
          by_cases c22 : (bt a0 x3_1) > 57
          ·rw [if_pos c22] at H
           have c22b0 : decide (57 < (bt a0 x3_1)) = true:=decide_eq_true c22
           clear c22
           obtain rfl:=Option.some.inj H
           have p19 : 0 ≤ (x3_1 : Int):=of_decide_eq_true (by (with_reducible assumption))
           have q19 : x3_1 < (a0.size : Int):=of_decide_eq_true (by (with_reducible assumption))
           have hx19:=bt_at a0 x3_1
           replace p19:=eq_true p19
           replace q19:=eq_true q19
           have p21 : 0 ≤ (x3_1 : Int):=of_decide_eq_true (by (with_reducible assumption))
           have q21 : x3_1 < (a0.size : Int):=of_decide_eq_true (by (with_reducible assumption))
           have hx21:=bt_at a0 x3_1
           replace p21:=eq_true p21
           replace q21:=eq_true q21
           go_wp2
           go_ret
           exact ⟨by (rfl),by repeat (first|exact Drawn0.refl _|apply Drawn0.step)⟩
          ·rw [if_neg c22] at H
           have c22b0 : decide (57 < (bt a0 x3_1)) = false:=decide_eq_false c22
           clear c22
           have H':=Aside0.mk H
           clear H
           have p19 : 0 ≤ (x3_1 : Int):=of_decide_eq_true (by (with_reducible assumption))
           have q19 : x3_1 < (a0.size : Int):=of_decide_eq_true (by (with_reducible assumption))
           have hx19:=bt_at a0 x3_1
           replace p19:=eq_true p19
           replace q19:=eq_true q19
           have p21 : 0 ≤ (x3_1 : Int):=of_decide_eq_true (by (with_reducible assumption))
           have q21 : x3_1 < (a0.size : Int):=of_decide_eq_true (by (with_reducible assumption))
           have hx21:=bt_at a0 x3_1
           replace p21:=eq_true p21
           replace q21:=eq_true q21
           go_wp2
           go_roundg k1
           case measure => have:=HK1.out; omega
           case rel => exact ⟨(wrap64 (x3_1 + 1)),(by (rfl)),H',⟨by have:=HK1.out; omega⟩,by repeat (first|exact Drawn0.refl _|apply Drawn0.step)⟩
        ·rw [if_neg c18] at H
         exact absurd H (by simp)
       ·rw [if_neg c17] at H
        exact absurd H (by simp)
      ·rw [if_neg c16] at H
       have c16b0 : decide (2 < x3_1) = false:=decide_eq_false c16
       clear c16
       have H':=Aside0.mk H
       clear H
       go_wp2
       go_roundg k1
       case measure => have:=HK1.out; omega
       case rel => exact ⟨(wrap64 (x3_1 + 1)),(by (rfl)),H',⟨by have:=HK1.out; omega⟩,by repeat (first|exact Drawn0.refl _|apply Drawn0.step)⟩
    ·rw [if_neg c3] at H
     have c3b0 : decide (x3_1 < 7) = false:=decide_eq_false c3
     clear c3
     obtain rfl:=Option.some.inj H
     go_wp2
     go_ret
     exact ⟨by (rfl),by repeat (first|exact Drawn0.refl _|apply Drawn0.step)⟩
 ·rw [if_neg c2] at H
  have c2b0 : ((a0.size : Int) == 7) = false:=beq_eq_false_iff_ne.mpr c2
  have c2b1 : ((a0.size : Int) != 7) = true:=bne_iff_ne.mpr c2
  obtain rfl:=Option.some.inj H
  go_enter Try.func210,Try.ntmps210
  go_wp2
  go_ret
  exact ⟨by (rfl),by repeat (exact Drawn0.refl _)⟩

/-! ### spec_l2Id: function 186 -/
def spec_l2Id.f (k : Nat) (a0 : ByteArray) : Option (Bool):=if (a0.size : Int) = 8 then (if 0 ≤ 7 then (if 7 ≤ (a0.size : Int) then ((spec_l2Seven.f k (a0.extract 0 7)).bind fun t895 => (if t895 = true then (if 7 < (a0.size : Int) then ((spec_l2Check.f k (a0.extract 0 7)).bind fun t896 => (some ((bt a0 7) == t896))) else (none)) else (some false))) else (none)) else (none)) else (some false)
theorem spec_l2Id.mono : ∀ a0 k,LeO (spec_l2Id.f k a0) (spec_l2Id.f (k + 1) a0):=by
 intro a0 k
 unfold spec_l2Id.f
 repeat' first
   | (with_reducible exact spec_l2Check.mono _ _)
   | (with_reducible exact spec_l2Seven.mono _ _)
   | (with_reducible exact LeO.refl _)
   | (with_reducible exact LeO.none _)
   | (with_reducible refine LeO.ite ?_ ?_)
   | (with_reducible refine LeO.bind ?_ (fun _ => ?_))
   | exact spec_l2Check.mono _ _
   | exact spec_l2Seven.mono _ _
   | exact LeO.none _
   | refine LeO.ite ?_ ?_
   | refine LeO.bind ?_ (fun _ => ?_)
set_option maxHeartbeats 8000000 in
set_option maxRecDepth 100000 in
theorem spec_l2Id.calls (k : Nat) (a0 : ByteArray) (r : Bool) (w : World) (h : spec_l2Id.f k a0 = some r) :
  Calls Try.prog 186 #[.string a0] w fun e w' => e = .returned (.bool r) ∧ Drawn0 w w':=by
 have H : (if (a0.size : Int) = 8 then (if 0 ≤ 7 then (if 7 ≤ (a0.size : Int) then ((spec_l2Seven.f k (a0.extract 0 7)).bind fun t895 => (if t895 = true then (if 7 < (a0.size : Int) then ((spec_l2Check.f k (a0.extract 0 7)).bind fun t896 => (some ((bt a0 7) == t896))) else (none)) else (some false))) else (none)) else (none)) else (some false)) = some r:=h
 clear h
 by_cases c2 : (a0.size : Int) = 8
 ·rw [if_pos c2] at H
  have c2b0 : ((a0.size : Int) == 8) = true:=beq_iff_eq.mpr c2
  have c2b1 : ((a0.size : Int) != 8) = false:=bne_eq_false_iff_eq.mpr c2
  clear c2
  by_cases c3 : 0 ≤ 7
  ·rw [if_pos c3] at H
   have c3b0:=eq_true c3
   have c3b1 : decide (0 ≤ 7) = true:=decide_eq_true c3
   clear c3
   by_cases c4 : 7 ≤ (a0.size : Int)
   ·rw [if_pos c4] at H
    have c4b0:=eq_true c4
    have c4b1 : decide (7 ≤ (a0.size : Int)) = true:=decide_eq_true c4
    clear c4
    replace H:=Option.bind_eq_some_iff.mp H
    obtain ⟨t895,A50,H⟩:=H
    replace H : (if t895 = true then (if 7 < (a0.size : Int) then ((spec_l2Check.f k (a0.extract 0 7)).bind fun t896 => (some ((bt a0 7) == t896))) else (none)) else (some false)) = some r:=H
    have A5:=Aside0.mk A50
    clear A50
    by_cases c6 : t895 = true
    ·subst c6
     have H1 : (if 7 < (a0.size : Int) then ((spec_l2Check.f k (a0.extract 0 7)).bind fun t896 => (some ((bt a0 7) == t896))) else (none)) = some r:=by rw [if_pos rfl] at H; exact H
     clear H
     have H:=H1
     clear H1
     by_cases c7 : 7 < (a0.size : Int)
     ·rw [if_pos c7] at H
      have c7b0 : decide (7 < (a0.size : Int)) = true:=decide_eq_true c7
      have c7b1 : decide (7 < a0.size) = true:=decide_eq_true (by omega)
      clear c7
      have c9b0:=eq_true (of_decide_eq_true (by (with_reducible assumption)) : 0 ≤ 7)
      have c10b0:=eq_true (of_decide_eq_true (by (with_reducible assumption)) : 7 ≤ (a0.size : Int))
      replace H:=Option.bind_eq_some_iff.mp H
      obtain ⟨t896,A110,H⟩:=H
      replace H : (some ((bt a0 7) == t896)) = some r:=H
      have A11:=Aside0.mk A110
      clear A110
      obtain rfl:=Option.some.inj H
      go_enter Try.func186,Try.ntmps186
      go_wp2_with (((go_at_call 200; (with_reducible refine (spec_l2Check.calls k (a0.extract 0 7) t896 _ A11.out).mono ?_); rintro e w' ⟨rfl,⟨nd,rfl⟩⟩; (try first|exact ⟨rfl,_,World.drewN_drewN _ _ _⟩|exact ⟨rfl,_,Eq.trans (World.drewN_drewN _ _ _) (congrArg (World.drewN _) (Nat.add_assoc _ _ _))⟩))))
      repeat (go_quiet (first|(go_at_call 210; (with_reducible refine (spec_l2Seven.calls k (a0.extract 0 7) true _ A5.out).mono ?_); rintro e w' ⟨rfl,⟨nd,rfl⟩⟩; (try (exact ⟨rfl,_,World.drewN_drewN _ _ _⟩)); have p8 : 0 ≤ (7 : Int):=(by omega); have q8 : 7 < a0.size:=(by have : (7 : Int) < (a0.size : Int):=of_decide_eq_true (by (with_reducible assumption)); omega); have hx8 : ∀ h : 7 < a0.size,((a0[7]'h).toNat : Int) = bt a0 7:=bt_at a0 7; clear p8; have qi8 : (7 < (a0.size : Int)) = True:=eq_true (of_decide_eq_true (by (with_reducible assumption))); replace q8:=eq_true q8)|(go_at_call 200; (with_reducible refine (spec_l2Check.calls k (a0.extract 0 7) t896 _ A11.out).mono ?_); rintro e w' ⟨rfl,⟨nd,rfl⟩⟩; (try (exact ⟨rfl,_,World.drewN_drewN _ _ _⟩)))); try go_wp2_with (((go_at_call 200; (with_reducible refine (spec_l2Check.calls k (a0.extract 0 7) t896 _ A11.out).mono ?_); rintro e w' ⟨rfl,⟨nd,rfl⟩⟩; (try first|exact ⟨rfl,_,World.drewN_drewN _ _ _⟩|exact ⟨rfl,_,Eq.trans (World.drewN_drewN _ _ _) (congrArg (World.drewN _) (Nat.add_assoc _ _ _))⟩)))))
      go_ret
      exact ⟨by (rfl),by repeat (first|exact Drawn0.refl _|apply Drawn0.step)⟩
     ·rw [if_neg c7] at H
      exact absurd H (by simp)
    ·replace c6:=Bool.eq_false_iff.mpr c6
     subst c6
     have H1 : (some false) = some r:=by rw [if_neg (show ¬ (false = true) by decide)] at H; exact H
     clear H
     have H:=H1
     clear H1
     obtain rfl:=Option.some.inj H
     go_enter Try.func186,Try.ntmps186
     go_wp2_with (((go_at_call 210; (with_reducible refine (spec_l2Seven.calls k (a0.extract 0 7) false _ A5.out).mono ?_); rintro e w' ⟨rfl,⟨nd,rfl⟩⟩; (try first|exact ⟨rfl,_,World.drewN_drewN _ _ _⟩|exact ⟨rfl,_,Eq.trans (World.drewN_drewN _ _ _) (congrArg (World.drewN _) (Nat.add_assoc _ _ _))⟩))))
     repeat (go_quiet (((go_at_call 210; (with_reducible refine (spec_l2Seven.calls k (a0.extract 0 7) false _ A5.out).mono ?_); rintro e w' ⟨rfl,⟨nd,rfl⟩⟩; (try (exact ⟨rfl,_,World.drewN_drewN _ _ _⟩))))); try go_wp2_with (((go_at_call 210; (with_reducible refine (spec_l2Seven.calls k (a0.extract 0 7) false _ A5.out).mono ?_); rintro e w' ⟨rfl,⟨nd,rfl⟩⟩; (try first|exact ⟨rfl,_,World.drewN_drewN _ _ _⟩|exact ⟨rfl,_,Eq.trans (World.drewN_drewN _ _ _) (congrArg (World.drewN _) (Nat.add_assoc _ _ _))⟩)))))
     go_ret
     exact ⟨by (rfl),by repeat (first|exact Drawn0.refl _|apply Drawn0.step)⟩
   ·rw [if_neg c4] at H
    exact absurd H (by simp)
  ·rw [if_neg c3] at H
   exact absurd H (by simp)
 ·rw [if_neg c2] at H
  have c2b0 : ((a0.size : Int) == 8) = false:=beq_eq_false_iff_ne.mpr c2
  have c2b1 : ((a0.size : Int) != 8) = true:=bne_iff_ne.mpr c2
  obtain rfl:=Option.some.inj H
  go_enter Try.func186,Try.ntmps186
  go_wp2
  repeat (go_quiet (fail); try go_wp2)
  go_ret
  exact ⟨by (rfl),by repeat (first|exact Drawn0.refl _|apply Drawn0.step)⟩

/-! ### impl_checkLetter: function 179 -/
mutual
def impl_checkLetter.l0 : Nat → ByteArray → Int → Int → Int → Option (Int × Bool)
 | 0,_,_,_,_ => none
 | k + 1,x0,x4,x11,x12 => if x12 < x11 then (if 0 ≤ x12 then (if x12 < (x0.size : Int) then (if x12 < 3 then (if (bt x0 x12) ≥ 65 then (impl_checkLetter.j1 k x0 x4 x12 (bt x0 x12) x11 x12 (decide ((bt x0 x12) ≤ 90))) else (impl_checkLetter.j1 k x0 x4 x12 (bt x0 x12) x11 x12 false)) else (impl_checkLetter.j1 k x0 x4 x12 (bt x0 x12) x11 x12 false)) else (none)) else (none)) else (some ((wrap64 (65 + (Int.tmod x4 23))) % 256,true))
def impl_checkLetter.j1 : Nat → ByteArray → Int → Int → Int → Int → Int → Bool → Option (Int × Bool)
 | 0,_,_,_,_,_,_,_ => none
 | k + 1,x0,x4,x5,x6,x11,x12,x18 => if x18 = true then (impl_checkLetter.l0 k x0 (wrap64 (x4 + (wrap64 ((wrap64 (x5 + 2)) * (((x6 - 65) % 256) + 1))))) x11 (wrap64 (x12 + 1))) else (if x5 ≥ 3 then (if x6 ≥ 48 then (if x6 ≤ 57 then (impl_checkLetter.l0 k x0 (wrap64 (x4 + (wrap64 ((wrap64 (x5 + 2)) * ((x6 - 48) % 256))))) x11 (wrap64 (x12 + 1))) else (some (0,false))) else (some (0,false))) else (some (0,false)))
end
def impl_checkLetter.f (k : Nat) (a0 : ByteArray) : Option (Int × Bool):=if (a0.size : Int) = 7 then (impl_checkLetter.l0 k a0 0 (a0.size : Int) 0) else (some (0,false))
theorem impl_checkLetter.mono_l : ∀ k,(∀ y0 y1 y2 y3,LeO (impl_checkLetter.l0 k y0 y1 y2 y3) (impl_checkLetter.l0 (k + 1) y0 y1 y2 y3)) ∧ (∀ y0 y1 y2 y3 y4 y5 y6,LeO (impl_checkLetter.j1 k y0 y1 y2 y3 y4 y5 y6) (impl_checkLetter.j1 (k + 1) y0 y1 y2 y3 y4 y5 y6))
 | 0 => ⟨fun _ _ _ _ r h => by simp [impl_checkLetter.l0] at h,fun _ _ _ _ _ _ _ r h => by simp [impl_checkLetter.j1] at h⟩
 | k + 1 => by
  obtain ⟨ih0,ih1⟩:=impl_checkLetter.mono_l k
  refine ⟨?_,?_⟩
  ·intro y0 y1 y2 y3
   unfold impl_checkLetter.l0
   repeat' first
   | (with_reducible exact ih0 _ _ _ _)
   | (with_reducible exact ih1 _ _ _ _ _ _ _)
   | (with_reducible exact LeO.refl _)
   | (with_reducible exact LeO.none _)
   | (with_reducible refine LeO.ite ?_ ?_)
   | (with_reducible refine LeO.bind ?_ (fun _ => ?_))
   | exact ih0 _ _ _ _
   | exact ih1 _ _ _ _ _ _ _
   | exact LeO.none _
   | refine LeO.ite ?_ ?_
   | refine LeO.bind ?_ (fun _ => ?_)
  ·intro y0 y1 y2 y3 y4 y5 y6
   unfold impl_checkLetter.j1
   repeat' first
   | (with_reducible exact ih0 _ _ _ _)
   | (with_reducible exact ih1 _ _ _ _ _ _ _)
   | (with_reducible exact LeO.refl _)
   | (with_reducible exact LeO.none _)
   | (with_reducible refine LeO.ite ?_ ?_)
   | (with_reducible refine LeO.bind ?_ (fun _ => ?_))
   | exact ih0 _ _ _ _
   | exact ih1 _ _ _ _ _ _ _
   | exact LeO.none _
   | refine LeO.ite ?_ ?_
   | refine LeO.bind ?_ (fun _ => ?_)
theorem impl_checkLetter.mono : ∀ a0 k,LeO (impl_checkLetter.f k a0) (impl_checkLetter.f (k + 1) a0):=by
 intro a0 k
 obtain ⟨ih0,ih1⟩:=impl_checkLetter.mono_l k
 unfold impl_checkLetter.f
 repeat' first
   | (with_reducible exact ih0 _ _ _ _)
   | (with_reducible exact ih1 _ _ _ _ _ _ _)
   | (with_reducible exact LeO.refl _)
   | (with_reducible exact LeO.none _)
   | (with_reducible refine LeO.ite ?_ ?_)
   | (with_reducible refine LeO.bind ?_ (fun _ => ?_))
   | exact ih0 _ _ _ _
   | exact ih1 _ _ _ _ _ _ _
   | exact LeO.none _
   | refine LeO.ite ?_ ?_
   | refine LeO.bind ?_ (fun _ => ?_)
set_option maxHeartbeats 8000000 in
set_option maxRecDepth 100000 in
theorem impl_checkLetter.calls (k : Nat) (a0 : ByteArray) (r1 : Int) (r2 : Bool) (w : World) (h : impl_checkLetter.f k a0 = some (r1,r2)) :
  Calls Try.prog 179 #[.string a0] w fun e w' => e = .returned (.tuple #[.int .u8 r1,.bool r2]) ∧ Drawn0 w w':=by
 have H : (if (a0.size : Int) = 7 then (impl_checkLetter.l0 k a0 0 (a0.size : Int) 0) else (some (0,false))) = some (r1,r2):=h
 clear h
 by_cases c2 : (a0.size : Int) = 7
 ·rw [if_pos c2] at H
  have c2b0 : ((a0.size : Int) == 7) = true:=beq_iff_eq.mpr c2
  have c2b1 : ((a0.size : Int) != 7) = false:=bne_eq_false_iff_eq.mpr c2
  clear c2
  have H':=Aside0.mk H
  clear H
  go_enter Try.func179,Try.ntmps179
  go_wp2
  go_loopg [4,12] k (fun kq v4 v12 w' => ∃ (x4_1 : Int) (x12_1 : Int),v4 = .int .i64 x4_1 ∧ v12 = .int .i64 x12_1 ∧ Aside0 (impl_checkLetter.l0 kq a0 x4_1 (a0.size : Int) x12_1 = some (r1,r2)) ∧ Aside0 (kq ≤ k) ∧ Drawn0 w w')
  case atStart => exact ⟨(0),(0),(by (rfl)),(by (rfl)),H',⟨Nat.le_refl _⟩,by repeat (exact Drawn0.refl _)⟩
  case round =>
   clear H'
   try clear c1
   try clear c2
   try clear c2b0
   try clear c2b1
   try clear p2
   obtain ⟨x4_1,x12_1,rfl,rfl,HA,HK1,⟨m1,rfl⟩⟩:=hrel
   cases gk with
   | zero => exact absurd HA.out (by simp [impl_checkLetter.l0])
   | succ k1 =>
    have H:=HA.out
    clear HA
    simp only [impl_checkLetter.l0] at H
    by_cases c3 : x12_1 < (a0.size : Int)
    ·rw [if_pos c3] at H
     have c3b0 : decide (x12_1 < (a0.size : Int)) = true:=decide_eq_true c3
     clear c3
     by_cases c4 : 0 ≤ x12_1
     ·rw [if_pos c4] at H
      have c4b0 : decide (0 ≤ x12_1) = true:=decide_eq_true c4
      clear c4
      by_cases c5 : x12_1 < (a0.size : Int)
      ·rw [if_pos c5] at H
       have c5b0 : decide (x12_1 < (a0.size : Int)) = true:=decide_eq_true c5
       clear c5
       have HC7:=Aside0.mk H
       clear H
       have p6 : 0 ≤ (x12_1 : Int):=of_decide_eq_true (by (with_reducible assumption))
       have q6 : x12_1 < (a0.size : Int):=of_decide_eq_true (by (with_reducible assumption))
       have hx6:=bt_at a0 x12_1
       replace p6:=eq_true p6
       replace q6:=eq_true q6
       go_upto_region 9 with (fail)
       go_cut [18] (fun v18 wc => ∃ (kq : Nat) (x18_6 : Bool),v18 = .bool x18_6 ∧ Aside0 (impl_checkLetter.j1 kq a0 x4_1 x12_1 (bt a0 x12_1) (a0.size : Int) x12_1 x18_6 = some (r1,r2)) ∧ Aside0 (kq ≤ k1) ∧ Drawn0 w wc)
       case first =>
        have H:=HC7.out
        clear HC7
        by_cases c8 : x12_1 < 3
        ·rw [if_pos c8] at H
         have c8b0 : decide (x12_1 < 3) = true:=decide_eq_true c8
         clear c8
         (skip)
         by_cases c9 : (bt a0 x12_1) ≥ 65
         ·rw [if_pos c9] at H
          have c9b0 : decide (65 ≤ (bt a0 x12_1)) = true:=decide_eq_true c9
          clear c9
          have H':=Aside0.mk H
          clear H
          go_wp2
          go_meet
          case rel => exact ⟨_,(decide ((bt a0 x12_1) ≤ 90)),(by (rfl)),H',⟨by have:=HK1.out; (omega)⟩,by repeat (first|exact Drawn0.refl _|apply Drawn0.step)⟩
         ·rw [if_neg c9] at H
          have c9b0 : decide (65 ≤ (bt a0 x12_1)) = false:=decide_eq_false c9
          clear c9
          have H':=Aside0.mk H
          clear H
          go_wp2
          go_meet
          case rel => exact ⟨_,(false),(by (rfl)),H',⟨by have:=HK1.out; (omega)⟩,by repeat (first|exact Drawn0.refl _|apply Drawn0.step)⟩
        ·rw [if_neg c8] at H
         have c8b0 : decide (x12_1 < 3) = false:=decide_eq_false c8
         clear c8
         (skip)
         have H':=Aside0.mk H
         clear H
         go_wp2
         go_meet
         case rel => exact ⟨_,(false),(by (rfl)),H',⟨by have:=HK1.out; (omega)⟩,by repeat (first|exact Drawn0.refl _|apply Drawn0.step)⟩
       case rest =>
        clear HC7
        try clear c1
        try clear c2
        try clear c2b0
        try clear c2b1
        try clear p2
        try clear c3
        try clear c3b0
        try clear c4
        try clear c4b0
        try clear c5
        try clear c5b0
        try clear p6
        try clear q6
        try clear hx6
        try clear c8
        try clear c8b0
        try clear c9
        try clear c9b0
        try clear p2
        try clear p6
        try clear q6
        obtain ⟨kq,x18_6,rfl,HA,HJ6,⟨mc6,rfl⟩⟩:=hcut
        cases kq with
        | zero => exact absurd HA.out (by simp [impl_checkLetter.j1])
        | succ kj6 =>
         have H:=HA.out
         clear HA
         simp only [impl_checkLetter.j1] at H
         by_cases c10 : x18_6 = true
         ·subst c10
          have H1 : (impl_checkLetter.l0 kj6 a0 (wrap64 (x4_1 + (wrap64 ((wrap64 (x12_1 + 2)) * ((((bt a0 x12_1) - 65) % 256) + 1))))) (a0.size : Int) (wrap64 (x12_1 + 1))) = some (r1,r2):=by rw [if_pos rfl] at H; exact H
          clear H
          have H:=H1
          clear H1
          have H':=Aside0.mk H
          clear H
          go_wp2
          go_roundg kj6
          case measure => have:=HK1.out; have:=HJ6.out; omega
          case rel => exact ⟨(wrap64 (x4_1 + (wrap64 ((wrap64 (x12_1 + 2)) * ((((bt a0 x12_1) - 65) % 256) + 1))))),(wrap64 (x12_1 + 1)),(by (rfl)),(by (rfl)),H',⟨by have:=HK1.out; have:=HJ6.out; omega⟩,by repeat (first|exact Drawn0.refl _|apply Drawn0.step)⟩
         ·replace c10:=Bool.eq_false_iff.mpr c10
          subst c10
          have H1 : (if x12_1 ≥ 3 then (if (bt a0 x12_1) ≥ 48 then (if (bt a0 x12_1) ≤ 57 then (impl_checkLetter.l0 kj6 a0 (wrap64 (x4_1 + (wrap64 ((wrap64 (x12_1 + 2)) * (((bt a0 x12_1) - 48) % 256))))) (a0.size : Int) (wrap64 (x12_1 + 1))) else (some (0,false))) else (some (0,false))) else (some (0,false))) = some (r1,r2):=by rw [if_neg (show ¬ (false = true) by decide)] at H; exact H
          clear H
          have H:=H1
          clear H1
          by_cases c11 : x12_1 ≥ 3
          ·rw [if_pos c11] at H
           have c11b0 : decide (3 ≤ x12_1) = true:=decide_eq_true c11
           clear c11
           by_cases c12 : (bt a0 x12_1) ≥ 48
           ·rw [if_pos c12] at H
            have c12b0 : decide (48 ≤ (bt a0 x12_1)) = true:=decide_eq_true c12
            clear c12
            by_cases c13 : (bt a0 x12_1) ≤ 57
            ·rw [if_pos c13] at H
             have c13b0 : decide ((bt a0 x12_1) ≤ 57) = true:=decide_eq_true c13
             clear c13
             have H':=Aside0.mk H
             clear H
             go_wp2
             go_roundg kj6
             case measure => have:=HK1.out; have:=HJ6.out; omega
             case rel => exact ⟨(wrap64 (x4_1 + (wrap64 ((wrap64 (x12_1 + 2)) * (((bt a0 x12_1) - 48) % 256))))),(wrap64 (x12_1 + 1)),(by (rfl)),(by (rfl)),H',⟨by have:=HK1.out; have:=HJ6.out; omega⟩,by repeat (first|exact Drawn0.refl _|apply Drawn0.step)⟩
            ·rw [if_neg c13] at H
             have c13b0 : decide ((bt a0 x12_1) ≤ 57) = false:=decide_eq_false c13
             clear c13
             simp only [Option.some.injEq,Prod.mk.injEq] at H
             obtain ⟨rfl,rfl⟩:=H
             go_wp2
             go_ret2
             exact ⟨by (rfl),by repeat (first|exact Drawn0.refl _|apply Drawn0.step)⟩
           ·rw [if_neg c12] at H
            have c12b0 : decide (48 ≤ (bt a0 x12_1)) = false:=decide_eq_false c12
            clear c12
            simp only [Option.some.injEq,Prod.mk.injEq] at H
            obtain ⟨rfl,rfl⟩:=H
            go_wp2
            go_ret2
            exact ⟨by (rfl),by repeat (first|exact Drawn0.refl _|apply Drawn0.step)⟩
          ·rw [if_neg c11] at H
           have c11b0 : decide (3 ≤ x12_1) = false:=decide_eq_false c11
           clear c11
           simp only [Option.some.injEq,Prod.mk.injEq] at H
           obtain ⟨rfl,rfl⟩:=H
           go_wp2
           go_ret2
           exact ⟨by (rfl),by repeat (first|exact Drawn0.refl _|apply Drawn0.step)⟩
      ·rw [if_neg c5] at H
       exact absurd H (by simp)
     ·rw [if_neg c4] at H
      exact absurd H (by simp)
    ·rw [if_neg c3] at H
     have c3b0 : decide (x12_1 < (a0.size : Int)) = false:=decide_eq_false c3
     clear c3
     simp only [Option.some.injEq,Prod.mk.injEq] at H
     obtain ⟨rfl,rfl⟩:=H
     go_wp2
     go_ret2
     exact ⟨by (rfl),by repeat (first|exact Drawn0.refl _|apply Drawn0.step)⟩
 ·rw [if_neg c2] at H
  have c2b0 : ((a0.size : Int) == 7) = false:=beq_eq_false_iff_ne.mpr c2
  have c2b1 : ((a0.size : Int) != 7) = true:=bne_iff_ne.mpr c2
  simp only [Option.some.injEq,Prod.mk.injEq] at H
  obtain ⟨rfl,rfl⟩:=H
  go_enter Try.func179,Try.ntmps179
  go_wp2
  go_ret2
  exact ⟨by (rfl),by repeat (exact Drawn0.refl _)⟩

/-! ### impl_IsValidId: function 149 -/
def impl_IsValidId.f (k : Nat) (a0 : ByteArray) : Option (Bool):=if (a0.size : Int) = 8 then (if 0 ≤ 7 then (if 7 ≤ (a0.size : Int) then ((impl_checkLetter.f k (a0.extract 0 7)).bind fun bt928 => (if bt928.2 = true then (if 7 < (a0.size : Int) then (some ((bt a0 7) == bt928.1)) else (none)) else (some false))) else (none)) else (none)) else (some false)
theorem impl_IsValidId.mono : ∀ a0 k,LeO (impl_IsValidId.f k a0) (impl_IsValidId.f (k + 1) a0):=by
 intro a0 k
 unfold impl_IsValidId.f
 repeat' first
   | (with_reducible exact impl_checkLetter.mono _ _)
   | (with_reducible exact LeO.refl _)
   | (with_reducible exact LeO.none _)
   | (with_reducible refine LeO.ite ?_ ?_)
   | (with_reducible refine LeO.bind ?_ (fun _ => ?_))
   | exact impl_checkLetter.mono _ _
   | exact LeO.none _
   | refine LeO.ite ?_ ?_
   | refine LeO.bind ?_ (fun _ => ?_)
set_option maxHeartbeats 8000000 in
set_option maxRecDepth 100000 in
theorem impl_IsValidId.calls (k : Nat) (a0 : ByteArray) (r : Bool) (w : World) (h : impl_IsValidId.f k a0 = some r) :
  Calls Try.prog 149 #[.string a0] w fun e w' => e = .returned (.bool r) ∧ Drawn0 w w':=by
 have H : (if (a0.size : Int) = 8 then (if 0 ≤ 7 then (if 7 ≤ (a0.size : Int) then ((impl_checkLetter.f k (a0.extract 0 7)).bind fun bt928 => (if bt928.2 = true then (if 7 < (a0.size : Int) then (some ((bt a0 7) == bt928.1)) else (none)) else (some false))) else (none)) else (none)) else (some false)) = some r:=h
 clear h
 by_cases c2 : (a0.size : Int) = 8
 ·rw [if_pos c2] at H
  have c2b0 : ((a0.size : Int) == 8) = true:=beq_iff_eq.mpr c2
  have c2b1 : ((a0.size : Int) != 8) = false:=bne_eq_false_iff_eq.mpr c2
  clear c2
  by_cases c3 : 0 ≤ 7
  ·rw [if_pos c3] at H
   have c3b0:=eq_true c3
   have c3b1 : decide (0 ≤ 7) = true:=decide_eq_true c3
   clear c3
   by_cases c4 : 7 ≤ (a0.size : Int)
   ·rw [if_pos c4] at H
    have c4b0:=eq_true c4
    have c4b1 : decide (7 ≤ (a0.size : Int)) = true:=decide_eq_true c4
    clear c4
    replace H:=Option.bind_eq_some_iff.mp H
    obtain ⟨⟨t928,t929⟩,A50,H⟩:=H
    replace H : (if t929 = true then (if 7 < (a0.size : Int) then (some ((bt a0 7) == t928)) else (none)) else (some false)) = some r:=H
    have A5:=Aside0.mk A50
    clear A50
    by_cases c6 : t929 = true
    ·subst c6
     have H1 : (if 7 < (a0.size : Int) then (some ((bt a0 7) == t928)) else (none)) = some r:=by rw [if_pos rfl] at H; exact H
     clear H
     have H:=H1
     clear H1
     by_cases c7 : 7 < (a0.size : Int)
     ·rw [if_pos c7] at H
      have c7b0 : decide (7 < (a0.size : Int)) = true:=decide_eq_true c7
      have c7b1 : decide (7 < a0.size) = true:=decide_eq_true (by omega)
      clear c7
      obtain rfl:=Option.some.inj H
      go_enter Try.func149,Try.ntmps149
      go_wp2_with ((((with_reducible refine gate_callee (f:=179) rfl ?_); refine goesL_ (some 11) rfl rfl Try.func179 (by kernel_rfl) rfl #[.string (a0.extract 0 7)] rfl (by (try simp only [List.map_toArray,List.map_cons,List.map_nil]); (rfl)) ?_; (with_reducible refine (impl_checkLetter.calls k (a0.extract 0 7) t928 true _ A5.out).mono ?_); rintro e w' ⟨rfl,⟨nd,rfl⟩⟩; refine ⟨_,rfl,?_⟩; have p8 : 0 ≤ (7 : Int):=(by omega); have q8 : 7 < a0.size:=(by have : (7 : Int) < (a0.size : Int):=of_decide_eq_true (by (with_reducible assumption)); omega); have hx8 : ∀ h : 7 < a0.size,((a0[7]'h).toNat : Int) = bt a0 7:=bt_at a0 7; clear p8; have qi8 : (7 < (a0.size : Int)) = True:=eq_true (of_decide_eq_true (by (with_reducible assumption))); replace q8:=eq_true q8)))
      go_ret
      exact ⟨by (rfl),by repeat (first|exact Drawn0.refl _|apply Drawn0.step)⟩
     ·rw [if_neg c7] at H
      exact absurd H (by simp)
    ·replace c6:=Bool.eq_false_iff.mpr c6
     subst c6
     have H1 : (some false) = some r:=by rw [if_neg (show ¬ (false = true) by decide)] at H; exact H
     clear H
     have H:=H1
     clear H1
     obtain rfl:=Option.some.inj H
     go_enter Try.func149,Try.ntmps149
     go_wp2_with ((((with_reducible refine gate_callee (f:=179) rfl ?_); refine goesL_ (some 11) rfl rfl Try.func179 (by kernel_rfl) rfl #[.string (a0.extract 0 7)] rfl (by (try simp only [List.map_toArray,List.map_cons,List.map_nil]); (rfl)) ?_; (with_reducible refine (impl_checkLetter.calls k (a0.extract 0 7) t928 false _ A5.out).mono ?_); rintro e w' ⟨rfl,⟨nd,rfl⟩⟩; refine ⟨_,rfl,?_⟩)))
     go_ret
     exact ⟨by (rfl),by repeat (first|exact Drawn0.refl _|apply Drawn0.step)⟩
   ·rw [if_neg c4] at H
    exact absurd H (by simp)
  ·rw [if_neg c3] at H
   exact absurd H (by simp)
 ·rw [if_neg c2] at H
  have c2b0 : ((a0.size : Int) == 8) = false:=beq_eq_false_iff_ne.mpr c2
  have c2b1 : ((a0.size : Int) != 8) = true:=bne_iff_ne.mpr c2
  obtain rfl:=Option.some.inj H
  go_enter Try.func149,Try.ntmps149
  go_wp2
  go_ret
  exact ⟨by (rfl),by repeat (exact Drawn0.refl _)⟩

end Go.Proofs.Ytlldonokjgoajaa.X
