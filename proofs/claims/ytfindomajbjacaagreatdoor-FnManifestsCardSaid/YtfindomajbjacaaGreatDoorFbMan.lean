-- Written by a program of ours (wip/bin/xprint.py,over the kit's print.py) out of the translation. Not trusted: Lean checks it.
import Derived.Test.YtfindomajbjacaaGreatDoorX0
import Derived.Test.YtfindomajbjacaaGreatDoorFspecl4Text
import Derived.Test.YtfindomajbjacaaGreatDoorFbGood
namespace Go.Proofs.YtfindomajbjacaaGreatDoor.X
open Go.RowKit Go.Proofs.YtfindomajbjacaaGreatDoorW.PrintWords Go.Proofs.YtfindomajbjacaaGreatDoorW.PrintLast Go.Proofs.YtfindomajbjacaaGreatDoorW.PrintMore
attribute [local go_sem] max2_int min2_int max_two min_two max_three min_three max_four min_four   -- for this text's walks alone
set_option linter.unusedVariables false
set_option linter.unusedSimpArgs false

/-! ### spec_l4Manifest: function 59 -/
def spec_l4Manifest.l0 : Nat → List (S50) → ByteArray → Int → Option (ByteArray)
 | 0,_,_,_ => none
 | k + 1,x0,x3,x4 => if x4 < (x0.length : Int) then (if 0 ≤ x4 then ((spec_l4Text.f k ((rd_T50 x0 x4).f0) ((rd_T50 x0 x4).f1) ((rd_T50 x0 x4).f2) ((rd_T50 x0 x4).f3) ((rd_T50 x0 x4).f4)).bind fun t870 => (if x3.size + t870.size ≤ 9223372036854775807 then (if (x3 ++ t870).size + 1 ≤ 9223372036854775807 then (spec_l4Manifest.l0 k x0 ((x3 ++ t870) ++ (⟨#[10]⟩ : ByteArray)) (wrap64 (x4 + 1))) else (none)) else (none))) else (none)) else (some x3)
def spec_l4Manifest.f (k : Nat) (l0 : List (S50)) : Option (ByteArray):=spec_l4Manifest.l0 k l0 (⟨#[]⟩ : ByteArray) 0
theorem spec_l4Manifest.mono_l : ∀ k,(∀ y0 y1 y2,LeO (spec_l4Manifest.l0 k y0 y1 y2) (spec_l4Manifest.l0 (k + 1) y0 y1 y2))
 | 0 => fun _ _ _ r h => by simp [spec_l4Manifest.l0] at h
 | k + 1 => by
  have ih0:=spec_l4Manifest.mono_l k
  ·intro y0 y1 y2
   unfold spec_l4Manifest.l0
   repeat' first
   | (with_reducible exact ih0 _ _ _)
   | (with_reducible exact spec_l4Text.mono _ _ _ _ _ _)
   | (with_reducible exact LeO.refl _)
   | (with_reducible exact LeO.none _)
   | (with_reducible refine LeO.ite ?_ ?_)
   | (with_reducible refine LeO.bind ?_ (fun _ => ?_))
   | exact ih0 _ _ _
   | exact spec_l4Text.mono _ _ _ _ _ _
   | exact LeO.none _
   | refine LeO.ite ?_ ?_
   | refine LeO.bind ?_ (fun _ => ?_)
theorem spec_l4Manifest.mono : ∀ a0 k,LeO (spec_l4Manifest.f k a0) (spec_l4Manifest.f (k + 1) a0):=by
 intro a0 k
 have ih0:=spec_l4Manifest.mono_l k
 unfold spec_l4Manifest.f
 repeat' first
   | (with_reducible exact ih0 _ _ _)
   | (with_reducible exact spec_l4Text.mono _ _ _ _ _ _)
   | (with_reducible exact LeO.refl _)
   | (with_reducible exact LeO.none _)
   | (with_reducible refine LeO.ite ?_ ?_)
   | (with_reducible refine LeO.bind ?_ (fun _ => ?_))
   | exact ih0 _ _ _
   | exact spec_l4Text.mono _ _ _ _ _ _
   | exact LeO.none _
   | refine LeO.ite ?_ ?_
   | refine LeO.bind ?_ (fun _ => ?_)
set_option maxHeartbeats 8000000 in
set_option maxRecDepth 100000 in
theorem spec_l4Manifest.calls (k : Nat) (A0 : Option Addr) (c0 : Nat) (l0 : List (S50)) (r : ByteArray) (w : World) (hr0 : Kd.C k50 w A0 l0.length l0) (hc0 : l0.length ≤ c0) (h : spec_l4Manifest.f k l0 = some r) :
  Calls Tryz.prog 59 #[.slice A0 l0.length c0] w fun e w' => e = .returned (.string r) ∧ Below w.heap.size w w':=by
 have hu50:=Tryz.underlying50
 have HR0:=Aside0.mk hr0
 have HC0:=Aside0.mk hc0
 clear hr0 hc0
 have HB:=Aside0.mk (Below.refl w.heap.size w)
 have H : (spec_l4Manifest.l0 k l0 (⟨#[]⟩ : ByteArray) 0) = some r:=h
 clear h
 have H':=Aside0.mk H
 clear H
 go_enter Tryz.func59,Tryz.ntmps59
 go_wp2
 go_loopg [3,4] k (fun kq v3 v4 w' => ∃ (x3_1 : ByteArray) (x4_1 : Int),v3 = .string x3_1 ∧ v4 = .int .i64 x4_1 ∧ Aside0 (spec_l4Manifest.l0 kq l0 x3_1 x4_1 = some r) ∧ Aside0 (kq ≤ k) ∧ Aside0 (Below w.heap.size w w'))
 case atStart => exact ⟨(⟨#[]⟩ : ByteArray),(0),(by (rfl)),(by (rfl)),H',⟨Nat.le_refl _⟩,⟨by repeat (((with_reducible (exact HB.out))))⟩⟩
 case round =>
  clear H'
  obtain ⟨x3_1,x4_1,rfl,rfl,HA,HK1,HB⟩:=hrel
  cases gk with
  | zero => exact absurd HA.out (by simp [spec_l4Manifest.l0])
  | succ k1 =>
   have H:=HA.out
   clear HA
   simp only [spec_l4Manifest.l0] at H
   by_cases c2 : x4_1 < (l0.length : Int)
   ·rw [if_pos c2] at H
    have c2b0 : decide (x4_1 < (l0.length : Int)) = true:=decide_eq_true c2
    clear c2
    by_cases c3 : 0 ≤ x4_1
    ·rw [if_pos c3] at H
     have c3b0 : decide (0 ≤ x4_1) = true:=decide_eq_true c3
     clear c3
     replace H:=Option.bind_eq_some_iff.mp H
     obtain ⟨t870,A40,H⟩:=H
     replace H : (if x3_1.size + t870.size ≤ 9223372036854775807 then (if (x3_1 ++ t870).size + 1 ≤ 9223372036854775807 then (spec_l4Manifest.l0 k1 l0 ((x3_1 ++ t870) ++ (⟨#[10]⟩ : ByteArray)) (wrap64 (x4_1 + 1))) else (none)) else (none)) = some r:=H
     have A4:=Aside0.mk A40
     clear A40
     by_cases c5 : x3_1.size + t870.size ≤ 9223372036854775807
     ·rw [if_pos c5] at H
      have c5b0:=eq_true c5
      have c5b1 : decide (x3_1.size + t870.size ≤ 9223372036854775807) = true:=decide_eq_true c5
      try have c5b2 : (9223372036854775807 < x3_1.size + t870.size) = False:=eq_false (Nat.not_lt.2 c5)
      by_cases c6 : (x3_1 ++ t870).size + 1 ≤ 9223372036854775807
      ·rw [if_pos c6] at H
       have c6b0:=eq_true c6
       have c6b1 : decide ((x3_1 ++ t870).size + 1 ≤ 9223372036854775807) = true:=decide_eq_true c6
       try have c6b2 : (9223372036854775807 < (x3_1 ++ t870).size + 1) = False:=eq_false (Nat.not_lt.2 c6)
       try have c6b9 : (9223372036854775807 < x3_1.size + t870.size + 1) = False:=eq_false (by have h_:=c6; simp only [ByteArray.size_append] at h_; exact Nat.not_lt.2 h_)
       try (have c6b7:=c6b2; simp only [ByteArray.size_append] at c6b7)
       have H':=Aside0.mk H
       clear H
       have p869 : 0 ≤ (x4_1 : Int):=of_decide_eq_true (by (with_reducible assumption))
       have q869 : x4_1 < (l0.length : Int):=of_decide_eq_true (by (with_reducible assumption))
       obtain ⟨ad869,e869,hx869_0,hx869_1,hx869_2,hx869_3,hx869_4⟩:=at_T50 HR0.out x4_1 p869 q869
       cases e869
       replace hx869_0:=(HB.out.cell (World.block_lt_of_cell? w _ hx869_0)).trans hx869_0
       replace hx869_1:=(HB.out.cell (World.block_lt_of_cell? w _ hx869_1)).trans hx869_1
       replace hx869_2:=(HB.out.cell (World.block_lt_of_cell? w _ hx869_2)).trans hx869_2
       replace hx869_3:=(HB.out.cell (World.block_lt_of_cell? w _ hx869_3)).trans hx869_3
       replace hx869_4:=(HB.out.cell (World.block_lt_of_cell? w _ hx869_4)).trans hx869_4
       replace p869:=eq_true p869
       replace q869:=eq_true q869
       go_wp2_with ((((with_reducible refine gate_callee (f:=60) rfl ?_); refine goesL_ (some 16) rfl rfl Tryz.func60 (by kernel_rfl) rfl #[.agg #[.string ((rd_T50 l0 x4_1).f0),.int .i64 ((rd_T50 l0 x4_1).f1),.int .i64 ((rd_T50 l0 x4_1).f2),.int .i64 ((rd_T50 l0 x4_1).f3),.int .i64 ((rd_T50 l0 x4_1).f4)]] rfl (by (try simp only [List.map_toArray,List.map_cons,List.map_nil]); (rfl)) ?_; (with_reducible refine (spec_l4Text.calls k1 ((rd_T50 l0 x4_1).f0) ((rd_T50 l0 x4_1).f1) ((rd_T50 l0 x4_1).f2) ((rd_T50 l0 x4_1).f3) ((rd_T50 l0 x4_1).f4) t870 _ A4.out).mono ?_); rintro e w7 ⟨rfl,hb⟩; refine ⟨_,rfl,?_⟩; have n0_:=Aside0.mk (below_step (by repeat (((with_reducible (exact HB.out))))) hb); clear HB; have HB:=n0_; clear n0_; (try clear hb); (try clear hb2); (try clear hk); (try clear hi))))
       go_roundg k1
       case measure => have:=HK1.out; omega
       case rel => exact ⟨((x3_1 ++ t870) ++ (⟨#[10]⟩ : ByteArray)),(wrap64 (x4_1 + 1)),(by (rfl)),(by (rfl)),H',⟨by have:=HK1.out; omega⟩,⟨by repeat (((with_reducible (exact HB.out))))⟩⟩
      ·rw [if_neg c6] at H
       exact absurd H (by simp)
     ·rw [if_neg c5] at H
      exact absurd H (by simp)
    ·rw [if_neg c3] at H
     exact absurd H (by simp)
   ·rw [if_neg c2] at H
    have c2b0 : decide (x4_1 < (l0.length : Int)) = false:=decide_eq_false c2
    clear c2
    obtain rfl:=Option.some.inj H
    go_wp2
    go_ret
    exact ⟨by (rfl),by repeat (((with_reducible (exact HB.out))))⟩

/-! ### spec_ManifestText: function 24 -/
def spec_ManifestText.f (k : Nat) (l0 : List (S50)) : Option (ByteArray × Bool):=(spec_l2List.f k l0).bind fun t871 => (if t871 = true then ((spec_l4Manifest.f k l0).bind fun t872 => (some (t872,true))) else (some ((⟨#[]⟩ : ByteArray),false)))
theorem spec_ManifestText.mono : ∀ a0 k,LeO (spec_ManifestText.f k a0) (spec_ManifestText.f (k + 1) a0):=by
 intro a0 k
 unfold spec_ManifestText.f
 repeat' first
   | (with_reducible exact spec_l2List.mono _ _)
   | (with_reducible exact spec_l4Manifest.mono _ _)
   | (with_reducible exact LeO.refl _)
   | (with_reducible exact LeO.none _)
   | (with_reducible refine LeO.ite ?_ ?_)
   | (with_reducible refine LeO.bind ?_ (fun _ => ?_))
   | exact spec_l2List.mono _ _
   | exact spec_l4Manifest.mono _ _
   | exact LeO.none _
   | refine LeO.ite ?_ ?_
   | refine LeO.bind ?_ (fun _ => ?_)
set_option maxHeartbeats 8000000 in
set_option maxRecDepth 100000 in
theorem spec_ManifestText.calls (k : Nat) (A0 : Option Addr) (c0 : Nat) (l0 : List (S50)) (r1 : ByteArray) (r2 : Bool) (w : World) (hr0 : Kd.C k50 w A0 l0.length l0) (hc0 : l0.length ≤ c0) (h : spec_ManifestText.f k l0 = some (r1,r2)) :
  Calls Tryz.prog 24 #[.slice A0 l0.length c0] w fun e w' => e = .returned (.tuple #[.string r1,.bool r2]) ∧ Below w.heap.size w w':=by
 have HR0:=Aside0.mk hr0
 have HC0:=Aside0.mk hc0
 clear hr0 hc0
 have HB:=Aside0.mk (Below.refl w.heap.size w)
 have H : ((spec_l2List.f k l0).bind fun t871 => (if t871 = true then ((spec_l4Manifest.f k l0).bind fun t872 => (some (t872,true))) else (some ((⟨#[]⟩ : ByteArray),false)))) = some (r1,r2):=h
 clear h
 replace H:=Option.bind_eq_some_iff.mp H
 obtain ⟨t871,A20,H⟩:=H
 replace H : (if t871 = true then ((spec_l4Manifest.f k l0).bind fun t872 => (some (t872,true))) else (some ((⟨#[]⟩ : ByteArray),false))) = some (r1,r2):=H
 have A2:=Aside0.mk A20
 clear A20
 by_cases c3 : t871 = true
 ·subst c3
  have H1 : ((spec_l4Manifest.f k l0).bind fun t872 => (some (t872,true))) = some (r1,r2):=by rw [if_pos rfl] at H; exact H
  clear H
  have H:=H1
  clear H1
  replace H:=Option.bind_eq_some_iff.mp H
  obtain ⟨t872,A40,H⟩:=H
  replace H : (some (t872,true)) = some (r1,r2):=H
  have A4:=Aside0.mk A40
  clear A40
  simp only [Option.some.injEq,Prod.mk.injEq] at H
  obtain ⟨rfl,rfl⟩:=H
  go_enter Tryz.func24,Tryz.ntmps24
  go_wp2_with (first|((with_reducible refine gate_callee (f:=58) rfl ?_); refine goesL_ (some 5) rfl rfl Tryz.func58 (by kernel_rfl) rfl #[.slice A0 l0.length c0] rfl (by (try simp only [List.map_toArray,List.map_cons,List.map_nil]); (rfl)) ?_; (with_reducible refine (spec_l2List.calls k _ _ l0 true _ ?side1 ?side2 A2.out).mono ?_); (case side1 => repeat (exact HR0.out)); (case side2 => exact HC0.out); rintro e w5 ⟨rfl,hb⟩; refine ⟨_,rfl,?_⟩; have n0_:=Aside0.mk (below_step (by repeat (((with_reducible (exact HB.out))))) hb); clear HB; have HB:=n0_; clear n0_; (try clear hb); (try clear hb2); (try clear hk); (try clear hi))|((with_reducible refine gate_callee (f:=59) rfl ?_); refine goesL_ (some 8) rfl rfl Tryz.func59 (by kernel_rfl) rfl #[.slice A0 l0.length c0] rfl (by (try simp only [List.map_toArray,List.map_cons,List.map_nil]); (rfl)) ?_; (with_reducible refine (spec_l4Manifest.calls k _ _ l0 t872 _ ?side1 ?side2 A4.out).mono ?_); (case side1 => repeat ((exact (Kd.C_below HR0.out HB.out)))); (case side2 => exact HC0.out); rintro e w6 ⟨rfl,hb⟩; refine ⟨_,rfl,?_⟩; have n0_:=Aside0.mk (below_step (by repeat (((with_reducible (exact HB.out))))) hb); clear HB; have HB:=n0_; clear n0_; (try clear hb); (try clear hb2); (try clear hk); (try clear hi)))
  go_ret2
  exact ⟨by (rfl),by repeat (((with_reducible (exact HB.out))))⟩
 ·replace c3:=Bool.eq_false_iff.mpr c3
  subst c3
  have H1 : (some ((⟨#[]⟩ : ByteArray),false)) = some (r1,r2):=by rw [if_neg (show ¬ (false = true) by decide)] at H; exact H
  clear H
  have H:=H1
  clear H1
  simp only [Option.some.injEq,Prod.mk.injEq] at H
  obtain ⟨rfl,rfl⟩:=H
  go_enter Tryz.func24,Tryz.ntmps24
  go_wp2_with ((((with_reducible refine gate_callee (f:=58) rfl ?_); refine goesL_ (some 5) rfl rfl Tryz.func58 (by kernel_rfl) rfl #[.slice A0 l0.length c0] rfl (by (try simp only [List.map_toArray,List.map_cons,List.map_nil]); (rfl)) ?_; (with_reducible refine (spec_l2List.calls k _ _ l0 false _ ?side1 ?side2 A2.out).mono ?_); (case side1 => repeat (exact HR0.out)); (case side2 => exact HC0.out); rintro e w7 ⟨rfl,hb⟩; refine ⟨_,rfl,?_⟩; have n0_:=Aside0.mk (below_step (by repeat (((with_reducible (exact HB.out))))) hb); clear HB; have HB:=n0_; clear n0_; (try clear hb); (try clear hb2); (try clear hk); (try clear hi))))
  go_ret2
  exact ⟨by (rfl),by repeat (((with_reducible (exact HB.out))))⟩

end Go.Proofs.YtfindomajbjacaaGreatDoor.X
