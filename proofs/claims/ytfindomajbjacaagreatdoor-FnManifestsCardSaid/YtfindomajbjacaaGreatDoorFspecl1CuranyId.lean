-- Written by a program of ours (wip/bin/xprint.py,over the kit's print.py) out of the translation. Not trusted: Lean checks it.
import Derived.Test.YtfindomajbjacaaGreatDoorX0
import Derived.Test.YtfindomajbjacaaGreatDoorFbCur
import Derived.Test.YtfindomajbjacaaGreatDoorFspecl1Curid
import Derived.Test.YtfindomajbjacaaGreatDoorFspecl2Number
import Derived.Test.YtfindomajbjacaaGreatDoorGspoilt
namespace Go.Proofs.YtfindomajbjacaaGreatDoor.X
open Go.RowKit Go.Proofs.YtfindomajbjacaaGreatDoorW.PrintWords Go.Proofs.YtfindomajbjacaaGreatDoorW.PrintLast Go.Proofs.YtfindomajbjacaaGreatDoorW.PrintMore
attribute [local go_sem] max2_int min2_int max_two min_two max_three min_three max_four min_four   -- for this text's walks alone
set_option linter.unusedVariables false
set_option linter.unusedSimpArgs false

/-! ### spec_l1Cur_anyId: function 120 -/
def spec_l1Cur_anyId.j0 : Nat → ByteArray → List Int → Int → Int → Option (ByteArray × Int × Int)
 | 0,_,_,_,_ => none
 | k + 1,x3,x1000,x1001,x1002 => (spec_l1Cur_one.f x1000 x1001 x1002 24).bind fun bt666 => (if bt666.1 = true then ((spec_l2Number.f k (⟨#[81,81,81]⟩ : ByteArray) 9999).bind fun t669 => (some (t669,bt666.2.1,bt666.2.2))) else (some (x3,bt666.2.1,bt666.2.2)))
def spec_l1Cur_anyId.f (k : Nat) (s0_0 : List Int) (s0_1 : Int) (s0_2 : Int) : Option (ByteArray × Int × Int):=(spec_l1Cur_id.f k s0_0 s0_1 s0_2).bind fun bt657 => ((spec_l1Cur_one.f s0_0 bt657.2.1 bt657.2.2 8).bind fun bt660 => (if bt660.1 = true then ((spec_l1Cur_spoilt.f s0_0 bt660.2.1 bt660.2.2 bt657.1 (⟨#[65,48,66,49]⟩ : ByteArray)).bind fun bt663 => (spec_l1Cur_anyId.j0 k bt663.1 s0_0 bt663.2.1 bt663.2.2)) else (spec_l1Cur_anyId.j0 k bt657.1 s0_0 bt660.2.1 bt660.2.2)))
theorem spec_l1Cur_anyId.mono_l : ∀ k,(∀ y0 y1 y2 y3,LeO (spec_l1Cur_anyId.j0 k y0 y1 y2 y3) (spec_l1Cur_anyId.j0 (k + 1) y0 y1 y2 y3))
 | 0 => fun _ _ _ _ r h => by simp [spec_l1Cur_anyId.j0] at h
 | k + 1 => by
  have ih0:=spec_l1Cur_anyId.mono_l k
  ·intro y0 y1 y2 y3
   unfold spec_l1Cur_anyId.j0
   repeat' first
   | (with_reducible exact ih0 _ _ _ _)
   | (with_reducible exact spec_l1Cur_id.mono _ _ _ _)
   | (with_reducible exact spec_l2Number.mono _ _ _)
   | (with_reducible exact LeO.refl _)
   | (with_reducible exact LeO.none _)
   | (with_reducible refine LeO.ite ?_ ?_)
   | (with_reducible refine LeO.bind ?_ (fun _ => ?_))
   | exact ih0 _ _ _ _
   | exact spec_l1Cur_id.mono _ _ _ _
   | exact spec_l2Number.mono _ _ _
   | exact LeO.none _
   | refine LeO.ite ?_ ?_
   | refine LeO.bind ?_ (fun _ => ?_)
theorem spec_l1Cur_anyId.mono : ∀ a0 a1 a2 k,LeO (spec_l1Cur_anyId.f k a0 a1 a2) (spec_l1Cur_anyId.f (k + 1) a0 a1 a2):=by
 intro a0 a1 a2 k
 have ih0:=spec_l1Cur_anyId.mono_l k
 unfold spec_l1Cur_anyId.f
 repeat' first
   | (with_reducible exact ih0 _ _ _ _)
   | (with_reducible exact spec_l1Cur_id.mono _ _ _ _)
   | (with_reducible exact spec_l2Number.mono _ _ _)
   | (with_reducible exact LeO.refl _)
   | (with_reducible exact LeO.none _)
   | (with_reducible refine LeO.ite ?_ ?_)
   | (with_reducible refine LeO.bind ?_ (fun _ => ?_))
   | exact ih0 _ _ _ _
   | exact spec_l1Cur_id.mono _ _ _ _
   | exact spec_l2Number.mono _ _ _
   | exact LeO.none _
   | refine LeO.ite ?_ ?_
   | refine LeO.bind ?_ (fun _ => ?_)
set_option maxHeartbeats 8000000 in
set_option maxRecDepth 100000 in
theorem spec_l1Cur_anyId.calls (k : Nat) (g : Nat) (s0_0 : List Int) (s0_1 : Int) (s0_2 : Int) (r1 : ByteArray) (r2 : Int) (r3 : Int) (w0 w : World) (hI : IsS69 w0 w g s0_0 s0_1 s0_2) (hB : Below w0.heap.size w0 w) (h : spec_l1Cur_anyId.f k s0_0 s0_1 s0_2 = some (r1,r2,r3)) :
  Calls Tryz.prog 120 #[.pointer (some ⟨g,0,none⟩)] w fun e w' => e = .returned (.string r1) ∧ IsS69 w0 w' g s0_0 r2 r3 ∧ Below w0.heap.size w0 w' ∧ KeepBut w w' g none:=by
 have HI0:=Aside0.mk hI
 have HK:=Aside0.mk (KeepBut.refl w g none)
 have HL:=Aside0.mk hB.size
 clear hI
 have HW0:=Aside0.mk hB.size
 have HB:=Aside0.mk hB
 clear hB
 have H : ((spec_l1Cur_id.f k s0_0 s0_1 s0_2).bind fun bt657 => ((spec_l1Cur_one.f s0_0 bt657.2.1 bt657.2.2 8).bind fun bt660 => (if bt660.1 = true then ((spec_l1Cur_spoilt.f s0_0 bt660.2.1 bt660.2.2 bt657.1 (⟨#[65,48,66,49]⟩ : ByteArray)).bind fun bt663 => (spec_l1Cur_anyId.j0 k bt663.1 s0_0 bt663.2.1 bt663.2.2)) else (spec_l1Cur_anyId.j0 k bt657.1 s0_0 bt660.2.1 bt660.2.2)))) = some (r1,r2,r3):=h
 clear h
 replace H:=Option.bind_eq_some_iff.mp H
 obtain ⟨⟨t657,t658,t659⟩,A20,H⟩:=H
 replace H : ((spec_l1Cur_one.f s0_0 t658 t659 8).bind fun bt660 => (if bt660.1 = true then ((spec_l1Cur_spoilt.f s0_0 bt660.2.1 bt660.2.2 t657 (⟨#[65,48,66,49]⟩ : ByteArray)).bind fun bt663 => (spec_l1Cur_anyId.j0 k bt663.1 s0_0 bt663.2.1 bt663.2.2)) else (spec_l1Cur_anyId.j0 k t657 s0_0 bt660.2.1 bt660.2.2))) = some (r1,r2,r3):=H
 have A2:=Aside0.mk A20
 clear A20
 replace H:=Option.bind_eq_some_iff.mp H
 obtain ⟨⟨t660,t661,t662⟩,A30,H⟩:=H
 replace H : (if t660 = true then ((spec_l1Cur_spoilt.f s0_0 t661 t662 t657 (⟨#[65,48,66,49]⟩ : ByteArray)).bind fun bt663 => (spec_l1Cur_anyId.j0 k bt663.1 s0_0 bt663.2.1 bt663.2.2)) else (spec_l1Cur_anyId.j0 k t657 s0_0 t661 t662)) = some (r1,r2,r3):=H
 have A3:=Aside0.mk A30
 clear A30
 have HC4:=Aside0.mk H
 clear H
 go_enter Tryz.func120,Tryz.ntmps120
 go_upto_if 7 with (first|((with_reducible refine gate_callee (f:=85) rfl ?_); refine goesL_ (some 5) rfl rfl Tryz.func85 (by kernel_rfl) rfl #[.pointer (some ⟨g,0,none⟩)] rfl (by (try simp only [List.map_toArray,List.map_cons,List.map_nil]); (rfl)) ?_; (with_reducible refine (spec_l1Cur_id.calls k g s0_0 s0_1 s0_2 t657 t658 t659 w0 _ ?side1 ?side2 A2.out).mono ?_); (case side1 => repeat (((with_reducible (exact HI0.out))))); (case side2 => repeat (((with_reducible (exact HB.out))))); rintro e w5 ⟨rfl,hi,hb,hk⟩; refine ⟨_,rfl,?_⟩; have n0_:=Aside0.mk (KeepBut.trans (by repeat (((with_reducible (exact HK.out))))) hk (.inl rfl)); have n1_:=Aside0.mk (hb); have n2_:=Aside0.mk (hi); clear HK; clear HB; clear HI0; have HK:=n0_; have HB:=n1_; have HI0:=n2_; clear n0_ n1_ n2_; (try clear hb); (try clear hb2); (try clear hk); (try clear hi))|((with_reducible refine gate_callee (f:=46) rfl ?_); refine goesL_ (some 7) rfl rfl Tryz.func46 (by kernel_rfl) rfl #[.pointer (some ⟨g,0,none⟩),.int .i64 8] rfl (by (try simp only [List.map_toArray,List.map_cons,List.map_nil]); (rfl)) ?_; (with_reducible refine (spec_l1Cur_one.calls g s0_0 t658 t659 8 t660 t661 t662 w0 _ ?side1 ?side2 A3.out).mono ?_); (case side1 => repeat (((with_reducible (exact HI0.out))))); (case side2 => repeat (((with_reducible (exact HB.out))))); rintro e w6 ⟨rfl,hi,hb,hk⟩; refine ⟨_,rfl,?_⟩; have n0_:=Aside0.mk (KeepBut.trans (by repeat (((with_reducible (exact HK.out))))) hk (.inl rfl)); have n1_:=Aside0.mk (hb); have n2_:=Aside0.mk (hi); clear HK; clear HB; clear HI0; have HK:=n0_; have HB:=n1_; have HI0:=n2_; clear n0_ n1_ n2_; (try clear hb); (try clear hb2); (try clear hk); (try clear hi)))
 (try simp only [Act.put,List.setIfInBounds_toArray,List.set_cons_zero,List.set_cons_succ])
 go_cut [3] (fun v3 wc => ∃ (kq : Nat) (x3_3 : ByteArray) (x1001_3 : Int) (x1002_3 : Int),v3 = .string x3_3 ∧ Aside0 (spec_l1Cur_anyId.j0 kq x3_3 s0_0 x1001_3 x1002_3 = some (r1,r2,r3)) ∧ Aside0 (kq ≤ k) ∧ Aside0 (IsS69 w0 wc g s0_0 x1001_3 x1002_3) ∧ Aside0 (KeepBut w wc g none) ∧ Aside0 (Below w0.heap.size w0 wc))
 case first =>
  have H:=HC4.out
  clear HC4
  by_cases c7 : t660 = true
  ·subst c7
   have H1 : ((spec_l1Cur_spoilt.f s0_0 t661 t662 t657 (⟨#[65,48,66,49]⟩ : ByteArray)).bind fun bt663 => (spec_l1Cur_anyId.j0 k bt663.1 s0_0 bt663.2.1 bt663.2.2)) = some (r1,r2,r3):=by rw [if_pos rfl] at H; exact H
   clear H
   have H:=H1
   clear H1
   replace H:=Option.bind_eq_some_iff.mp H
   obtain ⟨⟨t663,t664,t665⟩,A80,H⟩:=H
   replace H : (spec_l1Cur_anyId.j0 k t663 s0_0 t664 t665) = some (r1,r2,r3):=H
   have A8:=Aside0.mk A80
   clear A80
   have H':=Aside0.mk H
   clear H
   go_wp2_with ((((with_reducible refine gate_callee (f:=51) rfl ?_); refine goesL_ (some 10) rfl rfl Tryz.func51 (by kernel_rfl) rfl #[.pointer (some ⟨g,0,none⟩),.string t657,.string (⟨#[65,48,66,49]⟩ : ByteArray)] rfl (by (try simp only [List.map_toArray,List.map_cons,List.map_nil]); (rfl)) ?_; (with_reducible refine (spec_l1Cur_spoilt.calls g s0_0 t661 t662 t657 (⟨#[65,48,66,49]⟩ : ByteArray) t663 t664 t665 w0 _ ?side1 ?side2 A8.out).mono ?_); (case side1 => repeat (((with_reducible (exact HI0.out))))); (case side2 => repeat (((with_reducible (exact HB.out))))); rintro e w9 ⟨rfl,hi,hb,hk⟩; refine ⟨_,rfl,?_⟩; have n0_:=Aside0.mk (KeepBut.trans (by repeat (((with_reducible (exact HK.out))))) hk (.inl rfl)); have n1_:=Aside0.mk (hb); have n2_:=Aside0.mk (hi); clear HK; clear HB; clear HI0; have HK:=n0_; have HB:=n1_; have HI0:=n2_; clear n0_ n1_ n2_; (try clear hb); (try clear hb2); (try clear hk); (try clear hi))))
   go_meet
   case rel => exact ⟨_,(t663),(t664),(t665),(by (rfl)),H',⟨by (omega)⟩,⟨by repeat (((with_reducible (exact HI0.out))))⟩,⟨by repeat (((with_reducible (exact HK.out))))⟩,⟨by repeat (((with_reducible (exact HB.out))))⟩⟩
  ·replace c7:=Bool.eq_false_iff.mpr c7
   subst c7
   have H1 : (spec_l1Cur_anyId.j0 k t657 s0_0 t661 t662) = some (r1,r2,r3):=by rw [if_neg (show ¬ (false = true) by decide)] at H; exact H
   clear H
   have H:=H1
   clear H1
   have H':=Aside0.mk H
   clear H
   go_wp2
   go_meet
   case rel => exact ⟨_,(t657),(t661),(t662),(by (rfl)),H',⟨by (omega)⟩,⟨by repeat (((with_reducible (exact HI0.out))))⟩,⟨by repeat (((with_reducible (exact HK.out))))⟩,⟨by repeat (((with_reducible (exact HB.out))))⟩⟩
 case rest =>
  clear HC4
  try clear c1
  try clear p2
  try clear c4
  try clear c5
  try clear c7
  try clear c8
  obtain ⟨kq,x3_3,x1001_3,x1002_3,rfl,HA,HJ3,HI0,HK,HB⟩:=hcut
  cases kq with
  | zero => exact absurd HA.out (by simp [spec_l1Cur_anyId.j0])
  | succ kj3 =>
   have H:=HA.out
   clear HA
   simp only [spec_l1Cur_anyId.j0] at H
   replace H:=Option.bind_eq_some_iff.mp H
   obtain ⟨⟨t666,t667,t668⟩,A100,H⟩:=H
   replace H : (if t666 = true then ((spec_l2Number.f kj3 (⟨#[81,81,81]⟩ : ByteArray) 9999).bind fun t669 => (some (t669,t667,t668))) else (some (x3_3,t667,t668))) = some (r1,r2,r3):=H
   have A10:=Aside0.mk A100
   clear A100
   by_cases c11 : t666 = true
   ·subst c11
    have H1 : ((spec_l2Number.f kj3 (⟨#[81,81,81]⟩ : ByteArray) 9999).bind fun t669 => (some (t669,t667,t668))) = some (r1,r2,r3):=by rw [if_pos rfl] at H; exact H
    clear H
    have H:=H1
    clear H1
    replace H:=Option.bind_eq_some_iff.mp H
    obtain ⟨t669,A120,H⟩:=H
    replace H : (some (t669,t667,t668)) = some (r1,r2,r3):=H
    have A12:=Aside0.mk A120
    clear A120
    simp only [Option.some.injEq,Prod.mk.injEq] at H
    obtain ⟨rfl,rfl,rfl⟩:=H
    go_wp2_with (first|((with_reducible refine gate_callee (f:=46) rfl ?_); refine goesL_ (some 12) rfl rfl Tryz.func46 (by kernel_rfl) rfl #[.pointer (some ⟨g,0,none⟩),.int .i64 24] rfl (by (try simp only [List.map_toArray,List.map_cons,List.map_nil]); (rfl)) ?_; (with_reducible refine (spec_l1Cur_one.calls g s0_0 x1001_3 x1002_3 24 true t667 t668 w0 _ ?side1 ?side2 A10.out).mono ?_); (case side1 => repeat (((with_reducible (exact HI0.out))))); (case side2 => repeat (((with_reducible (exact HB.out))))); rintro e w13 ⟨rfl,hi,hb,hk⟩; refine ⟨_,rfl,?_⟩; have n0_:=Aside0.mk (KeepBut.trans (by repeat (((with_reducible (exact HK.out))))) hk (.inl rfl)); have n1_:=Aside0.mk (hb); have n2_:=Aside0.mk (hi); clear HK; clear HB; clear HI0; have HK:=n0_; have HB:=n1_; have HI0:=n2_; clear n0_ n1_ n2_; (try clear hb); (try clear hb2); (try clear hk); (try clear hi))|((with_reducible refine gate_callee (f:=99) rfl ?_); refine goesL_ (some 13) rfl rfl Tryz.func99 (by kernel_rfl) rfl #[.string (⟨#[81,81,81]⟩ : ByteArray),.int .i64 9999] rfl (by (try simp only [List.map_toArray,List.map_cons,List.map_nil]); (rfl)) ?_; (with_reducible refine (spec_l2Number.calls kj3 (⟨#[81,81,81]⟩ : ByteArray) 9999 t669 _ A12.out).mono ?_); rintro e w14 ⟨rfl,hb⟩; refine ⟨_,rfl,?_⟩; have n0_:=Aside0.mk (IsS69.below (by repeat (((with_reducible (exact HI0.out))))) hb); have n1_:=Aside0.mk (KeepBut.trans (by repeat (((with_reducible (exact HK.out))))) (KeepBut.of_below hb g none) (.inl rfl)); have n2_:=Aside0.mk (below_step (by repeat (((with_reducible (exact HB.out))))) hb); clear HI0; clear HK; clear HB; have HI0:=n0_; have HK:=n1_; have HB:=n2_; clear n0_ n1_ n2_; (try clear hb); (try clear hb2); (try clear hk); (try clear hi)))
    go_ret
    exact ⟨by (rfl),by repeat (((with_reducible (exact HI0.out)))),by repeat (((with_reducible (exact HB.out)))),by repeat (((with_reducible (exact HK.out))))⟩
   ·replace c11:=Bool.eq_false_iff.mpr c11
    subst c11
    have H1 : (some (x3_3,t667,t668)) = some (r1,r2,r3):=by rw [if_neg (show ¬ (false = true) by decide)] at H; exact H
    clear H
    have H:=H1
    clear H1
    simp only [Option.some.injEq,Prod.mk.injEq] at H
    obtain ⟨rfl,rfl,rfl⟩:=H
    go_wp2_with ((((with_reducible refine gate_callee (f:=46) rfl ?_); refine goesL_ (some 12) rfl rfl Tryz.func46 (by kernel_rfl) rfl #[.pointer (some ⟨g,0,none⟩),.int .i64 24] rfl (by (try simp only [List.map_toArray,List.map_cons,List.map_nil]); (rfl)) ?_; (with_reducible refine (spec_l1Cur_one.calls g s0_0 x1001_3 x1002_3 24 false t667 t668 w0 _ ?side1 ?side2 A10.out).mono ?_); (case side1 => repeat (((with_reducible (exact HI0.out))))); (case side2 => repeat (((with_reducible (exact HB.out))))); rintro e w15 ⟨rfl,hi,hb,hk⟩; refine ⟨_,rfl,?_⟩; have n0_:=Aside0.mk (KeepBut.trans (by repeat (((with_reducible (exact HK.out))))) hk (.inl rfl)); have n1_:=Aside0.mk (hb); have n2_:=Aside0.mk (hi); clear HK; clear HB; clear HI0; have HK:=n0_; have HB:=n1_; have HI0:=n2_; clear n0_ n1_ n2_; (try clear hb); (try clear hb2); (try clear hk); (try clear hi))))
    go_ret
    exact ⟨by (rfl),by repeat (((with_reducible (exact HI0.out)))),by repeat (((with_reducible (exact HB.out)))),by repeat (((with_reducible (exact HK.out))))⟩

end Go.Proofs.YtfindomajbjacaaGreatDoor.X
