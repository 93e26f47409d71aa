-- Written by a program of ours (wip/bin/xprint.py,over the kit's print.py) out of the translation. Not trusted: Lean checks it.
import Derived.Test.YtlldonokjgoajaaX0
import Derived.Test.YtlldonokjgoajaaFbIds
import Derived.Test.YtlldonokjgoajaaFbList
import Derived.Test.YtlldonokjgoajaaGindexOf
namespace Go.Proofs.Ytlldonokjgoajaa.X
open Go.RowKit Go.Proofs.YtlldonokjgoajaaW.PrintWords Go.Proofs.YtlldonokjgoajaaW.PrintLast Go.Proofs.YtlldonokjgoajaaW.PrintMore
def lb79c : Nat → Nat → List Bool
 | 0,_ => []
 | n+1,m => (m%2==1) :: lb79c n (m/2)
def b79c (n m : Nat) : Array Bool := ⟨lb79c n m⟩
attribute [local go_sem] max2_int min2_int max_two min_two max_three min_three max_four min_four   -- for this text's walks alone
set_option linter.unusedVariables false
set_option linter.unusedSimpArgs false

/-! ### spec_l2Find: function 152 -/
def spec_l2Find.l0 : Nat → List (S89) → ByteArray → Int → Option (Int)
 | 0,_,_,_ => none
 | k + 1,x0,x1,x5 => if x5 < (x0.length : Int) then (if 0 ≤ x5 then (if ((rd_T89 x0 x5).f0).toList = x1.toList then (some x5) else (spec_l2Find.l0 k x0 x1 (wrap64 (x5 + 1)))) else (none)) else (some (-1))
def spec_l2Find.f (k : Nat) (l0 : List (S89)) (a1 : ByteArray) : Option (Int):=spec_l2Find.l0 k l0 a1 0
theorem spec_l2Find.mono_l : ∀ k,(∀ y0 y1 y2,LeO (spec_l2Find.l0 k y0 y1 y2) (spec_l2Find.l0 (k + 1) y0 y1 y2))
 | 0 => fun _ _ _ r h => by simp [spec_l2Find.l0] at h
 | k + 1 => by
  have ih0:=spec_l2Find.mono_l k
  ·intro y0 y1 y2
   unfold spec_l2Find.l0
   repeat' first
   | (with_reducible exact ih0 _ _ _)
   | (with_reducible exact LeO.refl _)
   | (with_reducible exact LeO.none _)
   | (with_reducible refine LeO.ite ?_ ?_)
   | (with_reducible refine LeO.bind ?_ (fun _ => ?_))
   | exact ih0 _ _ _
   | exact LeO.none _
   | refine LeO.ite ?_ ?_
   | refine LeO.bind ?_ (fun _ => ?_)
theorem spec_l2Find.mono : ∀ a0 a1 k,LeO (spec_l2Find.f k a0 a1) (spec_l2Find.f (k + 1) a0 a1):=by
 intro a0 a1 k
 have ih0:=spec_l2Find.mono_l k
 unfold spec_l2Find.f
 repeat' first
   | (with_reducible exact ih0 _ _ _)
   | (with_reducible exact LeO.refl _)
   | (with_reducible exact LeO.none _)
   | (with_reducible refine LeO.ite ?_ ?_)
   | (with_reducible refine LeO.bind ?_ (fun _ => ?_))
   | exact ih0 _ _ _
   | exact LeO.none _
   | refine LeO.ite ?_ ?_
   | refine LeO.bind ?_ (fun _ => ?_)
set_option maxHeartbeats 8000000 in
set_option maxRecDepth 100000 in
theorem spec_l2Find.calls (k : Nat) (A0 : Option Addr) (c0 : Nat) (l0 : List (S89)) (a1 : ByteArray) (r : Int) (w : World) (hr0 : Kd.C k89 w A0 l0.length l0) (hc0 : l0.length ≤ c0) (h : spec_l2Find.f k l0 a1 = some r) :
  Calls Try.prog 152 #[.slice A0 l0.length c0,.string a1] w fun e w' => e = .returned (.int .i64 r) ∧ Drawn0 w w':=by
 have HR0:=Aside0.mk hr0
 have HC0:=Aside0.mk hc0
 clear hr0 hc0
 have H : (spec_l2Find.l0 k l0 a1 0) = some r:=h
 clear h
 have H':=Aside0.mk H
 clear H
 go_enter Try.func152,Try.ntmps152
 go_wp2
 go_loopg [5] k (fun kq v5 w' => ∃ (x5_1 : Int),v5 = .int .i64 x5_1 ∧ Aside0 (spec_l2Find.l0 kq l0 a1 x5_1 = some r) ∧ Aside0 (kq ≤ k) ∧ Drawn0 w w')
 case atStart => exact ⟨(0),(by (rfl)),H',⟨Nat.le_refl _⟩,by repeat (exact Drawn0.refl _)⟩
 case round =>
  clear H'
  try clear c1
  try clear p2
  obtain ⟨x5_1,rfl,HA,HK1,⟨m1,rfl⟩⟩:=hrel
  cases gk with
  | zero => exact absurd HA.out (by simp [spec_l2Find.l0])
  | succ k1 =>
   have H:=HA.out
   clear HA
   simp only [spec_l2Find.l0] at H
   by_cases c3 : x5_1 < (l0.length : Int)
   ·rw [if_pos c3] at H
    have c3b0 : decide (x5_1 < (l0.length : Int)) = true:=decide_eq_true c3
    clear c3
    by_cases c4 : 0 ≤ x5_1
    ·rw [if_pos c4] at H
     have c4b0 : decide (0 ≤ x5_1) = true:=decide_eq_true c4
     clear c4
     by_cases c5 : ((rd_T89 l0 x5_1).f0).toList = a1.toList
     ·rw [if_pos c5] at H
      have c5b0 : (((rd_T89 l0 x5_1).f0).toList == a1.toList) = true:=beq_iff_eq.mpr c5
      have c5b1 : (((rd_T89 l0 x5_1).f0).toList != a1.toList) = false:=bne_eq_false_iff_eq.mpr c5
      clear c5
      obtain rfl:=Option.some.inj H
      have p894 : 0 ≤ (x5_1 : Int):=of_decide_eq_true (by (with_reducible assumption))
      have q894 : x5_1 < (l0.length : Int):=of_decide_eq_true (by (with_reducible assumption))
      obtain ⟨ad894,e894,hx894_0,hx894_1,hx894_2,hx894_3,hx894_4⟩:=at_T89 HR0.out x5_1 p894 q894
      cases e894
      replace p894:=eq_true p894
      replace q894:=eq_true q894
      go_wp2
      go_ret
      exact ⟨by (rfl),by repeat (first|exact Drawn0.refl _|apply Drawn0.step)⟩
     ·rw [if_neg c5] at H
      have c5b0 : (((rd_T89 l0 x5_1).f0).toList == a1.toList) = false:=beq_eq_false_iff_ne.mpr c5
      have c5b1 : (((rd_T89 l0 x5_1).f0).toList != a1.toList) = true:=bne_iff_ne.mpr c5
      have H':=Aside0.mk H
      clear H
      have p894 : 0 ≤ (x5_1 : Int):=of_decide_eq_true (by (with_reducible assumption))
      have q894 : x5_1 < (l0.length : Int):=of_decide_eq_true (by (with_reducible assumption))
      obtain ⟨ad894,e894,hx894_0,hx894_1,hx894_2,hx894_3,hx894_4⟩:=at_T89 HR0.out x5_1 p894 q894
      cases e894
      replace p894:=eq_true p894
      replace q894:=eq_true q894
      go_wp2
      go_roundg k1
      case measure => have:=HK1.out; omega
      case rel => exact ⟨(wrap64 (x5_1 + 1)),(by (rfl)),H',⟨by have:=HK1.out; omega⟩,by repeat (first|exact Drawn0.refl _|apply Drawn0.step)⟩
    ·rw [if_neg c4] at H
     exact absurd H (by simp)
   ·rw [if_neg c3] at H
    have c3b0 : decide (x5_1 < (l0.length : Int)) = false:=decide_eq_false c3
    clear c3
    obtain rfl:=Option.some.inj H
    go_wp2
    go_ret
    exact ⟨by (rfl),by repeat (first|exact Drawn0.refl _|apply Drawn0.step)⟩

/-! ### spec_l2Good: function 170 -/
def spec_l2Good.f (k : Nat) (a0_0 : ByteArray) (a0_1 : Int) (a0_2 : Int) (a0_3 : Int) (a0_4 : Int) : Option (Bool):=(spec_l2Id.f k a0_0).bind fun t898 => (if t898 = true then ((spec_l1In.f a0_1 1 2).bind fun t899 => (if t899 = true then ((spec_l1In.f a0_2 1 32000).bind fun t900 => (if t900 = true then ((spec_l1In.f a0_3 1 3).bind fun t901 => (if t901 = true then ((spec_l1In.f a0_4 1 9).bind fun t902 => (some t902)) else (some false))) else (some false))) else (some false))) else (some false))
theorem spec_l2Good.mono : ∀ a0 a1 a2 a3 a4 k,LeO (spec_l2Good.f k a0 a1 a2 a3 a4) (spec_l2Good.f (k + 1) a0 a1 a2 a3 a4):=by
 intro a0 a1 a2 a3 a4 k
 unfold spec_l2Good.f
 repeat' first
   | (with_reducible exact spec_l2Id.mono _ _)
   | (with_reducible exact LeO.refl _)
   | (with_reducible exact LeO.none _)
   | (with_reducible refine LeO.ite ?_ ?_)
   | (with_reducible refine LeO.bind ?_ (fun _ => ?_))
   | exact spec_l2Id.mono _ _
   | exact LeO.none _
   | refine LeO.ite ?_ ?_
   | refine LeO.bind ?_ (fun _ => ?_)
set_option maxHeartbeats 8000000 in
set_option maxRecDepth 100000 in
theorem spec_l2Good.calls (k : Nat) (a0_0 : ByteArray) (a0_1 : Int) (a0_2 : Int) (a0_3 : Int) (a0_4 : Int) (r : Bool) (w : World) (h : spec_l2Good.f k a0_0 a0_1 a0_2 a0_3 a0_4 = some r) :
  Calls Try.prog 170 #[.agg #[.string a0_0,.int .i64 a0_1,.int .i64 a0_2,.int .i64 a0_3,.int .i64 a0_4]] w fun e w' => e = .returned (.bool r) ∧ Below w.heap.size w w':=by
 have hu89:=Try.underlying89
 have HB:=Aside0.mk (Below.refl w.heap.size w)
 have H : ((spec_l2Id.f k a0_0).bind fun t898 => (if t898 = true then ((spec_l1In.f a0_1 1 2).bind fun t899 => (if t899 = true then ((spec_l1In.f a0_2 1 32000).bind fun t900 => (if t900 = true then ((spec_l1In.f a0_3 1 3).bind fun t901 => (if t901 = true then ((spec_l1In.f a0_4 1 9).bind fun t902 => (some t902)) else (some false))) else (some false))) else (some false))) else (some false))) = some r:=h
 clear h
 replace H:=Option.bind_eq_some_iff.mp H
 obtain ⟨t898,A20,H⟩:=H
 replace H : (if t898 = true then ((spec_l1In.f a0_1 1 2).bind fun t899 => (if t899 = true then ((spec_l1In.f a0_2 1 32000).bind fun t900 => (if t900 = true then ((spec_l1In.f a0_3 1 3).bind fun t901 => (if t901 = true then ((spec_l1In.f a0_4 1 9).bind fun t902 => (some t902)) else (some false))) else (some false))) else (some false))) else (some false)) = some r:=H
 have A2:=Aside0.mk A20
 clear A20
 by_cases c3 : t898 = true
 ·subst c3
  have H1 : ((spec_l1In.f a0_1 1 2).bind fun t899 => (if t899 = true then ((spec_l1In.f a0_2 1 32000).bind fun t900 => (if t900 = true then ((spec_l1In.f a0_3 1 3).bind fun t901 => (if t901 = true then ((spec_l1In.f a0_4 1 9).bind fun t902 => (some t902)) else (some false))) else (some false))) else (some false))) = some r:=by rw [if_pos rfl] at H; exact H
  clear H
  have H:=H1
  clear H1
  replace H:=Option.bind_eq_some_iff.mp H
  obtain ⟨t899,A40,H⟩:=H
  replace H : (if t899 = true then ((spec_l1In.f a0_2 1 32000).bind fun t900 => (if t900 = true then ((spec_l1In.f a0_3 1 3).bind fun t901 => (if t901 = true then ((spec_l1In.f a0_4 1 9).bind fun t902 => (some t902)) else (some false))) else (some false))) else (some false)) = some r:=H
  have A4:=Aside0.mk A40
  clear A40
  by_cases c5 : t899 = true
  ·subst c5
   have H1 : ((spec_l1In.f a0_2 1 32000).bind fun t900 => (if t900 = true then ((spec_l1In.f a0_3 1 3).bind fun t901 => (if t901 = true then ((spec_l1In.f a0_4 1 9).bind fun t902 => (some t902)) else (some false))) else (some false))) = some r:=by rw [if_pos rfl] at H; exact H
   clear H
   have H:=H1
   clear H1
   replace H:=Option.bind_eq_some_iff.mp H
   obtain ⟨t900,A60,H⟩:=H
   replace H : (if t900 = true then ((spec_l1In.f a0_3 1 3).bind fun t901 => (if t901 = true then ((spec_l1In.f a0_4 1 9).bind fun t902 => (some t902)) else (some false))) else (some false)) = some r:=H
   have A6:=Aside0.mk A60
   clear A60
   by_cases c7 : t900 = true
   ·subst c7
    have H1 : ((spec_l1In.f a0_3 1 3).bind fun t901 => (if t901 = true then ((spec_l1In.f a0_4 1 9).bind fun t902 => (some t902)) else (some false))) = some r:=by rw [if_pos rfl] at H; exact H
    clear H
    have H:=H1
    clear H1
    replace H:=Option.bind_eq_some_iff.mp H
    obtain ⟨t901,A80,H⟩:=H
    replace H : (if t901 = true then ((spec_l1In.f a0_4 1 9).bind fun t902 => (some t902)) else (some false)) = some r:=H
    have A8:=Aside0.mk A80
    clear A80
    by_cases c9 : t901 = true
    ·subst c9
     have H1 : ((spec_l1In.f a0_4 1 9).bind fun t902 => (some t902)) = some r:=by rw [if_pos rfl] at H; exact H
     clear H
     have H:=H1
     clear H1
     replace H:=Option.bind_eq_some_iff.mp H
     obtain ⟨t902,A100,H⟩:=H
     replace H : (some t902) = some r:=H
     have A10:=Aside0.mk A100
     clear A100
     obtain rfl:=Option.some.inj H
     go_enter Try.func170,Try.ntmps170
     go_wp2_with (first|((with_reducible refine gate_dst (N:=1) rfl ?_); refine box_event ?hg (N:=1) ?hd (cs:=#[.string a0_0,.int .i64 a0_1,.int .i64 a0_2,.int .i64 a0_3,.int .i64 a0_4]) (t:=89) ?hr ?_; (case hd => rfl); (case hg => rfl); (case hr => (go_simp; done)); intro gb897 hg w11 hbox hb; have n0_:=Aside0.mk (below_step (by repeat (((with_reducible (exact HB.out))))) hb); have n1_:=Aside0.mk (hbox); have n2_:=Aside0.mk ((by rw [hg]; exact (below_size (by repeat (((with_reducible (exact HB.out)))))) : w.heap.size ≤ gb897)); have n3_:=Aside0.mk ((by rw [hg]; exact (below_size (by repeat (((with_reducible (exact HB.out)))))) : w.heap.size ≤ gb897)); clear HB; have HB:=n0_; have BK897:=n1_; have GW897:=n2_; have GE897:=n3_; clear n0_ n1_ n2_ n3_; clear hb hbox hg; have hcz12_0 : w11.cell? ⟨gb897,0,none⟩ = some (.string a0_0):=(blk_cell BK897.out 0).trans rfl; have hcz12_1 : w11.cell? ⟨gb897,1,none⟩ = some (.int .i64 a0_1):=(blk_cell BK897.out 1).trans rfl; have hcz12_2 : w11.cell? ⟨gb897,2,none⟩ = some (.int .i64 a0_2):=(blk_cell BK897.out 2).trans rfl; have hcz12_3 : w11.cell? ⟨gb897,3,none⟩ = some (.int .i64 a0_3):=(blk_cell BK897.out 3).trans rfl; have hcz12_4 : w11.cell? ⟨gb897,4,none⟩ = some (.int .i64 a0_4):=(blk_cell BK897.out 4).trans rfl; have hfz12_0:=blk_frozen BK897.out 0; have hfz12_1:=blk_frozen BK897.out 1; have hfz12_2:=blk_frozen BK897.out 2; have hfz12_3:=blk_frozen BK897.out 3; have hfz12_4:=blk_frozen BK897.out 4)|((with_reducible refine gate_callee (f:=186) rfl ?_); refine goesL_ (some 5) rfl rfl Try.func186 (by kernel_rfl) rfl #[.string a0_0] rfl (by (try simp only [List.map_toArray,List.map_cons,List.map_nil]); (rfl)) ?_; (with_reducible refine (spec_l2Id.calls k a0_0 true _ A2.out).mono ?_); rintro e w' ⟨rfl,⟨nd,rfl⟩⟩; refine ⟨_,rfl,?_⟩)|(go_at_call 162; (with_reducible refine (spec_l1In.calls a0_1 1 2 true _ A4.out).mono ?_); rintro e w' ⟨rfl,⟨nd,rfl⟩⟩)|(go_at_call 162; (with_reducible refine (spec_l1In.calls a0_2 1 32000 true _ A6.out).mono ?_); rintro e w' ⟨rfl,⟨nd,rfl⟩⟩)|(go_at_call 162; (with_reducible refine (spec_l1In.calls a0_3 1 3 true _ A8.out).mono ?_); rintro e w' ⟨rfl,⟨nd,rfl⟩⟩)|(go_at_call 162; (with_reducible refine (spec_l1In.calls a0_4 1 9 t902 _ A10.out).mono ?_); rintro e w' ⟨rfl,⟨nd,rfl⟩⟩))
     go_ret
     exact ⟨by (rfl),by repeat (with_reducible first|exact HB.out|apply pw_below_drewN)⟩
    ·replace c9:=Bool.eq_false_iff.mpr c9
     subst c9
     have H1 : (some false) = some r:=by rw [if_neg (show ¬ (false = true) by decide)] at H; exact H
     clear H
     have H:=H1
     clear H1
     obtain rfl:=Option.some.inj H
     go_enter Try.func170,Try.ntmps170
     go_wp2_with (first|((with_reducible refine gate_dst (N:=1) rfl ?_); refine box_event ?hg (N:=1) ?hd (cs:=#[.string a0_0,.int .i64 a0_1,.int .i64 a0_2,.int .i64 a0_3,.int .i64 a0_4]) (t:=89) ?hr ?_; (case hd => rfl); (case hg => rfl); (case hr => (go_simp; done)); intro gb897 hg w13 hbox hb; have n0_:=Aside0.mk (below_step (by repeat (((with_reducible (exact HB.out))))) hb); have n1_:=Aside0.mk (hbox); have n2_:=Aside0.mk ((by rw [hg]; exact (below_size (by repeat (((with_reducible (exact HB.out)))))) : w.heap.size ≤ gb897)); have n3_:=Aside0.mk ((by rw [hg]; exact (below_size (by repeat (((with_reducible (exact HB.out)))))) : w.heap.size ≤ gb897)); clear HB; have HB:=n0_; have BK897:=n1_; have GW897:=n2_; have GE897:=n3_; clear n0_ n1_ n2_ n3_; clear hb hbox hg; have hcz14_0 : w13.cell? ⟨gb897,0,none⟩ = some (.string a0_0):=(blk_cell BK897.out 0).trans rfl; have hcz14_1 : w13.cell? ⟨gb897,1,none⟩ = some (.int .i64 a0_1):=(blk_cell BK897.out 1).trans rfl; have hcz14_2 : w13.cell? ⟨gb897,2,none⟩ = some (.int .i64 a0_2):=(blk_cell BK897.out 2).trans rfl; have hcz14_3 : w13.cell? ⟨gb897,3,none⟩ = some (.int .i64 a0_3):=(blk_cell BK897.out 3).trans rfl; have hcz14_4 : w13.cell? ⟨gb897,4,none⟩ = some (.int .i64 a0_4):=(blk_cell BK897.out 4).trans rfl; have hfz14_0:=blk_frozen BK897.out 0; have hfz14_1:=blk_frozen BK897.out 1; have hfz14_2:=blk_frozen BK897.out 2; have hfz14_3:=blk_frozen BK897.out 3; have hfz14_4:=blk_frozen BK897.out 4)|((with_reducible refine gate_callee (f:=186) rfl ?_); refine goesL_ (some 5) rfl rfl Try.func186 (by kernel_rfl) rfl #[.string a0_0] rfl (by (try simp only [List.map_toArray,List.map_cons,List.map_nil]); (rfl)) ?_; (with_reducible refine (spec_l2Id.calls k a0_0 true _ A2.out).mono ?_); rintro e w' ⟨rfl,⟨nd,rfl⟩⟩; refine ⟨_,rfl,?_⟩)|(go_at_call 162; (with_reducible refine (spec_l1In.calls a0_1 1 2 true _ A4.out).mono ?_); rintro e w' ⟨rfl,⟨nd,rfl⟩⟩)|(go_at_call 162; (with_reducible refine (spec_l1In.calls a0_2 1 32000 true _ A6.out).mono ?_); rintro e w' ⟨rfl,⟨nd,rfl⟩⟩)|(go_at_call 162; (with_reducible refine (spec_l1In.calls a0_3 1 3 false _ A8.out).mono ?_); rintro e w' ⟨rfl,⟨nd,rfl⟩⟩))
     go_ret
     exact ⟨by (rfl),by repeat (with_reducible first|exact HB.out|apply pw_below_drewN)⟩
   ·replace c7:=Bool.eq_false_iff.mpr c7
    subst c7
    have H1 : (some false) = some r:=by rw [if_neg (show ¬ (false = true) by decide)] at H; exact H
    clear H
    have H:=H1
    clear H1
    obtain rfl:=Option.some.inj H
    go_enter Try.func170,Try.ntmps170
    go_wp2_with (first|((with_reducible refine gate_dst (N:=1) rfl ?_); refine box_event ?hg (N:=1) ?hd (cs:=#[.string a0_0,.int .i64 a0_1,.int .i64 a0_2,.int .i64 a0_3,.int .i64 a0_4]) (t:=89) ?hr ?_; (case hd => rfl); (case hg => rfl); (case hr => (go_simp; done)); intro gb897 hg w15 hbox hb; have n0_:=Aside0.mk (below_step (by repeat (((with_reducible (exact HB.out))))) hb); have n1_:=Aside0.mk (hbox); have n2_:=Aside0.mk ((by rw [hg]; exact (below_size (by repeat (((with_reducible (exact HB.out)))))) : w.heap.size ≤ gb897)); have n3_:=Aside0.mk ((by rw [hg]; exact (below_size (by repeat (((with_reducible (exact HB.out)))))) : w.heap.size ≤ gb897)); clear HB; have HB:=n0_; have BK897:=n1_; have GW897:=n2_; have GE897:=n3_; clear n0_ n1_ n2_ n3_; clear hb hbox hg; have hcz16_0 : w15.cell? ⟨gb897,0,none⟩ = some (.string a0_0):=(blk_cell BK897.out 0).trans rfl; have hcz16_1 : w15.cell? ⟨gb897,1,none⟩ = some (.int .i64 a0_1):=(blk_cell BK897.out 1).trans rfl; have hcz16_2 : w15.cell? ⟨gb897,2,none⟩ = some (.int .i64 a0_2):=(blk_cell BK897.out 2).trans rfl; have hcz16_3 : w15.cell? ⟨gb897,3,none⟩ = some (.int .i64 a0_3):=(blk_cell BK897.out 3).trans rfl; have hcz16_4 : w15.cell? ⟨gb897,4,none⟩ = some (.int .i64 a0_4):=(blk_cell BK897.out 4).trans rfl; have hfz16_0:=blk_frozen BK897.out 0; have hfz16_1:=blk_frozen BK897.out 1; have hfz16_2:=blk_frozen BK897.out 2; have hfz16_3:=blk_frozen BK897.out 3; have hfz16_4:=blk_frozen BK897.out 4)|((with_reducible refine gate_callee (f:=186) rfl ?_); refine goesL_ (some 5) rfl rfl Try.func186 (by kernel_rfl) rfl #[.string a0_0] rfl (by (try simp only [List.map_toArray,List.map_cons,List.map_nil]); (rfl)) ?_; (with_reducible refine (spec_l2Id.calls k a0_0 true _ A2.out).mono ?_); rintro e w' ⟨rfl,⟨nd,rfl⟩⟩; refine ⟨_,rfl,?_⟩)|(go_at_call 162; (with_reducible refine (spec_l1In.calls a0_1 1 2 true _ A4.out).mono ?_); rintro e w' ⟨rfl,⟨nd,rfl⟩⟩)|(go_at_call 162; (with_reducible refine (spec_l1In.calls a0_2 1 32000 false _ A6.out).mono ?_); rintro e w' ⟨rfl,⟨nd,rfl⟩⟩))
    go_ret
    exact ⟨by (rfl),by repeat (with_reducible first|exact HB.out|apply pw_below_drewN)⟩
  ·replace c5:=Bool.eq_false_iff.mpr c5
   subst c5
   have H1 : (some false) = some r:=by rw [if_neg (show ¬ (false = true) by decide)] at H; exact H
   clear H
   have H:=H1
   clear H1
   obtain rfl:=Option.some.inj H
   go_enter Try.func170,Try.ntmps170
   go_wp2_with (first|((with_reducible refine gate_dst (N:=1) rfl ?_); refine box_event ?hg (N:=1) ?hd (cs:=#[.string a0_0,.int .i64 a0_1,.int .i64 a0_2,.int .i64 a0_3,.int .i64 a0_4]) (t:=89) ?hr ?_; (case hd => rfl); (case hg => rfl); (case hr => (go_simp; done)); intro gb897 hg w17 hbox hb; have n0_:=Aside0.mk (below_step (by repeat (((with_reducible (exact HB.out))))) hb); have n1_:=Aside0.mk (hbox); have n2_:=Aside0.mk ((by rw [hg]; exact (below_size (by repeat (((with_reducible (exact HB.out)))))) : w.heap.size ≤ gb897)); have n3_:=Aside0.mk ((by rw [hg]; exact (below_size (by repeat (((with_reducible (exact HB.out)))))) : w.heap.size ≤ gb897)); clear HB; have HB:=n0_; have BK897:=n1_; have GW897:=n2_; have GE897:=n3_; clear n0_ n1_ n2_ n3_; clear hb hbox hg; have hcz18_0 : w17.cell? ⟨gb897,0,none⟩ = some (.string a0_0):=(blk_cell BK897.out 0).trans rfl; have hcz18_1 : w17.cell? ⟨gb897,1,none⟩ = some (.int .i64 a0_1):=(blk_cell BK897.out 1).trans rfl; have hcz18_2 : w17.cell? ⟨gb897,2,none⟩ = some (.int .i64 a0_2):=(blk_cell BK897.out 2).trans rfl; have hcz18_3 : w17.cell? ⟨gb897,3,none⟩ = some (.int .i64 a0_3):=(blk_cell BK897.out 3).trans rfl; have hcz18_4 : w17.cell? ⟨gb897,4,none⟩ = some (.int .i64 a0_4):=(blk_cell BK897.out 4).trans rfl; have hfz18_0:=blk_frozen BK897.out 0; have hfz18_1:=blk_frozen BK897.out 1; have hfz18_2:=blk_frozen BK897.out 2; have hfz18_3:=blk_frozen BK897.out 3; have hfz18_4:=blk_frozen BK897.out 4)|((with_reducible refine gate_callee (f:=186) rfl ?_); refine goesL_ (some 5) rfl rfl Try.func186 (by kernel_rfl) rfl #[.string a0_0] rfl (by (try simp only [List.map_toArray,List.map_cons,List.map_nil]); (rfl)) ?_; (with_reducible refine (spec_l2Id.calls k a0_0 true _ A2.out).mono ?_); rintro e w' ⟨rfl,⟨nd,rfl⟩⟩; refine ⟨_,rfl,?_⟩)|(go_at_call 162; (with_reducible refine (spec_l1In.calls a0_1 1 2 false _ A4.out).mono ?_); rintro e w' ⟨rfl,⟨nd,rfl⟩⟩))
   go_ret
   exact ⟨by (rfl),by repeat (with_reducible first|exact HB.out|apply pw_below_drewN)⟩
 ·replace c3:=Bool.eq_false_iff.mpr c3
  subst c3
  have H1 : (some false) = some r:=by rw [if_neg (show ¬ (false = true) by decide)] at H; exact H
  clear H
  have H:=H1
  clear H1
  obtain rfl:=Option.some.inj H
  go_enter Try.func170,Try.ntmps170
  go_wp2_with (first|((with_reducible refine gate_dst (N:=1) rfl ?_); refine box_event ?hg (N:=1) ?hd (cs:=#[.string a0_0,.int .i64 a0_1,.int .i64 a0_2,.int .i64 a0_3,.int .i64 a0_4]) (t:=89) ?hr ?_; (case hd => rfl); (case hg => rfl); (case hr => (go_simp; done)); intro gb897 hg w19 hbox hb; have n0_:=Aside0.mk (below_step (by repeat (((with_reducible (exact HB.out))))) hb); have n1_:=Aside0.mk (hbox); have n2_:=Aside0.mk ((by rw [hg]; exact (below_size (by repeat (((with_reducible (exact HB.out)))))) : w.heap.size ≤ gb897)); have n3_:=Aside0.mk ((by rw [hg]; exact (below_size (by repeat (((with_reducible (exact HB.out)))))) : w.heap.size ≤ gb897)); clear HB; have HB:=n0_; have BK897:=n1_; have GW897:=n2_; have GE897:=n3_; clear n0_ n1_ n2_ n3_; clear hb hbox hg; have hcz20_0 : w19.cell? ⟨gb897,0,none⟩ = some (.string a0_0):=(blk_cell BK897.out 0).trans rfl; have hcz20_1 : w19.cell? ⟨gb897,1,none⟩ = some (.int .i64 a0_1):=(blk_cell BK897.out 1).trans rfl; have hcz20_2 : w19.cell? ⟨gb897,2,none⟩ = some (.int .i64 a0_2):=(blk_cell BK897.out 2).trans rfl; have hcz20_3 : w19.cell? ⟨gb897,3,none⟩ = some (.int .i64 a0_3):=(blk_cell BK897.out 3).trans rfl; have hcz20_4 : w19.cell? ⟨gb897,4,none⟩ = some (.int .i64 a0_4):=(blk_cell BK897.out 4).trans rfl; have hfz20_0:=blk_frozen BK897.out 0; have hfz20_1:=blk_frozen BK897.out 1; have hfz20_2:=blk_frozen BK897.out 2; have hfz20_3:=blk_frozen BK897.out 3; have hfz20_4:=blk_frozen BK897.out 4)|((with_reducible refine gate_callee (f:=186) rfl ?_); refine goesL_ (some 5) rfl rfl Try.func186 (by kernel_rfl) rfl #[.string a0_0] rfl (by (try simp only [List.map_toArray,List.map_cons,List.map_nil]); (rfl)) ?_; (with_reducible refine (spec_l2Id.calls k a0_0 false _ A2.out).mono ?_); rintro e w' ⟨rfl,⟨nd,rfl⟩⟩; refine ⟨_,rfl,?_⟩))
  go_ret
  exact ⟨by (rfl),by repeat (with_reducible first|exact HB.out|apply pw_below_drewN)⟩

/-! ### spec_l2List: function 130 -/
mutual
def spec_l2List.l0 : Nat → List (S89) → Int → Option (Bool)
 | 0,_,_ => none
 | k + 1,x0,x3 => if x3 < (x0.length : Int) then (spec_l2List.j1 k x0 x3 (decide (x3 ≤ 12))) else (spec_l2List.j1 k x0 x3 false)
def spec_l2List.j1 : Nat → List (S89) → Int → Bool → Option (Bool)
 | 0,_,_,_ => none
 | k + 1,x0,x3,x11 => if x11 = true then (if 0 ≤ x3 then (if x3 < (x0.length : Int) then ((spec_l2Good.f k ((rd_T89 x0 x3).f0) ((rd_T89 x0 x3).f1) ((rd_T89 x0 x3).f2) ((rd_T89 x0 x3).f3) ((rd_T89 x0 x3).f4)).bind fun t904 => (if t904 = true then ((spec_l2Find.f k x0 ((rd_T89 x0 x3).f0)).bind fun t906 => (if t906 = x3 then (spec_l2List.l0 k x0 (wrap64 (x3 + 1))) else (some false))) else (some false))) else (none)) else (none)) else (some (decide ((x0.length : Int) ≤ 12)))
end
def spec_l2List.f (k : Nat) (l0 : List (S89)) : Option (Bool):=spec_l2List.l0 k l0 0
theorem spec_l2List.mono_l : ∀ k,(∀ y0 y1,LeO (spec_l2List.l0 k y0 y1) (spec_l2List.l0 (k + 1) y0 y1)) ∧ (∀ y0 y1 y2,LeO (spec_l2List.j1 k y0 y1 y2) (spec_l2List.j1 (k + 1) y0 y1 y2))
 | 0 => ⟨fun _ _ r h => by simp [spec_l2List.l0] at h,fun _ _ _ r h => by simp [spec_l2List.j1] at h⟩
 | k + 1 => by
  obtain ⟨ih0,ih1⟩:=spec_l2List.mono_l k
  refine ⟨?_,?_⟩
  ·intro y0 y1
   unfold spec_l2List.l0
   repeat' first
   | (with_reducible exact ih0 _ _)
   | (with_reducible exact ih1 _ _ _)
   | (with_reducible exact spec_l2Find.mono _ _ _)
   | (with_reducible exact spec_l2Good.mono _ _ _ _ _ _)
   | (with_reducible exact LeO.refl _)
   | (with_reducible exact LeO.none _)
   | (with_reducible refine LeO.ite ?_ ?_)
   | (with_reducible refine LeO.bind ?_ (fun _ => ?_))
   | exact ih0 _ _
   | exact ih1 _ _ _
   | exact spec_l2Find.mono _ _ _
   | exact spec_l2Good.mono _ _ _ _ _ _
   | exact LeO.none _
   | refine LeO.ite ?_ ?_
   | refine LeO.bind ?_ (fun _ => ?_)
  ·intro y0 y1 y2
   unfold spec_l2List.j1
   repeat' first
   | (with_reducible exact ih0 _ _)
   | (with_reducible exact ih1 _ _ _)
   | (with_reducible exact spec_l2Find.mono _ _ _)
   | (with_reducible exact spec_l2Good.mono _ _ _ _ _ _)
   | (with_reducible exact LeO.refl _)
   | (with_reducible exact LeO.none _)
   | (with_reducible refine LeO.ite ?_ ?_)
   | (with_reducible refine LeO.bind ?_ (fun _ => ?_))
   | exact ih0 _ _
   | exact ih1 _ _ _
   | exact spec_l2Find.mono _ _ _
   | exact spec_l2Good.mono _ _ _ _ _ _
   | exact LeO.none _
   | refine LeO.ite ?_ ?_
   | refine LeO.bind ?_ (fun _ => ?_)
theorem spec_l2List.mono : ∀ a0 k,LeO (spec_l2List.f k a0) (spec_l2List.f (k + 1) a0):=by
 intro a0 k
 obtain ⟨ih0,ih1⟩:=spec_l2List.mono_l k
 unfold spec_l2List.f
 repeat' first
   | (with_reducible exact ih0 _ _)
   | (with_reducible exact ih1 _ _ _)
   | (with_reducible exact spec_l2Find.mono _ _ _)
   | (with_reducible exact spec_l2Good.mono _ _ _ _ _ _)
   | (with_reducible exact LeO.refl _)
   | (with_reducible exact LeO.none _)
   | (with_reducible refine LeO.ite ?_ ?_)
   | (with_reducible refine LeO.bind ?_ (fun _ => ?_))
   | exact ih0 _ _
   | exact ih1 _ _ _
   | exact spec_l2Find.mono _ _ _
   | exact spec_l2Good.mono _ _ _ _ _ _
   | exact LeO.none _
   | refine LeO.ite ?_ ?_
   | refine LeO.bind ?_ (fun _ => ?_)
set_option maxHeartbeats 8000000 in
set_option maxRecDepth 100000 in
theorem spec_l2List.calls (k : Nat) (A0 : Option Addr) (c0 : Nat) (l0 : List (S89)) (r : Bool) (w : World) (hr0 : Kd.C k89 w A0 l0.length l0) (hc0 : l0.length ≤ c0) (h : spec_l2List.f k l0 = some r) :
  Calls Try.prog 130 #[.slice A0 l0.length c0] w fun e w' => e = .returned (.bool r) ∧ Below w.heap.size w w':=by
 have hu89:=Try.underlying89
 have HR0:=Aside0.mk hr0
 have HC0:=Aside0.mk hc0
 clear hr0 hc0
 have HB:=Aside0.mk (Below.refl w.heap.size w)
 have H : (spec_l2List.l0 k l0 0) = some r:=h
 clear h
 have H':=Aside0.mk H
 clear H
 go_enter Try.func130,Try.ntmps130
 go_wp2
 go_loopg [3] k (fun kq v3 w' => ∃ (x3_1 : Int),v3 = .int .i64 x3_1 ∧ Aside0 (spec_l2List.l0 kq l0 x3_1 = some r) ∧ Aside0 (kq ≤ k) ∧ Aside0 (Below w.heap.size w w'))
 case atStart => exact ⟨(0),(by (rfl)),H',⟨Nat.le_refl _⟩,⟨by repeat (((with_reducible (exact HB.out))))⟩⟩
 case round =>
  clear H'
  try clear c1
  obtain ⟨x3_1,rfl,HA,HK1,HB⟩:=hrel
  cases gk with
  | zero => exact absurd HA.out (by simp [spec_l2List.l0])
  | succ k1 =>
   have H:=HA.out
   clear HA
   simp only [spec_l2List.l0] at H
   have HC2:=Aside0.mk H
   clear H
   go_upto_region 2 with (fail)
   go_cut [11] (fun v11 wc => ∃ (kq : Nat) (x11_1 : Bool),v11 = .bool x11_1 ∧ Aside0 (spec_l2List.j1 kq l0 x3_1 x11_1 = some r) ∧ Aside0 (kq ≤ k1) ∧ Aside0 (Below w.heap.size w wc))
   case first =>
    have H:=HC2.out
    clear HC2
    by_cases c3 : x3_1 < (l0.length : Int)
    ·rw [if_pos c3] at H
     have c3b0 : decide (x3_1 < (l0.length : Int)) = true:=decide_eq_true c3
     clear c3
     (skip)
     have H':=Aside0.mk H
     clear H
     go_wp2
     go_meet
     case rel => exact ⟨_,(decide (x3_1 ≤ 12)),(by (rfl)),H',⟨by have:=HK1.out; (omega)⟩,⟨by repeat (((with_reducible (exact HB.out))))⟩⟩
    ·rw [if_neg c3] at H
     have c3b0 : decide (x3_1 < (l0.length : Int)) = false:=decide_eq_false c3
     clear c3
     (skip)
     have H':=Aside0.mk H
     clear H
     go_wp2
     go_meet
     case rel => exact ⟨_,(false),(by (rfl)),H',⟨by have:=HK1.out; (omega)⟩,⟨by repeat (((with_reducible (exact HB.out))))⟩⟩
   case rest =>
    clear HC2
    try clear c1
    try clear p2
    try clear c3
    try clear c3b0
    obtain ⟨kq,x11_1,rfl,HA,HJ1,HB⟩:=hcut
    cases kq with
    | zero => exact absurd HA.out (by simp [spec_l2List.j1])
    | succ kj1 =>
     have H:=HA.out
     clear HA
     simp only [spec_l2List.j1] at H
     by_cases c4 : x11_1 = true
     ·subst c4
      have H1 : (if 0 ≤ x3_1 then (if x3_1 < (l0.length : Int) then ((spec_l2Good.f kj1 ((rd_T89 l0 x3_1).f0) ((rd_T89 l0 x3_1).f1) ((rd_T89 l0 x3_1).f2) ((rd_T89 l0 x3_1).f3) ((rd_T89 l0 x3_1).f4)).bind fun t904 => (if t904 = true then ((spec_l2Find.f kj1 l0 ((rd_T89 l0 x3_1).f0)).bind fun t906 => (if t906 = x3_1 then (spec_l2List.l0 kj1 l0 (wrap64 (x3_1 + 1))) else (some false))) else (some false))) else (none)) else (none)) = some r:=by rw [if_pos rfl] at H; exact H
      clear H
      have H:=H1
      clear H1
      by_cases c5 : 0 ≤ x3_1
      ·rw [if_pos c5] at H
       have c5b0 : decide (0 ≤ x3_1) = true:=decide_eq_true c5
       clear c5
       by_cases c6 : x3_1 < (l0.length : Int)
       ·rw [if_pos c6] at H
        have c6b0 : decide (x3_1 < (l0.length : Int)) = true:=decide_eq_true c6
        clear c6
        replace H:=Option.bind_eq_some_iff.mp H
        obtain ⟨t904,A70,H⟩:=H
        replace H : (if t904 = true then ((spec_l2Find.f kj1 l0 ((rd_T89 l0 x3_1).f0)).bind fun t906 => (if t906 = x3_1 then (spec_l2List.l0 kj1 l0 (wrap64 (x3_1 + 1))) else (some false))) else (some false)) = some r:=H
        have A7:=Aside0.mk A70
        clear A70
        by_cases c8 : t904 = true
        ·subst c8
         have H1 : ((spec_l2Find.f kj1 l0 ((rd_T89 l0 x3_1).f0)).bind fun t906 => (if t906 = x3_1 then (spec_l2List.l0 kj1 l0 (wrap64 (x3_1 + 1))) else (some false))) = some r:=by rw [if_pos rfl] at H; exact H
         clear H
         have H:=H1
         clear H1
         replace H:=Option.bind_eq_some_iff.mp H
         obtain ⟨t906,A90,H⟩:=H
         replace H : (if t906 = x3_1 then (spec_l2List.l0 kj1 l0 (wrap64 (x3_1 + 1))) else (some false)) = some r:=H
         have A9:=Aside0.mk A90
         clear A90
         by_cases c10 : t906 = x3_1
         ·rw [if_pos c10] at H
          have c10b0 : (t906 == x3_1) = true:=beq_iff_eq.mpr c10
          have c10b1 : (t906 != x3_1) = false:=bne_eq_false_iff_eq.mpr c10
          clear c10
          have H':=Aside0.mk H
          clear H
          have p903 : 0 ≤ (x3_1 : Int):=of_decide_eq_true (by (with_reducible assumption))
          have q903 : x3_1 < (l0.length : Int):=of_decide_eq_true (by (with_reducible assumption))
          obtain ⟨ad903,e903,hx903_0,hx903_1,hx903_2,hx903_3,hx903_4⟩:=at_T89 HR0.out x3_1 p903 q903
          cases e903
          replace hx903_0:=(HB.out.cell (World.block_lt_of_cell? w _ hx903_0)).trans hx903_0
          replace hx903_1:=(HB.out.cell (World.block_lt_of_cell? w _ hx903_1)).trans hx903_1
          replace hx903_2:=(HB.out.cell (World.block_lt_of_cell? w _ hx903_2)).trans hx903_2
          replace hx903_3:=(HB.out.cell (World.block_lt_of_cell? w _ hx903_3)).trans hx903_3
          replace hx903_4:=(HB.out.cell (World.block_lt_of_cell? w _ hx903_4)).trans hx903_4
          replace p903:=eq_true p903
          replace q903:=eq_true q903
          go_wp2_with (first|((with_reducible refine gate_callee (f:=170) rfl ?_); refine goesL_ (some 18) rfl rfl Try.func170 (by kernel_rfl) rfl #[.agg #[.string ((rd_T89 l0 x3_1).f0),.int .i64 ((rd_T89 l0 x3_1).f1),.int .i64 ((rd_T89 l0 x3_1).f2),.int .i64 ((rd_T89 l0 x3_1).f3),.int .i64 ((rd_T89 l0 x3_1).f4)]] rfl (by (try simp only [List.map_toArray,List.map_cons,List.map_nil]); (rfl)) ?_; (with_reducible refine (spec_l2Good.calls kj1 ((rd_T89 l0 x3_1).f0) ((rd_T89 l0 x3_1).f1) ((rd_T89 l0 x3_1).f2) ((rd_T89 l0 x3_1).f3) ((rd_T89 l0 x3_1).f4) true _ A7.out).mono ?_); rintro e w11 ⟨rfl,hb⟩; refine ⟨_,rfl,?_⟩; have n0_:=Aside0.mk (below_step (by repeat (((with_reducible (exact HB.out))))) hb); clear HB; have HB:=n0_; clear n0_; (try clear hb); (try clear hb2); (try clear hk); (try clear hi); have p905 : 0 ≤ (x3_1 : Int):=of_decide_eq_true (by (with_reducible assumption)); have q905 : x3_1 < (l0.length : Int):=of_decide_eq_true (by (with_reducible assumption)); obtain ⟨ad905,e905,hx905_0,hx905_1,hx905_2,hx905_3,hx905_4⟩:=at_T89 HR0.out x3_1 p905 q905; obtain rfl : ad903 = ad905:=(by injection e905); replace hx905_0:=(HB.out.cell (World.block_lt_of_cell? w _ hx905_0)).trans hx905_0; replace hx905_1:=(HB.out.cell (World.block_lt_of_cell? w _ hx905_1)).trans hx905_1; replace hx905_2:=(HB.out.cell (World.block_lt_of_cell? w _ hx905_2)).trans hx905_2; replace hx905_3:=(HB.out.cell (World.block_lt_of_cell? w _ hx905_3)).trans hx905_3; replace hx905_4:=(HB.out.cell (World.block_lt_of_cell? w _ hx905_4)).trans hx905_4; replace p905:=eq_true p905; replace q905:=eq_true q905)|(go_at_call 152; (with_reducible refine (spec_l2Find.calls kj1 _ _ l0 ((rd_T89 l0 x3_1).f0) t906 _ ?side1 ?side2 A9.out).mono ?_); (case side1 => repeat ((exact (Kd.C_below HR0.out HB.out)))); (case side2 => exact HC0.out); rintro e w' ⟨rfl,⟨nd,rfl⟩⟩))
          go_roundg kj1
          case measure => have:=HK1.out; have:=HJ1.out; omega
          case rel => exact ⟨(wrap64 (x3_1 + 1)),(by (rfl)),H',⟨by have:=HK1.out; have:=HJ1.out; omega⟩,⟨by repeat (with_reducible first|exact HB.out|apply pw_below_drewN)⟩⟩
         ·rw [if_neg c10] at H
          have c10b0 : (t906 == x3_1) = false:=beq_eq_false_iff_ne.mpr c10
          have c10b1 : (t906 != x3_1) = true:=bne_iff_ne.mpr c10
          obtain rfl:=Option.some.inj H
          have p903 : 0 ≤ (x3_1 : Int):=of_decide_eq_true (by (with_reducible assumption))
          have q903 : x3_1 < (l0.length : Int):=of_decide_eq_true (by (with_reducible assumption))
          obtain ⟨ad903,e903,hx903_0,hx903_1,hx903_2,hx903_3,hx903_4⟩:=at_T89 HR0.out x3_1 p903 q903
          cases e903
          replace hx903_0:=(HB.out.cell (World.block_lt_of_cell? w _ hx903_0)).trans hx903_0
          replace hx903_1:=(HB.out.cell (World.block_lt_of_cell? w _ hx903_1)).trans hx903_1
          replace hx903_2:=(HB.out.cell (World.block_lt_of_cell? w _ hx903_2)).trans hx903_2
          replace hx903_3:=(HB.out.cell (World.block_lt_of_cell? w _ hx903_3)).trans hx903_3
          replace hx903_4:=(HB.out.cell (World.block_lt_of_cell? w _ hx903_4)).trans hx903_4
          replace p903:=eq_true p903
          replace q903:=eq_true q903
          go_wp2_with (first|((with_reducible refine gate_callee (f:=170) rfl ?_); refine goesL_ (some 18) rfl rfl Try.func170 (by kernel_rfl) rfl #[.agg #[.string ((rd_T89 l0 x3_1).f0),.int .i64 ((rd_T89 l0 x3_1).f1),.int .i64 ((rd_T89 l0 x3_1).f2),.int .i64 ((rd_T89 l0 x3_1).f3),.int .i64 ((rd_T89 l0 x3_1).f4)]] rfl (by (try simp only [List.map_toArray,List.map_cons,List.map_nil]); (rfl)) ?_; (with_reducible refine (spec_l2Good.calls kj1 ((rd_T89 l0 x3_1).f0) ((rd_T89 l0 x3_1).f1) ((rd_T89 l0 x3_1).f2) ((rd_T89 l0 x3_1).f3) ((rd_T89 l0 x3_1).f4) true _ A7.out).mono ?_); rintro e w12 ⟨rfl,hb⟩; refine ⟨_,rfl,?_⟩; have n0_:=Aside0.mk (below_step (by repeat (((with_reducible (exact HB.out))))) hb); clear HB; have HB:=n0_; clear n0_; (try clear hb); (try clear hb2); (try clear hk); (try clear hi); have p905 : 0 ≤ (x3_1 : Int):=of_decide_eq_true (by (with_reducible assumption)); have q905 : x3_1 < (l0.length : Int):=of_decide_eq_true (by (with_reducible assumption)); obtain ⟨ad905,e905,hx905_0,hx905_1,hx905_2,hx905_3,hx905_4⟩:=at_T89 HR0.out x3_1 p905 q905; obtain rfl : ad903 = ad905:=(by injection e905); replace hx905_0:=(HB.out.cell (World.block_lt_of_cell? w _ hx905_0)).trans hx905_0; replace hx905_1:=(HB.out.cell (World.block_lt_of_cell? w _ hx905_1)).trans hx905_1; replace hx905_2:=(HB.out.cell (World.block_lt_of_cell? w _ hx905_2)).trans hx905_2; replace hx905_3:=(HB.out.cell (World.block_lt_of_cell? w _ hx905_3)).trans hx905_3; replace hx905_4:=(HB.out.cell (World.block_lt_of_cell? w _ hx905_4)).trans hx905_4; replace p905:=eq_true p905; replace q905:=eq_true q905)|(go_at_call 152; (with_reducible refine (spec_l2Find.calls kj1 _ _ l0 ((rd_T89 l0 x3_1).f0) t906 _ ?side1 ?side2 A9.out).mono ?_); (case side1 => repeat ((exact (Kd.C_below HR0.out HB.out)))); (case side2 => exact HC0.out); rintro e w' ⟨rfl,⟨nd,rfl⟩⟩))
          go_ret
          exact ⟨by (rfl),by repeat (with_reducible first|exact HB.out|apply pw_below_drewN)⟩
        ·replace c8:=Bool.eq_false_iff.mpr c8
         subst c8
         have H1 : (some false) = some r:=by rw [if_neg (show ¬ (false = true) by decide)] at H; exact H
         clear H
         have H:=H1
         clear H1
         obtain rfl:=Option.some.inj H
         have p903 : 0 ≤ (x3_1 : Int):=of_decide_eq_true (by (with_reducible assumption))
         have q903 : x3_1 < (l0.length : Int):=of_decide_eq_true (by (with_reducible assumption))
         obtain ⟨ad903,e903,hx903_0,hx903_1,hx903_2,hx903_3,hx903_4⟩:=at_T89 HR0.out x3_1 p903 q903
         cases e903
         replace hx903_0:=(HB.out.cell (World.block_lt_of_cell? w _ hx903_0)).trans hx903_0
         replace hx903_1:=(HB.out.cell (World.block_lt_of_cell? w _ hx903_1)).trans hx903_1
         replace hx903_2:=(HB.out.cell (World.block_lt_of_cell? w _ hx903_2)).trans hx903_2
         replace hx903_3:=(HB.out.cell (World.block_lt_of_cell? w _ hx903_3)).trans hx903_3
         replace hx903_4:=(HB.out.cell (World.block_lt_of_cell? w _ hx903_4)).trans hx903_4
         replace p903:=eq_true p903
         replace q903:=eq_true q903
         go_wp2_with ((((with_reducible refine gate_callee (f:=170) rfl ?_); refine goesL_ (some 18) rfl rfl Try.func170 (by kernel_rfl) rfl #[.agg #[.string ((rd_T89 l0 x3_1).f0),.int .i64 ((rd_T89 l0 x3_1).f1),.int .i64 ((rd_T89 l0 x3_1).f2),.int .i64 ((rd_T89 l0 x3_1).f3),.int .i64 ((rd_T89 l0 x3_1).f4)]] rfl (by (try simp only [List.map_toArray,List.map_cons,List.map_nil]); (rfl)) ?_; (with_reducible refine (spec_l2Good.calls kj1 ((rd_T89 l0 x3_1).f0) ((rd_T89 l0 x3_1).f1) ((rd_T89 l0 x3_1).f2) ((rd_T89 l0 x3_1).f3) ((rd_T89 l0 x3_1).f4) false _ A7.out).mono ?_); rintro e w13 ⟨rfl,hb⟩; refine ⟨_,rfl,?_⟩; have n0_:=Aside0.mk (below_step (by repeat (((with_reducible (exact HB.out))))) hb); clear HB; have HB:=n0_; clear n0_; (try clear hb); (try clear hb2); (try clear hk); (try clear hi))))
         go_ret
         exact ⟨by (rfl),by repeat (((with_reducible (exact HB.out))))⟩
       ·rw [if_neg c6] at H
        exact absurd H (by simp)
      ·rw [if_neg c5] at H
       exact absurd H (by simp)
     ·replace c4:=Bool.eq_false_iff.mpr c4
      subst c4
      have H1 : (some (decide ((l0.length : Int) ≤ 12))) = some r:=by rw [if_neg (show ¬ (false = true) by decide)] at H; exact H
      clear H
      have H:=H1
      clear H1
      obtain rfl:=Option.some.inj H
      go_wp2
      go_ret
      exact ⟨by (rfl),by repeat (((with_reducible (exact HB.out))))⟩

/-! ### impl_IsValidContainer: function 76 -/
def impl_IsValidContainer.f (k : Nat) (a0_0 : ByteArray) (a0_1 : Int) (a0_2 : Int) (a0_3 : Int) (a0_4 : Int) : Option (Bool):=(impl_IsValidId.f k a0_0).bind fun t931 => (if t931 = true then ((impl_within.f a0_1 1 2).bind fun t932 => (if t932 = true then ((impl_within.f a0_3 1 3).bind fun t933 => (if t933 = true then ((impl_within.f a0_2 1 32000).bind fun t934 => (if t934 = true then ((impl_within.f a0_4 1 9).bind fun t935 => (some t935)) else (some false))) else (some false))) else (some false))) else (some false))
theorem impl_IsValidContainer.mono : ∀ a0 a1 a2 a3 a4 k,LeO (impl_IsValidContainer.f k a0 a1 a2 a3 a4) (impl_IsValidContainer.f (k + 1) a0 a1 a2 a3 a4):=by
 intro a0 a1 a2 a3 a4 k
 unfold impl_IsValidContainer.f
 repeat' first
   | (with_reducible exact impl_IsValidId.mono _ _)
   | (with_reducible exact LeO.refl _)
   | (with_reducible exact LeO.none _)
   | (with_reducible refine LeO.ite ?_ ?_)
   | (with_reducible refine LeO.bind ?_ (fun _ => ?_))
   | exact impl_IsValidId.mono _ _
   | exact LeO.none _
   | refine LeO.ite ?_ ?_
   | refine LeO.bind ?_ (fun _ => ?_)
set_option maxHeartbeats 8000000 in
set_option maxRecDepth 100000 in
theorem impl_IsValidContainer.calls (k : Nat) (a0_0 : ByteArray) (a0_1 : Int) (a0_2 : Int) (a0_3 : Int) (a0_4 : Int) (r : Bool) (w : World) (h : impl_IsValidContainer.f k a0_0 a0_1 a0_2 a0_3 a0_4 = some r) :
  Calls Try.prog 76 #[.agg #[.string a0_0,.int .i64 a0_1,.int .i64 a0_2,.int .i64 a0_3,.int .i64 a0_4]] w fun e w' => e = .returned (.bool r) ∧ Below w.heap.size w w':=by
 have hu89:=Try.underlying89
 have HB:=Aside0.mk (Below.refl w.heap.size w)
 have H : ((impl_IsValidId.f k a0_0).bind fun t931 => (if t931 = true then ((impl_within.f a0_1 1 2).bind fun t932 => (if t932 = true then ((impl_within.f a0_3 1 3).bind fun t933 => (if t933 = true then ((impl_within.f a0_2 1 32000).bind fun t934 => (if t934 = true then ((impl_within.f a0_4 1 9).bind fun t935 => (some t935)) else (some false))) else (some false))) else (some false))) else (some false))) = some r:=h
 clear h
 replace H:=Option.bind_eq_some_iff.mp H
 obtain ⟨t931,A20,H⟩:=H
 replace H : (if t931 = true then ((impl_within.f a0_1 1 2).bind fun t932 => (if t932 = true then ((impl_within.f a0_3 1 3).bind fun t933 => (if t933 = true then ((impl_within.f a0_2 1 32000).bind fun t934 => (if t934 = true then ((impl_within.f a0_4 1 9).bind fun t935 => (some t935)) else (some false))) else (some false))) else (some false))) else (some false)) = some r:=H
 have A2:=Aside0.mk A20
 clear A20
 by_cases c3 : t931 = true
 ·subst c3
  have H1 : ((impl_within.f a0_1 1 2).bind fun t932 => (if t932 = true then ((impl_within.f a0_3 1 3).bind fun t933 => (if t933 = true then ((impl_within.f a0_2 1 32000).bind fun t934 => (if t934 = true then ((impl_within.f a0_4 1 9).bind fun t935 => (some t935)) else (some false))) else (some false))) else (some false))) = some r:=by rw [if_pos rfl] at H; exact H
  clear H
  have H:=H1
  clear H1
  replace H:=Option.bind_eq_some_iff.mp H
  obtain ⟨t932,A40,H⟩:=H
  replace H : (if t932 = true then ((impl_within.f a0_3 1 3).bind fun t933 => (if t933 = true then ((impl_within.f a0_2 1 32000).bind fun t934 => (if t934 = true then ((impl_within.f a0_4 1 9).bind fun t935 => (some t935)) else (some false))) else (some false))) else (some false)) = some r:=H
  have A4:=Aside0.mk A40
  clear A40
  by_cases c5 : t932 = true
  ·subst c5
   have H1 : ((impl_within.f a0_3 1 3).bind fun t933 => (if t933 = true then ((impl_within.f a0_2 1 32000).bind fun t934 => (if t934 = true then ((impl_within.f a0_4 1 9).bind fun t935 => (some t935)) else (some false))) else (some false))) = some r:=by rw [if_pos rfl] at H; exact H
   clear H
   have H:=H1
   clear H1
   replace H:=Option.bind_eq_some_iff.mp H
   obtain ⟨t933,A60,H⟩:=H
   replace H : (if t933 = true then ((impl_within.f a0_2 1 32000).bind fun t934 => (if t934 = true then ((impl_within.f a0_4 1 9).bind fun t935 => (some t935)) else (some false))) else (some false)) = some r:=H
   have A6:=Aside0.mk A60
   clear A60
   by_cases c7 : t933 = true
   ·subst c7
    have H1 : ((impl_within.f a0_2 1 32000).bind fun t934 => (if t934 = true then ((impl_within.f a0_4 1 9).bind fun t935 => (some t935)) else (some false))) = some r:=by rw [if_pos rfl] at H; exact H
    clear H
    have H:=H1
    clear H1
    replace H:=Option.bind_eq_some_iff.mp H
    obtain ⟨t934,A80,H⟩:=H
    replace H : (if t934 = true then ((impl_within.f a0_4 1 9).bind fun t935 => (some t935)) else (some false)) = some r:=H
    have A8:=Aside0.mk A80
    clear A80
    by_cases c9 : t934 = true
    ·subst c9
     have H1 : ((impl_within.f a0_4 1 9).bind fun t935 => (some t935)) = some r:=by rw [if_pos rfl] at H; exact H
     clear H
     have H:=H1
     clear H1
     replace H:=Option.bind_eq_some_iff.mp H
     obtain ⟨t935,A100,H⟩:=H
     replace H : (some t935) = some r:=H
     have A10:=Aside0.mk A100
     clear A100
     obtain rfl:=Option.some.inj H
     go_enter Try.func76,Try.ntmps76
     go_wp2_with (first|((with_reducible refine gate_dst (N:=1) rfl ?_); refine box_event ?hg (N:=1) ?hd (cs:=#[.string a0_0,.int .i64 a0_1,.int .i64 a0_2,.int .i64 a0_3,.int .i64 a0_4]) (t:=89) ?hr ?_; (case hd => rfl); (case hg => rfl); (case hr => (go_simp; done)); intro gb930 hg w11 hbox hb; have n0_:=Aside0.mk (below_step (by repeat (((with_reducible (exact HB.out))))) hb); have n1_:=Aside0.mk (hbox); have n2_:=Aside0.mk ((by rw [hg]; exact (below_size (by repeat (((with_reducible (exact HB.out)))))) : w.heap.size ≤ gb930)); have n3_:=Aside0.mk ((by rw [hg]; exact (below_size (by repeat (((with_reducible (exact HB.out)))))) : w.heap.size ≤ gb930)); clear HB; have HB:=n0_; have BK930:=n1_; have GW930:=n2_; have GE930:=n3_; clear n0_ n1_ n2_ n3_; clear hb hbox hg; have hcz12_0 : w11.cell? ⟨gb930,0,none⟩ = some (.string a0_0):=(blk_cell BK930.out 0).trans rfl; have hcz12_1 : w11.cell? ⟨gb930,1,none⟩ = some (.int .i64 a0_1):=(blk_cell BK930.out 1).trans rfl; have hcz12_2 : w11.cell? ⟨gb930,2,none⟩ = some (.int .i64 a0_2):=(blk_cell BK930.out 2).trans rfl; have hcz12_3 : w11.cell? ⟨gb930,3,none⟩ = some (.int .i64 a0_3):=(blk_cell BK930.out 3).trans rfl; have hcz12_4 : w11.cell? ⟨gb930,4,none⟩ = some (.int .i64 a0_4):=(blk_cell BK930.out 4).trans rfl; have hfz12_0:=blk_frozen BK930.out 0; have hfz12_1:=blk_frozen BK930.out 1; have hfz12_2:=blk_frozen BK930.out 2; have hfz12_3:=blk_frozen BK930.out 3; have hfz12_4:=blk_frozen BK930.out 4)|((with_reducible refine gate_callee (f:=149) rfl ?_); refine goesL_ (some 5) rfl rfl Try.func149 (by kernel_rfl) rfl #[.string a0_0] rfl (by (try simp only [List.map_toArray,List.map_cons,List.map_nil]); (rfl)) ?_; (with_reducible refine (impl_IsValidId.calls k a0_0 true _ A2.out).mono ?_); rintro e w' ⟨rfl,⟨nd,rfl⟩⟩; refine ⟨_,rfl,?_⟩)|(go_at_call 118; (with_reducible refine (impl_within.calls a0_1 1 2 true _ A4.out).mono ?_); rintro e w' ⟨rfl,⟨nd,rfl⟩⟩)|(go_at_call 118; (with_reducible refine (impl_within.calls a0_3 1 3 true _ A6.out).mono ?_); rintro e w' ⟨rfl,⟨nd,rfl⟩⟩)|(go_at_call 118; (with_reducible refine (impl_within.calls a0_2 1 32000 true _ A8.out).mono ?_); rintro e w' ⟨rfl,⟨nd,rfl⟩⟩)|(go_at_call 118; (with_reducible refine (impl_within.calls a0_4 1 9 t935 _ A10.out).mono ?_); rintro e w' ⟨rfl,⟨nd,rfl⟩⟩))
     go_ret
     exact ⟨by (rfl),by repeat (with_reducible first|exact HB.out|apply pw_below_drewN)⟩
    ·replace c9:=Bool.eq_false_iff.mpr c9
     subst c9
     have H1 : (some false) = some r:=by rw [if_neg (show ¬ (false = true) by decide)] at H; exact H
     clear H
     have H:=H1
     clear H1
     obtain rfl:=Option.some.inj H
     go_enter Try.func76,Try.ntmps76
     go_wp2_with (first|((with_reducible refine gate_dst (N:=1) rfl ?_); refine box_event ?hg (N:=1) ?hd (cs:=#[.string a0_0,.int .i64 a0_1,.int .i64 a0_2,.int .i64 a0_3,.int .i64 a0_4]) (t:=89) ?hr ?_; (case hd => rfl); (case hg => rfl); (case hr => (go_simp; done)); intro gb930 hg w13 hbox hb; have n0_:=Aside0.mk (below_step (by repeat (((with_reducible (exact HB.out))))) hb); have n1_:=Aside0.mk (hbox); have n2_:=Aside0.mk ((by rw [hg]; exact (below_size (by repeat (((with_reducible (exact HB.out)))))) : w.heap.size ≤ gb930)); have n3_:=Aside0.mk ((by rw [hg]; exact (below_size (by repeat (((with_reducible (exact HB.out)))))) : w.heap.size ≤ gb930)); clear HB; have HB:=n0_; have BK930:=n1_; have GW930:=n2_; have GE930:=n3_; clear n0_ n1_ n2_ n3_; clear hb hbox hg; have hcz14_0 : w13.cell? ⟨gb930,0,none⟩ = some (.string a0_0):=(blk_cell BK930.out 0).trans rfl; have hcz14_1 : w13.cell? ⟨gb930,1,none⟩ = some (.int .i64 a0_1):=(blk_cell BK930.out 1).trans rfl; have hcz14_2 : w13.cell? ⟨gb930,2,none⟩ = some (.int .i64 a0_2):=(blk_cell BK930.out 2).trans rfl; have hcz14_3 : w13.cell? ⟨gb930,3,none⟩ = some (.int .i64 a0_3):=(blk_cell BK930.out 3).trans rfl; have hcz14_4 : w13.cell? ⟨gb930,4,none⟩ = some (.int .i64 a0_4):=(blk_cell BK930.out 4).trans rfl; have hfz14_0:=blk_frozen BK930.out 0; have hfz14_1:=blk_frozen BK930.out 1; have hfz14_2:=blk_frozen BK930.out 2; have hfz14_3:=blk_frozen BK930.out 3; have hfz14_4:=blk_frozen BK930.out 4)|((with_reducible refine gate_callee (f:=149) rfl ?_); refine goesL_ (some 5) rfl rfl Try.func149 (by kernel_rfl) rfl #[.string a0_0] rfl (by (try simp only [List.map_toArray,List.map_cons,List.map_nil]); (rfl)) ?_; (with_reducible refine (impl_IsValidId.calls k a0_0 true _ A2.out).mono ?_); rintro e w' ⟨rfl,⟨nd,rfl⟩⟩; refine ⟨_,rfl,?_⟩)|(go_at_call 118; (with_reducible refine (impl_within.calls a0_1 1 2 true _ A4.out).mono ?_); rintro e w' ⟨rfl,⟨nd,rfl⟩⟩)|(go_at_call 118; (with_reducible refine (impl_within.calls a0_3 1 3 true _ A6.out).mono ?_); rintro e w' ⟨rfl,⟨nd,rfl⟩⟩)|(go_at_call 118; (with_reducible refine (impl_within.calls a0_2 1 32000 false _ A8.out).mono ?_); rintro e w' ⟨rfl,⟨nd,rfl⟩⟩))
     go_ret
     exact ⟨by (rfl),by repeat (with_reducible first|exact HB.out|apply pw_below_drewN)⟩
   ·replace c7:=Bool.eq_false_iff.mpr c7
    subst c7
    have H1 : (some false) = some r:=by rw [if_neg (show ¬ (false = true) by decide)] at H; exact H
    clear H
    have H:=H1
    clear H1
    obtain rfl:=Option.some.inj H
    go_enter Try.func76,Try.ntmps76
    go_wp2_with (first|((with_reducible refine gate_dst (N:=1) rfl ?_); refine box_event ?hg (N:=1) ?hd (cs:=#[.string a0_0,.int .i64 a0_1,.int .i64 a0_2,.int .i64 a0_3,.int .i64 a0_4]) (t:=89) ?hr ?_; (case hd => rfl); (case hg => rfl); (case hr => (go_simp; done)); intro gb930 hg w15 hbox hb; have n0_:=Aside0.mk (below_step (by repeat (((with_reducible (exact HB.out))))) hb); have n1_:=Aside0.mk (hbox); have n2_:=Aside0.mk ((by rw [hg]; exact (below_size (by repeat (((with_reducible (exact HB.out)))))) : w.heap.size ≤ gb930)); have n3_:=Aside0.mk ((by rw [hg]; exact (below_size (by repeat (((with_reducible (exact HB.out)))))) : w.heap.size ≤ gb930)); clear HB; have HB:=n0_; have BK930:=n1_; have GW930:=n2_; have GE930:=n3_; clear n0_ n1_ n2_ n3_; clear hb hbox hg; have hcz16_0 : w15.cell? ⟨gb930,0,none⟩ = some (.string a0_0):=(blk_cell BK930.out 0).trans rfl; have hcz16_1 : w15.cell? ⟨gb930,1,none⟩ = some (.int .i64 a0_1):=(blk_cell BK930.out 1).trans rfl; have hcz16_2 : w15.cell? ⟨gb930,2,none⟩ = some (.int .i64 a0_2):=(blk_cell BK930.out 2).trans rfl; have hcz16_3 : w15.cell? ⟨gb930,3,none⟩ = some (.int .i64 a0_3):=(blk_cell BK930.out 3).trans rfl; have hcz16_4 : w15.cell? ⟨gb930,4,none⟩ = some (.int .i64 a0_4):=(blk_cell BK930.out 4).trans rfl; have hfz16_0:=blk_frozen BK930.out 0; have hfz16_1:=blk_frozen BK930.out 1; have hfz16_2:=blk_frozen BK930.out 2; have hfz16_3:=blk_frozen BK930.out 3; have hfz16_4:=blk_frozen BK930.out 4)|((with_reducible refine gate_callee (f:=149) rfl ?_); refine goesL_ (some 5) rfl rfl Try.func149 (by kernel_rfl) rfl #[.string a0_0] rfl (by (try simp only [List.map_toArray,List.map_cons,List.map_nil]); (rfl)) ?_; (with_reducible refine (impl_IsValidId.calls k a0_0 true _ A2.out).mono ?_); rintro e w' ⟨rfl,⟨nd,rfl⟩⟩; refine ⟨_,rfl,?_⟩)|(go_at_call 118; (with_reducible refine (impl_within.calls a0_1 1 2 true _ A4.out).mono ?_); rintro e w' ⟨rfl,⟨nd,rfl⟩⟩)|(go_at_call 118; (with_reducible refine (impl_within.calls a0_3 1 3 false _ A6.out).mono ?_); rintro e w' ⟨rfl,⟨nd,rfl⟩⟩))
    go_ret
    exact ⟨by (rfl),by repeat (with_reducible first|exact HB.out|apply pw_below_drewN)⟩
  ·replace c5:=Bool.eq_false_iff.mpr c5
   subst c5
   have H1 : (some false) = some r:=by rw [if_neg (show ¬ (false = true) by decide)] at H; exact H
   clear H
   have H:=H1
   clear H1
   obtain rfl:=Option.some.inj H
   go_enter Try.func76,Try.ntmps76
   go_wp2_with (first|((with_reducible refine gate_dst (N:=1) rfl ?_); refine box_event ?hg (N:=1) ?hd (cs:=#[.string a0_0,.int .i64 a0_1,.int .i64 a0_2,.int .i64 a0_3,.int .i64 a0_4]) (t:=89) ?hr ?_; (case hd => rfl); (case hg => rfl); (case hr => (go_simp; done)); intro gb930 hg w17 hbox hb; have n0_:=Aside0.mk (below_step (by repeat (((with_reducible (exact HB.out))))) hb); have n1_:=Aside0.mk (hbox); have n2_:=Aside0.mk ((by rw [hg]; exact (below_size (by repeat (((with_reducible (exact HB.out)))))) : w.heap.size ≤ gb930)); have n3_:=Aside0.mk ((by rw [hg]; exact (below_size (by repeat (((with_reducible (exact HB.out)))))) : w.heap.size ≤ gb930)); clear HB; have HB:=n0_; have BK930:=n1_; have GW930:=n2_; have GE930:=n3_; clear n0_ n1_ n2_ n3_; clear hb hbox hg; have hcz18_0 : w17.cell? ⟨gb930,0,none⟩ = some (.string a0_0):=(blk_cell BK930.out 0).trans rfl; have hcz18_1 : w17.cell? ⟨gb930,1,none⟩ = some (.int .i64 a0_1):=(blk_cell BK930.out 1).trans rfl; have hcz18_2 : w17.cell? ⟨gb930,2,none⟩ = some (.int .i64 a0_2):=(blk_cell BK930.out 2).trans rfl; have hcz18_3 : w17.cell? ⟨gb930,3,none⟩ = some (.int .i64 a0_3):=(blk_cell BK930.out 3).trans rfl; have hcz18_4 : w17.cell? ⟨gb930,4,none⟩ = some (.int .i64 a0_4):=(blk_cell BK930.out 4).trans rfl; have hfz18_0:=blk_frozen BK930.out 0; have hfz18_1:=blk_frozen BK930.out 1; have hfz18_2:=blk_frozen BK930.out 2; have hfz18_3:=blk_frozen BK930.out 3; have hfz18_4:=blk_frozen BK930.out 4)|((with_reducible refine gate_callee (f:=149) rfl ?_); refine goesL_ (some 5) rfl rfl Try.func149 (by kernel_rfl) rfl #[.string a0_0] rfl (by (try simp only [List.map_toArray,List.map_cons,List.map_nil]); (rfl)) ?_; (with_reducible refine (impl_IsValidId.calls k a0_0 true _ A2.out).mono ?_); rintro e w' ⟨rfl,⟨nd,rfl⟩⟩; refine ⟨_,rfl,?_⟩)|(go_at_call 118; (with_reducible refine (impl_within.calls a0_1 1 2 false _ A4.out).mono ?_); rintro e w' ⟨rfl,⟨nd,rfl⟩⟩))
   go_ret
   exact ⟨by (rfl),by repeat (with_reducible first|exact HB.out|apply pw_below_drewN)⟩
 ·replace c3:=Bool.eq_false_iff.mpr c3
  subst c3
  have H1 : (some false) = some r:=by rw [if_neg (show ¬ (false = true) by decide)] at H; exact H
  clear H
  have H:=H1
  clear H1
  obtain rfl:=Option.some.inj H
  go_enter Try.func76,Try.ntmps76
  go_wp2_with (first|((with_reducible refine gate_dst (N:=1) rfl ?_); refine box_event ?hg (N:=1) ?hd (cs:=#[.string a0_0,.int .i64 a0_1,.int .i64 a0_2,.int .i64 a0_3,.int .i64 a0_4]) (t:=89) ?hr ?_; (case hd => rfl); (case hg => rfl); (case hr => (go_simp; done)); intro gb930 hg w19 hbox hb; have n0_:=Aside0.mk (below_step (by repeat (((with_reducible (exact HB.out))))) hb); have n1_:=Aside0.mk (hbox); have n2_:=Aside0.mk ((by rw [hg]; exact (below_size (by repeat (((with_reducible (exact HB.out)))))) : w.heap.size ≤ gb930)); have n3_:=Aside0.mk ((by rw [hg]; exact (below_size (by repeat (((with_reducible (exact HB.out)))))) : w.heap.size ≤ gb930)); clear HB; have HB:=n0_; have BK930:=n1_; have GW930:=n2_; have GE930:=n3_; clear n0_ n1_ n2_ n3_; clear hb hbox hg; have hcz20_0 : w19.cell? ⟨gb930,0,none⟩ = some (.string a0_0):=(blk_cell BK930.out 0).trans rfl; have hcz20_1 : w19.cell? ⟨gb930,1,none⟩ = some (.int .i64 a0_1):=(blk_cell BK930.out 1).trans rfl; have hcz20_2 : w19.cell? ⟨gb930,2,none⟩ = some (.int .i64 a0_2):=(blk_cell BK930.out 2).trans rfl; have hcz20_3 : w19.cell? ⟨gb930,3,none⟩ = some (.int .i64 a0_3):=(blk_cell BK930.out 3).trans rfl; have hcz20_4 : w19.cell? ⟨gb930,4,none⟩ = some (.int .i64 a0_4):=(blk_cell BK930.out 4).trans rfl; have hfz20_0:=blk_frozen BK930.out 0; have hfz20_1:=blk_frozen BK930.out 1; have hfz20_2:=blk_frozen BK930.out 2; have hfz20_3:=blk_frozen BK930.out 3; have hfz20_4:=blk_frozen BK930.out 4)|((with_reducible refine gate_callee (f:=149) rfl ?_); refine goesL_ (some 5) rfl rfl Try.func149 (by kernel_rfl) rfl #[.string a0_0] rfl (by (try simp only [List.map_toArray,List.map_cons,List.map_nil]); (rfl)) ?_; (with_reducible refine (impl_IsValidId.calls k a0_0 false _ A2.out).mono ?_); rintro e w' ⟨rfl,⟨nd,rfl⟩⟩; refine ⟨_,rfl,?_⟩))
  go_ret
  exact ⟨by (rfl),by repeat (with_reducible first|exact HB.out|apply pw_below_drewN)⟩

/-! ### impl_IsValidContainers: function 72 -/
def impl_IsValidContainers.l0 : Nat → List (S89) → List (S89) → Int → Int → Option (Bool)
 | 0,_,_,_,_ => none
 | k + 1,x0,x5,x6,x7 => if x7 < x6 then (if 0 ≤ x7 then (if x7 < (x5.length : Int) then ((impl_IsValidContainer.f k ((rd_T89 x5 x7).f0) ((rd_T89 x5 x7).f1) ((rd_T89 x5 x7).f2) ((rd_T89 x5 x7).f3) ((rd_T89 x5 x7).f4)).bind fun t938 => (if t938 = true then (if x7 ≤ (x0.length : Int) then ((impl_indexOf.f (x0.take (x7 : Int).toNat) ((rd_T89 x5 x7).f0)).bind fun t943 => (if t943 ≥ 0 then (some false) else (impl_IsValidContainers.l0 k x0 x5 x6 (wrap64 (x7 + 1))))) else (none)) else (some false))) else (none)) else (none)) else (some (decide ((x0.length : Int) ≤ 12)))
def impl_IsValidContainers.f (k : Nat) (l0 : List (S89)) : Option (Bool):=impl_IsValidContainers.l0 k l0 l0 (l0.length : Int) 0
theorem impl_IsValidContainers.mono_l : ∀ k,(∀ y0 y1 y2 y3,LeO (impl_IsValidContainers.l0 k y0 y1 y2 y3) (impl_IsValidContainers.l0 (k + 1) y0 y1 y2 y3))
 | 0 => fun _ _ _ _ r h => by simp [impl_IsValidContainers.l0] at h
 | k + 1 => by
  have ih0:=impl_IsValidContainers.mono_l k
  ·intro y0 y1 y2 y3
   unfold impl_IsValidContainers.l0
   repeat' first
   | (with_reducible exact ih0 _ _ _ _)
   | (with_reducible exact impl_IsValidContainer.mono _ _ _ _ _ _)
   | (with_reducible exact LeO.refl _)
   | (with_reducible exact LeO.none _)
   | (with_reducible refine LeO.ite ?_ ?_)
   | (with_reducible refine LeO.bind ?_ (fun _ => ?_))
   | exact ih0 _ _ _ _
   | exact impl_IsValidContainer.mono _ _ _ _ _ _
   | exact LeO.none _
   | refine LeO.ite ?_ ?_
   | refine LeO.bind ?_ (fun _ => ?_)
theorem impl_IsValidContainers.mono : ∀ a0 k,LeO (impl_IsValidContainers.f k a0) (impl_IsValidContainers.f (k + 1) a0):=by
 intro a0 k
 have ih0:=impl_IsValidContainers.mono_l k
 unfold impl_IsValidContainers.f
 repeat' first
   | (with_reducible exact ih0 _ _ _ _)
   | (with_reducible exact impl_IsValidContainer.mono _ _ _ _ _ _)
   | (with_reducible exact LeO.refl _)
   | (with_reducible exact LeO.none _)
   | (with_reducible refine LeO.ite ?_ ?_)
   | (with_reducible refine LeO.bind ?_ (fun _ => ?_))
   | exact ih0 _ _ _ _
   | exact impl_IsValidContainer.mono _ _ _ _ _ _
   | exact LeO.none _
   | refine LeO.ite ?_ ?_
   | refine LeO.bind ?_ (fun _ => ?_)
def impl_IsValidContainers.T4 : Bool × List (List Nat × List Nat):=(true,[([],[]),([0],[0]),([1],[1]),([2,1],[2]),([3],[3]),([3],[3]),([4,5,3],[3,4,5]),([3],[3]),([7,3],[3,7]),([6,8,3,3],[3,6,8]),([9,3],[3,9]),([3,10],[3,10])])
def impl_IsValidContainers.B4 : List Nat:=[0,1,3,7,15,15,63,15,143,511,1023,2047]
theorem impl_IsValidContainers.tab4 : rtab .any (opsOf Try.f72 4) = impl_IsValidContainers.T4:=by kernel_rfl
theorem impl_IsValidContainers.bits4 : waitsOk impl_IsValidContainers.T4.2 impl_IsValidContainers.B4 = true:=by kernel_rfl
set_option maxHeartbeats 8000000 in
set_option maxRecDepth 100000 in
theorem impl_IsValidContainers.calls (k : Nat) (A0 : Option Addr) (c0 : Nat) (l0 : List (S89)) (r : Bool) (w : World) (hr0 : Kd.C k89 w A0 l0.length l0) (hc0 : l0.length ≤ c0) (h : impl_IsValidContainers.f k l0 = some r) :
  Calls Try.prog 72 #[.slice A0 l0.length c0] w fun e w' => e = .returned (.bool r) ∧ Below w.heap.size w w':=by
 have hu89:=Try.underlying89
 have HR0:=Aside0.mk hr0
 have HC0:=Aside0.mk hc0
 clear hr0 hc0
 have HB:=Aside0.mk (Below.refl w.heap.size w)
 have H : (impl_IsValidContainers.l0 k l0 l0 (l0.length : Int) 0) = some r:=h
 clear h
 have H':=Aside0.mk H
 clear H
 go_enter Try.func72,Try.ntmps72
 go_wp2
 go_loopg [7] k (fun kq v7 w' => ∃ (x7_1 : Int),v7 = .int .i64 x7_1 ∧ Aside0 (impl_IsValidContainers.l0 kq l0 l0 (l0.length : Int) x7_1 = some r) ∧ Aside0 (kq ≤ k) ∧ Aside0 (Below w.heap.size w w'))
 case atStart => exact ⟨(0),(by (rfl)),H',⟨Nat.le_refl _⟩,⟨by repeat (((with_reducible (exact HB.out))))⟩⟩
 case round =>
  clear H'
  obtain ⟨x7_1,rfl,HA,HK1,HB⟩:=hrel
  cases gk with
  | zero => exact absurd HA.out (by simp [impl_IsValidContainers.l0])
  | succ k1 =>
   have H:=HA.out
   clear HA
   simp only [impl_IsValidContainers.l0] at H
   by_cases c2 : x7_1 < (l0.length : Int)
   ·rw [if_pos c2] at H
    have c2b0 : decide (x7_1 < (l0.length : Int)) = true:=decide_eq_true c2
    clear c2
    by_cases c3 : 0 ≤ x7_1
    ·rw [if_pos c3] at H
     have c3b0 : decide (0 ≤ x7_1) = true:=decide_eq_true c3
     clear c3
     by_cases c4 : x7_1 < (l0.length : Int)
     ·rw [if_pos c4] at H
      have c4b0 : decide (x7_1 < (l0.length : Int)) = true:=decide_eq_true c4
      clear c4
      replace H:=Option.bind_eq_some_iff.mp H
      obtain ⟨t938,A50,H⟩:=H
      replace H : (if t938 = true then (if x7_1 ≤ (l0.length : Int) then ((impl_indexOf.f (l0.take (x7_1 : Int).toNat) ((rd_T89 l0 x7_1).f0)).bind fun t943 => (if t943 ≥ 0 then (some false) else (impl_IsValidContainers.l0 k1 l0 l0 (l0.length : Int) (wrap64 (x7_1 + 1))))) else (none)) else (some false)) = some r:=H
      have A5:=Aside0.mk A50
      clear A50
      by_cases c6 : t938 = true
      ·subst c6
       have H1 : (if x7_1 ≤ (l0.length : Int) then ((impl_indexOf.f (l0.take (x7_1 : Int).toNat) ((rd_T89 l0 x7_1).f0)).bind fun t943 => (if t943 ≥ 0 then (some false) else (impl_IsValidContainers.l0 k1 l0 l0 (l0.length : Int) (wrap64 (x7_1 + 1))))) else (none)) = some r:=by rw [if_pos rfl] at H; exact H
       clear H
       have H:=H1
       clear H1
       have c7b0:=eq_true (of_decide_eq_true (by (with_reducible assumption)) : 0 ≤ x7_1)
       by_cases c8 : x7_1 ≤ (l0.length : Int)
       ·rw [if_pos c8] at H
        have c8b0:=eq_true c8
        have c8b1 : decide (x7_1 ≤ (l0.length : Int)) = true:=decide_eq_true c8
        clear c8
        obtain ⟨y939,hy939⟩ : ∃ y_ : List (S89),y_ = (l0.take (x7_1 : Int).toNat):=⟨_,rfl⟩
        replace H : ((impl_indexOf.f y939 ((rd_T89 l0 x7_1).f0)).bind fun t943 => (if t943 ≥ 0 then (some false) else (impl_IsValidContainers.l0 k1 l0 l0 (l0.length : Int) (wrap64 (x7_1 + 1))))) = some r:=by (rw [hy939]; with_reducible exact H)
        have Ny939:=Aside0.mk hy939
        clear hy939
        replace H:=Option.bind_eq_some_iff.mp H
        obtain ⟨t943,A90,H⟩:=H
        replace H : (if t943 ≥ 0 then (some false) else (impl_IsValidContainers.l0 k1 l0 l0 (l0.length : Int) (wrap64 (x7_1 + 1)))) = some r:=H
        have A9:=Aside0.mk A90
        clear A90
        by_cases c10 : t943 ≥ 0
        ·rw [if_pos c10] at H
         have c10b0 : decide (0 ≤ t943) = true:=decide_eq_true c10
         clear c10
         obtain rfl:=Option.some.inj H
         have p936 : 0 ≤ (x7_1 : Int):=of_decide_eq_true (by (with_reducible assumption))
         have q936 : x7_1 < (l0.length : Int):=of_decide_eq_true (by (with_reducible assumption))
         obtain ⟨ad936,e936,hx936_0,hx936_1,hx936_2,hx936_3,hx936_4⟩:=at_T89 HR0.out x7_1 p936 q936
         cases e936
         replace hx936_0:=(HB.out.cell (World.block_lt_of_cell? w _ hx936_0)).trans hx936_0
         replace hx936_1:=(HB.out.cell (World.block_lt_of_cell? w _ hx936_1)).trans hx936_1
         replace hx936_2:=(HB.out.cell (World.block_lt_of_cell? w _ hx936_2)).trans hx936_2
         replace hx936_3:=(HB.out.cell (World.block_lt_of_cell? w _ hx936_3)).trans hx936_3
         replace hx936_4:=(HB.out.cell (World.block_lt_of_cell? w _ hx936_4)).trans hx936_4
         replace p936:=eq_true p936
         replace q936:=eq_true q936
         try go_wp2_with ((((with_reducible refine gate_dst (N:=4) rfl ?_); refine box_event ?hg (N:=4) ?hd (cs:=#[.string (⟨#[]⟩ : ByteArray),.int .i64 0,.int .i64 0,.int .i64 0,.int .i64 0]) (t:=89) ?hr ?_; (case hd => rfl); (case hg => rfl); (case hr => (go_simp; done)); intro gb937 hg w11 hbox hb; have n0_:=Aside0.mk (below_step (by repeat (((with_reducible (exact HB.out))))) hb); have n1_:=Aside0.mk (hbox); have n2_:=Aside0.mk ((by rw [hg]; exact (below_size (by repeat (((with_reducible (exact HB.out)))))) : w.heap.size ≤ gb937)); have n3_:=Aside0.mk ((by rw [hg]; exact (below_size (by repeat (((with_reducible (exact HB.out)))))) : w.heap.size ≤ gb937)); clear HB; have HB:=n0_; have BK937:=n1_; have GW937:=n2_; have GE937:=n3_; clear n0_ n1_ n2_ n3_; clear hb hbox hg; have hcz12_0 : w11.cell? ⟨gb937,0,none⟩ = some (.string (⟨#[]⟩ : ByteArray)):=(blk_cell BK937.out 0).trans rfl; have hcz12_1 : w11.cell? ⟨gb937,1,none⟩ = some (.int .i64 0):=(blk_cell BK937.out 1).trans rfl; have hcz12_2 : w11.cell? ⟨gb937,2,none⟩ = some (.int .i64 0):=(blk_cell BK937.out 2).trans rfl; have hcz12_3 : w11.cell? ⟨gb937,3,none⟩ = some (.int .i64 0):=(blk_cell BK937.out 3).trans rfl; have hcz12_4 : w11.cell? ⟨gb937,4,none⟩ = some (.int .i64 0):=(blk_cell BK937.out 4).trans rfl; have hfz12_0:=blk_frozen BK937.out 0; have hfz12_1:=blk_frozen BK937.out 1; have hfz12_2:=blk_frozen BK937.out 2; have hfz12_3:=blk_frozen BK937.out 3; have hfz12_4:=blk_frozen BK937.out 4)))
         have n0_ : Aside0 ((((((w11.setCell ⟨gb937,0,none⟩ (.string ((rd_T89 l0 x7_1).f0))).setCell ⟨gb937,1,none⟩ (.int .i64 ((rd_T89 l0 x7_1).f1))).setCell ⟨gb937,2,none⟩ (.int .i64 ((rd_T89 l0 x7_1).f2))).setCell ⟨gb937,3,none⟩ (.int .i64 ((rd_T89 l0 x7_1).f3))).setCell ⟨gb937,4,none⟩ (.int .i64 ((rd_T89 l0 x7_1).f4))).heap[gb937]? = some (.cells #[.string ((rd_T89 l0 x7_1).f0),.int .i64 ((rd_T89 l0 x7_1).f1),.int .i64 ((rd_T89 l0 x7_1).f2),.int .i64 ((rd_T89 l0 x7_1).f3),.int .i64 ((rd_T89 l0 x7_1).f4)] 89 (0,0))):=⟨by refine blk_put (cs:=#[.string ((rd_T89 l0 x7_1).f0),.int .i64 ((rd_T89 l0 x7_1).f1),.int .i64 ((rd_T89 l0 x7_1).f2),.int .i64 ((rd_T89 l0 x7_1).f3),.int .i64 0]) ?_ 4 _ rfl; refine blk_put (cs:=#[.string ((rd_T89 l0 x7_1).f0),.int .i64 ((rd_T89 l0 x7_1).f1),.int .i64 ((rd_T89 l0 x7_1).f2),.int .i64 0,.int .i64 0]) ?_ 3 _ rfl; refine blk_put (cs:=#[.string ((rd_T89 l0 x7_1).f0),.int .i64 ((rd_T89 l0 x7_1).f1),.int .i64 0,.int .i64 0,.int .i64 0]) ?_ 2 _ rfl; refine blk_put (cs:=#[.string ((rd_T89 l0 x7_1).f0),.int .i64 0,.int .i64 0,.int .i64 0,.int .i64 0]) ?_ 1 _ rfl; refine blk_put (cs:=#[.string (⟨#[]⟩ : ByteArray),.int .i64 0,.int .i64 0,.int .i64 0,.int .i64 0]) ?_ 0 _ rfl; exact BK937.out⟩
         have n1_ : Aside0 (Below w.heap.size w (((((w11.setCell ⟨gb937,0,none⟩ (.string ((rd_T89 l0 x7_1).f0))).setCell ⟨gb937,1,none⟩ (.int .i64 ((rd_T89 l0 x7_1).f1))).setCell ⟨gb937,2,none⟩ (.int .i64 ((rd_T89 l0 x7_1).f2))).setCell ⟨gb937,3,none⟩ (.int .i64 ((rd_T89 l0 x7_1).f3))).setCell ⟨gb937,4,none⟩ (.int .i64 ((rd_T89 l0 x7_1).f4)))):=⟨by repeat (with_reducible first|exact HB.out|refine below_set ?_ GE937.out)⟩
         (try clear BK937)
         (try clear HB)
         generalize (((((w11.setCell ⟨gb937,0,none⟩ (.string ((rd_T89 l0 x7_1).f0))).setCell ⟨gb937,1,none⟩ (.int .i64 ((rd_T89 l0 x7_1).f1))).setCell ⟨gb937,2,none⟩ (.int .i64 ((rd_T89 l0 x7_1).f2))).setCell ⟨gb937,3,none⟩ (.int .i64 ((rd_T89 l0 x7_1).f3))).setCell ⟨gb937,4,none⟩ (.int .i64 ((rd_T89 l0 x7_1).f4))) = w13 at n0_ n1_ ⊢
         have BK937:=n0_
         have HB:=n1_
         clear n0_ n1_
         have n0_:=Aside0.mk (blk_drew BK937.out)
         have n1_:=Aside0.mk (below_drew1 HB.out)
         clear BK937
         clear HB
         have BK937:=n0_
         have HB:=n1_
         clear n0_ n1_
         refine start_ (n:=12) (S:=fun w' => w'.cell? ⟨gb937,0,none⟩ = some (.string ((rd_T89 l0 x7_1).f0)) ∧ w'.cell? ⟨gb937,1,none⟩ = some (.int .i64 ((rd_T89 l0 x7_1).f1)) ∧ w'.cell? ⟨gb937,2,none⟩ = some (.int .i64 ((rd_T89 l0 x7_1).f2)) ∧ w'.cell? ⟨gb937,3,none⟩ = some (.int .i64 ((rd_T89 l0 x7_1).f3)) ∧ w'.cell? ⟨gb937,4,none⟩ = some (.int .i64 ((rd_T89 l0 x7_1).f4))) (ds:=[]) (b79c 12 0) (by kernel_rfl) rfl rfl ⟨(blk_cell BK937.out 0).trans rfl,(blk_cell BK937.out 1).trans rfl,(blk_cell BK937.out 2).trans rfl,(blk_cell BK937.out 3).trans rfl,(blk_cell BK937.out 4).trans rfl⟩ (fun hHeld => ?_); refine with_tabW impl_IsValidContainers.tab4 impl_IsValidContainers.bits4 (fun HT_ HW_ => ?_)
         generalize w13.drew = w14 at BK937 HB hHeld ⊢
         refine take_ (i:=0) (N:=some 12) (v:=?_) (a':=?_) (b79c 12 1) rfl rfl (take_ofW HT_.out HW_.out (by kernel_rfl)) (fun _ _ _ h => h) (Or.inl ⟨by rfl,?_⟩) hHeld ?_ ?_
         rotate_left
         ·rintro w' ⟨s0,s1,s2,s3,s4⟩
          go_simp
          with_reducible rfl
         rotate_left
         ·simp only [Act.put,List.setIfInBounds_toArray,List.set_cons_zero,List.set_cons_succ,i64_w,i32_w]
          rfl
         refine one_ (i:=1) (N:=some 13) (b79c 12 3) rfl rfl (one_of HT_.out (by kernel_rfl)) (by decide) (fun K hK => ?_)
         refine goes_ Try.func76 (by kernel_rfl) rfl #[.agg #[.string ((rd_T89 l0 x7_1).f0),.int .i64 ((rd_T89 l0 x7_1).f1),.int .i64 ((rd_T89 l0 x7_1).f2),.int .i64 ((rd_T89 l0 x7_1).f3),.int .i64 ((rd_T89 l0 x7_1).f4)]] (by rfl) rfl rfl (by (try simp only [List.map_toArray,List.map_cons,List.map_nil]); (rfl)) ?_
         with_reducible refine (impl_IsValidContainer.calls k1 ((rd_T89 l0 x7_1).f0) ((rd_T89 l0 x7_1).f1) ((rd_T89 l0 x7_1).f2) ((rd_T89 l0 x7_1).f3) ((rd_T89 l0 x7_1).f4) true _ A5.out).mono ?_
         rintro e w15 ⟨rfl,hb⟩
         refine ⟨_,rfl,?_⟩
         have n0_:=Aside0.mk (blk_below (g:=gb937) (o:=.cells #[.string ((rd_T89 l0 x7_1).f0),.int .i64 ((rd_T89 l0 x7_1).f1),.int .i64 ((rd_T89 l0 x7_1).f2),.int .i64 ((rd_T89 l0 x7_1).f3),.int .i64 ((rd_T89 l0 x7_1).f4)] 89 (0,0)) (by exact BK937.out) hb)
         have n1_:=Aside0.mk (below_step (by repeat (((with_reducible (exact HB.out))))) hb)
         clear BK937
         clear HB
         have BK937:=n0_
         have HB:=n1_
         clear n0_ n1_
         (try clear hb)
         (try clear hb2)
         (try clear hk)
         (try clear hi)
         have q16 : (x7_1 : Int) ≤ ((l0.length : Int) : Int):=of_decide_eq_true (by (with_reducible assumption))
         obtain ⟨i016,hi016,_,hsz16,_⟩:=info_parts info89
         have hroom16 : l0.length ≤ c0:=HC0.out
         have hC16 : Kd.C k89 _ (some ad936) l0.length l0:=HR0.out
         have hcut16:=cut_to (P:=Try.prog) 74 89 .i64 Try.underlying74 hi016 (some ad936) l0.length c0 x7_1 (of_decide_eq_true (by (with_reducible assumption))) q16 hroom16
         have hr16:=Kd.C_take (m:=(x7_1 : Int).toNat) hC16 (by omega)
         have hy16 : y939.length = (x7_1 : Int).toNat:=(by rw [Ny939.out,List.length_take]; omega)
         rw [← Ny939.out] at hr16
         rw [← hy16] at hcut16
         have HR942:=Aside0.mk hr16
         have HC942:=Aside0.mk (show y939.length ≤ c0 from by omega)
         clear hr16 hC16 hroom16 hi016 hsz16
         have KY16:=Aside0.mk hy16
         clear hy16
         replace q16:=eq_true q16
         refine hK.out _ _ ⟨(blk_cell BK937.out 0).trans rfl,(blk_cell BK937.out 1).trans rfl,(blk_cell BK937.out 2).trans rfl,(blk_cell BK937.out 3).trans rfl,(blk_cell BK937.out 4).trans rfl⟩ (fun hHeld => ?_)
         clear hK K
         refine norm_ (a':=?_) ?_ ?_
         rotate_left
         ·show Act.put _ (some 13) _ = _
          simp only [Act.put,List.setIfInBounds_toArray,List.set_cons_zero,List.set_cons_succ,i64_w,i32_w]
          rfl
         refine pure_ (i:=2) (N:=some 14) (v:=?_) (a':=?_) (b79c 12 7) rfl rfl (any_of HT_.out (by kernel_rfl)) (fun _ _ _ h => h) (Or.inl ⟨by rfl,?_⟩) ?_ ?_
         rotate_left
         ·intro w'
          go_simp
          with_reducible rfl
         rotate_left
         ·simp only [Act.put,List.setIfInBounds_toArray,List.set_cons_zero,List.set_cons_succ,i64_w,i32_w]
          rfl
         refine pure_ (i:=3) (N:=some 15) (v:=?_) (a':=?_) (b79c 12 15) rfl rfl (any_of HT_.out (by kernel_rfl)) (fun _ _ _ h => h) (Or.inl ⟨by rfl,?_⟩) ?_ ?_
         rotate_left
         ·intro w'
          go_simp
          with_reducible rfl
         rotate_left
         ·simp only [Act.put,List.setIfInBounds_toArray,List.set_cons_zero,List.set_cons_succ,i64_w,i32_w]
          rfl
         refine pure_ (i:=4) (N:=some 16) (v:=?_) (a':=?_) (b79c 12 31) rfl rfl (any_of HT_.out (by kernel_rfl)) (fun _ _ _ h => h) (Or.inl ⟨by rfl,?_⟩) ?_ ?_
         rotate_left
         ·intro w'
          go_simp
          with_reducible rfl
         rotate_left
         ·simp only [Act.put,List.setIfInBounds_toArray,List.set_cons_zero,List.set_cons_succ,i64_w,i32_w]
          rfl
         refine pure_ (i:=5) (N:=some 17) (v:=?_) (a':=?_) (b79c 12 63) rfl rfl (any_of HT_.out (by kernel_rfl)) (fun _ _ _ h => h) (Or.inl ⟨by rfl,?_⟩) ?_ ?_
         rotate_left
         ·intro w'
          go_simp
          with_reducible rfl
         rotate_left
         ·simp only [Act.put,List.setIfInBounds_toArray,List.set_cons_zero,List.set_cons_succ,i64_w,i32_w]
          rfl
         refine pure_ (i:=6) (N:=some 18) (v:=?_) (a':=?_) (b79c 12 127) rfl rfl (any_of HT_.out (by kernel_rfl)) (fun _ _ _ h => h) (Or.inl ⟨by rfl,?_⟩) ?_ ?_
         rotate_left
         ·intro w'
          go_simp
          with_reducible rfl
         rotate_left
         ·simp only [Act.put,List.setIfInBounds_toArray,List.set_cons_zero,List.set_cons_succ,i64_w,i32_w]
          rfl
         refine pure_ (i:=7) (N:=some 19) (v:=?_) (a':=?_) (b79c 12 255) rfl rfl (any_of HT_.out (by kernel_rfl)) (fun _ _ _ h => h) (Or.inl ⟨by rfl,?_⟩) ?_ ?_
         rotate_left
         ·intro w'
          go_simp
          with_reducible rfl
         rotate_left
         ·simp only [Act.put,List.setIfInBounds_toArray,List.set_cons_zero,List.set_cons_succ,i64_w,i32_w]
          rfl
         refine take_ (i:=8) (N:=some 20) (v:=?_) (a':=?_) (b79c 12 511) rfl rfl (take_ofW HT_.out HW_.out (by kernel_rfl)) (fun _ _ _ h => h) (Or.inl ⟨by rfl,?_⟩) hHeld ?_ ?_
         rotate_left
         ·rintro w' ⟨s0,s1,s2,s3,s4⟩
          go_simp
          with_reducible rfl
         rotate_left
         ·simp only [Act.put,List.setIfInBounds_toArray,List.set_cons_zero,List.set_cons_succ,i64_w,i32_w]
          rfl
         refine one_ (i:=9) (N:=some 21) (b79c 12 1023) rfl rfl (one_of HT_.out (by kernel_rfl)) (by decide) (fun K hK => ?_)
         refine goes_ Try.func148 (by kernel_rfl) rfl #[.slice (some ad936) y939.length c0,.string ((rd_T89 l0 x7_1).f0)] (by rfl) rfl rfl (by (try simp only [List.map_toArray,List.map_cons,List.map_nil]); (rfl)) ?_
         with_reducible refine (impl_indexOf.calls _ _ y939 ((rd_T89 l0 x7_1).f0) t943 _ ?side1 ?side2 A9.out).mono ?_
         (case side1 => repeat ((exact (Kd.C_below HR942.out HB.out))))
         (case side2 => exact HC942.out)
         rintro e w17 ⟨rfl,hb⟩
         refine ⟨_,rfl,?_⟩
         have n0_:=Aside0.mk (blk_below (g:=gb937) (o:=.cells #[.string ((rd_T89 l0 x7_1).f0),.int .i64 ((rd_T89 l0 x7_1).f1),.int .i64 ((rd_T89 l0 x7_1).f2),.int .i64 ((rd_T89 l0 x7_1).f3),.int .i64 ((rd_T89 l0 x7_1).f4)] 89 (0,0)) (by exact BK937.out) hb)
         have n1_:=Aside0.mk (below_step (by repeat (((with_reducible (exact HB.out))))) hb)
         clear BK937
         clear HB
         have BK937:=n0_
         have HB:=n1_
         clear n0_ n1_
         (try clear hb)
         (try clear hb2)
         (try clear hk)
         (try clear hi)
         refine hK.out _ _ ⟨(blk_cell BK937.out 0).trans rfl,(blk_cell BK937.out 1).trans rfl,(blk_cell BK937.out 2).trans rfl,(blk_cell BK937.out 3).trans rfl,(blk_cell BK937.out 4).trans rfl⟩ (fun hHeld => ?_)
         clear hK K
         refine norm_ (a':=?_) ?_ ?_
         rotate_left
         ·show Act.put _ (some 21) _ = _
          simp only [Act.put,List.setIfInBounds_toArray,List.set_cons_zero,List.set_cons_succ,i64_w,i32_w]
          rfl
         refine pure_ (i:=10) (N:=some 22) (v:=?_) (a':=?_) (b79c 12 2047) rfl rfl (any_of HT_.out (by kernel_rfl)) (fun _ _ _ h => h) (Or.inl ⟨by rfl,?_⟩) ?_ ?_
         rotate_left
         ·intro w'
          go_simp
          with_reducible rfl
         rotate_left
         ·simp only [Act.put,List.setIfInBounds_toArray,List.set_cons_zero,List.set_cons_succ,i64_w,i32_w]
          rfl
         refine pure_ (i:=11) (N:=some 23) (v:=?_) (a':=?_) (b79c 12 4095) rfl rfl (any_of HT_.out (by kernel_rfl)) (fun _ _ _ h => h) (Or.inl ⟨by rfl,?_⟩) ?_ ?_
         rotate_left
         ·intro w'
          go_simp
          with_reducible rfl
         rotate_left
         ·simp only [Act.put,List.setIfInBounds_toArray,List.set_cons_zero,List.set_cons_succ,i64_w,i32_w]
          rfl
         refine done_ (done_of HT_.out (by kernel_rfl)) ?_
         try go_wp2
         go_ret
         exact ⟨by (rfl),by repeat (((with_reducible (exact HB.out))))⟩
        ·rw [if_neg c10] at H
         have c10b0 : decide (0 ≤ t943) = false:=decide_eq_false c10
         clear c10
         have H':=Aside0.mk H
         clear H
         have p936 : 0 ≤ (x7_1 : Int):=of_decide_eq_true (by (with_reducible assumption))
         have q936 : x7_1 < (l0.length : Int):=of_decide_eq_true (by (with_reducible assumption))
         obtain ⟨ad936,e936,hx936_0,hx936_1,hx936_2,hx936_3,hx936_4⟩:=at_T89 HR0.out x7_1 p936 q936
         cases e936
         replace hx936_0:=(HB.out.cell (World.block_lt_of_cell? w _ hx936_0)).trans hx936_0
         replace hx936_1:=(HB.out.cell (World.block_lt_of_cell? w _ hx936_1)).trans hx936_1
         replace hx936_2:=(HB.out.cell (World.block_lt_of_cell? w _ hx936_2)).trans hx936_2
         replace hx936_3:=(HB.out.cell (World.block_lt_of_cell? w _ hx936_3)).trans hx936_3
         replace hx936_4:=(HB.out.cell (World.block_lt_of_cell? w _ hx936_4)).trans hx936_4
         replace p936:=eq_true p936
         replace q936:=eq_true q936
         try go_wp2_with ((((with_reducible refine gate_dst (N:=4) rfl ?_); refine box_event ?hg (N:=4) ?hd (cs:=#[.string (⟨#[]⟩ : ByteArray),.int .i64 0,.int .i64 0,.int .i64 0,.int .i64 0]) (t:=89) ?hr ?_; (case hd => rfl); (case hg => rfl); (case hr => (go_simp; done)); intro gb937 hg w18 hbox hb; have n0_:=Aside0.mk (below_step (by repeat (((with_reducible (exact HB.out))))) hb); have n1_:=Aside0.mk (hbox); have n2_:=Aside0.mk ((by rw [hg]; exact (below_size (by repeat (((with_reducible (exact HB.out)))))) : w.heap.size ≤ gb937)); have n3_:=Aside0.mk ((by rw [hg]; exact (below_size (by repeat (((with_reducible (exact HB.out)))))) : w.heap.size ≤ gb937)); clear HB; have HB:=n0_; have BK937:=n1_; have GW937:=n2_; have GE937:=n3_; clear n0_ n1_ n2_ n3_; clear hb hbox hg; have hcz19_0 : w18.cell? ⟨gb937,0,none⟩ = some (.string (⟨#[]⟩ : ByteArray)):=(blk_cell BK937.out 0).trans rfl; have hcz19_1 : w18.cell? ⟨gb937,1,none⟩ = some (.int .i64 0):=(blk_cell BK937.out 1).trans rfl; have hcz19_2 : w18.cell? ⟨gb937,2,none⟩ = some (.int .i64 0):=(blk_cell BK937.out 2).trans rfl; have hcz19_3 : w18.cell? ⟨gb937,3,none⟩ = some (.int .i64 0):=(blk_cell BK937.out 3).trans rfl; have hcz19_4 : w18.cell? ⟨gb937,4,none⟩ = some (.int .i64 0):=(blk_cell BK937.out 4).trans rfl; have hfz19_0:=blk_frozen BK937.out 0; have hfz19_1:=blk_frozen BK937.out 1; have hfz19_2:=blk_frozen BK937.out 2; have hfz19_3:=blk_frozen BK937.out 3; have hfz19_4:=blk_frozen BK937.out 4)))
         have n0_ : Aside0 ((((((w18.setCell ⟨gb937,0,none⟩ (.string ((rd_T89 l0 x7_1).f0))).setCell ⟨gb937,1,none⟩ (.int .i64 ((rd_T89 l0 x7_1).f1))).setCell ⟨gb937,2,none⟩ (.int .i64 ((rd_T89 l0 x7_1).f2))).setCell ⟨gb937,3,none⟩ (.int .i64 ((rd_T89 l0 x7_1).f3))).setCell ⟨gb937,4,none⟩ (.int .i64 ((rd_T89 l0 x7_1).f4))).heap[gb937]? = some (.cells #[.string ((rd_T89 l0 x7_1).f0),.int .i64 ((rd_T89 l0 x7_1).f1),.int .i64 ((rd_T89 l0 x7_1).f2),.int .i64 ((rd_T89 l0 x7_1).f3),.int .i64 ((rd_T89 l0 x7_1).f4)] 89 (0,0))):=⟨by refine blk_put (cs:=#[.string ((rd_T89 l0 x7_1).f0),.int .i64 ((rd_T89 l0 x7_1).f1),.int .i64 ((rd_T89 l0 x7_1).f2),.int .i64 ((rd_T89 l0 x7_1).f3),.int .i64 0]) ?_ 4 _ rfl; refine blk_put (cs:=#[.string ((rd_T89 l0 x7_1).f0),.int .i64 ((rd_T89 l0 x7_1).f1),.int .i64 ((rd_T89 l0 x7_1).f2),.int .i64 0,.int .i64 0]) ?_ 3 _ rfl; refine blk_put (cs:=#[.string ((rd_T89 l0 x7_1).f0),.int .i64 ((rd_T89 l0 x7_1).f1),.int .i64 0,.int .i64 0,.int .i64 0]) ?_ 2 _ rfl; refine blk_put (cs:=#[.string ((rd_T89 l0 x7_1).f0),.int .i64 0,.int .i64 0,.int .i64 0,.int .i64 0]) ?_ 1 _ rfl; refine blk_put (cs:=#[.string (⟨#[]⟩ : ByteArray),.int .i64 0,.int .i64 0,.int .i64 0,.int .i64 0]) ?_ 0 _ rfl; exact BK937.out⟩
         have n1_ : Aside0 (Below w.heap.size w (((((w18.setCell ⟨gb937,0,none⟩ (.string ((rd_T89 l0 x7_1).f0))).setCell ⟨gb937,1,none⟩ (.int .i64 ((rd_T89 l0 x7_1).f1))).setCell ⟨gb937,2,none⟩ (.int .i64 ((rd_T89 l0 x7_1).f2))).setCell ⟨gb937,3,none⟩ (.int .i64 ((rd_T89 l0 x7_1).f3))).setCell ⟨gb937,4,none⟩ (.int .i64 ((rd_T89 l0 x7_1).f4)))):=⟨by repeat (with_reducible first|exact HB.out|refine below_set ?_ GE937.out)⟩
         (try clear BK937)
         (try clear HB)
         generalize (((((w18.setCell ⟨gb937,0,none⟩ (.string ((rd_T89 l0 x7_1).f0))).setCell ⟨gb937,1,none⟩ (.int .i64 ((rd_T89 l0 x7_1).f1))).setCell ⟨gb937,2,none⟩ (.int .i64 ((rd_T89 l0 x7_1).f2))).setCell ⟨gb937,3,none⟩ (.int .i64 ((rd_T89 l0 x7_1).f3))).setCell ⟨gb937,4,none⟩ (.int .i64 ((rd_T89 l0 x7_1).f4))) = w20 at n0_ n1_ ⊢
         have BK937:=n0_
         have HB:=n1_
         clear n0_ n1_
         have n0_:=Aside0.mk (blk_drew BK937.out)
         have n1_:=Aside0.mk (below_drew1 HB.out)
         clear BK937
         clear HB
         have BK937:=n0_
         have HB:=n1_
         clear n0_ n1_
         refine start_ (n:=12) (S:=fun w' => w'.cell? ⟨gb937,0,none⟩ = some (.string ((rd_T89 l0 x7_1).f0)) ∧ w'.cell? ⟨gb937,1,none⟩ = some (.int .i64 ((rd_T89 l0 x7_1).f1)) ∧ w'.cell? ⟨gb937,2,none⟩ = some (.int .i64 ((rd_T89 l0 x7_1).f2)) ∧ w'.cell? ⟨gb937,3,none⟩ = some (.int .i64 ((rd_T89 l0 x7_1).f3)) ∧ w'.cell? ⟨gb937,4,none⟩ = some (.int .i64 ((rd_T89 l0 x7_1).f4))) (ds:=[]) (b79c 12 0) (by kernel_rfl) rfl rfl ⟨(blk_cell BK937.out 0).trans rfl,(blk_cell BK937.out 1).trans rfl,(blk_cell BK937.out 2).trans rfl,(blk_cell BK937.out 3).trans rfl,(blk_cell BK937.out 4).trans rfl⟩ (fun hHeld => ?_); refine with_tabW impl_IsValidContainers.tab4 impl_IsValidContainers.bits4 (fun HT_ HW_ => ?_)
         generalize w20.drew = w21 at BK937 HB hHeld ⊢
         refine take_ (i:=0) (N:=some 12) (v:=?_) (a':=?_) (b79c 12 1) rfl rfl (take_ofW HT_.out HW_.out (by kernel_rfl)) (fun _ _ _ h => h) (Or.inl ⟨by rfl,?_⟩) hHeld ?_ ?_
         rotate_left
         ·rintro w' ⟨s0,s1,s2,s3,s4⟩
          go_simp
          with_reducible rfl
         rotate_left
         ·simp only [Act.put,List.setIfInBounds_toArray,List.set_cons_zero,List.set_cons_succ,i64_w,i32_w]
          rfl
         refine one_ (i:=1) (N:=some 13) (b79c 12 3) rfl rfl (one_of HT_.out (by kernel_rfl)) (by decide) (fun K hK => ?_)
         refine goes_ Try.func76 (by kernel_rfl) rfl #[.agg #[.string ((rd_T89 l0 x7_1).f0),.int .i64 ((rd_T89 l0 x7_1).f1),.int .i64 ((rd_T89 l0 x7_1).f2),.int .i64 ((rd_T89 l0 x7_1).f3),.int .i64 ((rd_T89 l0 x7_1).f4)]] (by rfl) rfl rfl (by (try simp only [List.map_toArray,List.map_cons,List.map_nil]); (rfl)) ?_
         with_reducible refine (impl_IsValidContainer.calls k1 ((rd_T89 l0 x7_1).f0) ((rd_T89 l0 x7_1).f1) ((rd_T89 l0 x7_1).f2) ((rd_T89 l0 x7_1).f3) ((rd_T89 l0 x7_1).f4) true _ A5.out).mono ?_
         rintro e w22 ⟨rfl,hb⟩
         refine ⟨_,rfl,?_⟩
         have n0_:=Aside0.mk (blk_below (g:=gb937) (o:=.cells #[.string ((rd_T89 l0 x7_1).f0),.int .i64 ((rd_T89 l0 x7_1).f1),.int .i64 ((rd_T89 l0 x7_1).f2),.int .i64 ((rd_T89 l0 x7_1).f3),.int .i64 ((rd_T89 l0 x7_1).f4)] 89 (0,0)) (by exact BK937.out) hb)
         have n1_:=Aside0.mk (below_step (by repeat (((with_reducible (exact HB.out))))) hb)
         clear BK937
         clear HB
         have BK937:=n0_
         have HB:=n1_
         clear n0_ n1_
         (try clear hb)
         (try clear hb2)
         (try clear hk)
         (try clear hi)
         have q23 : (x7_1 : Int) ≤ ((l0.length : Int) : Int):=of_decide_eq_true (by (with_reducible assumption))
         obtain ⟨i023,hi023,_,hsz23,_⟩:=info_parts info89
         have hroom23 : l0.length ≤ c0:=HC0.out
         have hC23 : Kd.C k89 _ (some ad936) l0.length l0:=HR0.out
         have hcut23:=cut_to (P:=Try.prog) 74 89 .i64 Try.underlying74 hi023 (some ad936) l0.length c0 x7_1 (of_decide_eq_true (by (with_reducible assumption))) q23 hroom23
         have hr23:=Kd.C_take (m:=(x7_1 : Int).toNat) hC23 (by omega)
         have hy23 : y939.length = (x7_1 : Int).toNat:=(by rw [Ny939.out,List.length_take]; omega)
         rw [← Ny939.out] at hr23
         rw [← hy23] at hcut23
         have HR942:=Aside0.mk hr23
         have HC942:=Aside0.mk (show y939.length ≤ c0 from by omega)
         clear hr23 hC23 hroom23 hi023 hsz23
         have KY23:=Aside0.mk hy23
         clear hy23
         replace q23:=eq_true q23
         refine hK.out _ _ ⟨(blk_cell BK937.out 0).trans rfl,(blk_cell BK937.out 1).trans rfl,(blk_cell BK937.out 2).trans rfl,(blk_cell BK937.out 3).trans rfl,(blk_cell BK937.out 4).trans rfl⟩ (fun hHeld => ?_)
         clear hK K
         refine norm_ (a':=?_) ?_ ?_
         rotate_left
         ·show Act.put _ (some 13) _ = _
          simp only [Act.put,List.setIfInBounds_toArray,List.set_cons_zero,List.set_cons_succ,i64_w,i32_w]
          rfl
         refine pure_ (i:=2) (N:=some 14) (v:=?_) (a':=?_) (b79c 12 7) rfl rfl (any_of HT_.out (by kernel_rfl)) (fun _ _ _ h => h) (Or.inl ⟨by rfl,?_⟩) ?_ ?_
         rotate_left
         ·intro w'
          go_simp
          with_reducible rfl
         rotate_left
         ·simp only [Act.put,List.setIfInBounds_toArray,List.set_cons_zero,List.set_cons_succ,i64_w,i32_w]
          rfl
         refine pure_ (i:=3) (N:=some 15) (v:=?_) (a':=?_) (b79c 12 15) rfl rfl (any_of HT_.out (by kernel_rfl)) (fun _ _ _ h => h) (Or.inl ⟨by rfl,?_⟩) ?_ ?_
         rotate_left
         ·intro w'
          go_simp
          with_reducible rfl
         rotate_left
         ·simp only [Act.put,List.setIfInBounds_toArray,List.set_cons_zero,List.set_cons_succ,i64_w,i32_w]
          rfl
         refine pure_ (i:=4) (N:=some 16) (v:=?_) (a':=?_) (b79c 12 31) rfl rfl (any_of HT_.out (by kernel_rfl)) (fun _ _ _ h => h) (Or.inl ⟨by rfl,?_⟩) ?_ ?_
         rotate_left
         ·intro w'
          go_simp
          with_reducible rfl
         rotate_left
         ·simp only [Act.put,List.setIfInBounds_toArray,List.set_cons_zero,List.set_cons_succ,i64_w,i32_w]
          rfl
         refine pure_ (i:=5) (N:=some 17) (v:=?_) (a':=?_) (b79c 12 63) rfl rfl (any_of HT_.out (by kernel_rfl)) (fun _ _ _ h => h) (Or.inl ⟨by rfl,?_⟩) ?_ ?_
         rotate_left
         ·intro w'
          go_simp
          with_reducible rfl
         rotate_left
         ·simp only [Act.put,List.setIfInBounds_toArray,List.set_cons_zero,List.set_cons_succ,i64_w,i32_w]
          rfl
         refine pure_ (i:=6) (N:=some 18) (v:=?_) (a':=?_) (b79c 12 127) rfl rfl (any_of HT_.out (by kernel_rfl)) (fun _ _ _ h => h) (Or.inl ⟨by rfl,?_⟩) ?_ ?_
         rotate_left
         ·intro w'
          go_simp
          with_reducible rfl
         rotate_left
         ·simp only [Act.put,List.setIfInBounds_toArray,List.set_cons_zero,List.set_cons_succ,i64_w,i32_w]
          rfl
         refine pure_ (i:=7) (N:=some 19) (v:=?_) (a':=?_) (b79c 12 255) rfl rfl (any_of HT_.out (by kernel_rfl)) (fun _ _ _ h => h) (Or.inl ⟨by rfl,?_⟩) ?_ ?_
         rotate_left
         ·intro w'
          go_simp
          with_reducible rfl
         rotate_left
         ·simp only [Act.put,List.setIfInBounds_toArray,List.set_cons_zero,List.set_cons_succ,i64_w,i32_w]
          rfl
         refine take_ (i:=8) (N:=some 20) (v:=?_) (a':=?_) (b79c 12 511) rfl rfl (take_ofW HT_.out HW_.out (by kernel_rfl)) (fun _ _ _ h => h) (Or.inl ⟨by rfl,?_⟩) hHeld ?_ ?_
         rotate_left
         ·rintro w' ⟨s0,s1,s2,s3,s4⟩
          go_simp
          with_reducible rfl
         rotate_left
         ·simp only [Act.put,List.setIfInBounds_toArray,List.set_cons_zero,List.set_cons_succ,i64_w,i32_w]
          rfl
         refine one_ (i:=9) (N:=some 21) (b79c 12 1023) rfl rfl (one_of HT_.out (by kernel_rfl)) (by decide) (fun K hK => ?_)
         refine goes_ Try.func148 (by kernel_rfl) rfl #[.slice (some ad936) y939.length c0,.string ((rd_T89 l0 x7_1).f0)] (by rfl) rfl rfl (by (try simp only [List.map_toArray,List.map_cons,List.map_nil]); (rfl)) ?_
         with_reducible refine (impl_indexOf.calls _ _ y939 ((rd_T89 l0 x7_1).f0) t943 _ ?side1 ?side2 A9.out).mono ?_
         (case side1 => repeat ((exact (Kd.C_below HR942.out HB.out))))
         (case side2 => exact HC942.out)
         rintro e w24 ⟨rfl,hb⟩
         refine ⟨_,rfl,?_⟩
         have n0_:=Aside0.mk (blk_below (g:=gb937) (o:=.cells #[.string ((rd_T89 l0 x7_1).f0),.int .i64 ((rd_T89 l0 x7_1).f1),.int .i64 ((rd_T89 l0 x7_1).f2),.int .i64 ((rd_T89 l0 x7_1).f3),.int .i64 ((rd_T89 l0 x7_1).f4)] 89 (0,0)) (by exact BK937.out) hb)
         have n1_:=Aside0.mk (below_step (by repeat (((with_reducible (exact HB.out))))) hb)
         clear BK937
         clear HB
         have BK937:=n0_
         have HB:=n1_
         clear n0_ n1_
         (try clear hb)
         (try clear hb2)
         (try clear hk)
         (try clear hi)
         refine hK.out _ _ ⟨(blk_cell BK937.out 0).trans rfl,(blk_cell BK937.out 1).trans rfl,(blk_cell BK937.out 2).trans rfl,(blk_cell BK937.out 3).trans rfl,(blk_cell BK937.out 4).trans rfl⟩ (fun hHeld => ?_)
         clear hK K
         refine norm_ (a':=?_) ?_ ?_
         rotate_left
         ·show Act.put _ (some 21) _ = _
          simp only [Act.put,List.setIfInBounds_toArray,List.set_cons_zero,List.set_cons_succ,i64_w,i32_w]
          rfl
         refine pure_ (i:=10) (N:=some 22) (v:=?_) (a':=?_) (b79c 12 2047) rfl rfl (any_of HT_.out (by kernel_rfl)) (fun _ _ _ h => h) (Or.inl ⟨by rfl,?_⟩) ?_ ?_
         rotate_left
         ·intro w'
          go_simp
          with_reducible rfl
         rotate_left
         ·simp only [Act.put,List.setIfInBounds_toArray,List.set_cons_zero,List.set_cons_succ,i64_w,i32_w]
          rfl
         refine pure_ (i:=11) (N:=some 23) (v:=?_) (a':=?_) (b79c 12 4095) rfl rfl (any_of HT_.out (by kernel_rfl)) (fun _ _ _ h => h) (Or.inl ⟨by rfl,?_⟩) ?_ ?_
         rotate_left
         ·intro w'
          go_simp
          with_reducible rfl
         rotate_left
         ·simp only [Act.put,List.setIfInBounds_toArray,List.set_cons_zero,List.set_cons_succ,i64_w,i32_w]
          rfl
         refine done_ (done_of HT_.out (by kernel_rfl)) ?_
         try go_wp2
         go_roundg k1
         case measure => have:=HK1.out; omega
         case rel => exact ⟨(wrap64 (x7_1 + 1)),(by (rfl)),H',⟨by have:=HK1.out; omega⟩,⟨by repeat (((with_reducible (exact HB.out))))⟩⟩
       ·rw [if_neg c8] at H
        exact absurd H (by simp)
      ·replace c6:=Bool.eq_false_iff.mpr c6
       subst c6
       have H1 : (some false) = some r:=by rw [if_neg (show ¬ (false = true) by decide)] at H; exact H
       clear H
       have H:=H1
       clear H1
       obtain rfl:=Option.some.inj H
       have p936 : 0 ≤ (x7_1 : Int):=of_decide_eq_true (by (with_reducible assumption))
       have q936 : x7_1 < (l0.length : Int):=of_decide_eq_true (by (with_reducible assumption))
       obtain ⟨ad936,e936,hx936_0,hx936_1,hx936_2,hx936_3,hx936_4⟩:=at_T89 HR0.out x7_1 p936 q936
       cases e936
       replace hx936_0:=(HB.out.cell (World.block_lt_of_cell? w _ hx936_0)).trans hx936_0
       replace hx936_1:=(HB.out.cell (World.block_lt_of_cell? w _ hx936_1)).trans hx936_1
       replace hx936_2:=(HB.out.cell (World.block_lt_of_cell? w _ hx936_2)).trans hx936_2
       replace hx936_3:=(HB.out.cell (World.block_lt_of_cell? w _ hx936_3)).trans hx936_3
       replace hx936_4:=(HB.out.cell (World.block_lt_of_cell? w _ hx936_4)).trans hx936_4
       replace p936:=eq_true p936
       replace q936:=eq_true q936
       try go_wp2_with ((((with_reducible refine gate_dst (N:=4) rfl ?_); refine box_event ?hg (N:=4) ?hd (cs:=#[.string (⟨#[]⟩ : ByteArray),.int .i64 0,.int .i64 0,.int .i64 0,.int .i64 0]) (t:=89) ?hr ?_; (case hd => rfl); (case hg => rfl); (case hr => (go_simp; done)); intro gb937 hg w25 hbox hb; have n0_:=Aside0.mk (below_step (by repeat (((with_reducible (exact HB.out))))) hb); have n1_:=Aside0.mk (hbox); have n2_:=Aside0.mk ((by rw [hg]; exact (below_size (by repeat (((with_reducible (exact HB.out)))))) : w.heap.size ≤ gb937)); have n3_:=Aside0.mk ((by rw [hg]; exact (below_size (by repeat (((with_reducible (exact HB.out)))))) : w.heap.size ≤ gb937)); clear HB; have HB:=n0_; have BK937:=n1_; have GW937:=n2_; have GE937:=n3_; clear n0_ n1_ n2_ n3_; clear hb hbox hg; have hcz26_0 : w25.cell? ⟨gb937,0,none⟩ = some (.string (⟨#[]⟩ : ByteArray)):=(blk_cell BK937.out 0).trans rfl; have hcz26_1 : w25.cell? ⟨gb937,1,none⟩ = some (.int .i64 0):=(blk_cell BK937.out 1).trans rfl; have hcz26_2 : w25.cell? ⟨gb937,2,none⟩ = some (.int .i64 0):=(blk_cell BK937.out 2).trans rfl; have hcz26_3 : w25.cell? ⟨gb937,3,none⟩ = some (.int .i64 0):=(blk_cell BK937.out 3).trans rfl; have hcz26_4 : w25.cell? ⟨gb937,4,none⟩ = some (.int .i64 0):=(blk_cell BK937.out 4).trans rfl; have hfz26_0:=blk_frozen BK937.out 0; have hfz26_1:=blk_frozen BK937.out 1; have hfz26_2:=blk_frozen BK937.out 2; have hfz26_3:=blk_frozen BK937.out 3; have hfz26_4:=blk_frozen BK937.out 4)))
       have n0_ : Aside0 ((((((w25.setCell ⟨gb937,0,none⟩ (.string ((rd_T89 l0 x7_1).f0))).setCell ⟨gb937,1,none⟩ (.int .i64 ((rd_T89 l0 x7_1).f1))).setCell ⟨gb937,2,none⟩ (.int .i64 ((rd_T89 l0 x7_1).f2))).setCell ⟨gb937,3,none⟩ (.int .i64 ((rd_T89 l0 x7_1).f3))).setCell ⟨gb937,4,none⟩ (.int .i64 ((rd_T89 l0 x7_1).f4))).heap[gb937]? = some (.cells #[.string ((rd_T89 l0 x7_1).f0),.int .i64 ((rd_T89 l0 x7_1).f1),.int .i64 ((rd_T89 l0 x7_1).f2),.int .i64 ((rd_T89 l0 x7_1).f3),.int .i64 ((rd_T89 l0 x7_1).f4)] 89 (0,0))):=⟨by refine blk_put (cs:=#[.string ((rd_T89 l0 x7_1).f0),.int .i64 ((rd_T89 l0 x7_1).f1),.int .i64 ((rd_T89 l0 x7_1).f2),.int .i64 ((rd_T89 l0 x7_1).f3),.int .i64 0]) ?_ 4 _ rfl; refine blk_put (cs:=#[.string ((rd_T89 l0 x7_1).f0),.int .i64 ((rd_T89 l0 x7_1).f1),.int .i64 ((rd_T89 l0 x7_1).f2),.int .i64 0,.int .i64 0]) ?_ 3 _ rfl; refine blk_put (cs:=#[.string ((rd_T89 l0 x7_1).f0),.int .i64 ((rd_T89 l0 x7_1).f1),.int .i64 0,.int .i64 0,.int .i64 0]) ?_ 2 _ rfl; refine blk_put (cs:=#[.string ((rd_T89 l0 x7_1).f0),.int .i64 0,.int .i64 0,.int .i64 0,.int .i64 0]) ?_ 1 _ rfl; refine blk_put (cs:=#[.string (⟨#[]⟩ : ByteArray),.int .i64 0,.int .i64 0,.int .i64 0,.int .i64 0]) ?_ 0 _ rfl; exact BK937.out⟩
       have n1_ : Aside0 (Below w.heap.size w (((((w25.setCell ⟨gb937,0,none⟩ (.string ((rd_T89 l0 x7_1).f0))).setCell ⟨gb937,1,none⟩ (.int .i64 ((rd_T89 l0 x7_1).f1))).setCell ⟨gb937,2,none⟩ (.int .i64 ((rd_T89 l0 x7_1).f2))).setCell ⟨gb937,3,none⟩ (.int .i64 ((rd_T89 l0 x7_1).f3))).setCell ⟨gb937,4,none⟩ (.int .i64 ((rd_T89 l0 x7_1).f4)))):=⟨by repeat (with_reducible first|exact HB.out|refine below_set ?_ GE937.out)⟩
       (try clear BK937)
       (try clear HB)
       generalize (((((w25.setCell ⟨gb937,0,none⟩ (.string ((rd_T89 l0 x7_1).f0))).setCell ⟨gb937,1,none⟩ (.int .i64 ((rd_T89 l0 x7_1).f1))).setCell ⟨gb937,2,none⟩ (.int .i64 ((rd_T89 l0 x7_1).f2))).setCell ⟨gb937,3,none⟩ (.int .i64 ((rd_T89 l0 x7_1).f3))).setCell ⟨gb937,4,none⟩ (.int .i64 ((rd_T89 l0 x7_1).f4))) = w27 at n0_ n1_ ⊢
       have BK937:=n0_
       have HB:=n1_
       clear n0_ n1_
       have n0_:=Aside0.mk (blk_drew BK937.out)
       have n1_:=Aside0.mk (below_drew1 HB.out)
       clear BK937
       clear HB
       have BK937:=n0_
       have HB:=n1_
       clear n0_ n1_
       refine start_ (n:=12) (S:=fun w' => w'.cell? ⟨gb937,0,none⟩ = some (.string ((rd_T89 l0 x7_1).f0)) ∧ w'.cell? ⟨gb937,1,none⟩ = some (.int .i64 ((rd_T89 l0 x7_1).f1)) ∧ w'.cell? ⟨gb937,2,none⟩ = some (.int .i64 ((rd_T89 l0 x7_1).f2)) ∧ w'.cell? ⟨gb937,3,none⟩ = some (.int .i64 ((rd_T89 l0 x7_1).f3)) ∧ w'.cell? ⟨gb937,4,none⟩ = some (.int .i64 ((rd_T89 l0 x7_1).f4))) (ds:=[]) (b79c 12 0) (by kernel_rfl) rfl rfl ⟨(blk_cell BK937.out 0).trans rfl,(blk_cell BK937.out 1).trans rfl,(blk_cell BK937.out 2).trans rfl,(blk_cell BK937.out 3).trans rfl,(blk_cell BK937.out 4).trans rfl⟩ (fun hHeld => ?_); refine with_tabW impl_IsValidContainers.tab4 impl_IsValidContainers.bits4 (fun HT_ HW_ => ?_)
       generalize w27.drew = w28 at BK937 HB hHeld ⊢
       refine take_ (i:=0) (N:=some 12) (v:=?_) (a':=?_) (b79c 12 1) rfl rfl (take_ofW HT_.out HW_.out (by kernel_rfl)) (fun _ _ _ h => h) (Or.inl ⟨by rfl,?_⟩) hHeld ?_ ?_
       rotate_left
       ·rintro w' ⟨s0,s1,s2,s3,s4⟩
        go_simp
        with_reducible rfl
       rotate_left
       ·simp only [Act.put,List.setIfInBounds_toArray,List.set_cons_zero,List.set_cons_succ,i64_w,i32_w]
        rfl
       refine one_ (i:=1) (N:=some 13) (b79c 12 3) rfl rfl (one_of HT_.out (by kernel_rfl)) (by decide) (fun K hK => ?_)
       refine goes_ Try.func76 (by kernel_rfl) rfl #[.agg #[.string ((rd_T89 l0 x7_1).f0),.int .i64 ((rd_T89 l0 x7_1).f1),.int .i64 ((rd_T89 l0 x7_1).f2),.int .i64 ((rd_T89 l0 x7_1).f3),.int .i64 ((rd_T89 l0 x7_1).f4)]] (by rfl) rfl rfl (by (try simp only [List.map_toArray,List.map_cons,List.map_nil]); (rfl)) ?_
       with_reducible refine (impl_IsValidContainer.calls k1 ((rd_T89 l0 x7_1).f0) ((rd_T89 l0 x7_1).f1) ((rd_T89 l0 x7_1).f2) ((rd_T89 l0 x7_1).f3) ((rd_T89 l0 x7_1).f4) false _ A5.out).mono ?_
       rintro e w29 ⟨rfl,hb⟩
       refine ⟨_,rfl,?_⟩
       have n0_:=Aside0.mk (blk_below (g:=gb937) (o:=.cells #[.string ((rd_T89 l0 x7_1).f0),.int .i64 ((rd_T89 l0 x7_1).f1),.int .i64 ((rd_T89 l0 x7_1).f2),.int .i64 ((rd_T89 l0 x7_1).f3),.int .i64 ((rd_T89 l0 x7_1).f4)] 89 (0,0)) (by exact BK937.out) hb)
       have n1_:=Aside0.mk (below_step (by repeat (((with_reducible (exact HB.out))))) hb)
       clear BK937
       clear HB
       have BK937:=n0_
       have HB:=n1_
       clear n0_ n1_
       (try clear hb)
       (try clear hb2)
       (try clear hk)
       (try clear hi)
       refine hK.out _ _ ⟨(blk_cell BK937.out 0).trans rfl,(blk_cell BK937.out 1).trans rfl,(blk_cell BK937.out 2).trans rfl,(blk_cell BK937.out 3).trans rfl,(blk_cell BK937.out 4).trans rfl⟩ (fun hHeld => ?_)
       clear hK K
       refine norm_ (a':=?_) ?_ ?_
       rotate_left
       ·show Act.put _ (some 13) _ = _
        simp only [Act.put,List.setIfInBounds_toArray,List.set_cons_zero,List.set_cons_succ,i64_w,i32_w]
        rfl
       refine pure_ (i:=2) (N:=some 14) (v:=?_) (a':=?_) (b79c 12 7) rfl rfl (any_of HT_.out (by kernel_rfl)) (fun _ _ _ h => h) (Or.inl ⟨by rfl,?_⟩) ?_ ?_
       rotate_left
       ·intro w'
        go_simp
        with_reducible rfl
       rotate_left
       ·simp only [Act.put,List.setIfInBounds_toArray,List.set_cons_zero,List.set_cons_succ,i64_w,i32_w]
        rfl
       refine pure_ (i:=3) (N:=some 15) (v:=?_) (a':=?_) (b79c 12 15) rfl rfl (any_of HT_.out (by kernel_rfl)) (fun _ _ _ h => h) (Or.inl ⟨by rfl,?_⟩) ?_ ?_
       rotate_left
       ·intro w'
        go_simp
        with_reducible rfl
       rotate_left
       ·simp only [Act.put,List.setIfInBounds_toArray,List.set_cons_zero,List.set_cons_succ,i64_w,i32_w]
        rfl
       refine pure_ (i:=4) (N:=some 16) (v:=undef) (a':=?_) (b79c 12 31) rfl rfl (any_of HT_.out (by kernel_rfl)) (fun _ _ _ h => h) (Or.inr ⟨by rfl,rfl⟩) ?_ ?_
       rotate_left
       ·simp only [Act.put,List.setIfInBounds_toArray,List.set_cons_zero,List.set_cons_succ,i64_w,i32_w]
        rfl
       refine pure_ (i:=5) (N:=some 17) (v:=undef) (a':=?_) (b79c 12 63) rfl rfl (any_of HT_.out (by kernel_rfl)) (fun _ _ _ h => h) (Or.inr ⟨by rfl,rfl⟩) ?_ ?_
       rotate_left
       ·simp only [Act.put,List.setIfInBounds_toArray,List.set_cons_zero,List.set_cons_succ,i64_w,i32_w]
        rfl
       refine pure_ (i:=6) (N:=some 18) (v:=undef) (a':=?_) (b79c 12 127) rfl rfl (any_of HT_.out (by kernel_rfl)) (fun _ _ _ h => h) (Or.inr ⟨by rfl,rfl⟩) ?_ ?_
       rotate_left
       ·simp only [Act.put,List.setIfInBounds_toArray,List.set_cons_zero,List.set_cons_succ,i64_w,i32_w]
        rfl
       refine pure_ (i:=7) (N:=some 19) (v:=undef) (a':=?_) (b79c 12 255) rfl rfl (any_of HT_.out (by kernel_rfl)) (fun _ _ _ h => h) (Or.inr ⟨by rfl,rfl⟩) ?_ ?_
       rotate_left
       ·simp only [Act.put,List.setIfInBounds_toArray,List.set_cons_zero,List.set_cons_succ,i64_w,i32_w]
        rfl
       refine pure_ (i:=8) (N:=some 20) (v:=undef) (a':=?_) (b79c 12 511) rfl rfl (any_of HT_.out (by kernel_rfl)) (fun _ _ _ h => h) (Or.inr ⟨by rfl,rfl⟩) ?_ ?_
       rotate_left
       ·simp only [Act.put,List.setIfInBounds_toArray,List.set_cons_zero,List.set_cons_succ,i64_w,i32_w]
        rfl
       refine pure_ (i:=9) (N:=some 21) (v:=undef) (a':=?_) (b79c 12 1023) rfl rfl (any_of HT_.out (by kernel_rfl)) (fun _ _ _ h => h) (Or.inr ⟨by rfl,rfl⟩) ?_ ?_
       rotate_left
       ·simp only [Act.put,List.setIfInBounds_toArray,List.set_cons_zero,List.set_cons_succ,i64_w,i32_w]
        rfl
       refine pure_ (i:=10) (N:=some 22) (v:=undef) (a':=?_) (b79c 12 2047) rfl rfl (any_of HT_.out (by kernel_rfl)) (fun _ _ _ h => h) (Or.inr ⟨by rfl,rfl⟩) ?_ ?_
       rotate_left
       ·simp only [Act.put,List.setIfInBounds_toArray,List.set_cons_zero,List.set_cons_succ,i64_w,i32_w]
        rfl
       refine pure_ (i:=11) (N:=some 23) (v:=?_) (a':=?_) (b79c 12 4095) rfl rfl (any_of HT_.out (by kernel_rfl)) (fun _ _ _ h => h) (Or.inl ⟨by rfl,?_⟩) ?_ ?_
       rotate_left
       ·intro w'
        go_simp
        with_reducible rfl
       rotate_left
       ·simp only [Act.put,List.setIfInBounds_toArray,List.set_cons_zero,List.set_cons_succ,i64_w,i32_w]
        rfl
       refine done_ (done_of HT_.out (by kernel_rfl)) ?_
       try go_wp2
       go_ret
       exact ⟨by (rfl),by repeat (((with_reducible (exact HB.out))))⟩
     ·rw [if_neg c4] at H
      exact absurd H (by simp)
    ·rw [if_neg c3] at H
     exact absurd H (by simp)
   ·rw [if_neg c2] at H
    have c2b0 : decide (x7_1 < (l0.length : Int)) = false:=decide_eq_false c2
    clear c2
    obtain rfl:=Option.some.inj H
    go_wp2
    go_ret
    exact ⟨by (rfl),by repeat (((with_reducible (exact HB.out))))⟩

end Go.Proofs.Ytlldonokjgoajaa.X
