-- Written by a program of ours (wip/bin/xprint.py,over the kit's print.py) out of the translation. Not trusted: Lean checks it.
import Derived.Test.YtlldonokjgoajaaX0
import Derived.Test.YtlldonokjgoajaaFbYard
import Derived.Test.YtlldonokjgoajaaFslicesReverseintint
import Derived.Test.YtlldonokjgoajaaGClone
import Derived.Test.YtlldonokjgoajaaGIsValidYard
namespace Go.Proofs.Ytlldonokjgoajaa.X
open Go.RowKit Go.Proofs.YtlldonokjgoajaaW.PrintWords Go.Proofs.YtlldonokjgoajaaW.PrintLast Go.Proofs.YtlldonokjgoajaaW.PrintMore
attribute [local go_sem] max2_int min2_int max_two min_two max_three min_three max_four min_four   -- for this text's walks alone
set_option linter.unusedVariables false
set_option linter.unusedSimpArgs false

/-! ### impl_BlockersOf: function 45 -/
def impl_BlockersOf.j0 : Nat → Int → Int → Bool → List (List Int) → Option (List Int × Bool)
 | 0,_,_,_,_ => none
 | k + 1,x6,x7,x21,x717000 => if x21 = true then (some (([] : List Int),false)) else (if 0 ≤ x6 then (if x6 < (x717000.length : Int) then (if 0 ≤ (wrap64 (x7 + 1)) then (if (wrap64 (x7 + 1)) ≤ ((rd_L2 x717000 x6).length : Int) then ((slices_Clone_int_int.f ((rd_L2 x717000 x6).drop ((wrap64 (x7 + 1)) : Int).toNat)).bind fun t722 => ((slices_Reverse_int_int.f k t722).bind fun t725 => (some (t725,true)))) else (none)) else (none)) else (none)) else (none))
def impl_BlockersOf.f (k : Nat) (l0_0 : List (List Int)) (a1 : Int) : Option (List Int × Bool):=(impl_placeOf.f k l0_0 a1).bind fun bt717 => ((impl_IsValidYard.f l0_0).bind fun t719 => (if t719 = true then (impl_BlockersOf.j0 k bt717.1 bt717.2 (decide (bt717.1 < 0)) l0_0) else (impl_BlockersOf.j0 k bt717.1 bt717.2 true l0_0)))
theorem impl_BlockersOf.mono_l : ∀ k,(∀ y0 y1 y2 y3,LeO (impl_BlockersOf.j0 k y0 y1 y2 y3) (impl_BlockersOf.j0 (k + 1) y0 y1 y2 y3))
 | 0 => fun _ _ _ _ r h => by simp [impl_BlockersOf.j0] at h
 | k + 1 => by
  have ih0:=impl_BlockersOf.mono_l k
  ·intro y0 y1 y2 y3
   unfold impl_BlockersOf.j0
   repeat' first
   | (with_reducible exact ih0 _ _ _ _)
   | (with_reducible exact impl_placeOf.mono _ _ _)
   | (with_reducible exact slices_Reverse_int_int.mono _ _)
   | (with_reducible exact LeO.refl _)
   | (with_reducible exact LeO.none _)
   | (with_reducible refine LeO.ite ?_ ?_)
   | (with_reducible refine LeO.bind ?_ (fun _ => ?_))
   | exact ih0 _ _ _ _
   | exact impl_placeOf.mono _ _ _
   | exact slices_Reverse_int_int.mono _ _
   | exact LeO.none _
   | refine LeO.ite ?_ ?_
   | refine LeO.bind ?_ (fun _ => ?_)
theorem impl_BlockersOf.mono : ∀ a0 a1 k,LeO (impl_BlockersOf.f k a0 a1) (impl_BlockersOf.f (k + 1) a0 a1):=by
 intro a0 a1 k
 have ih0:=impl_BlockersOf.mono_l k
 unfold impl_BlockersOf.f
 repeat' first
   | (with_reducible exact ih0 _ _ _ _)
   | (with_reducible exact impl_placeOf.mono _ _ _)
   | (with_reducible exact slices_Reverse_int_int.mono _ _)
   | (with_reducible exact LeO.refl _)
   | (with_reducible exact LeO.none _)
   | (with_reducible refine LeO.ite ?_ ?_)
   | (with_reducible refine LeO.bind ?_ (fun _ => ?_))
   | exact ih0 _ _ _ _
   | exact impl_placeOf.mono _ _ _
   | exact slices_Reverse_int_int.mono _ _
   | exact LeO.none _
   | refine LeO.ite ?_ ?_
   | refine LeO.bind ?_ (fun _ => ?_)
set_option maxHeartbeats 8000000 in
set_option maxRecDepth 100000 in
theorem impl_BlockersOf.calls (k : Nat) (A0_0 : Option Addr) (c0_0 : Nat) (l0_0 : List (List Int)) (a1 : Int) (r1 : List Int) (r2 : Bool) (w : World) (hr0_0 : Kd.C (Kd.slice 3 (Kd.int .i64)) w A0_0 l0_0.length l0_0) (hc0_0 : l0_0.length ≤ c0_0) (h : impl_BlockersOf.f k l0_0 a1 = some (r1,r2)) :
  Calls Try.prog 45 #[.agg #[.slice A0_0 l0_0.length c0_0],.int .i64 a1] w fun e w' => ∃ v0_ : Value,e = .returned (.tuple #[v0_,.bool r2]) ∧ Kd.R (Kd.int .i64) 3 w' w.heap.size (fun _ => True) v0_ r1 ∧ Below w.heap.size w w':=by
 have hu42:=Try.underlying42
 have HR0_0:=Aside0.mk hr0_0
 have HC0_0:=Aside0.mk hc0_0
 clear hr0_0 hc0_0
 have HB:=Aside0.mk (Below.refl w.heap.size w)
 have H : ((impl_placeOf.f k l0_0 a1).bind fun bt717 => ((impl_IsValidYard.f l0_0).bind fun t719 => (if t719 = true then (impl_BlockersOf.j0 k bt717.1 bt717.2 (decide (bt717.1 < 0)) l0_0) else (impl_BlockersOf.j0 k bt717.1 bt717.2 true l0_0)))) = some (r1,r2):=h
 clear h
 replace H:=Option.bind_eq_some_iff.mp H
 obtain ⟨⟨t717,t718⟩,A30,H⟩:=H
 replace H : ((impl_IsValidYard.f l0_0).bind fun t719 => (if t719 = true then (impl_BlockersOf.j0 k t717 t718 (decide (t717 < 0)) l0_0) else (impl_BlockersOf.j0 k t717 t718 true l0_0))) = some (r1,r2):=H
 have A3:=Aside0.mk A30
 clear A30
 have HC4:=Aside0.mk H
 clear H
 go_enter Try.func45,Try.ntmps45
 go_upto_region 2 with (first|((with_reducible refine gate_dst (N:=2) rfl ?_); refine box_event ?hg (N:=2) ?hd (cs:=#[.slice A0_0 l0_0.length c0_0]) (t:=42) ?hr ?_; (case hd => rfl); (case hg => rfl); (case hr => (go_simp; done)); intro gb716 hg w5 hbox hb; have n0_:=Aside0.mk (below_step (by repeat (((with_reducible (exact HB.out))))) hb); have n1_:=Aside0.mk (hbox); have n2_:=Aside0.mk ((by rw [hg]; exact (below_size (by repeat (((with_reducible (exact HB.out)))))) : w.heap.size ≤ gb716)); have n3_:=Aside0.mk ((by rw [hg]; exact (below_size (by repeat (((with_reducible (exact HB.out)))))) : w.heap.size ≤ gb716)); clear HB; have HB:=n0_; have BK716:=n1_; have GW716:=n2_; have GE716:=n3_; clear n0_ n1_ n2_ n3_; clear hb hbox hg; have hcz6_0 : w5.cell? ⟨gb716,0,none⟩ = some (.slice A0_0 l0_0.length c0_0):=(blk_cell BK716.out 0).trans rfl; have hfz6_0:=blk_frozen BK716.out 0)|((with_reducible refine gate_callee (f:=120) rfl ?_); refine goesL_ (some 12) rfl rfl Try.func120 (by kernel_rfl) rfl #[.agg #[.slice A0_0 l0_0.length c0_0],.int .i64 a1] rfl (by (try simp only [List.map_toArray,List.map_cons,List.map_nil]); (rfl)) ?_; (with_reducible refine (impl_placeOf.calls k _ _ l0_0 a1 t717 t718 _ ?side1 ?side2 A3.out).mono ?_); (case side1 => repeat ((exact (Kd.C_below HR0_0.out HB.out)))); (case side2 => exact HC0_0.out); rintro e w7 ⟨rfl,hb⟩; refine ⟨_,rfl,?_⟩; have n0_:=Aside0.mk (blk_below (g:=gb716) (o:=.cells #[.slice A0_0 l0_0.length c0_0] 42 (0,0)) (by exact BK716.out) hb); have n1_:=Aside0.mk (below_step (by repeat (((with_reducible (exact HB.out))))) hb); clear BK716; clear HB; have BK716:=n0_; have HB:=n1_; clear n0_ n1_; (try clear hb); (try clear hb2); (try clear hk); (try clear hi)))
 (try simp only [Act.put,List.setIfInBounds_toArray,List.set_cons_zero,List.set_cons_succ])
 go_cut [21] (fun v21 wc => ∃ (kq : Nat) (x21_3 : Bool),v21 = .bool x21_3 ∧ Aside0 (impl_BlockersOf.j0 kq t717 t718 x21_3 l0_0 = some (r1,r2)) ∧ Aside0 (kq ≤ k) ∧ Aside0 (wc.heap[gb716]? = some (.cells #[(.slice A0_0 l0_0.length c0_0)] 42 (0,0))) ∧ Aside0 (Below w.heap.size w wc))
 case first =>
  have H:=HC4.out
  clear HC4
  replace H:=Option.bind_eq_some_iff.mp H
  obtain ⟨t719,A80,H⟩:=H
  replace H : (if t719 = true then (impl_BlockersOf.j0 k t717 t718 (decide (t717 < 0)) l0_0) else (impl_BlockersOf.j0 k t717 t718 true l0_0)) = some (r1,r2):=H
  have A8:=Aside0.mk A80
  clear A80
  by_cases c9 : t719 = true
  ·subst c9
   have H1 : (impl_BlockersOf.j0 k t717 t718 (decide (t717 < 0)) l0_0) = some (r1,r2):=by rw [if_pos rfl] at H; exact H
   clear H
   have H:=H1
   clear H1
   have H':=Aside0.mk H
   clear H
   have hcz10_0 : w7.cell? ⟨gb716,0,none⟩ = some (.slice A0_0 l0_0.length c0_0):=(blk_cell BK716.out 0).trans rfl
   have hfz10_0:=blk_frozen BK716.out 0
   go_wp2_with ((((with_reducible refine gate_callee (f:=40) rfl ?_); refine goesL_ (some 16) rfl rfl Try.func40 (by kernel_rfl) rfl #[.agg #[.slice A0_0 l0_0.length c0_0]] rfl (by (try simp only [List.map_toArray,List.map_cons,List.map_nil]); (rfl)) ?_; (with_reducible refine (impl_IsValidYard.calls _ _ l0_0 true _ ?side1 ?side2 A8.out).mono ?_); (case side1 => repeat ((exact (Kd.C_below HR0_0.out HB.out)))); (case side2 => exact HC0_0.out); rintro e w11 ⟨rfl,hb⟩; refine ⟨_,rfl,?_⟩; have n0_:=Aside0.mk (blk_below (g:=gb716) (o:=.cells #[.slice A0_0 l0_0.length c0_0] 42 (0,0)) (by exact BK716.out) hb); have n1_:=Aside0.mk (below_step (by repeat (((with_reducible (exact HB.out))))) hb); clear BK716; clear HB; have BK716:=n0_; have HB:=n1_; clear n0_ n1_; (try clear hb); (try clear hb2); (try clear hk); (try clear hi))))
   go_meet
   case rel => exact ⟨_,(decide (t717 < 0)),(by (rfl)),H',⟨by (omega)⟩,⟨by exact BK716.out⟩,⟨by repeat (((with_reducible (exact HB.out))))⟩⟩
  ·replace c9:=Bool.eq_false_iff.mpr c9
   subst c9
   have H1 : (impl_BlockersOf.j0 k t717 t718 true l0_0) = some (r1,r2):=by rw [if_neg (show ¬ (false = true) by decide)] at H; exact H
   clear H
   have H:=H1
   clear H1
   have H':=Aside0.mk H
   clear H
   have hcz12_0 : w7.cell? ⟨gb716,0,none⟩ = some (.slice A0_0 l0_0.length c0_0):=(blk_cell BK716.out 0).trans rfl
   have hfz12_0:=blk_frozen BK716.out 0
   go_wp2_with ((((with_reducible refine gate_callee (f:=40) rfl ?_); refine goesL_ (some 16) rfl rfl Try.func40 (by kernel_rfl) rfl #[.agg #[.slice A0_0 l0_0.length c0_0]] rfl (by (try simp only [List.map_toArray,List.map_cons,List.map_nil]); (rfl)) ?_; (with_reducible refine (impl_IsValidYard.calls _ _ l0_0 false _ ?side1 ?side2 A8.out).mono ?_); (case side1 => repeat ((exact (Kd.C_below HR0_0.out HB.out)))); (case side2 => exact HC0_0.out); rintro e w13 ⟨rfl,hb⟩; refine ⟨_,rfl,?_⟩; have n0_:=Aside0.mk (blk_below (g:=gb716) (o:=.cells #[.slice A0_0 l0_0.length c0_0] 42 (0,0)) (by exact BK716.out) hb); have n1_:=Aside0.mk (below_step (by repeat (((with_reducible (exact HB.out))))) hb); clear BK716; clear HB; have BK716:=n0_; have HB:=n1_; clear n0_ n1_; (try clear hb); (try clear hb2); (try clear hk); (try clear hi))))
   go_meet
   case rel => exact ⟨_,(true),(by (rfl)),H',⟨by (omega)⟩,⟨by exact BK716.out⟩,⟨by repeat (((with_reducible (exact HB.out))))⟩⟩
 case rest =>
  clear HC4
  try clear c1
  try clear p2
  try clear c4
  try clear c9
  try clear c12
  try clear hcz10_0
  try clear hcz12_0
  try clear hcz6_0
  try clear hfz10_0
  try clear hfz12_0
  try clear hfz6_0
  obtain ⟨kq,x21_3,rfl,HA,HJ3,BK716,HB⟩:=hcut
  cases kq with
  | zero => exact absurd HA.out (by simp [impl_BlockersOf.j0])
  | succ kj3 =>
   have H:=HA.out
   clear HA
   simp only [impl_BlockersOf.j0] at H
   by_cases c14 : x21_3 = true
   ·subst c14
    have H1 : (some (([] : List Int),false)) = some (r1,r2):=by rw [if_pos rfl] at H; exact H
    clear H
    have H:=H1
    clear H1
    simp only [Option.some.injEq,Prod.mk.injEq] at H
    obtain ⟨rfl,rfl⟩:=H
    go_wp2
    go_ret2
    exact ⟨_,by (rfl),by (exact Kd.R_nil _ _ _ _ _),by repeat (((with_reducible (exact HB.out))))⟩
   ·replace c14:=Bool.eq_false_iff.mpr c14
    subst c14
    have H1 : (if 0 ≤ t717 then (if t717 < (l0_0.length : Int) then (if 0 ≤ (wrap64 (t718 + 1)) then (if (wrap64 (t718 + 1)) ≤ ((rd_L2 l0_0 t717).length : Int) then ((slices_Clone_int_int.f ((rd_L2 l0_0 t717).drop ((wrap64 (t718 + 1)) : Int).toNat)).bind fun t722 => ((slices_Reverse_int_int.f kj3 t722).bind fun t725 => (some (t725,true)))) else (none)) else (none)) else (none)) else (none)) = some (r1,r2):=by rw [if_neg (show ¬ (false = true) by decide)] at H; exact H
    clear H
    have H:=H1
    clear H1
    by_cases c15 : 0 ≤ t717
    ·rw [if_pos c15] at H
     have c15b0 : decide (0 ≤ t717) = true:=decide_eq_true c15
     clear c15
     by_cases c16 : t717 < (l0_0.length : Int)
     ·rw [if_pos c16] at H
      have c16b0 : decide (t717 < (l0_0.length : Int)) = true:=decide_eq_true c16
      clear c16
      obtain ⟨ji17,hji17⟩ : ∃ j_ : Int,(wrap64 (t718 + 1)) = j_:=⟨_,rfl⟩
      replace H : (if 0 ≤ (ji17) then (if (ji17) ≤ ((rd_L2 l0_0 t717).length : Int) then ((slices_Clone_int_int.f ((rd_L2 l0_0 t717).drop ((ji17) : Int).toNat)).bind fun t722 => ((slices_Reverse_int_int.f kj3 t722).bind fun t725 => (some (t725,true)))) else (none)) else (none)) = some (r1,r2):=by (rw [hji17] at H; exact H)
      have hji17w : (IntKind.i64.wrap (t718 + 1)) = ji17:=(i64_w _).trans hji17
      by_cases c18 : 0 ≤ (ji17)
      ·rw [if_pos c18] at H
       have c18b0:=eq_true c18
       have c18b1 : decide (0 ≤ (ji17)) = true:=decide_eq_true c18
       clear c18
       by_cases c19 : (ji17) ≤ ((rd_L2 l0_0 t717).length : Int)
       ·rw [if_pos c19] at H
        have c19b0:=eq_true c19
        have c19b1 : decide ((ji17) ≤ ((rd_L2 l0_0 t717).length : Int)) = true:=decide_eq_true c19
        clear c19
        replace H:=Option.bind_eq_some_iff.mp H
        obtain ⟨t722,A200,H⟩:=H
        replace H : ((slices_Reverse_int_int.f kj3 t722).bind fun t725 => (some (t725,true))) = some (r1,r2):=H
        have A20:=Aside0.mk A200
        clear A200
        replace H:=Option.bind_eq_some_iff.mp H
        obtain ⟨t725,A210,H⟩:=H
        replace H : (some (t725,true)) = some (r1,r2):=H
        have A21:=Aside0.mk A210
        clear A210
        simp only [Option.some.injEq,Prod.mk.injEq] at H
        obtain ⟨rfl,rfl⟩:=H
        have hcz22_0 : wc.cell? ⟨gb716,0,none⟩ = some (.slice A0_0 l0_0.length c0_0):=(blk_cell BK716.out 0).trans rfl
        have hfz22_0:=blk_frozen BK716.out 0
        have p720 : 0 ≤ (t717 : Int):=of_decide_eq_true (by (with_reducible assumption))
        have q720 : t717 < (l0_0.length : Int):=of_decide_eq_true (by (with_reducible assumption))
        obtain ⟨ad720,A720_0,c720_0,e720,hx720_0,hl720_0,hi720_0⟩:=at_L2 HR0_0.out t717 p720 q720
        cases e720
        replace hx720_0:=(HB.out.cell (World.block_lt_of_cell? w _ hx720_0)).trans hx720_0
        have HR720_0:=Aside0.mk hi720_0
        have HC720_0:=Aside0.mk hl720_0
        clear hi720_0 hl720_0
        replace p720:=eq_true p720
        replace q720:=eq_true q720
        obtain ⟨i023,hi023,_,hsz23,_⟩:=info_parts info3
        obtain ⟨A23,hcut23,hA23,hC23⟩:=print_drop_of (P:=Try.prog) (Value.int .i64) 0 24 3 .i64 Try.underlying24 hi023 hsz23 A720_0 c720_0 (rd_L2 l0_0 t717) (ji17) (of_decide_eq_true (by (with_reducible assumption))) (of_decide_eq_true (by (with_reducible assumption))) HC720_0.out
        have HR721:=Aside0.mk (Kd.C_of_reads (h1:=fun _ => rfl) (hA23 _ (Kd.reads_of_C HR720_0.out)))
        have HC721:=Aside0.mk hC23
        clear hA23 hC23 hi023 hsz23
        go_wp2_with (first|((with_reducible refine gate_callee (f:=121) rfl ?_); refine goesL_ (some 30) rfl rfl Try.func121 (by kernel_rfl) rfl #[.slice A23 ((rd_L2 l0_0 t717).drop ((ji17) : Int).toNat).length (c720_0 - (ji17).toNat)] rfl (by (try simp only [List.map_toArray,List.map_cons,List.map_nil]); ((rw [show ((rd_L2 l0_0 t717).drop ((ji17) : Int).toNat).length = ((rd_L2 l0_0 t717).length - (ji17).toNat) from List.length_drop] <;> rfl))) ?_; (with_reducible refine (slices_Clone_int_int.calls _ _ ((rd_L2 l0_0 t717).drop ((ji17) : Int).toNat) t722 _ ?side1 ?side2 A20.out).mono ?_); (case side1 => repeat ((exact (Kd.C_below HR721.out HB.out)))); (case side2 => exact HC721.out); rintro e w24 ⟨v723,rfl,ho0,hb⟩; refine ⟨_,rfl,?_⟩; have n0_:=Aside0.mk (Kd.R_lower ho0 (below_size (by repeat (((with_reducible (exact HB.out))))))); have n1_:=Aside0.mk (blk_below (g:=gb716) (o:=.cells #[.slice (some ad720) l0_0.length c0_0] 42 (0,0)) (by exact BK716.out) hb); have n2_:=Aside0.mk (below_step (by repeat (((with_reducible (exact HB.out))))) hb); clear BK716; clear HB; have HO724:=n0_; have BK716:=n1_; have HB:=n2_; clear n0_ n1_ n2_; (try clear hb); (try clear hb2); (try clear hk); (try clear hi); (try clear ho0); obtain ⟨Ao25,co25,eo25⟩:=Kd.R_slice HO724.out; subst eo25)|((with_reducible refine gate_callee (f:=122) rfl ?_); refine goesL_ (some 32) rfl rfl Try.func122 (by kernel_rfl) rfl #[.slice Ao25 t722.length co25] rfl (by (try simp only [List.map_toArray,List.map_cons,List.map_nil]); (rfl)) ?_; (with_reducible refine (slices_Reverse_int_int.calls kj3 (fun k_ => some k_ = (.slice Ao25 t722.length co25 : Value).ownBlock) (.slice Ao25 t722.length co25) t722 t725 w _ ?side1 ?side2 A21.out).mono ?_); (case side1 => repeat (((with_reducible (exact HB.out))))); (case side2 => exact Kd.R_tight rfl HO724.out); rintro e w26 ⟨rfl,hy0,hb,hkp⟩; refine ⟨_,rfl,?_⟩; have n0_:=Aside0.mk (blk_kept (by exact BK716.out) hkp (fun hs_ => (fun e_ => (Kd.R_ne HO724.out BK716.out (by decide)) e_) hs_)); have n1_:=Aside0.mk (Kd.R_reok rfl hy0 (fun k_ e_ => HO724.out.1 k_ e_)); have n2_:=Aside0.mk (hb); clear BK716; clear HO724; clear HB; have BK716:=n0_; have HO724:=n1_; have HB:=n2_; clear n0_ n1_ n2_; (try clear hb); (try clear hkp); (try clear hy0)))
        go_ret2
        exact ⟨_,by (rfl),by exact HO724.out,by repeat (((with_reducible (exact HB.out))))⟩
       ·rw [if_neg c19] at H
        exact absurd H (by simp)
      ·rw [if_neg c18] at H
       exact absurd H (by simp)
     ·rw [if_neg c16] at H
      exact absurd H (by simp)
    ·rw [if_neg c15] at H
     exact absurd H (by simp)

end Go.Proofs.Ytlldonokjgoajaa.X
