-- Written by a program of ours (wip/bin/xprint.py,over the kit's print.py) out of the translation. Not trusted: Lean checks it.
import Derived.Test.YtlldonokjgoajaaX0
import Derived.Test.YtlldonokjgoajaaFbGood
namespace Go.Proofs.Ytlldonokjgoajaa.X
open Go.RowKit Go.Proofs.YtlldonokjgoajaaW.PrintWords Go.Proofs.YtlldonokjgoajaaW.PrintLast Go.Proofs.YtlldonokjgoajaaW.PrintMore
attribute [local go_sem] max2_int min2_int max_two min_two max_three min_three max_four min_four   -- for this text's walks alone
set_option linter.unusedVariables false
set_option linter.unusedSimpArgs false

/-! ### spec_MergeManifests: function 83 -/
mutual
def spec_MergeManifests.j0 : Nat → List (S89) → List (S89) → List (S89) → Bool → Option ((List (S89)) × Bool)
 | 0,_,_,_,_ => none
 | k + 1,x0,x1,x6,x18 => if x18 = true then (some (x6,false)) else (spec_MergeManifests.l0 k x0 x1 x6 0)
def spec_MergeManifests.l0 : Nat → List (S89) → List (S89) → List (S89) → Int → Option ((List (S89)) × Bool)
 | 0,_,_,_,_ => none
 | k + 1,x0,x1,x6,x7 => if x7 < (x0.length : Int) then (if 0 ≤ x7 then ((spec_l2Find.f k x1 ((rd_T89 x0 x7).f0)).bind fun t1490 => (if t1490 ≥ 0 then (if 0 ≤ t1490 then (if t1490 < (x1.length : Int) then (if x6.length < 2932031007402 then (spec_MergeManifests.l0 k x0 x1 (x6 ++ [(⟨(rd_T89 x1 t1490).f0,(rd_T89 x1 t1490).f1,(rd_T89 x1 t1490).f2,(rd_T89 x1 t1490).f3,(rd_T89 x1 t1490).f4⟩ : S89)]) (wrap64 (x7 + 1))) else (none)) else (none)) else (none)) else (if x6.length < 2932031007402 then (spec_MergeManifests.l0 k x0 x1 (x6 ++ [(⟨(rd_T89 x0 x7).f0,(rd_T89 x0 x7).f1,(rd_T89 x0 x7).f2,(rd_T89 x0 x7).f3,(rd_T89 x0 x7).f4⟩ : S89)]) (wrap64 (x7 + 1))) else (none)))) else (none)) else (spec_MergeManifests.l1 k x0 x1 x6 0)
def spec_MergeManifests.l1 : Nat → List (S89) → List (S89) → List (S89) → Int → Option ((List (S89)) × Bool)
 | 0,_,_,_,_ => none
 | k + 1,x0,x1,x6,x9 => if x9 < (x1.length : Int) then (if 0 ≤ x9 then ((spec_l2Find.f k x0 ((rd_T89 x1 x9).f0)).bind fun t1500 => (if t1500 < 0 then (if x6.length < 2932031007402 then (spec_MergeManifests.l1 k x0 x1 (x6 ++ [(⟨(rd_T89 x1 x9).f0,(rd_T89 x1 x9).f1,(rd_T89 x1 x9).f2,(rd_T89 x1 x9).f3,(rd_T89 x1 x9).f4⟩ : S89)]) (wrap64 (x9 + 1))) else (none)) else (spec_MergeManifests.l1 k x0 x1 x6 (wrap64 (x9 + 1))))) else (none)) else ((spec_l2List.f k x6).bind fun t1505 => (if t1505 = true then (some (x6,true)) else (some ((([] : List (S89))),false))))
end
def spec_MergeManifests.f (k : Nat) (l0 : List (S89)) (l1 : List (S89)) : Option ((List (S89)) × Bool):=(some (([] : List (S89)) : List (S89))).bind fun y1484 => ((spec_l2List.f k l0).bind fun t1487 => (if t1487 = true then ((spec_l2List.f k l1).bind fun t1488 => (spec_MergeManifests.j0 k l0 l1 y1484 (!t1488))) else (spec_MergeManifests.j0 k l0 l1 y1484 true)))
theorem spec_MergeManifests.mono_l : ∀ k,(∀ y0 y1 y2 y3,LeO (spec_MergeManifests.j0 k y0 y1 y2 y3) (spec_MergeManifests.j0 (k + 1) y0 y1 y2 y3)) ∧ (∀ y0 y1 y2 y3,LeO (spec_MergeManifests.l0 k y0 y1 y2 y3) (spec_MergeManifests.l0 (k + 1) y0 y1 y2 y3)) ∧ (∀ y0 y1 y2 y3,LeO (spec_MergeManifests.l1 k y0 y1 y2 y3) (spec_MergeManifests.l1 (k + 1) y0 y1 y2 y3))
 | 0 => ⟨fun _ _ _ _ r h => by simp [spec_MergeManifests.j0] at h,fun _ _ _ _ r h => by simp [spec_MergeManifests.l0] at h,fun _ _ _ _ r h => by simp [spec_MergeManifests.l1] at h⟩
 | k + 1 => by
  obtain ⟨ih0,ih1,ih2⟩:=spec_MergeManifests.mono_l k
  refine ⟨?_,?_,?_⟩
  ·intro y0 y1 y2 y3
   unfold spec_MergeManifests.j0
   repeat' first
   | (with_reducible exact ih0 _ _ _ _)
   | (with_reducible exact ih1 _ _ _ _)
   | (with_reducible exact ih2 _ _ _ _)
   | (with_reducible exact spec_l2Find.mono _ _ _)
   | (with_reducible exact spec_l2List.mono _ _)
   | (with_reducible exact LeO.refl _)
   | (with_reducible exact LeO.none _)
   | (with_reducible refine LeO.ite ?_ ?_)
   | (with_reducible refine LeO.bind ?_ (fun _ => ?_))
   | exact ih0 _ _ _ _
   | exact ih1 _ _ _ _
   | exact ih2 _ _ _ _
   | exact spec_l2Find.mono _ _ _
   | exact spec_l2List.mono _ _
   | exact LeO.none _
   | refine LeO.ite ?_ ?_
   | refine LeO.bind ?_ (fun _ => ?_)
  ·intro y0 y1 y2 y3
   unfold spec_MergeManifests.l0
   repeat' first
   | (with_reducible exact ih0 _ _ _ _)
   | (with_reducible exact ih1 _ _ _ _)
   | (with_reducible exact ih2 _ _ _ _)
   | (with_reducible exact spec_l2Find.mono _ _ _)
   | (with_reducible exact spec_l2List.mono _ _)
   | (with_reducible exact LeO.refl _)
   | (with_reducible exact LeO.none _)
   | (with_reducible refine LeO.ite ?_ ?_)
   | (with_reducible refine LeO.bind ?_ (fun _ => ?_))
   | exact ih0 _ _ _ _
   | exact ih1 _ _ _ _
   | exact ih2 _ _ _ _
   | exact spec_l2Find.mono _ _ _
   | exact spec_l2List.mono _ _
   | exact LeO.none _
   | refine LeO.ite ?_ ?_
   | refine LeO.bind ?_ (fun _ => ?_)
  ·intro y0 y1 y2 y3
   unfold spec_MergeManifests.l1
   repeat' first
   | (with_reducible exact ih0 _ _ _ _)
   | (with_reducible exact ih1 _ _ _ _)
   | (with_reducible exact ih2 _ _ _ _)
   | (with_reducible exact spec_l2Find.mono _ _ _)
   | (with_reducible exact spec_l2List.mono _ _)
   | (with_reducible exact LeO.refl _)
   | (with_reducible exact LeO.none _)
   | (with_reducible refine LeO.ite ?_ ?_)
   | (with_reducible refine LeO.bind ?_ (fun _ => ?_))
   | exact ih0 _ _ _ _
   | exact ih1 _ _ _ _
   | exact ih2 _ _ _ _
   | exact spec_l2Find.mono _ _ _
   | exact spec_l2List.mono _ _
   | exact LeO.none _
   | refine LeO.ite ?_ ?_
   | refine LeO.bind ?_ (fun _ => ?_)
theorem spec_MergeManifests.mono : ∀ a0 a1 k,LeO (spec_MergeManifests.f k a0 a1) (spec_MergeManifests.f (k + 1) a0 a1):=by
 intro a0 a1 k
 obtain ⟨ih0,ih1,ih2⟩:=spec_MergeManifests.mono_l k
 unfold spec_MergeManifests.f
 repeat' first
   | (with_reducible exact ih0 _ _ _ _)
   | (with_reducible exact ih1 _ _ _ _)
   | (with_reducible exact ih2 _ _ _ _)
   | (with_reducible exact spec_l2Find.mono _ _ _)
   | (with_reducible exact spec_l2List.mono _ _)
   | (with_reducible exact LeO.refl _)
   | (with_reducible exact LeO.none _)
   | (with_reducible refine LeO.ite ?_ ?_)
   | (with_reducible refine LeO.bind ?_ (fun _ => ?_))
   | exact ih0 _ _ _ _
   | exact ih1 _ _ _ _
   | exact ih2 _ _ _ _
   | exact spec_l2Find.mono _ _ _
   | exact spec_l2List.mono _ _
   | exact LeO.none _
   | refine LeO.ite ?_ ?_
   | refine LeO.bind ?_ (fun _ => ?_)
set_option maxHeartbeats 8000000 in
set_option maxRecDepth 100000 in
theorem spec_MergeManifests.calls (k : Nat) (A0 : Option Addr) (c0 : Nat) (l0 : List (S89)) (A1 : Option Addr) (c1 : Nat) (l1 : List (S89)) (r1 : List (S89)) (r2 : Bool) (w : World) (hr0 : Kd.C k89 w A0 l0.length l0) (hc0 : l0.length ≤ c0) (hr1 : Kd.C k89 w A1 l1.length l1) (hc1 : l1.length ≤ c1) (h : spec_MergeManifests.f k l0 l1 = some (r1,r2)) :
  Calls Try.prog 83 #[.slice A0 l0.length c0,.slice A1 l1.length c1] w fun e w' => ∃ v0_ : Value,e = .returned (.tuple #[v0_,.bool r2]) ∧ Kd.R k89 89 w' w.heap.size (fun _ => True) v0_ r1 ∧ Below w.heap.size w w':=by
 have hu89:=Try.underlying89
 have HR0:=Aside0.mk hr0
 have HC0:=Aside0.mk hc0
 clear hr0 hc0
 have HR1:=Aside0.mk hr1
 have HC1:=Aside0.mk hc1
 clear hr1 hc1
 have HB:=Aside0.mk (Below.refl w.heap.size w)
 have H : ((some (([] : List (S89)) : List (S89))).bind fun y1484 => ((spec_l2List.f k l0).bind fun t1487 => (if t1487 = true then ((spec_l2List.f k l1).bind fun t1488 => (spec_MergeManifests.j0 k l0 l1 y1484 (!t1488))) else (spec_MergeManifests.j0 k l0 l1 y1484 true)))) = some (r1,r2):=h
 clear h
 obtain ⟨y1484,hy1484⟩ : ∃ y_ : List (S89),y_ = (([] : List (S89))):=⟨_,rfl⟩
 replace H : ((spec_l2List.f k l0).bind fun t1487 => (if t1487 = true then ((spec_l2List.f k l1).bind fun t1488 => (spec_MergeManifests.j0 k l0 l1 y1484 (!t1488))) else (spec_MergeManifests.j0 k l0 l1 y1484 true))) = some (r1,r2):=by ((have H2_:=(Option.bind_some _ _).symm.trans H; rw [hy1484]; with_reducible exact H2_))
 have Ny1484:=Aside0.mk hy1484
 clear hy1484
 have HC3:=Aside0.mk H
 clear H
 go_enter Try.func83,Try.ntmps83
 go_upto_region 2 with ((((with_reducible refine gate_dst (N:=10) rfl ?_); refine Kd.R_lit k89 _ 89 ?hg (N:=10) ?hd (xs:=([] : List (S89))) (inner:=[]) (ok:=fun _ => True) (okp:=fun _ => True) ?hr ?hp (fun _ hk => hk) trivial (Below.refl _ _) (Nat.le_refl _) (by simp) ?_; (case hd => rfl); (case hg => rfl); (case hr => (go_simp; done)); (case hp => exact (Reps.none _ _)); intro v1485 w4 ho5 hb hg_ hnew_; clear hg_ hnew_; (rw [← Ny1484.out] at ho5); have n0_:=Aside0.mk (Kd.R_lower ho5 (below_size (by repeat (((with_reducible (exact HB.out))))))); have n1_:=Aside0.mk (below_step (by repeat (((with_reducible (exact HB.out))))) hb); clear HB; have HO1486:=n0_; have HB:=n1_; clear n0_ n1_; clear hb ho5)))
 (try simp only [Act.put,List.setIfInBounds_toArray,List.set_cons_zero,List.set_cons_succ])
 go_cut [18] (fun v18 wc => ∃ (kq : Nat) (x18_2 : Bool),v18 = .bool x18_2 ∧ Aside0 (spec_MergeManifests.j0 kq l0 l1 y1484 x18_2 = some (r1,r2)) ∧ Aside0 (kq ≤ k) ∧ Aside0 (Kd.R k89 89 wc w.heap.size (fun _ => True) v1485 y1484) ∧ Aside0 (Below w.heap.size w wc))
 case first =>
  have H:=HC3.out
  clear HC3
  replace H:=Option.bind_eq_some_iff.mp H
  obtain ⟨t1487,A60,H⟩:=H
  replace H : (if t1487 = true then ((spec_l2List.f k l1).bind fun t1488 => (spec_MergeManifests.j0 k l0 l1 y1484 (!t1488))) else (spec_MergeManifests.j0 k l0 l1 y1484 true)) = some (r1,r2):=H
  have A6:=Aside0.mk A60
  clear A60
  by_cases c7 : t1487 = true
  ·subst c7
   have H1 : ((spec_l2List.f k l1).bind fun t1488 => (spec_MergeManifests.j0 k l0 l1 y1484 (!t1488))) = some (r1,r2):=by rw [if_pos rfl] at H; exact H
   clear H
   have H:=H1
   clear H1
   replace H:=Option.bind_eq_some_iff.mp H
   obtain ⟨t1488,A80,H⟩:=H
   replace H : (spec_MergeManifests.j0 k l0 l1 y1484 (!t1488)) = some (r1,r2):=H
   have A8:=Aside0.mk A80
   clear A80
   have H':=Aside0.mk H
   clear H
   go_wp2_with (first|((with_reducible refine gate_callee (f:=130) rfl ?_); refine goesL_ (some 12) rfl rfl Try.func130 (by kernel_rfl) rfl #[.slice A0 l0.length c0] rfl (by (try simp only [List.map_toArray,List.map_cons,List.map_nil]); (rfl)) ?_; (with_reducible refine (spec_l2List.calls k _ _ l0 true _ ?side1 ?side2 A6.out).mono ?_); (case side1 => repeat ((exact (Kd.C_below HR0.out HB.out)))); (case side2 => exact HC0.out); rintro e w9 ⟨rfl,hb⟩; refine ⟨_,rfl,?_⟩; have n0_:=Aside0.mk (Kd.R_below (by exact HO1486.out) hb); have n1_:=Aside0.mk (below_step (by repeat (((with_reducible (exact HB.out))))) hb); clear HO1486; clear HB; have HO1486:=n0_; have HB:=n1_; clear n0_ n1_; (try clear hb); (try clear hb2); (try clear hk); (try clear hi))|(go_at_call 130; (with_reducible refine (spec_l2List.calls k _ _ l1 t1488 _ ?side1 ?side2 A8.out).mono ?_); (case side1 => repeat ((exact (Kd.C_below HR1.out HB.out)))); (case side2 => exact HC1.out); rintro e w10 ⟨rfl,hb⟩; have n0_:=Aside0.mk (Kd.R_below (by exact HO1486.out) hb); have n1_:=Aside0.mk (below_step (by repeat (((with_reducible (exact HB.out))))) hb); clear HO1486; clear HB; have HO1486:=n0_; have HB:=n1_; clear n0_ n1_; (try clear hb); (try clear hb2); (try clear hk); (try clear hi)))
   go_meet
   case rel => exact ⟨_,(!t1488),(by (rfl)),H',⟨by (omega)⟩,⟨by exact HO1486.out⟩,⟨by repeat (((with_reducible (exact HB.out))))⟩⟩
  ·replace c7:=Bool.eq_false_iff.mpr c7
   subst c7
   have H1 : (spec_MergeManifests.j0 k l0 l1 y1484 true) = some (r1,r2):=by rw [if_neg (show ¬ (false = true) by decide)] at H; exact H
   clear H
   have H:=H1
   clear H1
   have H':=Aside0.mk H
   clear H
   go_wp2_with ((((with_reducible refine gate_callee (f:=130) rfl ?_); refine goesL_ (some 12) rfl rfl Try.func130 (by kernel_rfl) rfl #[.slice A0 l0.length c0] rfl (by (try simp only [List.map_toArray,List.map_cons,List.map_nil]); (rfl)) ?_; (with_reducible refine (spec_l2List.calls k _ _ l0 false _ ?side1 ?side2 A6.out).mono ?_); (case side1 => repeat ((exact (Kd.C_below HR0.out HB.out)))); (case side2 => exact HC0.out); rintro e w11 ⟨rfl,hb⟩; refine ⟨_,rfl,?_⟩; have n0_:=Aside0.mk (Kd.R_below (by exact HO1486.out) hb); have n1_:=Aside0.mk (below_step (by repeat (((with_reducible (exact HB.out))))) hb); clear HO1486; clear HB; have HO1486:=n0_; have HB:=n1_; clear n0_ n1_; (try clear hb); (try clear hb2); (try clear hk); (try clear hi))))
   go_meet
   case rel => exact ⟨_,(true),(by (rfl)),H',⟨by (omega)⟩,⟨by exact HO1486.out⟩,⟨by repeat (((with_reducible (exact HB.out))))⟩⟩
 case rest =>
  clear HC3
  try clear c1
  try clear p2
  try clear c7
  try clear c8
  obtain ⟨kq,x18_2,rfl,HA,HJ2,HO_6,HB⟩:=hcut
  cases kq with
  | zero => exact absurd HA.out (by simp [spec_MergeManifests.j0])
  | succ kj2 =>
   have H:=HA.out
   clear HA
   simp only [spec_MergeManifests.j0] at H
   by_cases c12 : x18_2 = true
   ·subst c12
    have H1 : (some (y1484,false)) = some (r1,r2):=by rw [if_pos rfl] at H; exact H
    clear H
    have H:=H1
    clear H1
    simp only [Option.some.injEq,Prod.mk.injEq] at H
    obtain ⟨rfl,rfl⟩:=H
    go_wp2
    go_ret2
    exact ⟨_,by (rfl),by exact HO_6.out,by repeat (((with_reducible (exact HB.out))))⟩
   ·replace c12:=Bool.eq_false_iff.mpr c12
    subst c12
    have H1 : (spec_MergeManifests.l0 kj2 l0 l1 y1484 0) = some (r1,r2):=by rw [if_neg (show ¬ (false = true) by decide)] at H; exact H
    clear H
    have H:=H1
    clear H1
    have H':=Aside0.mk H
    clear H
    go_wp2
    go_loopg [6,7] kj2 (fun kq v6 v7 w' => ∃ (x6_2 : List (S89)) (x7_2 : Int),v7 = .int .i64 x7_2 ∧ Aside0 (spec_MergeManifests.l0 kq l0 l1 x6_2 x7_2 = some (r1,r2)) ∧ Aside0 (kq ≤ kj2) ∧ Aside0 (Kd.R k89 89 w' w.heap.size (fun _ => True) v6 x6_2) ∧ Aside0 (Below w.heap.size w w'))
    case atStart => exact ⟨(y1484),(0),(by (rfl)),H',⟨Nat.le_refl _⟩,⟨by exact HO_6.out⟩,⟨by repeat (((with_reducible (exact HB.out))))⟩⟩
    case round =>
     clear H'
     try clear c1
     try clear p2
     try clear c7
     try clear c8
     try clear c12
     try clear p2
     obtain ⟨x6_2,x7_2,rfl,HA,HK2,HO_6,HB⟩:=hrel
     cases gk with
     | zero => exact absurd HA.out (by simp [spec_MergeManifests.l0])
     | succ k2 =>
      have H:=HA.out
      clear HA
      simp only [spec_MergeManifests.l0] at H
      by_cases c13 : x7_2 < (l0.length : Int)
      ·rw [if_pos c13] at H
       have c13b0 : decide (x7_2 < (l0.length : Int)) = true:=decide_eq_true c13
       clear c13
       by_cases c14 : 0 ≤ x7_2
       ·rw [if_pos c14] at H
        have c14b0 : decide (0 ≤ x7_2) = true:=decide_eq_true c14
        clear c14
        replace H:=Option.bind_eq_some_iff.mp H
        obtain ⟨t1490,A150,H⟩:=H
        replace H : (if t1490 ≥ 0 then (if 0 ≤ t1490 then (if t1490 < (l1.length : Int) then (if x6_2.length < 2932031007402 then (spec_MergeManifests.l0 k2 l0 l1 (x6_2 ++ [(⟨(rd_T89 l1 t1490).f0,(rd_T89 l1 t1490).f1,(rd_T89 l1 t1490).f2,(rd_T89 l1 t1490).f3,(rd_T89 l1 t1490).f4⟩ : S89)]) (wrap64 (x7_2 + 1))) else (none)) else (none)) else (none)) else (if x6_2.length < 2932031007402 then (spec_MergeManifests.l0 k2 l0 l1 (x6_2 ++ [(⟨(rd_T89 l0 x7_2).f0,(rd_T89 l0 x7_2).f1,(rd_T89 l0 x7_2).f2,(rd_T89 l0 x7_2).f3,(rd_T89 l0 x7_2).f4⟩ : S89)]) (wrap64 (x7_2 + 1))) else (none))) = some (r1,r2):=H
        have A15:=Aside0.mk A150
        clear A150
        by_cases c16 : t1490 ≥ 0
        ·rw [if_pos c16] at H
         have c16b0 : decide (0 ≤ t1490) = true:=decide_eq_true c16
         clear c16
         by_cases c17 : 0 ≤ t1490
         ·rw [if_pos c17] at H
          have c17b0 : decide (0 ≤ t1490) = true:=decide_eq_true c17
          clear c17
          by_cases c18 : t1490 < (l1.length : Int)
          ·rw [if_pos c18] at H
           have c18b0 : decide (t1490 < (l1.length : Int)) = true:=decide_eq_true c18
           clear c18
           by_cases c19 : x6_2.length < 2932031007402
           ·rw [if_pos c19] at H
            have LMc19:=Aside0.mk c19
            clear c19
            obtain ⟨y1492,hy1492⟩ : ∃ y_ : List (S89),y_ = (x6_2 ++ [(⟨(rd_T89 l1 t1490).f0,(rd_T89 l1 t1490).f1,(rd_T89 l1 t1490).f2,(rd_T89 l1 t1490).f3,(rd_T89 l1 t1490).f4⟩ : S89)]):=⟨_,rfl⟩
            replace H : (spec_MergeManifests.l0 k2 l0 l1 y1492 (wrap64 (x7_2 + 1))) = some (r1,r2):=by (rw [hy1492]; with_reducible exact H)
            have Ny1492:=Aside0.mk hy1492
            clear hy1492
            have H':=Aside0.mk H
            clear H
            have p1489 : 0 ≤ (x7_2 : Int):=of_decide_eq_true (by (with_reducible assumption))
            have q1489 : x7_2 < (l0.length : Int):=of_decide_eq_true (by (with_reducible assumption))
            obtain ⟨ad1489,e1489,hx1489_0,hx1489_1,hx1489_2,hx1489_3,hx1489_4⟩:=at_T89 HR0.out x7_2 p1489 q1489
            cases e1489
            replace hx1489_0:=(HB.out.cell (World.block_lt_of_cell? w _ hx1489_0)).trans hx1489_0
            replace hx1489_1:=(HB.out.cell (World.block_lt_of_cell? w _ hx1489_1)).trans hx1489_1
            replace hx1489_2:=(HB.out.cell (World.block_lt_of_cell? w _ hx1489_2)).trans hx1489_2
            replace hx1489_3:=(HB.out.cell (World.block_lt_of_cell? w _ hx1489_3)).trans hx1489_3
            replace hx1489_4:=(HB.out.cell (World.block_lt_of_cell? w _ hx1489_4)).trans hx1489_4
            replace p1489:=eq_true p1489
            replace q1489:=eq_true q1489
            go_wp2_with (first|((with_reducible refine gate_callee (f:=152) rfl ?_); refine goesL_ (some 32) rfl rfl Try.func152 (by kernel_rfl) rfl #[.slice A1 l1.length c1,.string ((rd_T89 l0 x7_2).f0)] rfl (by (try simp only [List.map_toArray,List.map_cons,List.map_nil]); (rfl)) ?_; (with_reducible refine (spec_l2Find.calls k2 _ _ l1 ((rd_T89 l0 x7_2).f0) t1490 _ ?side1 ?side2 A15.out).mono ?_); (case side1 => repeat ((exact (Kd.C_below HR1.out HB.out)))); (case side2 => exact HC1.out); rintro e w' ⟨rfl,⟨nd,rfl⟩⟩; refine ⟨_,rfl,?_⟩; have p1491 : 0 ≤ (t1490 : Int):=of_decide_eq_true (by (with_reducible assumption)); have q1491 : t1490 < (l1.length : Int):=of_decide_eq_true (by (with_reducible assumption)); obtain ⟨ad1491,e1491,hx1491_0,hx1491_1,hx1491_2,hx1491_3,hx1491_4⟩:=at_T89 HR1.out t1490 p1491 q1491; cases e1491; replace hx1491_0:=(HB.out.cell (World.block_lt_of_cell? w _ hx1491_0)).trans hx1491_0; replace hx1491_1:=(HB.out.cell (World.block_lt_of_cell? w _ hx1491_1)).trans hx1491_1; replace hx1491_2:=(HB.out.cell (World.block_lt_of_cell? w _ hx1491_2)).trans hx1491_2; replace hx1491_3:=(HB.out.cell (World.block_lt_of_cell? w _ hx1491_3)).trans hx1491_3; replace hx1491_4:=(HB.out.cell (World.block_lt_of_cell? w _ hx1491_4)).trans hx1491_4; replace p1491:=eq_true p1491; replace q1491:=eq_true q1491)|((with_reducible refine gate_builtin (b:=.append) (xs:=#[.tmp 35,.tmp 40]) rfl ?_); at_builtin; refine Kd.R_append k89 (w0:=w) w.heap.size rfl (.tmp 35) (.tmp 40) 74 89 (.agg #[(.string ⟨#[]⟩),(.int .i64 0),(.int .i64 0),(.int .i64 0),(.int .i64 0)]) 48 rfl Try.underlying74 info89 rfl (by decide) (by omega) u6 x6_2 (⟨(rd_T89 l1 t1490).f0,(rd_T89 l1 t1490).f1,(rd_T89 l1 t1490).f2,(rd_T89 l1 t1490).f3,(rd_T89 l1 t1490).f4⟩ : S89) [.string ((rd_T89 l1 t1490).f0),.int .i64 ((rd_T89 l1 t1490).f1),.int .i64 ((rd_T89 l1 t1490).f2),.int .i64 ((rd_T89 l1 t1490).f3),.int .i64 ((rd_T89 l1 t1490).f4)] (fun _ => True) (fun _ => False) rfl rfl ?aP (fun _ hk => hk.elim) ?aF ?aO ?aB ?aS ?aL ?_; (case aP => exact k89_mkM _ _ _ (⟨(rd_T89 l1 t1490).f0,(rd_T89 l1 t1490).f1,(rd_T89 l1 t1490).f2,(rd_T89 l1 t1490).f3,(rd_T89 l1 t1490).f4⟩ : S89)); (case aB => exact (by repeat (with_reducible first|exact HB.out|apply pw_below_drewN))); (case aF => exact (fun _ _ => trivial)); (case aO => exact (by (with_reducible repeat (apply Kd.R_drewN)); exact HO_6.out)); (case aS => exact (below_size (by repeat (with_reducible first|exact HB.out|apply pw_below_drewN)))); (case aL => have:=LMc19.out; omega); intro v1493 w20 ho hb hg hat; rw [← Ny1492.out] at ho; have n0_:=Aside0.mk (hb); have n1_:=Aside0.mk (ho); clear HB; clear HO_6; have HB:=n0_; have HO1494:=n1_; clear n0_ n1_; clear ho hb hg hat))
            go_roundg k2
            case measure => have:=HJ2.out; have:=HK2.out; omega
            case rel => exact ⟨(y1492),(wrap64 (x7_2 + 1)),(by (rfl)),H',⟨by have:=HJ2.out; have:=HK2.out; omega⟩,⟨by exact HO1494.out⟩,⟨by repeat (((with_reducible (exact HB.out))))⟩⟩
           ·rw [if_neg c19] at H
            exact absurd H (by simp)
          ·rw [if_neg c18] at H
           exact absurd H (by simp)
         ·rw [if_neg c17] at H
          exact absurd H (by simp)
        ·rw [if_neg c16] at H
         have c16b0 : decide (0 ≤ t1490) = false:=decide_eq_false c16
         clear c16
         by_cases c21 : x6_2.length < 2932031007402
         ·rw [if_pos c21] at H
          have LMc21:=Aside0.mk c21
          clear c21
          obtain ⟨y1496,hy1496⟩ : ∃ y_ : List (S89),y_ = (x6_2 ++ [(⟨(rd_T89 l0 x7_2).f0,(rd_T89 l0 x7_2).f1,(rd_T89 l0 x7_2).f2,(rd_T89 l0 x7_2).f3,(rd_T89 l0 x7_2).f4⟩ : S89)]):=⟨_,rfl⟩
          replace H : (spec_MergeManifests.l0 k2 l0 l1 y1496 (wrap64 (x7_2 + 1))) = some (r1,r2):=by (rw [hy1496]; with_reducible exact H)
          have Ny1496:=Aside0.mk hy1496
          clear hy1496
          have H':=Aside0.mk H
          clear H
          have p1489 : 0 ≤ (x7_2 : Int):=of_decide_eq_true (by (with_reducible assumption))
          have q1489 : x7_2 < (l0.length : Int):=of_decide_eq_true (by (with_reducible assumption))
          obtain ⟨ad1489,e1489,hx1489_0,hx1489_1,hx1489_2,hx1489_3,hx1489_4⟩:=at_T89 HR0.out x7_2 p1489 q1489
          cases e1489
          replace hx1489_0:=(HB.out.cell (World.block_lt_of_cell? w _ hx1489_0)).trans hx1489_0
          replace hx1489_1:=(HB.out.cell (World.block_lt_of_cell? w _ hx1489_1)).trans hx1489_1
          replace hx1489_2:=(HB.out.cell (World.block_lt_of_cell? w _ hx1489_2)).trans hx1489_2
          replace hx1489_3:=(HB.out.cell (World.block_lt_of_cell? w _ hx1489_3)).trans hx1489_3
          replace hx1489_4:=(HB.out.cell (World.block_lt_of_cell? w _ hx1489_4)).trans hx1489_4
          replace p1489:=eq_true p1489
          replace q1489:=eq_true q1489
          go_wp2_with (first|((with_reducible refine gate_callee (f:=152) rfl ?_); refine goesL_ (some 32) rfl rfl Try.func152 (by kernel_rfl) rfl #[.slice A1 l1.length c1,.string ((rd_T89 l0 x7_2).f0)] rfl (by (try simp only [List.map_toArray,List.map_cons,List.map_nil]); (rfl)) ?_; (with_reducible refine (spec_l2Find.calls k2 _ _ l1 ((rd_T89 l0 x7_2).f0) t1490 _ ?side1 ?side2 A15.out).mono ?_); (case side1 => repeat ((exact (Kd.C_below HR1.out HB.out)))); (case side2 => exact HC1.out); rintro e w' ⟨rfl,⟨nd,rfl⟩⟩; refine ⟨_,rfl,?_⟩; have p1495 : 0 ≤ (x7_2 : Int):=of_decide_eq_true (by (with_reducible assumption)); have q1495 : x7_2 < (l0.length : Int):=of_decide_eq_true (by (with_reducible assumption)); obtain ⟨ad1495,e1495,hx1495_0,hx1495_1,hx1495_2,hx1495_3,hx1495_4⟩:=at_T89 HR0.out x7_2 p1495 q1495; obtain rfl : ad1489 = ad1495:=(by injection e1495); replace hx1495_0:=(HB.out.cell (World.block_lt_of_cell? w _ hx1495_0)).trans hx1495_0; replace hx1495_1:=(HB.out.cell (World.block_lt_of_cell? w _ hx1495_1)).trans hx1495_1; replace hx1495_2:=(HB.out.cell (World.block_lt_of_cell? w _ hx1495_2)).trans hx1495_2; replace hx1495_3:=(HB.out.cell (World.block_lt_of_cell? w _ hx1495_3)).trans hx1495_3; replace hx1495_4:=(HB.out.cell (World.block_lt_of_cell? w _ hx1495_4)).trans hx1495_4; replace p1495:=eq_true p1495; replace q1495:=eq_true q1495)|((with_reducible refine gate_builtin (b:=.append) (xs:=#[.tmp 42,.tmp 47]) rfl ?_); at_builtin; refine Kd.R_append k89 (w0:=w) w.heap.size rfl (.tmp 42) (.tmp 47) 74 89 (.agg #[(.string ⟨#[]⟩),(.int .i64 0),(.int .i64 0),(.int .i64 0),(.int .i64 0)]) 48 rfl Try.underlying74 info89 rfl (by decide) (by omega) u6 x6_2 (⟨(rd_T89 l0 x7_2).f0,(rd_T89 l0 x7_2).f1,(rd_T89 l0 x7_2).f2,(rd_T89 l0 x7_2).f3,(rd_T89 l0 x7_2).f4⟩ : S89) [.string ((rd_T89 l0 x7_2).f0),.int .i64 ((rd_T89 l0 x7_2).f1),.int .i64 ((rd_T89 l0 x7_2).f2),.int .i64 ((rd_T89 l0 x7_2).f3),.int .i64 ((rd_T89 l0 x7_2).f4)] (fun _ => True) (fun _ => False) rfl rfl ?aP (fun _ hk => hk.elim) ?aF ?aO ?aB ?aS ?aL ?_; (case aP => exact k89_mkM _ _ _ (⟨(rd_T89 l0 x7_2).f0,(rd_T89 l0 x7_2).f1,(rd_T89 l0 x7_2).f2,(rd_T89 l0 x7_2).f3,(rd_T89 l0 x7_2).f4⟩ : S89)); (case aB => exact (by repeat (with_reducible first|exact HB.out|apply pw_below_drewN))); (case aF => exact (fun _ _ => trivial)); (case aO => exact (by (with_reducible repeat (apply Kd.R_drewN)); exact HO_6.out)); (case aS => exact (below_size (by repeat (with_reducible first|exact HB.out|apply pw_below_drewN)))); (case aL => have:=LMc21.out; omega); intro v1497 w22 ho hb hg hat; rw [← Ny1496.out] at ho; have n0_:=Aside0.mk (hb); have n1_:=Aside0.mk (ho); clear HB; clear HO_6; have HB:=n0_; have HO1498:=n1_; clear n0_ n1_; clear ho hb hg hat))
          go_roundg k2
          case measure => have:=HJ2.out; have:=HK2.out; omega
          case rel => exact ⟨(y1496),(wrap64 (x7_2 + 1)),(by (rfl)),H',⟨by have:=HJ2.out; have:=HK2.out; omega⟩,⟨by exact HO1498.out⟩,⟨by repeat (((with_reducible (exact HB.out))))⟩⟩
         ·rw [if_neg c21] at H
          exact absurd H (by simp)
       ·rw [if_neg c14] at H
        exact absurd H (by simp)
      ·rw [if_neg c13] at H
       have c13b0 : decide (x7_2 < (l0.length : Int)) = false:=decide_eq_false c13
       clear c13
       have H':=Aside0.mk H
       clear H
       go_wp2
       go_loopg [6,9] k2 (fun kq v6 v9 w' => ∃ (x6_3 : List (S89)) (x9_3 : Int),v9 = .int .i64 x9_3 ∧ Aside0 (spec_MergeManifests.l1 kq l0 l1 x6_3 x9_3 = some (r1,r2)) ∧ Aside0 (kq ≤ k2) ∧ Aside0 (Kd.R k89 89 w' w.heap.size (fun _ => True) v6 x6_3) ∧ Aside0 (Below w.heap.size w w'))
       case atStart => exact ⟨(x6_2),(0),(by (rfl)),H',⟨Nat.le_refl _⟩,⟨by exact HO_6.out⟩,⟨by repeat (((with_reducible (exact HB.out))))⟩⟩
       case round =>
        clear H'
        try clear c1
        try clear p1
        try clear q1
        try clear hx1
        try clear c2
        try clear p2
        try clear p6
        try clear c7
        try clear c8
        try clear c12
        try clear c13
        try clear c13b0
        try clear c14
        try clear c14b0
        try clear p14
        try clear q14
        try clear hx14
        try clear c15
        try clear c16
        try clear c16b0
        try clear c17
        try clear c17b0
        try clear c18
        try clear c18b0
        try clear c19
        try clear c21
        try clear hx1489_0
        try clear hx1489_1
        try clear hx1489_2
        try clear hx1489_3
        try clear hx1489_4
        try clear hx1491_0
        try clear hx1491_1
        try clear hx1491_2
        try clear hx1491_3
        try clear hx1491_4
        try clear hx1495_0
        try clear hx1495_1
        try clear hx1495_2
        try clear hx1495_3
        try clear hx1495_4
        try clear p1489
        try clear p1491
        try clear p1495
        try clear p2
        try clear q1489
        try clear q1491
        try clear q1495
        obtain ⟨x6_3,x9_3,rfl,HA,HK3,HO_6,HB⟩:=hrel
        cases gk with
        | zero => exact absurd HA.out (by simp [spec_MergeManifests.l1])
        | succ k3 =>
         have H:=HA.out
         clear HA
         simp only [spec_MergeManifests.l1] at H
         by_cases c23 : x9_3 < (l1.length : Int)
         ·rw [if_pos c23] at H
          have c23b0 : decide (x9_3 < (l1.length : Int)) = true:=decide_eq_true c23
          clear c23
          by_cases c24 : 0 ≤ x9_3
          ·rw [if_pos c24] at H
           have c24b0 : decide (0 ≤ x9_3) = true:=decide_eq_true c24
           clear c24
           replace H:=Option.bind_eq_some_iff.mp H
           obtain ⟨t1500,A250,H⟩:=H
           replace H : (if t1500 < 0 then (if x6_3.length < 2932031007402 then (spec_MergeManifests.l1 k3 l0 l1 (x6_3 ++ [(⟨(rd_T89 l1 x9_3).f0,(rd_T89 l1 x9_3).f1,(rd_T89 l1 x9_3).f2,(rd_T89 l1 x9_3).f3,(rd_T89 l1 x9_3).f4⟩ : S89)]) (wrap64 (x9_3 + 1))) else (none)) else (spec_MergeManifests.l1 k3 l0 l1 x6_3 (wrap64 (x9_3 + 1)))) = some (r1,r2):=H
           have A25:=Aside0.mk A250
           clear A250
           by_cases c26 : t1500 < 0
           ·rw [if_pos c26] at H
            have c26b0 : decide (t1500 < 0) = true:=decide_eq_true c26
            clear c26
            by_cases c27 : x6_3.length < 2932031007402
            ·rw [if_pos c27] at H
             have LMc27:=Aside0.mk c27
             clear c27
             obtain ⟨y1502,hy1502⟩ : ∃ y_ : List (S89),y_ = (x6_3 ++ [(⟨(rd_T89 l1 x9_3).f0,(rd_T89 l1 x9_3).f1,(rd_T89 l1 x9_3).f2,(rd_T89 l1 x9_3).f3,(rd_T89 l1 x9_3).f4⟩ : S89)]):=⟨_,rfl⟩
             replace H : (spec_MergeManifests.l1 k3 l0 l1 y1502 (wrap64 (x9_3 + 1))) = some (r1,r2):=by (rw [hy1502]; with_reducible exact H)
             have Ny1502:=Aside0.mk hy1502
             clear hy1502
             have H':=Aside0.mk H
             clear H
             have p1499 : 0 ≤ (x9_3 : Int):=of_decide_eq_true (by (with_reducible assumption))
             have q1499 : x9_3 < (l1.length : Int):=of_decide_eq_true (by (with_reducible assumption))
             obtain ⟨ad1499,e1499,hx1499_0,hx1499_1,hx1499_2,hx1499_3,hx1499_4⟩:=at_T89 HR1.out x9_3 p1499 q1499
             cases e1499
             replace hx1499_0:=(HB.out.cell (World.block_lt_of_cell? w _ hx1499_0)).trans hx1499_0
             replace hx1499_1:=(HB.out.cell (World.block_lt_of_cell? w _ hx1499_1)).trans hx1499_1
             replace hx1499_2:=(HB.out.cell (World.block_lt_of_cell? w _ hx1499_2)).trans hx1499_2
             replace hx1499_3:=(HB.out.cell (World.block_lt_of_cell? w _ hx1499_3)).trans hx1499_3
             replace hx1499_4:=(HB.out.cell (World.block_lt_of_cell? w _ hx1499_4)).trans hx1499_4
             replace p1499:=eq_true p1499
             replace q1499:=eq_true q1499
             go_wp2_with (first|((with_reducible refine gate_callee (f:=152) rfl ?_); refine goesL_ (some 61) rfl rfl Try.func152 (by kernel_rfl) rfl #[.slice A0 l0.length c0,.string ((rd_T89 l1 x9_3).f0)] rfl (by (try simp only [List.map_toArray,List.map_cons,List.map_nil]); (rfl)) ?_; (with_reducible refine (spec_l2Find.calls k3 _ _ l0 ((rd_T89 l1 x9_3).f0) t1500 _ ?side1 ?side2 A25.out).mono ?_); (case side1 => repeat ((exact (Kd.C_below HR0.out HB.out)))); (case side2 => exact HC0.out); rintro e w' ⟨rfl,⟨nd,rfl⟩⟩; refine ⟨_,rfl,?_⟩; have p1501 : 0 ≤ (x9_3 : Int):=of_decide_eq_true (by (with_reducible assumption)); have q1501 : x9_3 < (l1.length : Int):=of_decide_eq_true (by (with_reducible assumption)); obtain ⟨ad1501,e1501,hx1501_0,hx1501_1,hx1501_2,hx1501_3,hx1501_4⟩:=at_T89 HR1.out x9_3 p1501 q1501; obtain rfl : ad1499 = ad1501:=(by injection e1501); replace hx1501_0:=(HB.out.cell (World.block_lt_of_cell? w _ hx1501_0)).trans hx1501_0; replace hx1501_1:=(HB.out.cell (World.block_lt_of_cell? w _ hx1501_1)).trans hx1501_1; replace hx1501_2:=(HB.out.cell (World.block_lt_of_cell? w _ hx1501_2)).trans hx1501_2; replace hx1501_3:=(HB.out.cell (World.block_lt_of_cell? w _ hx1501_3)).trans hx1501_3; replace hx1501_4:=(HB.out.cell (World.block_lt_of_cell? w _ hx1501_4)).trans hx1501_4; replace p1501:=eq_true p1501; replace q1501:=eq_true q1501)|((with_reducible refine gate_builtin (b:=.append) (xs:=#[.tmp 63,.tmp 68]) rfl ?_); at_builtin; refine Kd.R_append k89 (w0:=w) w.heap.size rfl (.tmp 63) (.tmp 68) 74 89 (.agg #[(.string ⟨#[]⟩),(.int .i64 0),(.int .i64 0),(.int .i64 0),(.int .i64 0)]) 48 rfl Try.underlying74 info89 rfl (by decide) (by omega) u6 x6_3 (⟨(rd_T89 l1 x9_3).f0,(rd_T89 l1 x9_3).f1,(rd_T89 l1 x9_3).f2,(rd_T89 l1 x9_3).f3,(rd_T89 l1 x9_3).f4⟩ : S89) [.string ((rd_T89 l1 x9_3).f0),.int .i64 ((rd_T89 l1 x9_3).f1),.int .i64 ((rd_T89 l1 x9_3).f2),.int .i64 ((rd_T89 l1 x9_3).f3),.int .i64 ((rd_T89 l1 x9_3).f4)] (fun _ => True) (fun _ => False) rfl rfl ?aP (fun _ hk => hk.elim) ?aF ?aO ?aB ?aS ?aL ?_; (case aP => exact k89_mkM _ _ _ (⟨(rd_T89 l1 x9_3).f0,(rd_T89 l1 x9_3).f1,(rd_T89 l1 x9_3).f2,(rd_T89 l1 x9_3).f3,(rd_T89 l1 x9_3).f4⟩ : S89)); (case aB => exact (by repeat (with_reducible first|exact HB.out|apply pw_below_drewN))); (case aF => exact (fun _ _ => trivial)); (case aO => exact (by (with_reducible repeat (apply Kd.R_drewN)); exact HO_6.out)); (case aS => exact (below_size (by repeat (with_reducible first|exact HB.out|apply pw_below_drewN)))); (case aL => have:=LMc27.out; omega); intro v1503 w28 ho hb hg hat; rw [← Ny1502.out] at ho; have n0_:=Aside0.mk (hb); have n1_:=Aside0.mk (ho); clear HB; clear HO_6; have HB:=n0_; have HO1504:=n1_; clear n0_ n1_; clear ho hb hg hat))
             go_roundg k3
             case measure => have:=HJ2.out; have:=HK2.out; have:=HK3.out; omega
             case rel => exact ⟨(y1502),(wrap64 (x9_3 + 1)),(by (rfl)),H',⟨by have:=HJ2.out; have:=HK2.out; have:=HK3.out; omega⟩,⟨by exact HO1504.out⟩,⟨by repeat (((with_reducible (exact HB.out))))⟩⟩
            ·rw [if_neg c27] at H
             exact absurd H (by simp)
           ·rw [if_neg c26] at H
            have c26b0 : decide (t1500 < 0) = false:=decide_eq_false c26
            clear c26
            have H':=Aside0.mk H
            clear H
            have p1499 : 0 ≤ (x9_3 : Int):=of_decide_eq_true (by (with_reducible assumption))
            have q1499 : x9_3 < (l1.length : Int):=of_decide_eq_true (by (with_reducible assumption))
            obtain ⟨ad1499,e1499,hx1499_0,hx1499_1,hx1499_2,hx1499_3,hx1499_4⟩:=at_T89 HR1.out x9_3 p1499 q1499
            cases e1499
            replace hx1499_0:=(HB.out.cell (World.block_lt_of_cell? w _ hx1499_0)).trans hx1499_0
            replace hx1499_1:=(HB.out.cell (World.block_lt_of_cell? w _ hx1499_1)).trans hx1499_1
            replace hx1499_2:=(HB.out.cell (World.block_lt_of_cell? w _ hx1499_2)).trans hx1499_2
            replace hx1499_3:=(HB.out.cell (World.block_lt_of_cell? w _ hx1499_3)).trans hx1499_3
            replace hx1499_4:=(HB.out.cell (World.block_lt_of_cell? w _ hx1499_4)).trans hx1499_4
            replace p1499:=eq_true p1499
            replace q1499:=eq_true q1499
            go_wp2_with ((((with_reducible refine gate_callee (f:=152) rfl ?_); refine goesL_ (some 61) rfl rfl Try.func152 (by kernel_rfl) rfl #[.slice A0 l0.length c0,.string ((rd_T89 l1 x9_3).f0)] rfl (by (try simp only [List.map_toArray,List.map_cons,List.map_nil]); (rfl)) ?_; (with_reducible refine (spec_l2Find.calls k3 _ _ l0 ((rd_T89 l1 x9_3).f0) t1500 _ ?side1 ?side2 A25.out).mono ?_); (case side1 => repeat ((exact (Kd.C_below HR0.out HB.out)))); (case side2 => exact HC0.out); rintro e w' ⟨rfl,⟨nd,rfl⟩⟩; refine ⟨_,rfl,?_⟩)))
            go_roundg k3
            case measure => have:=HJ2.out; have:=HK2.out; have:=HK3.out; omega
            case rel => exact ⟨(x6_3),(wrap64 (x9_3 + 1)),(by (rfl)),H',⟨by have:=HJ2.out; have:=HK2.out; have:=HK3.out; omega⟩,⟨by (with_reducible repeat (apply Kd.R_drewN)); exact HO_6.out⟩,⟨by repeat (with_reducible first|exact HB.out|apply pw_below_drewN)⟩⟩
          ·rw [if_neg c24] at H
           exact absurd H (by simp)
         ·rw [if_neg c23] at H
          have c23b0 : decide (x9_3 < (l1.length : Int)) = false:=decide_eq_false c23
          clear c23
          replace H:=Option.bind_eq_some_iff.mp H
          obtain ⟨t1505,A290,H⟩:=H
          replace H : (if t1505 = true then (some (x6_3,true)) else (some ((([] : List (S89))),false))) = some (r1,r2):=H
          have A29:=Aside0.mk A290
          clear A290
          by_cases c30 : t1505 = true
          ·subst c30
           have H1 : (some (x6_3,true)) = some (r1,r2):=by rw [if_pos rfl] at H; exact H
           clear H
           have H:=H1
           clear H1
           simp only [Option.some.injEq,Prod.mk.injEq] at H
           obtain ⟨rfl,rfl⟩:=H
           obtain ⟨Ao31,co31,eo31⟩:=Kd.R_slice HO_6.out
           subst eo31
           go_wp2_with ((((with_reducible refine gate_callee (f:=130) rfl ?_); refine goesL_ (some 71) rfl rfl Try.func130 (by kernel_rfl) rfl #[.slice Ao31 x6_3.length co31] rfl (by (try simp only [List.map_toArray,List.map_cons,List.map_nil]); (rfl)) ?_; (with_reducible refine (spec_l2List.calls k3 _ _ x6_3 true _ ?side1 ?side2 A29.out).mono ?_); (case side1 => repeat ((exact (Kd.R_reads' HO_6.out).2.2))); (case side2 => exact (Kd.R_reads' HO_6.out).2.1); rintro e w32 ⟨rfl,hb⟩; refine ⟨_,rfl,?_⟩; have n0_:=Aside0.mk (Kd.R_below (by exact HO_6.out) hb); have n1_:=Aside0.mk (below_step (by repeat (((with_reducible (exact HB.out))))) hb); clear HO_6; clear HB; have HO_6:=n0_; have HB:=n1_; clear n0_ n1_; (try clear hb); (try clear hb2); (try clear hk); (try clear hi))))
           go_ret2
           exact ⟨_,by (rfl),by exact HO_6.out,by repeat (((with_reducible (exact HB.out))))⟩
          ·replace c30:=Bool.eq_false_iff.mpr c30
           subst c30
           have H1 : (some ((([] : List (S89))),false)) = some (r1,r2):=by rw [if_neg (show ¬ (false = true) by decide)] at H; exact H
           clear H
           have H:=H1
           clear H1
           obtain ⟨y1506,hy1506⟩ : ∃ y_ : List (S89),y_ = (([] : List (S89))):=⟨_,rfl⟩
           replace H : (some (y1506,false)) = some (r1,r2):=by (rw [hy1506]; with_reducible exact H)
           have Ny1506:=Aside0.mk hy1506
           clear hy1506
           simp only [Option.some.injEq,Prod.mk.injEq] at H
           obtain ⟨rfl,rfl⟩:=H
           obtain ⟨Ao33,co33,eo33⟩:=Kd.R_slice HO_6.out
           subst eo33
           go_wp2_with (first|((with_reducible refine gate_callee (f:=130) rfl ?_); refine goesL_ (some 71) rfl rfl Try.func130 (by kernel_rfl) rfl #[.slice Ao33 x6_3.length co33] rfl (by (try simp only [List.map_toArray,List.map_cons,List.map_nil]); (rfl)) ?_; (with_reducible refine (spec_l2List.calls k3 _ _ x6_3 false _ ?side1 ?side2 A29.out).mono ?_); (case side1 => repeat ((exact (Kd.R_reads' HO_6.out).2.2))); (case side2 => exact (Kd.R_reads' HO_6.out).2.1); rintro e w34 ⟨rfl,hb⟩; refine ⟨_,rfl,?_⟩; have n0_:=Aside0.mk (Kd.R_below (by exact HO_6.out) hb); have n1_:=Aside0.mk (below_step (by repeat (((with_reducible (exact HB.out))))) hb); clear HO_6; clear HB; have HO_6:=n0_; have HB:=n1_; clear n0_ n1_; (try clear hb); (try clear hb2); (try clear hk); (try clear hi))|((with_reducible refine gate_dst (N:=73) rfl ?_); refine Kd.R_lit k89 _ 89 ?hg (N:=73) ?hd (xs:=([] : List (S89))) (inner:=[]) (ok:=fun _ => True) (okp:=fun _ => True) ?hr ?hp (fun _ hk => hk) trivial (Below.refl _ _) (Nat.le_refl _) (by simp) ?_; (case hd => rfl); (case hg => rfl); (case hr => (go_simp; done)); (case hp => exact (Reps.none _ _)); intro v1507 w35 ho36 hb hg_ hnew_; clear hg_ hnew_; (rw [← Ny1506.out] at ho36); have n0_:=Aside0.mk (Kd.R_elder' (by exact HO_6.out) (Kd.R_base ho36) hb); have n1_:=Aside0.mk (Kd.R_lower (Kd.R_new' ho36 (Kd.R_lt (by exact HO_6.out))) (below_size (by repeat (((with_reducible (exact HB.out))))))); have n2_:=Aside0.mk (below_step (by repeat (((with_reducible (exact HB.out))))) hb); clear HO_6; clear HB; have HO_6:=n0_; have HO1508:=n1_; have HB:=n2_; clear n0_ n1_ n2_; clear hb ho36))
           go_ret2
           exact ⟨_,by (rfl),by exact Kd.R_mono HO1508.out (fun _ hk => trivial),by repeat (((with_reducible (exact HB.out))))⟩

end Go.Proofs.Ytlldonokjgoajaa.X
