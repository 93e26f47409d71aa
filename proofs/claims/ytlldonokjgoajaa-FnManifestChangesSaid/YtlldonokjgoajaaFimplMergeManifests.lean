-- Written by a program of ours (wip/bin/xprint.py,over the kit's print.py) out of the translation. Not trusted: Lean checks it.
import Derived.Test.YtlldonokjgoajaaX0
import Derived.Test.YtlldonokjgoajaaFbGood
import Derived.Test.YtlldonokjgoajaaGCloneC
import Derived.Test.YtlldonokjgoajaaGindexOf
namespace Go.Proofs.Ytlldonokjgoajaa.X
open Go.RowKit Go.Proofs.YtlldonokjgoajaaW.PrintWords Go.Proofs.YtlldonokjgoajaaW.PrintLast Go.Proofs.YtlldonokjgoajaaW.PrintMore
attribute [local go_sem] max2_int min2_int max_two min_two max_three min_three max_four min_four   -- for this text's walks alone
set_option linter.unusedVariables false
set_option linter.unusedSimpArgs false

/-! ### impl_MergeManifests: function 82 -/
mutual
def impl_MergeManifests.j0 : Nat → List (S89) → List (S89) → Bool → Option ((List (S89)) × Bool)
 | 0,_,_,_ => none
 | k + 1,x0,x1,x17 => if x17 = true then (some (([] : List (S89)),false)) else ((impl_Container.f x0).bind fun t1473 => (impl_MergeManifests.l0 k x0 t1473 x1 (x1.length : Int) 0))
def impl_MergeManifests.l0 : Nat → List (S89) → List (S89) → List (S89) → Int → Int → Option ((List (S89)) × Bool)
 | 0,_,_,_,_,_ => none
 | k + 1,x0,x6,x20,x21,x22 => if x22 < x21 then (if 0 ≤ x22 then (if x22 < (x20.length : Int) then ((impl_indexOf.f x0 ((rd_T89 x20 x22).f0)).bind fun t1478 => (if t1478 ≥ 0 then (if 0 ≤ t1478 then (if t1478 < (x6.length : Int) then (impl_MergeManifests.l0 k x0 (x6.set (t1478 : Int).toNat (⟨(rd_T89 x20 x22).f0,(rd_T89 x20 x22).f1,(rd_T89 x20 x22).f2,(rd_T89 x20 x22).f3,(rd_T89 x20 x22).f4⟩ : S89)) x20 x21 (wrap64 (x22 + 1))) else (none)) else (none)) else (if x6.length < 2932031007402 then (impl_MergeManifests.l0 k x0 (x6 ++ [(⟨(rd_T89 x20 x22).f0,(rd_T89 x20 x22).f1,(rd_T89 x20 x22).f2,(rd_T89 x20 x22).f3,(rd_T89 x20 x22).f4⟩ : S89)]) x20 x21 (wrap64 (x22 + 1))) else (none)))) else (none)) else (none)) else ((impl_IsValidContainers.f k x6).bind fun t1483 => (if t1483 = true then (some (x6,true)) else (some (([] : List (S89)),false))))
end
def impl_MergeManifests.f (k : Nat) (l0 : List (S89)) (l1 : List (S89)) : Option ((List (S89)) × Bool):=(impl_IsValidContainers.f k l0).bind fun t1471 => (if t1471 = true then ((impl_IsValidContainers.f k l1).bind fun t1472 => (impl_MergeManifests.j0 k l0 l1 (!t1472))) else (impl_MergeManifests.j0 k l0 l1 true))
theorem impl_MergeManifests.mono_l : ∀ k,(∀ y0 y1 y2,LeO (impl_MergeManifests.j0 k y0 y1 y2) (impl_MergeManifests.j0 (k + 1) y0 y1 y2)) ∧ (∀ y0 y1 y2 y3 y4,LeO (impl_MergeManifests.l0 k y0 y1 y2 y3 y4) (impl_MergeManifests.l0 (k + 1) y0 y1 y2 y3 y4))
 | 0 => ⟨fun _ _ _ r h => by simp [impl_MergeManifests.j0] at h,fun _ _ _ _ _ r h => by simp [impl_MergeManifests.l0] at h⟩
 | k + 1 => by
  obtain ⟨ih0,ih1⟩:=impl_MergeManifests.mono_l k
  refine ⟨?_,?_⟩
  ·intro y0 y1 y2
   unfold impl_MergeManifests.j0
   repeat' first
   | (with_reducible exact ih0 _ _ _)
   | (with_reducible exact ih1 _ _ _ _ _)
   | (with_reducible exact impl_IsValidContainers.mono _ _)
   | (with_reducible exact LeO.refl _)
   | (with_reducible exact LeO.none _)
   | (with_reducible refine LeO.ite ?_ ?_)
   | (with_reducible refine LeO.bind ?_ (fun _ => ?_))
   | exact ih0 _ _ _
   | exact ih1 _ _ _ _ _
   | exact impl_IsValidContainers.mono _ _
   | exact LeO.none _
   | refine LeO.ite ?_ ?_
   | refine LeO.bind ?_ (fun _ => ?_)
  ·intro y0 y1 y2 y3 y4
   unfold impl_MergeManifests.l0
   repeat' first
   | (with_reducible exact ih0 _ _ _)
   | (with_reducible exact ih1 _ _ _ _ _)
   | (with_reducible exact impl_IsValidContainers.mono _ _)
   | (with_reducible exact LeO.refl _)
   | (with_reducible exact LeO.none _)
   | (with_reducible refine LeO.ite ?_ ?_)
   | (with_reducible refine LeO.bind ?_ (fun _ => ?_))
   | exact ih0 _ _ _
   | exact ih1 _ _ _ _ _
   | exact impl_IsValidContainers.mono _ _
   | exact LeO.none _
   | refine LeO.ite ?_ ?_
   | refine LeO.bind ?_ (fun _ => ?_)
theorem impl_MergeManifests.mono : ∀ a0 a1 k,LeO (impl_MergeManifests.f k a0 a1) (impl_MergeManifests.f (k + 1) a0 a1):=by
 intro a0 a1 k
 obtain ⟨ih0,ih1⟩:=impl_MergeManifests.mono_l k
 unfold impl_MergeManifests.f
 repeat' first
   | (with_reducible exact ih0 _ _ _)
   | (with_reducible exact ih1 _ _ _ _ _)
   | (with_reducible exact impl_IsValidContainers.mono _ _)
   | (with_reducible exact LeO.refl _)
   | (with_reducible exact LeO.none _)
   | (with_reducible refine LeO.ite ?_ ?_)
   | (with_reducible refine LeO.bind ?_ (fun _ => ?_))
   | exact ih0 _ _ _
   | exact ih1 _ _ _ _ _
   | exact impl_IsValidContainers.mono _ _
   | exact LeO.none _
   | refine LeO.ite ?_ ?_
   | refine LeO.bind ?_ (fun _ => ?_)
set_option maxHeartbeats 8000000 in
set_option maxRecDepth 100000 in
theorem impl_MergeManifests.calls (k : Nat) (A0 : Option Addr) (c0 : Nat) (l0 : List (S89)) (A1 : Option Addr) (c1 : Nat) (l1 : List (S89)) (r1 : List (S89)) (r2 : Bool) (w : World) (hr0 : Kd.C k89 w A0 l0.length l0) (hc0 : l0.length ≤ c0) (hr1 : Kd.C k89 w A1 l1.length l1) (hc1 : l1.length ≤ c1) (h : impl_MergeManifests.f k l0 l1 = some (r1,r2)) :
  Calls Try.prog 82 #[.slice A0 l0.length c0,.slice A1 l1.length c1] w fun e w' => ∃ v0_ : Value,e = .returned (.tuple #[v0_,.bool r2]) ∧ Kd.R k89 89 w' w.heap.size (fun _ => True) v0_ r1 ∧ Below w.heap.size w w':=by
 have hu89:=Try.underlying89
 have HR0:=Aside0.mk hr0
 have HC0:=Aside0.mk hc0
 clear hr0 hc0
 have HR1:=Aside0.mk hr1
 have HC1:=Aside0.mk hc1
 clear hr1 hc1
 have HB:=Aside0.mk (Below.refl w.heap.size w)
 have H : ((impl_IsValidContainers.f k l0).bind fun t1471 => (if t1471 = true then ((impl_IsValidContainers.f k l1).bind fun t1472 => (impl_MergeManifests.j0 k l0 l1 (!t1472))) else (impl_MergeManifests.j0 k l0 l1 true))) = some (r1,r2):=h
 clear h
 have HC3:=Aside0.mk H
 clear H
 go_enter Try.func82,Try.ntmps82
 go_upto_region 1 with (fail)
 go_cut [17] (fun v17 wc => ∃ (kq : Nat) (x17_2 : Bool),v17 = .bool x17_2 ∧ Aside0 (impl_MergeManifests.j0 kq l0 l1 x17_2 = some (r1,r2)) ∧ Aside0 (kq ≤ k) ∧ Aside0 (Below w.heap.size w wc))
 case first =>
  have H:=HC3.out
  clear HC3
  replace H:=Option.bind_eq_some_iff.mp H
  obtain ⟨t1471,A40,H⟩:=H
  replace H : (if t1471 = true then ((impl_IsValidContainers.f k l1).bind fun t1472 => (impl_MergeManifests.j0 k l0 l1 (!t1472))) else (impl_MergeManifests.j0 k l0 l1 true)) = some (r1,r2):=H
  have A4:=Aside0.mk A40
  clear A40
  by_cases c5 : t1471 = true
  ·subst c5
   have H1 : ((impl_IsValidContainers.f k l1).bind fun t1472 => (impl_MergeManifests.j0 k l0 l1 (!t1472))) = some (r1,r2):=by rw [if_pos rfl] at H; exact H
   clear H
   have H:=H1
   clear H1
   replace H:=Option.bind_eq_some_iff.mp H
   obtain ⟨t1472,A60,H⟩:=H
   replace H : (impl_MergeManifests.j0 k l0 l1 (!t1472)) = some (r1,r2):=H
   have A6:=Aside0.mk A60
   clear A60
   have H':=Aside0.mk H
   clear H
   go_wp2_with (first|((with_reducible refine gate_callee (f:=72) rfl ?_); refine goesL_ (some 11) rfl rfl Try.func72 (by kernel_rfl) rfl #[.slice A0 l0.length c0] rfl (by (try simp only [List.map_toArray,List.map_cons,List.map_nil]); (rfl)) ?_; (with_reducible refine (impl_IsValidContainers.calls k _ _ l0 true _ ?side1 ?side2 A4.out).mono ?_); (case side1 => repeat ((exact (Kd.C_below HR0.out HB.out)))); (case side2 => exact HC0.out); rintro e w7 ⟨rfl,hb⟩; refine ⟨_,rfl,?_⟩; have n0_:=Aside0.mk (below_step (by repeat (((with_reducible (exact HB.out))))) hb); clear HB; have HB:=n0_; clear n0_; (try clear hb); (try clear hb2); (try clear hk); (try clear hi))|(go_at_call 72; (with_reducible refine (impl_IsValidContainers.calls k _ _ l1 t1472 _ ?side1 ?side2 A6.out).mono ?_); (case side1 => repeat ((exact (Kd.C_below HR1.out HB.out)))); (case side2 => exact HC1.out); rintro e w8 ⟨rfl,hb⟩; have n0_:=Aside0.mk (below_step (by repeat (((with_reducible (exact HB.out))))) hb); clear HB; have HB:=n0_; clear n0_; (try clear hb); (try clear hb2); (try clear hk); (try clear hi)))
   go_meet
   case rel => exact ⟨_,(!t1472),(by (rfl)),H',⟨by (omega)⟩,⟨by repeat (((with_reducible (exact HB.out))))⟩⟩
  ·replace c5:=Bool.eq_false_iff.mpr c5
   subst c5
   have H1 : (impl_MergeManifests.j0 k l0 l1 true) = some (r1,r2):=by rw [if_neg (show ¬ (false = true) by decide)] at H; exact H
   clear H
   have H:=H1
   clear H1
   have H':=Aside0.mk H
   clear H
   go_wp2_with ((((with_reducible refine gate_callee (f:=72) rfl ?_); refine goesL_ (some 11) rfl rfl Try.func72 (by kernel_rfl) rfl #[.slice A0 l0.length c0] rfl (by (try simp only [List.map_toArray,List.map_cons,List.map_nil]); (rfl)) ?_; (with_reducible refine (impl_IsValidContainers.calls k _ _ l0 false _ ?side1 ?side2 A4.out).mono ?_); (case side1 => repeat ((exact (Kd.C_below HR0.out HB.out)))); (case side2 => exact HC0.out); rintro e w9 ⟨rfl,hb⟩; refine ⟨_,rfl,?_⟩; have n0_:=Aside0.mk (below_step (by repeat (((with_reducible (exact HB.out))))) hb); clear HB; have HB:=n0_; clear n0_; (try clear hb); (try clear hb2); (try clear hk); (try clear hi))))
   go_meet
   case rel => exact ⟨_,(true),(by (rfl)),H',⟨by (omega)⟩,⟨by repeat (((with_reducible (exact HB.out))))⟩⟩
 case rest =>
  clear HC3
  try clear c1
  try clear p2
  try clear c5
  try clear c7
  try clear c8
  obtain ⟨kq,x17_2,rfl,HA,HJ2,HB⟩:=hcut
  cases kq with
  | zero => exact absurd HA.out (by simp [impl_MergeManifests.j0])
  | succ kj2 =>
   have H:=HA.out
   clear HA
   simp only [impl_MergeManifests.j0] at H
   by_cases c10 : x17_2 = true
   ·subst c10
    have H1 : (some (([] : List (S89)),false)) = some (r1,r2):=by rw [if_pos rfl] at H; exact H
    clear H
    have H:=H1
    clear H1
    simp only [Option.some.injEq,Prod.mk.injEq] at H
    obtain ⟨rfl,rfl⟩:=H
    go_wp2
    go_ret2
    exact ⟨_,by (rfl),by (exact Kd.R_nil _ _ _ _ _),by repeat (((with_reducible (exact HB.out))))⟩
   ·replace c10:=Bool.eq_false_iff.mpr c10
    subst c10
    have H1 : ((impl_Container.f l0).bind fun t1473 => (impl_MergeManifests.l0 kj2 l0 t1473 l1 (l1.length : Int) 0)) = some (r1,r2):=by rw [if_neg (show ¬ (false = true) by decide)] at H; exact H
    clear H
    have H:=H1
    clear H1
    replace H:=Option.bind_eq_some_iff.mp H
    obtain ⟨t1473,A110,H⟩:=H
    replace H : (impl_MergeManifests.l0 kj2 l0 t1473 l1 (l1.length : Int) 0) = some (r1,r2):=H
    have A11:=Aside0.mk A110
    clear A110
    have H':=Aside0.mk H
    clear H
    go_wp2_with ((((with_reducible refine gate_callee (f:=155) rfl ?_); refine goesL_ (some 19) rfl rfl Try.func155 (by kernel_rfl) rfl #[.slice A0 l0.length c0] rfl (by (try simp only [List.map_toArray,List.map_cons,List.map_nil]); (rfl)) ?_; (with_reducible refine (impl_Container.calls _ _ l0 t1473 _ ?side1 ?side2 A11.out).mono ?_); (case side1 => repeat ((exact (Kd.C_below HR0.out HB.out)))); (case side2 => exact HC0.out); rintro e w12 ⟨v1474,rfl,ho0,hb⟩; refine ⟨_,rfl,?_⟩; have n0_:=Aside0.mk (Kd.R_lower ho0 (below_size (by repeat (((with_reducible (exact HB.out))))))); have n1_:=Aside0.mk (below_step (by repeat (((with_reducible (exact HB.out))))) hb); clear HB; have HO1475:=n0_; have HB:=n1_; clear n0_ n1_; (try clear hb); (try clear hb2); (try clear hk); (try clear hi); (try clear ho0))))
    go_loopg [6,22] kj2 (fun kq v6 v22 w' => ∃ (x6_2 : List (S89)) (x22_2 : Int),v22 = .int .i64 x22_2 ∧ Aside0 (impl_MergeManifests.l0 kq l0 x6_2 l1 (l1.length : Int) x22_2 = some (r1,r2)) ∧ Aside0 (kq ≤ kj2) ∧ Aside0 (Kd.R k89 89 w' w.heap.size (fun _ => True) v6 x6_2) ∧ Aside0 (Below w.heap.size w w'))
    case atStart => exact ⟨(t1473),(0),(by (rfl)),H',⟨Nat.le_refl _⟩,⟨by exact HO1475.out⟩,⟨by repeat (((with_reducible (exact HB.out))))⟩⟩
    case round =>
     clear H'
     try clear c1
     try clear p2
     try clear c5
     try clear c7
     try clear c8
     try clear c10
     try clear p2
     obtain ⟨x6_2,x22_2,rfl,HA,HK2,HO_6,HB⟩:=hrel
     cases gk with
     | zero => exact absurd HA.out (by simp [impl_MergeManifests.l0])
     | succ k2 =>
      have H:=HA.out
      clear HA
      simp only [impl_MergeManifests.l0] at H
      by_cases c13 : x22_2 < (l1.length : Int)
      ·rw [if_pos c13] at H
       have c13b0 : decide (x22_2 < (l1.length : Int)) = true:=decide_eq_true c13
       clear c13
       by_cases c14 : 0 ≤ x22_2
       ·rw [if_pos c14] at H
        have c14b0 : decide (0 ≤ x22_2) = true:=decide_eq_true c14
        clear c14
        by_cases c15 : x22_2 < (l1.length : Int)
        ·rw [if_pos c15] at H
         have c15b0 : decide (x22_2 < (l1.length : Int)) = true:=decide_eq_true c15
         clear c15
         replace H:=Option.bind_eq_some_iff.mp H
         obtain ⟨t1478,A160,H⟩:=H
         replace H : (if t1478 ≥ 0 then (if 0 ≤ t1478 then (if t1478 < (x6_2.length : Int) then (impl_MergeManifests.l0 k2 l0 (x6_2.set (t1478 : Int).toNat (⟨(rd_T89 l1 x22_2).f0,(rd_T89 l1 x22_2).f1,(rd_T89 l1 x22_2).f2,(rd_T89 l1 x22_2).f3,(rd_T89 l1 x22_2).f4⟩ : S89)) l1 (l1.length : Int) (wrap64 (x22_2 + 1))) else (none)) else (none)) else (if x6_2.length < 2932031007402 then (impl_MergeManifests.l0 k2 l0 (x6_2 ++ [(⟨(rd_T89 l1 x22_2).f0,(rd_T89 l1 x22_2).f1,(rd_T89 l1 x22_2).f2,(rd_T89 l1 x22_2).f3,(rd_T89 l1 x22_2).f4⟩ : S89)]) l1 (l1.length : Int) (wrap64 (x22_2 + 1))) else (none))) = some (r1,r2):=H
         have A16:=Aside0.mk A160
         clear A160
         by_cases c17 : t1478 ≥ 0
         ·rw [if_pos c17] at H
          have c17b0 : decide (0 ≤ t1478) = true:=decide_eq_true c17
          clear c17
          by_cases c18 : 0 ≤ t1478
          ·rw [if_pos c18] at H
           have c18b0 : decide (0 ≤ t1478) = true:=decide_eq_true c18
           clear c18
           by_cases c19 : t1478 < (x6_2.length : Int)
           ·rw [if_pos c19] at H
            have c19b0 : decide (t1478 < (x6_2.length : Int)) = true:=decide_eq_true c19
            clear c19
            obtain ⟨y1479,hy1479⟩ : ∃ y_ : List (S89),y_ = (x6_2.set (t1478 : Int).toNat (⟨(rd_T89 l1 x22_2).f0,(rd_T89 l1 x22_2).f1,(rd_T89 l1 x22_2).f2,(rd_T89 l1 x22_2).f3,(rd_T89 l1 x22_2).f4⟩ : S89)):=⟨_,rfl⟩
            replace H : (impl_MergeManifests.l0 k2 l0 y1479 l1 (l1.length : Int) (wrap64 (x22_2 + 1))) = some (r1,r2):=by (rw [hy1479]; with_reducible exact H)
            have Ny1479:=Aside0.mk hy1479
            clear hy1479
            have H':=Aside0.mk H
            clear H
            have p1476 : 0 ≤ (x22_2 : Int):=of_decide_eq_true (by (with_reducible assumption))
            have q1476 : x22_2 < (l1.length : Int):=of_decide_eq_true (by (with_reducible assumption))
            obtain ⟨ad1476,e1476,hx1476_0,hx1476_1,hx1476_2,hx1476_3,hx1476_4⟩:=at_T89 HR1.out x22_2 p1476 q1476
            cases e1476
            replace hx1476_0:=(HB.out.cell (World.block_lt_of_cell? w _ hx1476_0)).trans hx1476_0
            replace hx1476_1:=(HB.out.cell (World.block_lt_of_cell? w _ hx1476_1)).trans hx1476_1
            replace hx1476_2:=(HB.out.cell (World.block_lt_of_cell? w _ hx1476_2)).trans hx1476_2
            replace hx1476_3:=(HB.out.cell (World.block_lt_of_cell? w _ hx1476_3)).trans hx1476_3
            replace hx1476_4:=(HB.out.cell (World.block_lt_of_cell? w _ hx1476_4)).trans hx1476_4
            replace p1476:=eq_true p1476
            replace q1476:=eq_true q1476
            go_wp2_with (first|((with_reducible refine gate_dst (N:=8) rfl ?_); refine box_event ?hg (N:=8) ?hd (cs:=#[.string (⟨#[]⟩ : ByteArray),.int .i64 0,.int .i64 0,.int .i64 0,.int .i64 0]) (t:=89) ?hr ?_; (case hd => rfl); (case hg => rfl); (case hr => (go_simp; done)); intro gb1477 hg w21 hbox hb; have n0_:=Aside0.mk (Kd.R_below (Kd.R_elderB (by exact HO_6.out) gb1477 (Nat.le_of_eq hg.symm)) hb); have n1_:=Aside0.mk (below_step (by repeat (((with_reducible (exact HB.out))))) hb); have n2_:=Aside0.mk (hbox); have n3_:=Aside0.mk ((by rw [hg]; exact (below_size (by repeat (((with_reducible (exact HB.out)))))) : w.heap.size ≤ gb1477)); have n4_:=Aside0.mk ((by rw [hg]; exact (below_size (by repeat (((with_reducible (exact HB.out)))))) : w.heap.size ≤ gb1477)); clear HO_6; clear HB; have HO_6:=n0_; have HB:=n1_; have BK1477:=n2_; have GW1477:=n3_; have GE1477:=n4_; clear n0_ n1_ n2_ n3_ n4_; clear hb hbox hg; have hcz22_0 : w21.cell? ⟨gb1477,0,none⟩ = some (.string (⟨#[]⟩ : ByteArray)):=(blk_cell BK1477.out 0).trans rfl; have hcz22_1 : w21.cell? ⟨gb1477,1,none⟩ = some (.int .i64 0):=(blk_cell BK1477.out 1).trans rfl; have hcz22_2 : w21.cell? ⟨gb1477,2,none⟩ = some (.int .i64 0):=(blk_cell BK1477.out 2).trans rfl; have hcz22_3 : w21.cell? ⟨gb1477,3,none⟩ = some (.int .i64 0):=(blk_cell BK1477.out 3).trans rfl; have hcz22_4 : w21.cell? ⟨gb1477,4,none⟩ = some (.int .i64 0):=(blk_cell BK1477.out 4).trans rfl; have hfz22_0:=blk_frozen BK1477.out 0; have hfz22_1:=blk_frozen BK1477.out 1; have hfz22_2:=blk_frozen BK1477.out 2; have hfz22_3:=blk_frozen BK1477.out 3; have hfz22_4:=blk_frozen BK1477.out 4)|((with_reducible refine gate_callee (f:=148) rfl ?_); refine goesL_ (some 29) rfl rfl Try.func148 (by kernel_rfl) rfl #[.slice A0 l0.length c0,.string ((rd_T89 l1 x22_2).f0)] rfl (by (try simp only [List.map_toArray,List.map_cons,List.map_nil]); (rfl)) ?_; (with_reducible refine (impl_indexOf.calls _ _ l0 ((rd_T89 l1 x22_2).f0) t1478 _ ?side1 ?side2 A16.out).mono ?_); (case side1 => exact Kd.C_below HR0.out (by repeat (with_reducible first|exact HB.out|refine below_set ?_ GE1477.out))); (case side2 => exact HC0.out); rintro e w23 ⟨rfl,hb⟩; refine ⟨_,rfl,?_⟩; have n0_:=Aside0.mk (Kd.R_below (by exact (Kd.R_mono (Kd.R_far (p:=⟨gb1477,4,none⟩) (Kd.R_far (p:=⟨gb1477,3,none⟩) (Kd.R_far (p:=⟨gb1477,2,none⟩) (Kd.R_far (p:=⟨gb1477,1,none⟩) (Kd.R_far (p:=⟨gb1477,0,none⟩) (Kd.R_mono HO_6.out (fun k_ hk => (⟨hk,hk.2⟩ : _ ∧ k_ ≠ gb1477))) (fun _ hk => hk.2) (.string ((rd_T89 l1 x22_2).f0))) (fun _ hk => hk.2) (.int .i64 ((rd_T89 l1 x22_2).f1))) (fun _ hk => hk.2) (.int .i64 ((rd_T89 l1 x22_2).f2))) (fun _ hk => hk.2) (.int .i64 ((rd_T89 l1 x22_2).f3))) (fun _ hk => hk.2) (.int .i64 ((rd_T89 l1 x22_2).f4))) (fun _ h_ => h_.1))) hb); have n1_:=Aside0.mk (blk_below (g:=gb1477) (o:=.cells #[.string ((rd_T89 l1 x22_2).f0),.int .i64 ((rd_T89 l1 x22_2).f1),.int .i64 ((rd_T89 l1 x22_2).f2),.int .i64 ((rd_T89 l1 x22_2).f3),.int .i64 ((rd_T89 l1 x22_2).f4)] 89 (0,0)) (by refine blk_put (cs:=#[.string ((rd_T89 l1 x22_2).f0),.int .i64 ((rd_T89 l1 x22_2).f1),.int .i64 ((rd_T89 l1 x22_2).f2),.int .i64 ((rd_T89 l1 x22_2).f3),.int .i64 0]) ?_ 4 _ rfl; refine blk_put (cs:=#[.string ((rd_T89 l1 x22_2).f0),.int .i64 ((rd_T89 l1 x22_2).f1),.int .i64 ((rd_T89 l1 x22_2).f2),.int .i64 0,.int .i64 0]) ?_ 3 _ rfl; refine blk_put (cs:=#[.string ((rd_T89 l1 x22_2).f0),.int .i64 ((rd_T89 l1 x22_2).f1),.int .i64 0,.int .i64 0,.int .i64 0]) ?_ 2 _ rfl; refine blk_put (cs:=#[.string ((rd_T89 l1 x22_2).f0),.int .i64 0,.int .i64 0,.int .i64 0,.int .i64 0]) ?_ 1 _ rfl; refine blk_put (cs:=#[.string (⟨#[]⟩ : ByteArray),.int .i64 0,.int .i64 0,.int .i64 0,.int .i64 0]) ?_ 0 _ rfl; exact BK1477.out) hb); have n2_:=Aside0.mk (below_step (by repeat (with_reducible first|exact HB.out|refine below_set ?_ GE1477.out)) hb); clear HO_6; clear BK1477; clear HB; have HO_6:=n0_; have BK1477:=n1_; have HB:=n2_; clear n0_ n1_ n2_; (try clear hb); (try clear hb2); (try clear hk); (try clear hi); have hcz24_0 : w23.cell? ⟨gb1477,0,none⟩ = some (.string ((rd_T89 l1 x22_2).f0)):=(blk_cell BK1477.out 0).trans rfl; have hcz24_1 : w23.cell? ⟨gb1477,1,none⟩ = some (.int .i64 ((rd_T89 l1 x22_2).f1)):=(blk_cell BK1477.out 1).trans rfl; have hcz24_2 : w23.cell? ⟨gb1477,2,none⟩ = some (.int .i64 ((rd_T89 l1 x22_2).f2)):=(blk_cell BK1477.out 2).trans rfl; have hcz24_3 : w23.cell? ⟨gb1477,3,none⟩ = some (.int .i64 ((rd_T89 l1 x22_2).f3)):=(blk_cell BK1477.out 3).trans rfl; have hcz24_4 : w23.cell? ⟨gb1477,4,none⟩ = some (.int .i64 ((rd_T89 l1 x22_2).f4)):=(blk_cell BK1477.out 4).trans rfl; have hfz24_0:=blk_frozen BK1477.out 0; have hfz24_1:=blk_frozen BK1477.out 1; have hfz24_2:=blk_frozen BK1477.out 2; have hfz24_3:=blk_frozen BK1477.out 3; have hfz24_4:=blk_frozen BK1477.out 4; have p20 : 0 ≤ (t1478 : Int):=of_decide_eq_true (by (with_reducible assumption)); have q20 : (t1478 : Int) < ((x6_2.length : Int) : Int):=of_decide_eq_true (by (with_reducible assumption)); obtain ⟨go20,co20,eo20,gb20,gl20,cl20,HG20⟩:=Kd.R_form HO_6.out (by omega); (cases eo20); have GB20:=Aside0.mk gb20; have GG20:=Aside0.mk HG20; clear gb20 gl20 HG20; obtain ⟨ce20,hcl20,hM20,hcc20,hfr20⟩:=Kd.R_elem HO_6.out z89 (t1478 : Int) p20 q20; obtain rfl:=k89_openM hM20; have hx20_0 : w23.cell? ⟨go20,(t1478 : Int).toNat * 5,none⟩ = some (.string ((rd_T89 x6_2 t1478).f0)):=hcc20 0 _ rfl; have hx20_1 : w23.cell? ⟨go20,(t1478 : Int).toNat * 5 + 1,none⟩ = some (.int .i64 ((rd_T89 x6_2 t1478).f1)):=hcc20 1 _ rfl; have hx20_2 : w23.cell? ⟨go20,(t1478 : Int).toNat * 5 + 2,none⟩ = some (.int .i64 ((rd_T89 x6_2 t1478).f2)):=hcc20 2 _ rfl; have hx20_3 : w23.cell? ⟨go20,(t1478 : Int).toNat * 5 + 3,none⟩ = some (.int .i64 ((rd_T89 x6_2 t1478).f3)):=hcc20 3 _ rfl; have hx20_4 : w23.cell? ⟨go20,(t1478 : Int).toNat * 5 + 4,none⟩ = some (.int .i64 ((rd_T89 x6_2 t1478).f4)):=hcc20 4 _ rfl; have hf20_0 : w23.frozen? ⟨go20,(t1478 : Int).toNat * 5,none⟩ = false:=hfr20 0; have hf20_1 : w23.frozen? ⟨go20,(t1478 : Int).toNat * 5 + 1,none⟩ = false:=hfr20 1; have hf20_2 : w23.frozen? ⟨go20,(t1478 : Int).toNat * 5 + 2,none⟩ = false:=hfr20 2; have hf20_3 : w23.frozen? ⟨go20,(t1478 : Int).toNat * 5 + 3,none⟩ = false:=hfr20 3; have hf20_4 : w23.frozen? ⟨go20,(t1478 : Int).toNat * 5 + 4,none⟩ = false:=hfr20 4; (try clear hcl20); (try clear hcc20); (try clear hfr20); (try clear hM20); replace p20:=eq_true p20; replace q20:=eq_true q20; have n_:=Aside0.mk (Kd.R_mono (ok':=(fun k_ => k_ ≠ gb1477)) HO_6.out (fun k_ hk => hk.2)); clear HO_6; have HO_6:=n_; clear n_; have HX25:=Aside0.mk (show Kd.R k89 89 w23 w.heap.size (fun k_ => k_ ≠ gb1477) (.slice (some ⟨go20,0,none⟩) x6_2.length co20) x6_2 from (by exact HO_6.out)); obtain ⟨ce25,hcl25,hM25,hcc25,hfr25⟩:=Kd.R_elem HX25.out z89 (t1478 : Int) (of_decide_eq_true (by (with_reducible assumption))) (by have h_ : (t1478 : Int) < ((x6_2.length : Int) : Int):=of_decide_eq_true (by (with_reducible assumption)); (exact h_)); obtain rfl:=k89_openM hM25; have HP25:=Kd.R_seg HX25.out (t1478 : Int) (of_decide_eq_true (by (with_reducible assumption))) (by have h_ : (t1478 : Int) < ((x6_2.length : Int) : Int):=of_decide_eq_true (by (with_reducible assumption)); (exact h_)) (seg:=[.string ((rd_T89 l1 x22_2).f0),.int .i64 ((rd_T89 l1 x22_2).f1),.int .i64 ((rd_T89 l1 x22_2).f2),.int .i64 ((rd_T89 l1 x22_2).f3),.int .i64 ((rd_T89 l1 x22_2).f4)]) (j:=0) hcl25 hcc25 (show 5 ≤ 5 from by decide) (x':=(⟨(rd_T89 l1 x22_2).f0,(rd_T89 l1 x22_2).f1,(rd_T89 l1 x22_2).f2,(rd_T89 l1 x22_2).f3,(rd_T89 l1 x22_2).f4⟩ : S89)) (k89_mkM _ _ _ (⟨(rd_T89 l1 x22_2).f0,(rd_T89 l1 x22_2).f1,(rd_T89 l1 x22_2).f2,(rd_T89 l1 x22_2).f3,(rd_T89 l1 x22_2).f4⟩ : S89) ) (fun _ hk => hk); have hx25_0:=hcc25 0 _ rfl; (try simp only [show (k89).sz = 5 from rfl,Nat.mul_one,Nat.add_zero] at hx25_0); have hf25_0:=hfr25 0; (try simp only [show (k89).sz = 5 from rfl,Nat.mul_one,Nat.add_zero] at hf25_0); have hx25_1:=hcc25 1 _ rfl; (try simp only [show (k89).sz = 5 from rfl,Nat.mul_one,Nat.add_zero] at hx25_1); have hf25_1:=hfr25 1; (try simp only [show (k89).sz = 5 from rfl,Nat.mul_one,Nat.add_zero] at hf25_1); have hx25_2:=hcc25 2 _ rfl; (try simp only [show (k89).sz = 5 from rfl,Nat.mul_one,Nat.add_zero] at hx25_2); have hf25_2:=hfr25 2; (try simp only [show (k89).sz = 5 from rfl,Nat.mul_one,Nat.add_zero] at hf25_2); have hx25_3:=hcc25 3 _ rfl; (try simp only [show (k89).sz = 5 from rfl,Nat.mul_one,Nat.add_zero] at hx25_3); have hf25_3:=hfr25 3; (try simp only [show (k89).sz = 5 from rfl,Nat.mul_one,Nat.add_zero] at hf25_3); have hx25_4:=hcc25 4 _ rfl; (try simp only [show (k89).sz = 5 from rfl,Nat.mul_one,Nat.add_zero] at hx25_4); have hf25_4:=hfr25 4; (try simp only [show (k89).sz = 5 from rfl,Nat.mul_one,Nat.add_zero] at hf25_4); (try clear hcl25); (try clear hcc25); (try clear hfr25); (try clear hM25))|((with_reducible refine gate_store (t:=89) (p:=35) rfl ?_); refine store_event (t:=89) (p:=35) (v:=?vo_w26) (w1:=(((((w23.setCell ⟨go20,(t1478 : Int).toNat * 5,none⟩ (.string ((rd_T89 l1 x22_2).f0))).setCell ⟨go20,(t1478 : Int).toNat * 5 + 1,none⟩ (.int .i64 ((rd_T89 l1 x22_2).f1))).setCell ⟨go20,(t1478 : Int).toNat * 5 + 2,none⟩ (.int .i64 ((rd_T89 l1 x22_2).f2))).setCell ⟨go20,(t1478 : Int).toNat * 5 + 3,none⟩ (.int .i64 ((rd_T89 l1 x22_2).f3))).setCell ⟨go20,(t1478 : Int).toNat * 5 + 4,none⟩ (.int .i64 ((rd_T89 l1 x22_2).f4)))) ?hg ?ho ?hn ?hr ?_; (case ho => rfl); (case hg => rfl); (case hn => rfl); (case hr => (go_simp; done)); intro w26 hw; have hg : w23.grownBy w26 (some go20):=(by rw [hw]; exact HP25.2); have hp_ : Kd.R k89 89 w26 w.heap.size (fun k_ => k_ ≠ gb1477) (.slice (some ⟨go20,0,none⟩) x6_2.length co20) y1479:=(by rw [hw,Ny1479.out]; exact HP25.1); clear HP25; have n0_:=Aside0.mk (hp_); have n1_:=Aside0.mk (blk_grown (g:=gb1477) (o:=.cells #[.string ((rd_T89 l1 x22_2).f0),.int .i64 ((rd_T89 l1 x22_2).f1),.int .i64 ((rd_T89 l1 x22_2).f2),.int .i64 ((rd_T89 l1 x22_2).f3),.int .i64 ((rd_T89 l1 x22_2).f4)] 89 (0,0)) (by exact BK1477.out) hg (Kd.R_away HO_6.out (fun _ hk => hk))); have n2_:=Aside0.mk ((by rw [hw]; exact below_set (below_set (below_set (below_set (below_set (HB.out) GB20.out) GB20.out) GB20.out) GB20.out) GB20.out : Below w.heap.size w w26)); clear HO_6; clear BK1477; clear HB; have HO_6:=n0_; have BK1477:=n1_; have HB:=n2_; clear n0_ n1_ n2_; clear hg hw hp_))
            go_roundg k2
            case measure => have:=HJ2.out; have:=HK2.out; omega
            case rel => exact ⟨(y1479),(wrap64 (x22_2 + 1)),(by (rfl)),H',⟨by have:=HJ2.out; have:=HK2.out; omega⟩,⟨by exact Kd.R_mono HO_6.out (fun _ hk => trivial)⟩,⟨by repeat (((with_reducible (exact HB.out))))⟩⟩
           ·rw [if_neg c19] at H
            exact absurd H (by simp)
          ·rw [if_neg c18] at H
           exact absurd H (by simp)
         ·rw [if_neg c17] at H
          have c17b0 : decide (0 ≤ t1478) = false:=decide_eq_false c17
          clear c17
          by_cases c27 : x6_2.length < 2932031007402
          ·rw [if_pos c27] at H
           have LMc27:=Aside0.mk c27
           clear c27
           obtain ⟨y1480,hy1480⟩ : ∃ y_ : List (S89),y_ = (x6_2 ++ [(⟨(rd_T89 l1 x22_2).f0,(rd_T89 l1 x22_2).f1,(rd_T89 l1 x22_2).f2,(rd_T89 l1 x22_2).f3,(rd_T89 l1 x22_2).f4⟩ : S89)]):=⟨_,rfl⟩
           replace H : (impl_MergeManifests.l0 k2 l0 y1480 l1 (l1.length : Int) (wrap64 (x22_2 + 1))) = some (r1,r2):=by (rw [hy1480]; with_reducible exact H)
           have Ny1480:=Aside0.mk hy1480
           clear hy1480
           have H':=Aside0.mk H
           clear H
           have p1476 : 0 ≤ (x22_2 : Int):=of_decide_eq_true (by (with_reducible assumption))
           have q1476 : x22_2 < (l1.length : Int):=of_decide_eq_true (by (with_reducible assumption))
           obtain ⟨ad1476,e1476,hx1476_0,hx1476_1,hx1476_2,hx1476_3,hx1476_4⟩:=at_T89 HR1.out x22_2 p1476 q1476
           cases e1476
           replace hx1476_0:=(HB.out.cell (World.block_lt_of_cell? w _ hx1476_0)).trans hx1476_0
           replace hx1476_1:=(HB.out.cell (World.block_lt_of_cell? w _ hx1476_1)).trans hx1476_1
           replace hx1476_2:=(HB.out.cell (World.block_lt_of_cell? w _ hx1476_2)).trans hx1476_2
           replace hx1476_3:=(HB.out.cell (World.block_lt_of_cell? w _ hx1476_3)).trans hx1476_3
           replace hx1476_4:=(HB.out.cell (World.block_lt_of_cell? w _ hx1476_4)).trans hx1476_4
           replace p1476:=eq_true p1476
           replace q1476:=eq_true q1476
           go_wp2_with (first|((with_reducible refine gate_dst (N:=8) rfl ?_); refine box_event ?hg (N:=8) ?hd (cs:=#[.string (⟨#[]⟩ : ByteArray),.int .i64 0,.int .i64 0,.int .i64 0,.int .i64 0]) (t:=89) ?hr ?_; (case hd => rfl); (case hg => rfl); (case hr => (go_simp; done)); intro gb1477 hg w28 hbox hb; have n0_:=Aside0.mk (Kd.R_below (Kd.R_elderB (by exact HO_6.out) gb1477 (Nat.le_of_eq hg.symm)) hb); have n1_:=Aside0.mk (below_step (by repeat (((with_reducible (exact HB.out))))) hb); have n2_:=Aside0.mk (hbox); have n3_:=Aside0.mk ((by rw [hg]; exact (below_size (by repeat (((with_reducible (exact HB.out)))))) : w.heap.size ≤ gb1477)); have n4_:=Aside0.mk ((by rw [hg]; exact (below_size (by repeat (((with_reducible (exact HB.out)))))) : w.heap.size ≤ gb1477)); clear HO_6; clear HB; have HO_6:=n0_; have HB:=n1_; have BK1477:=n2_; have GW1477:=n3_; have GE1477:=n4_; clear n0_ n1_ n2_ n3_ n4_; clear hb hbox hg; have hcz29_0 : w28.cell? ⟨gb1477,0,none⟩ = some (.string (⟨#[]⟩ : ByteArray)):=(blk_cell BK1477.out 0).trans rfl; have hcz29_1 : w28.cell? ⟨gb1477,1,none⟩ = some (.int .i64 0):=(blk_cell BK1477.out 1).trans rfl; have hcz29_2 : w28.cell? ⟨gb1477,2,none⟩ = some (.int .i64 0):=(blk_cell BK1477.out 2).trans rfl; have hcz29_3 : w28.cell? ⟨gb1477,3,none⟩ = some (.int .i64 0):=(blk_cell BK1477.out 3).trans rfl; have hcz29_4 : w28.cell? ⟨gb1477,4,none⟩ = some (.int .i64 0):=(blk_cell BK1477.out 4).trans rfl; have hfz29_0:=blk_frozen BK1477.out 0; have hfz29_1:=blk_frozen BK1477.out 1; have hfz29_2:=blk_frozen BK1477.out 2; have hfz29_3:=blk_frozen BK1477.out 3; have hfz29_4:=blk_frozen BK1477.out 4)|((with_reducible refine gate_callee (f:=148) rfl ?_); refine goesL_ (some 29) rfl rfl Try.func148 (by kernel_rfl) rfl #[.slice A0 l0.length c0,.string ((rd_T89 l1 x22_2).f0)] rfl (by (try simp only [List.map_toArray,List.map_cons,List.map_nil]); (rfl)) ?_; (with_reducible refine (impl_indexOf.calls _ _ l0 ((rd_T89 l1 x22_2).f0) t1478 _ ?side1 ?side2 A16.out).mono ?_); (case side1 => exact Kd.C_below HR0.out (by repeat (with_reducible first|exact HB.out|refine below_set ?_ GE1477.out))); (case side2 => exact HC0.out); rintro e w30 ⟨rfl,hb⟩; refine ⟨_,rfl,?_⟩; have n0_:=Aside0.mk (Kd.R_below (by exact (Kd.R_mono (Kd.R_far (p:=⟨gb1477,4,none⟩) (Kd.R_far (p:=⟨gb1477,3,none⟩) (Kd.R_far (p:=⟨gb1477,2,none⟩) (Kd.R_far (p:=⟨gb1477,1,none⟩) (Kd.R_far (p:=⟨gb1477,0,none⟩) (Kd.R_mono HO_6.out (fun k_ hk => (⟨hk,hk.2⟩ : _ ∧ k_ ≠ gb1477))) (fun _ hk => hk.2) (.string ((rd_T89 l1 x22_2).f0))) (fun _ hk => hk.2) (.int .i64 ((rd_T89 l1 x22_2).f1))) (fun _ hk => hk.2) (.int .i64 ((rd_T89 l1 x22_2).f2))) (fun _ hk => hk.2) (.int .i64 ((rd_T89 l1 x22_2).f3))) (fun _ hk => hk.2) (.int .i64 ((rd_T89 l1 x22_2).f4))) (fun _ h_ => h_.1))) hb); have n1_:=Aside0.mk (blk_below (g:=gb1477) (o:=.cells #[.string ((rd_T89 l1 x22_2).f0),.int .i64 ((rd_T89 l1 x22_2).f1),.int .i64 ((rd_T89 l1 x22_2).f2),.int .i64 ((rd_T89 l1 x22_2).f3),.int .i64 ((rd_T89 l1 x22_2).f4)] 89 (0,0)) (by refine blk_put (cs:=#[.string ((rd_T89 l1 x22_2).f0),.int .i64 ((rd_T89 l1 x22_2).f1),.int .i64 ((rd_T89 l1 x22_2).f2),.int .i64 ((rd_T89 l1 x22_2).f3),.int .i64 0]) ?_ 4 _ rfl; refine blk_put (cs:=#[.string ((rd_T89 l1 x22_2).f0),.int .i64 ((rd_T89 l1 x22_2).f1),.int .i64 ((rd_T89 l1 x22_2).f2),.int .i64 0,.int .i64 0]) ?_ 3 _ rfl; refine blk_put (cs:=#[.string ((rd_T89 l1 x22_2).f0),.int .i64 ((rd_T89 l1 x22_2).f1),.int .i64 0,.int .i64 0,.int .i64 0]) ?_ 2 _ rfl; refine blk_put (cs:=#[.string ((rd_T89 l1 x22_2).f0),.int .i64 0,.int .i64 0,.int .i64 0,.int .i64 0]) ?_ 1 _ rfl; refine blk_put (cs:=#[.string (⟨#[]⟩ : ByteArray),.int .i64 0,.int .i64 0,.int .i64 0,.int .i64 0]) ?_ 0 _ rfl; exact BK1477.out) hb); have n2_:=Aside0.mk (below_step (by repeat (with_reducible first|exact HB.out|refine below_set ?_ GE1477.out)) hb); clear HO_6; clear BK1477; clear HB; have HO_6:=n0_; have BK1477:=n1_; have HB:=n2_; clear n0_ n1_ n2_; (try clear hb); (try clear hb2); (try clear hk); (try clear hi); have hcz31_0 : w30.cell? ⟨gb1477,0,none⟩ = some (.string ((rd_T89 l1 x22_2).f0)):=(blk_cell BK1477.out 0).trans rfl; have hcz31_1 : w30.cell? ⟨gb1477,1,none⟩ = some (.int .i64 ((rd_T89 l1 x22_2).f1)):=(blk_cell BK1477.out 1).trans rfl; have hcz31_2 : w30.cell? ⟨gb1477,2,none⟩ = some (.int .i64 ((rd_T89 l1 x22_2).f2)):=(blk_cell BK1477.out 2).trans rfl; have hcz31_3 : w30.cell? ⟨gb1477,3,none⟩ = some (.int .i64 ((rd_T89 l1 x22_2).f3)):=(blk_cell BK1477.out 3).trans rfl; have hcz31_4 : w30.cell? ⟨gb1477,4,none⟩ = some (.int .i64 ((rd_T89 l1 x22_2).f4)):=(blk_cell BK1477.out 4).trans rfl; have hfz31_0:=blk_frozen BK1477.out 0; have hfz31_1:=blk_frozen BK1477.out 1; have hfz31_2:=blk_frozen BK1477.out 2; have hfz31_3:=blk_frozen BK1477.out 3; have hfz31_4:=blk_frozen BK1477.out 4)|((with_reducible refine gate_builtin (b:=.append) (xs:=#[.tmp 36,.tmp 38]) rfl ?_); at_builtin; refine Kd.R_append k89 (w0:=w) w.heap.size rfl (.tmp 36) (.tmp 38) 74 89 (.agg #[(.string ⟨#[]⟩),(.int .i64 0),(.int .i64 0),(.int .i64 0),(.int .i64 0)]) 48 rfl Try.underlying74 info89 rfl (by decide) (by omega) u6 x6_2 (⟨(rd_T89 l1 x22_2).f0,(rd_T89 l1 x22_2).f1,(rd_T89 l1 x22_2).f2,(rd_T89 l1 x22_2).f3,(rd_T89 l1 x22_2).f4⟩ : S89) [.string ((rd_T89 l1 x22_2).f0),.int .i64 ((rd_T89 l1 x22_2).f1),.int .i64 ((rd_T89 l1 x22_2).f2),.int .i64 ((rd_T89 l1 x22_2).f3),.int .i64 ((rd_T89 l1 x22_2).f4)] (fun k_ => k_ ≠ gb1477) (fun _ => False) rfl rfl ?aP (fun _ hk => hk.elim) ?aF ?aO ?aB ?aS ?aL ?_; (case aP => exact k89_mkM _ _ _ (⟨(rd_T89 l1 x22_2).f0,(rd_T89 l1 x22_2).f1,(rd_T89 l1 x22_2).f2,(rd_T89 l1 x22_2).f3,(rd_T89 l1 x22_2).f4⟩ : S89)); (case aB => exact (by repeat (((with_reducible (exact HB.out)))))); (case aF => exact (fun k_ hk => Kd.freshB (g:=gb1477) (o:=.cells #[.string ((rd_T89 l1 x22_2).f0),.int .i64 ((rd_T89 l1 x22_2).f1),.int .i64 ((rd_T89 l1 x22_2).f2),.int .i64 ((rd_T89 l1 x22_2).f3),.int .i64 ((rd_T89 l1 x22_2).f4)] 89 (0,0)) (by exact BK1477.out) k_ hk)); (case aO => exact (by exact Kd.R_mono HO_6.out (fun _ hk => hk.2))); (case aS => exact (below_size (by repeat (((with_reducible (exact HB.out))))))); (case aL => have:=LMc27.out; omega); intro v1481 w32 ho hb hg hat; rw [← Ny1480.out] at ho; have n0_:=Aside0.mk (blk_grown (g:=gb1477) (o:=.cells #[.string ((rd_T89 l1 x22_2).f0),.int .i64 ((rd_T89 l1 x22_2).f1),.int .i64 ((rd_T89 l1 x22_2).f2),.int .i64 ((rd_T89 l1 x22_2).f3),.int .i64 ((rd_T89 l1 x22_2).f4)] 89 (0,0)) (by exact BK1477.out) hg (Kd.R_away HO_6.out (fun _ hk => hk.2))); have n1_:=Aside0.mk (hb); have n2_:=Aside0.mk (ho); clear BK1477; clear HB; clear HO_6; have BK1477:=n0_; have HB:=n1_; have HO1482:=n2_; clear n0_ n1_ n2_; clear ho hb hg hat))
           go_roundg k2
           case measure => have:=HJ2.out; have:=HK2.out; omega
           case rel => exact ⟨(y1480),(wrap64 (x22_2 + 1)),(by (rfl)),H',⟨by have:=HJ2.out; have:=HK2.out; omega⟩,⟨by exact Kd.R_mono HO1482.out (fun _ hk => trivial)⟩,⟨by repeat (((with_reducible (exact HB.out))))⟩⟩
          ·rw [if_neg c27] at H
           exact absurd H (by simp)
        ·rw [if_neg c15] at H
         exact absurd H (by simp)
       ·rw [if_neg c14] at H
        exact absurd H (by simp)
      ·rw [if_neg c13] at H
       have c13b0 : decide (x22_2 < (l1.length : Int)) = false:=decide_eq_false c13
       clear c13
       replace H:=Option.bind_eq_some_iff.mp H
       obtain ⟨t1483,A330,H⟩:=H
       replace H : (if t1483 = true then (some (x6_2,true)) else (some (([] : List (S89)),false))) = some (r1,r2):=H
       have A33:=Aside0.mk A330
       clear A330
       by_cases c34 : t1483 = true
       ·subst c34
        have H1 : (some (x6_2,true)) = some (r1,r2):=by rw [if_pos rfl] at H; exact H
        clear H
        have H:=H1
        clear H1
        simp only [Option.some.injEq,Prod.mk.injEq] at H
        obtain ⟨rfl,rfl⟩:=H
        obtain ⟨Ao35,co35,eo35⟩:=Kd.R_slice HO_6.out
        subst eo35
        go_wp2_with ((((with_reducible refine gate_callee (f:=72) rfl ?_); refine goesL_ (some 42) rfl rfl Try.func72 (by kernel_rfl) rfl #[.slice Ao35 x6_2.length co35] rfl (by (try simp only [List.map_toArray,List.map_cons,List.map_nil]); (rfl)) ?_; (with_reducible refine (impl_IsValidContainers.calls k2 _ _ x6_2 true _ ?side1 ?side2 A33.out).mono ?_); (case side1 => repeat ((exact (Kd.R_reads' HO_6.out).2.2))); (case side2 => exact (Kd.R_reads' HO_6.out).2.1); rintro e w36 ⟨rfl,hb⟩; refine ⟨_,rfl,?_⟩; have n0_:=Aside0.mk (Kd.R_below (by exact HO_6.out) hb); have n1_:=Aside0.mk (below_step (by repeat (((with_reducible (exact HB.out))))) hb); clear HO_6; clear HB; have HO_6:=n0_; have HB:=n1_; clear n0_ n1_; (try clear hb); (try clear hb2); (try clear hk); (try clear hi))))
        go_ret2
        exact ⟨_,by (rfl),by exact HO_6.out,by repeat (((with_reducible (exact HB.out))))⟩
       ·replace c34:=Bool.eq_false_iff.mpr c34
        subst c34
        have H1 : (some (([] : List (S89)),false)) = some (r1,r2):=by rw [if_neg (show ¬ (false = true) by decide)] at H; exact H
        clear H
        have H:=H1
        clear H1
        simp only [Option.some.injEq,Prod.mk.injEq] at H
        obtain ⟨rfl,rfl⟩:=H
        obtain ⟨Ao37,co37,eo37⟩:=Kd.R_slice HO_6.out
        subst eo37
        go_wp2_with ((((with_reducible refine gate_callee (f:=72) rfl ?_); refine goesL_ (some 42) rfl rfl Try.func72 (by kernel_rfl) rfl #[.slice Ao37 x6_2.length co37] rfl (by (try simp only [List.map_toArray,List.map_cons,List.map_nil]); (rfl)) ?_; (with_reducible refine (impl_IsValidContainers.calls k2 _ _ x6_2 false _ ?side1 ?side2 A33.out).mono ?_); (case side1 => repeat ((exact (Kd.R_reads' HO_6.out).2.2))); (case side2 => exact (Kd.R_reads' HO_6.out).2.1); rintro e w38 ⟨rfl,hb⟩; refine ⟨_,rfl,?_⟩; have n0_:=Aside0.mk (Kd.R_below (by exact HO_6.out) hb); have n1_:=Aside0.mk (below_step (by repeat (((with_reducible (exact HB.out))))) hb); clear HO_6; clear HB; have HO_6:=n0_; have HB:=n1_; clear n0_ n1_; (try clear hb); (try clear hb2); (try clear hk); (try clear hi))))
        go_ret2
        exact ⟨_,by (rfl),by (exact Kd.R_nil _ _ _ _ _),by repeat (((with_reducible (exact HB.out))))⟩

end Go.Proofs.Ytlldonokjgoajaa.X
