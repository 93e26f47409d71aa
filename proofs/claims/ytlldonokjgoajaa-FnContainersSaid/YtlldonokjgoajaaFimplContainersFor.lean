-- Written by a program of ours (wip/bin/xprint.py, over the kit's print.py) out of the translation. Not trusted: Lean checks it.
import Derived.Test.YtlldonokjgoajaaX0
import Derived.Test.YtlldonokjgoajaaFbGood
import Derived.Test.YtlldonokjgoajaaFbList
namespace Go.Proofs.Ytlldonokjgoajaa.X
open Go.RowKit Go.Proofs.YtlldonokjgoajaaW.PrintWords Go.Proofs.YtlldonokjgoajaaW.PrintLast Go.Proofs.YtlldonokjgoajaaW.PrintMore
attribute [local go_sem] max2_int min2_int max_two min_two max_three min_three max_four min_four   -- for this text's walks alone
set_option linter.unusedVariables false
set_option linter.unusedSimpArgs false

/-! ### impl_ContainersFor: function 77 -/
mutual
def impl_ContainersFor.j0 : Nat → List (S89) → Int → Bool → Option (List ByteArray × Bool)
 | 0, _, _, _ => none
 | k + 1, x0, x1, x16 => if x16 = true then (some (([] : List ByteArray), false)) else (impl_ContainersFor.l0 k x1 (([] : List ByteArray)) x0 (x0.length : Int) 0)
def impl_ContainersFor.l0 : Nat → Int → List ByteArray → List (S89) → Int → Int → Option (List ByteArray × Bool)
 | 0, _, _, _, _, _ => none
 | k + 1, x1, x6, x18, x19, x20 => if x20 < x19 then (if 0 ≤ x20 then (if x20 < (x18.length : Int) then (if ((rd_T89 x18 x20).f4) = x1 then (if x6.length < 8796093022208 then (impl_ContainersFor.l0 k x1 (x6 ++ [(rd_T89 x18 x20).f0]) x18 x19 (wrap64 (x20 + 1))) else (none)) else (impl_ContainersFor.l0 k x1 x6 x18 x19 (wrap64 (x20 + 1)))) else (none)) else (none)) else (some (x6, true))
end
def impl_ContainersFor.f (k : Nat) (l0 : List (S89)) (a1 : Int) : Option (List ByteArray × Bool) := (impl_IsValidContainers.f k l0).bind fun t1245 => (if t1245 = true then ((impl_within.f a1 1 9).bind fun t1246 => (impl_ContainersFor.j0 k l0 a1 (!t1246))) else (impl_ContainersFor.j0 k l0 a1 true))
theorem impl_ContainersFor.mono_l : ∀ k, (∀ y0 y1 y2, LeO (impl_ContainersFor.j0 k y0 y1 y2) (impl_ContainersFor.j0 (k + 1) y0 y1 y2)) ∧ (∀ y0 y1 y2 y3 y4, LeO (impl_ContainersFor.l0 k y0 y1 y2 y3 y4) (impl_ContainersFor.l0 (k + 1) y0 y1 y2 y3 y4))
 | 0 => ⟨fun _ _ _ r h => by simp [impl_ContainersFor.j0] at h, fun _ _ _ _ _ r h => by simp [impl_ContainersFor.l0] at h⟩
 | k + 1 => by
  obtain ⟨ih0, ih1⟩ := impl_ContainersFor.mono_l k
  refine ⟨?_, ?_⟩
  ·intro y0 y1 y2
   unfold impl_ContainersFor.j0
   repeat' first
   | (with_reducible exact ih0 _ _ _)
   | (with_reducible exact ih1 _ _ _ _ _)
   | (with_reducible exact impl_IsValidContainers.mono _ _)
   | (with_reducible exact LeO.refl _)
   | (with_reducible exact LeO.none _)
   | (with_reducible refine LeO.ite ?_ ?_)
   | (with_reducible refine LeO.bind ?_ (fun _ => ?_))
   | exact ih0 _ _ _
   | exact ih1 _ _ _ _ _
   | exact impl_IsValidContainers.mono _ _
   | exact LeO.none _
   | refine LeO.ite ?_ ?_
   | refine LeO.bind ?_ (fun _ => ?_)
  ·intro y0 y1 y2 y3 y4
   unfold impl_ContainersFor.l0
   repeat' first
   | (with_reducible exact ih0 _ _ _)
   | (with_reducible exact ih1 _ _ _ _ _)
   | (with_reducible exact impl_IsValidContainers.mono _ _)
   | (with_reducible exact LeO.refl _)
   | (with_reducible exact LeO.none _)
   | (with_reducible refine LeO.ite ?_ ?_)
   | (with_reducible refine LeO.bind ?_ (fun _ => ?_))
   | exact ih0 _ _ _
   | exact ih1 _ _ _ _ _
   | exact impl_IsValidContainers.mono _ _
   | exact LeO.none _
   | refine LeO.ite ?_ ?_
   | refine LeO.bind ?_ (fun _ => ?_)
theorem impl_ContainersFor.mono : ∀ a0 a1 k, LeO (impl_ContainersFor.f k a0 a1) (impl_ContainersFor.f (k + 1) a0 a1) := by
 intro a0 a1 k
 obtain ⟨ih0, ih1⟩ := impl_ContainersFor.mono_l k
 unfold impl_ContainersFor.f
 repeat' first
   | (with_reducible exact ih0 _ _ _)
   | (with_reducible exact ih1 _ _ _ _ _)
   | (with_reducible exact impl_IsValidContainers.mono _ _)
   | (with_reducible exact LeO.refl _)
   | (with_reducible exact LeO.none _)
   | (with_reducible refine LeO.ite ?_ ?_)
   | (with_reducible refine LeO.bind ?_ (fun _ => ?_))
   | exact ih0 _ _ _
   | exact ih1 _ _ _ _ _
   | exact impl_IsValidContainers.mono _ _
   | exact LeO.none _
   | refine LeO.ite ?_ ?_
   | refine LeO.bind ?_ (fun _ => ?_)
set_option maxHeartbeats 8000000 in
set_option maxRecDepth 100000 in
theorem impl_ContainersFor.calls (k : Nat) (A0 : Option Addr) (c0 : Nat) (l0 : List (S89)) (a1 : Int) (r1 : List ByteArray) (r2 : Bool) (w : World) (hr0 : Kd.C k89 w A0 l0.length l0) (hc0 : l0.length ≤ c0) (h : impl_ContainersFor.f k l0 a1 = some (r1, r2)) :
  Calls Try.prog 77 #[.slice A0 l0.length c0, .int .i64 a1] w fun e w' => ∃ v0_ : Value, e = .returned (.tuple #[v0_, .bool r2]) ∧ Kd.R Kd.string 9 w' w.heap.size (fun _ => True) v0_ r1 ∧ Below w.heap.size w w' := by
 have hu89 := Try.underlying89
 have HR0 := Aside0.mk hr0
 have HC0 := Aside0.mk hc0
 clear hr0 hc0
 have HB := Aside0.mk (Below.refl w.heap.size w)
 have H : ((impl_IsValidContainers.f k l0).bind fun t1245 => (if t1245 = true then ((impl_within.f a1 1 9).bind fun t1246 => (impl_ContainersFor.j0 k l0 a1 (!t1246))) else (impl_ContainersFor.j0 k l0 a1 true))) = some (r1, r2) := h
 clear h
 have HC3 := Aside0.mk H
 clear H
 go_enter Try.func77, Try.ntmps77
 go_upto_region 1 with (fail)
 go_cut [16] (fun v16 wc => ∃ (kq : Nat) (x16_2 : Bool), v16 = .bool x16_2 ∧ Aside0 (impl_ContainersFor.j0 kq l0 a1 x16_2 = some (r1, r2)) ∧ Aside0 (kq ≤ k) ∧ Aside0 (Below w.heap.size w wc))
 case first =>
  have H := HC3.out
  clear HC3
  replace H := Option.bind_eq_some_iff.mp H
  obtain ⟨t1245, A40, H⟩ := H
  replace H : (if t1245 = true then ((impl_within.f a1 1 9).bind fun t1246 => (impl_ContainersFor.j0 k l0 a1 (!t1246))) else (impl_ContainersFor.j0 k l0 a1 true)) = some (r1, r2) := H
  have A4 := Aside0.mk A40
  clear A40
  by_cases c5 : t1245 = true
  ·subst c5
   have H1 : ((impl_within.f a1 1 9).bind fun t1246 => (impl_ContainersFor.j0 k l0 a1 (!t1246))) = some (r1, r2) := by rw [if_pos rfl] at H; exact H
   clear H
   have H := H1
   clear H1
   replace H := Option.bind_eq_some_iff.mp H
   obtain ⟨t1246, A60, H⟩ := H
   replace H : (impl_ContainersFor.j0 k l0 a1 (!t1246)) = some (r1, r2) := H
   have A6 := Aside0.mk A60
   clear A60
   have H' := Aside0.mk H
   clear H
   go_wp2_with (first | ((with_reducible refine gate_callee (f := 72) rfl ?_); refine goesL_ (some 10) rfl rfl Try.func72 (by kernel_rfl) rfl #[.slice A0 l0.length c0] rfl (by (try simp only [List.map_toArray, List.map_cons, List.map_nil]); first | done | rfl | (simp only [List.length_drop, List.length_take]; rfl)) ?_; (with_reducible refine (impl_IsValidContainers.calls k _ _ l0 true _ ?side1 ?side2 A4.out).mono ?_); (case side1 => repeat (first | exact (Kd.C_below HR0.out HB.out) | (with_reducible refine Kd.C_alloc ?_ _) | (with_reducible refine Kd.C_drewN ?_ _) | (with_reducible refine Kd.C_drew ?_))); (case side2 => exact HC0.out); rintro e w7 ⟨rfl, hb⟩; refine ⟨_, rfl, ?_⟩; have n0_ := Aside0.mk (below_step (by repeat (first | (with_reducible first | exact HB.out | apply below_alloc | apply pw_below_drewN | apply below_drew1) | exact HB.out)) hb); clear HB; have HB := n0_; clear n0_; (try clear hb); (try clear hb2); (try clear hk); (try clear hi)) | (go_at_call 118; (with_reducible refine (impl_within.calls a1 1 9 t1246 _ A6.out).mono ?_); rintro e w' ⟨rfl, ⟨nd, rfl⟩⟩))
   go_meet
   case rel => exact ⟨_, (!t1246), (by first | rfl | (simp; done) | (simp [*]; done)), H', ⟨by first | omega | exact Nat.le_refl _⟩, ⟨by repeat (first | (with_reducible first | exact HB.out | apply below_alloc | apply pw_below_drewN | apply below_drew1) | exact HB.out)⟩⟩
  ·replace c5 := Bool.eq_false_iff.mpr c5
   subst c5
   have H1 : (impl_ContainersFor.j0 k l0 a1 true) = some (r1, r2) := by rw [if_neg (show ¬ (false = true) by decide)] at H; exact H
   clear H
   have H := H1
   clear H1
   have H' := Aside0.mk H
   clear H
   go_wp2_with (first | ((with_reducible refine gate_callee (f := 72) rfl ?_); refine goesL_ (some 10) rfl rfl Try.func72 (by kernel_rfl) rfl #[.slice A0 l0.length c0] rfl (by (try simp only [List.map_toArray, List.map_cons, List.map_nil]); first | done | rfl | (simp only [List.length_drop, List.length_take]; rfl)) ?_; (with_reducible refine (impl_IsValidContainers.calls k _ _ l0 false _ ?side1 ?side2 A4.out).mono ?_); (case side1 => repeat (first | exact (Kd.C_below HR0.out HB.out) | (with_reducible refine Kd.C_alloc ?_ _) | (with_reducible refine Kd.C_drewN ?_ _) | (with_reducible refine Kd.C_drew ?_))); (case side2 => exact HC0.out); rintro e w8 ⟨rfl, hb⟩; refine ⟨_, rfl, ?_⟩; have n0_ := Aside0.mk (below_step (by repeat (first | (with_reducible first | exact HB.out | apply below_alloc | apply pw_below_drewN | apply below_drew1) | exact HB.out)) hb); clear HB; have HB := n0_; clear n0_; (try clear hb); (try clear hb2); (try clear hk); (try clear hi)))
   go_meet
   case rel => exact ⟨_, (true), (by first | rfl | (simp; done) | (simp [*]; done)), H', ⟨by first | omega | exact Nat.le_refl _⟩, ⟨by repeat (first | (with_reducible first | exact HB.out | apply below_alloc | apply pw_below_drewN | apply below_drew1) | exact HB.out)⟩⟩
 case rest =>
  clear HC3
  try clear p2
  try clear c5
  try clear c7
  obtain ⟨kq, x16_2, rfl, HA, HJ2, HB⟩ := hcut
  cases kq with
  | zero => exact absurd HA.out (by simp [impl_ContainersFor.j0])
  | succ kj2 =>
   have H := HA.out
   clear HA
   simp only [impl_ContainersFor.j0] at H
   by_cases c9 : x16_2 = true
   ·subst c9
    have H1 : (some (([] : List ByteArray), false)) = some (r1, r2) := by rw [if_pos rfl] at H; exact H
    clear H
    have H := H1
    clear H1
    simp only [Option.some.injEq, Prod.mk.injEq] at H
    obtain ⟨rfl, rfl⟩ := H
    go_wp2
    go_ret2
    exact ⟨_, by first | rfl | (simp [errW_none, errW_some] <;> rfl) | (simp [*, errW_none, errW_some] <;> rfl), by first | exact Kd.R_nil _ _ _ _ _ | exact Kd.N_nil _ _ _ _ _ | exact Kd.V_nil _ _ _ _ _ | exact Kd.Q_nil _ _ _ _ _ | exact Kd.S_nil _ _ _ _ _, by repeat (first | (with_reducible first | exact HB.out | apply below_alloc | apply pw_below_drewN | apply below_drew1) | exact HB.out)⟩
   ·replace c9 := Bool.eq_false_iff.mpr c9
    subst c9
    have H1 : (impl_ContainersFor.l0 kj2 a1 (([] : List ByteArray)) l0 (l0.length : Int) 0) = some (r1, r2) := by rw [if_neg (show ¬ (false = true) by decide)] at H; exact H
    clear H
    have H := H1
    clear H1
    obtain ⟨y1247, hy1247⟩ : ∃ y_ : List ByteArray, y_ = (([] : List ByteArray)) := ⟨_, rfl⟩
    replace H : (impl_ContainersFor.l0 kj2 a1 y1247 l0 (l0.length : Int) 0) = some (r1, r2) := by first | (rw [hy1247]; with_reducible exact H) | (have H2_ := (Option.bind_some _ _).symm.trans H; rw [hy1247]; with_reducible exact H2_) | (have H2_ := (Option.bind_some _ _).symm.trans H; with_reducible exact H2_) | with_reducible exact H | (rw [hy1247]; exact H) | exact H
    have Ny1247 := Aside0.mk hy1247
    clear hy1247
    have H' := Aside0.mk H
    clear H
    go_wp2_with (first | ((with_reducible refine gate_dst (N := 17) rfl ?_); refine Kd.R_lit Kd.string _ 9 ?hg (N := 17) ?hd (xs := ([] : List ByteArray)) (inner := []) (ok := fun _ => True) (okp := fun _ => True) ?hr ?hp (fun _ hk => hk) trivial (Below.refl _ _) (Nat.le_refl _) (by simp) ?_; (case hd => rfl); (case hg => rfl); (case hr => first | (go_simp; done) | (go_simp; rfl)); (case hp => exact (Reps.none _ _)); intro v1248 w10 ho11 hb hg_ hnew_; clear hg_ hnew_; (first | rw [← Ny1247.out] at ho11 | (simp only [Int.reduceToNat] at ho11; rw [← Ny1247.out] at ho11)); have n0_ := Aside0.mk (Kd.R_lower ho11 (below_size (by repeat (first | (with_reducible first | exact HB.out | apply below_alloc | apply pw_below_drewN | apply below_drew1) | exact HB.out)))); have n1_ := Aside0.mk (below_step (by repeat (first | (with_reducible first | exact HB.out | apply below_alloc | apply pw_below_drewN | apply below_drew1) | exact HB.out)) hb); clear HB; have HO1249 := n0_; have HB := n1_; clear n0_ n1_; clear hb ho11))
    go_loopg [6, 20] kj2 (fun kq v6 v20 w' => ∃ (x6_2 : List ByteArray) (x20_2 : Int), v20 = .int .i64 x20_2 ∧ Aside0 (impl_ContainersFor.l0 kq a1 x6_2 l0 (l0.length : Int) x20_2 = some (r1, r2)) ∧ Aside0 (kq ≤ kj2) ∧ Aside0 (Kd.R Kd.string 9 w' w.heap.size (fun _ => True) v6 x6_2) ∧ Aside0 (Below w.heap.size w w'))
    case atStart => exact ⟨(y1247), (0), (by first | rfl | (simp; done) | (simp [*]; done)), H', ⟨Nat.le_refl _⟩, ⟨by (with_reducible repeat (first | apply Kd.R_alloc | apply Kd.R_drewN | apply Kd.R_drew)); exact HO1249.out⟩, ⟨by repeat (first | (with_reducible first | exact HB.out | apply below_alloc | apply pw_below_drewN | apply below_drew1) | exact HB.out)⟩⟩
    case round =>
     clear H'
     try clear p2
     try clear c5
     try clear c7
     try clear c9
     try clear p2
     obtain ⟨x6_2, x20_2, rfl, HA, HK2, HO_6, HB⟩ := hrel
     cases gk with
     | zero => exact absurd HA.out (by simp [impl_ContainersFor.l0])
     | succ k2 =>
      have H := HA.out
      clear HA
      simp only [impl_ContainersFor.l0] at H
      by_cases c12 : x20_2 < (l0.length : Int)
      ·rw [if_pos c12] at H
       have c12b0 : decide (x20_2 < (l0.length : Int)) = true := decide_eq_true c12
       clear c12
       by_cases c13 : 0 ≤ x20_2
       ·rw [if_pos c13] at H
        have c13b0 : decide (0 ≤ x20_2) = true := decide_eq_true c13
        clear c13
        by_cases c14 : x20_2 < (l0.length : Int)
        ·rw [if_pos c14] at H
         have c14b0 : decide (x20_2 < (l0.length : Int)) = true := decide_eq_true c14
         clear c14
         by_cases c15 : ((rd_T89 l0 x20_2).f4) = a1
         ·rw [if_pos c15] at H
          have c15b0 : (((rd_T89 l0 x20_2).f4) == a1) = true := beq_iff_eq.mpr c15
          have c15b1 : (((rd_T89 l0 x20_2).f4) != a1) = false := bne_eq_false_iff_eq.mpr c15
          clear c15
          by_cases c16 : x6_2.length < 8796093022208
          ·rw [if_pos c16] at H
           have LMc16 := Aside0.mk c16
           clear c16
           obtain ⟨y1252, hy1252⟩ : ∃ y_ : List ByteArray, y_ = (x6_2 ++ [(rd_T89 l0 x20_2).f0]) := ⟨_, rfl⟩
           replace H : (impl_ContainersFor.l0 k2 a1 y1252 l0 (l0.length : Int) (wrap64 (x20_2 + 1))) = some (r1, r2) := by first | (rw [hy1252]; with_reducible exact H) | (have H2_ := (Option.bind_some _ _).symm.trans H; rw [hy1252]; with_reducible exact H2_) | (have H2_ := (Option.bind_some _ _).symm.trans H; with_reducible exact H2_) | with_reducible exact H | (rw [hy1252]; exact H) | exact H
           have Ny1252 := Aside0.mk hy1252
           clear hy1252
           have H' := Aside0.mk H
           clear H
           have p1250 : 0 ≤ (x20_2 : Int) := of_decide_eq_true (by first | (with_reducible assumption) | assumption)
           have q1250 : x20_2 < (l0.length : Int) := of_decide_eq_true (by first | (with_reducible assumption) | assumption)
           obtain ⟨ad1250, e1250, hx1250_0, hx1250_1, hx1250_2, hx1250_3, hx1250_4⟩ := at_T89 HR0.out x20_2 p1250 q1250
           cases e1250
           replace hx1250_0 := (HB.out.cell (World.block_lt_of_cell? w _ hx1250_0)).trans hx1250_0
           replace hx1250_1 := (HB.out.cell (World.block_lt_of_cell? w _ hx1250_1)).trans hx1250_1
           replace hx1250_2 := (HB.out.cell (World.block_lt_of_cell? w _ hx1250_2)).trans hx1250_2
           replace hx1250_3 := (HB.out.cell (World.block_lt_of_cell? w _ hx1250_3)).trans hx1250_3
           replace hx1250_4 := (HB.out.cell (World.block_lt_of_cell? w _ hx1250_4)).trans hx1250_4
           replace p1250 := eq_true p1250
           replace q1250 := eq_true q1250
           go_wp2_with (first | ((with_reducible refine gate_dst (N := 8) rfl ?_); refine box_event ?hg (N := 8) ?hd (cs := #[.string (⟨#[]⟩ : ByteArray), .int .i64 0, .int .i64 0, .int .i64 0, .int .i64 0]) (t := 89) ?hr ?_; (case hd => rfl); (case hg => rfl); (case hr => first | (go_simp; done) | (go_simp; rfl)); intro gb1251 hg w17 hbox hb; have n0_ := Aside0.mk (Kd.R_below (by (with_reducible repeat (first | apply Kd.R_alloc | apply Kd.R_drewN | apply Kd.R_drew)); exact HO_6.out) hb); have n1_ := Aside0.mk (below_step (by repeat (first | (with_reducible first | exact HB.out | apply below_alloc | apply pw_below_drewN | apply below_drew1) | exact HB.out)) hb); have n2_ := Aside0.mk (hbox); have n3_ := Aside0.mk ((by rw [hg]; exact (below_size (by repeat (first | (with_reducible first | exact HB.out | apply below_alloc | apply pw_below_drewN | apply below_drew1) | exact HB.out))) : w.heap.size ≤ gb1251)); have n4_ := Aside0.mk ((by rw [hg]; exact (below_size (by repeat (first | (with_reducible first | exact HB.out | apply below_alloc | apply pw_below_drewN | apply below_drew1) | exact HB.out))) : w.heap.size ≤ gb1251)); clear HO_6; clear HB; have HO_6 := n0_; have HB := n1_; have BK1251 := n2_; have GW1251 := n3_; have GE1251 := n4_; clear n0_ n1_ n2_ n3_ n4_; clear hb hbox hg; have hcz18_0 : w17.cell? ⟨gb1251, 0, none⟩ = some (.string (⟨#[]⟩ : ByteArray)) := (blk_cell BK1251.out 0).trans rfl; have hcz18_1 : w17.cell? ⟨gb1251, 1, none⟩ = some (.int .i64 0) := (blk_cell BK1251.out 1).trans rfl; have hcz18_2 : w17.cell? ⟨gb1251, 2, none⟩ = some (.int .i64 0) := (blk_cell BK1251.out 2).trans rfl; have hcz18_3 : w17.cell? ⟨gb1251, 3, none⟩ = some (.int .i64 0) := (blk_cell BK1251.out 3).trans rfl; have hcz18_4 : w17.cell? ⟨gb1251, 4, none⟩ = some (.int .i64 0) := (blk_cell BK1251.out 4).trans rfl; have hfz18_0 := blk_frozen BK1251.out 0; have hfz18_1 := blk_frozen BK1251.out 1; have hfz18_2 := blk_frozen BK1251.out 2; have hfz18_3 := blk_frozen BK1251.out 3; have hfz18_4 := blk_frozen BK1251.out 4) | ((with_reducible refine gate_builtin (b := .append) (xs := #[.tmp 28, .tmp 31]) rfl ?_); at_builtin; refine Kd.R_append Kd.string (w0 := w) w.heap.size rfl (.tmp 28) (.tmp 31) 92 9 (.string ⟨#[]⟩) 16 rfl Try.underlying92 info9 rfl (by decide) (by omega) u6 x6_2 ((rd_T89 l0 x20_2).f0) [.string ((rd_T89 l0 x20_2).f0)] (fun _ => True) (fun _ => False) rfl (by first | (go_simp; done) | (go_simp; rfl)) ?aP (fun _ hk => hk.elim) ?aF ?aO ?aB ?aS ?aL ?_; (case aP => exact rfl); (case aB => exact (by repeat (first | (with_reducible first | exact HB.out | apply below_alloc | apply pw_below_drewN | apply below_drew1 | refine below_set ?_ GE1251.out) | exact HB.out))); (case aF => exact (fun _ _ => trivial)); (case aO => exact (by (with_reducible repeat (first | apply Kd.R_alloc | apply Kd.R_drewN | apply Kd.R_drew)); exact Kd.R_mono (Kd.R_far (p := ⟨gb1251, 4, none⟩) (Kd.R_far (p := ⟨gb1251, 3, none⟩) (Kd.R_far (p := ⟨gb1251, 2, none⟩) (Kd.R_far (p := ⟨gb1251, 1, none⟩) (Kd.R_far (p := ⟨gb1251, 0, none⟩) (Kd.R_types HO_6.out BK1251.out (by decide)) (fun _ hk => hk.2) (.string ((rd_T89 l0 x20_2).f0))) (fun _ hk => hk.2) (.int .i64 ((rd_T89 l0 x20_2).f1))) (fun _ hk => hk.2) (.int .i64 ((rd_T89 l0 x20_2).f2))) (fun _ hk => hk.2) (.int .i64 ((rd_T89 l0 x20_2).f3))) (fun _ hk => hk.2) (.int .i64 ((rd_T89 l0 x20_2).f4))) (fun _ hk => trivial))); (case aS => exact (below_size (by repeat (first | (with_reducible first | exact HB.out | apply below_alloc | apply pw_below_drewN | apply below_drew1 | refine below_set ?_ GE1251.out) | exact HB.out)))); (case aL => have := LMc16.out; omega); intro v1253 w19 ho hb hg hat; rw [← Ny1252.out] at ho; have n0_ := Aside0.mk (blk_grown (g := gb1251) (o := .cells #[.string ((rd_T89 l0 x20_2).f0), .int .i64 ((rd_T89 l0 x20_2).f1), .int .i64 ((rd_T89 l0 x20_2).f2), .int .i64 ((rd_T89 l0 x20_2).f3), .int .i64 ((rd_T89 l0 x20_2).f4)] 89 (0, 0)) (by (with_reducible repeat (first | refine blk_drewN ?_ _ | refine blk_drew ?_ | refine blk_alloc ?_ _)); refine blk_put (cs := #[.string ((rd_T89 l0 x20_2).f0), .int .i64 ((rd_T89 l0 x20_2).f1), .int .i64 ((rd_T89 l0 x20_2).f2), .int .i64 ((rd_T89 l0 x20_2).f3), .int .i64 0]) ?_ 4 _ rfl; (with_reducible repeat (first | refine blk_drewN ?_ _ | refine blk_drew ?_ | refine blk_alloc ?_ _)); refine blk_put (cs := #[.string ((rd_T89 l0 x20_2).f0), .int .i64 ((rd_T89 l0 x20_2).f1), .int .i64 ((rd_T89 l0 x20_2).f2), .int .i64 0, .int .i64 0]) ?_ 3 _ rfl; (with_reducible repeat (first | refine blk_drewN ?_ _ | refine blk_drew ?_ | refine blk_alloc ?_ _)); refine blk_put (cs := #[.string ((rd_T89 l0 x20_2).f0), .int .i64 ((rd_T89 l0 x20_2).f1), .int .i64 0, .int .i64 0, .int .i64 0]) ?_ 2 _ rfl; (with_reducible repeat (first | refine blk_drewN ?_ _ | refine blk_drew ?_ | refine blk_alloc ?_ _)); refine blk_put (cs := #[.string ((rd_T89 l0 x20_2).f0), .int .i64 0, .int .i64 0, .int .i64 0, .int .i64 0]) ?_ 1 _ rfl; (with_reducible repeat (first | refine blk_drewN ?_ _ | refine blk_drew ?_ | refine blk_alloc ?_ _)); refine blk_put (cs := #[.string (⟨#[]⟩ : ByteArray), .int .i64 0, .int .i64 0, .int .i64 0, .int .i64 0]) ?_ 0 _ rfl; (with_reducible repeat (first | refine blk_drewN ?_ _ | refine blk_drew ?_ | refine blk_alloc ?_ _)); exact BK1251.out) hg (Kd.R_ne HO_6.out BK1251.out (by decide))); have n1_ := Aside0.mk (hb); have n2_ := Aside0.mk (ho); clear BK1251; clear HB; clear HO_6; have BK1251 := n0_; have HB := n1_; have HO1254 := n2_; clear n0_ n1_ n2_; clear ho hb hg hat))
           go_roundg k2
           case measure => have := HJ2.out; have := HK2.out; omega
           case rel => exact ⟨(y1252), (wrap64 (x20_2 + 1)), (by first | rfl | (simp; done) | (simp [*]; done)), H', ⟨by have := HJ2.out; have := HK2.out; omega⟩, ⟨by (with_reducible repeat (first | apply Kd.R_alloc | apply Kd.R_drewN | apply Kd.R_drew)); exact HO1254.out⟩, ⟨by repeat (first | (with_reducible first | exact HB.out | apply below_alloc | apply pw_below_drewN | apply below_drew1 | refine below_set ?_ GE1251.out) | exact HB.out)⟩⟩
          ·rw [if_neg c16] at H
           exact absurd H (by simp)
         ·rw [if_neg c15] at H
          have c15b0 : (((rd_T89 l0 x20_2).f4) == a1) = false := beq_eq_false_iff_ne.mpr c15
          have c15b1 : (((rd_T89 l0 x20_2).f4) != a1) = true := bne_iff_ne.mpr c15
          have H' := Aside0.mk H
          clear H
          have p1250 : 0 ≤ (x20_2 : Int) := of_decide_eq_true (by first | (with_reducible assumption) | assumption)
          have q1250 : x20_2 < (l0.length : Int) := of_decide_eq_true (by first | (with_reducible assumption) | assumption)
          obtain ⟨ad1250, e1250, hx1250_0, hx1250_1, hx1250_2, hx1250_3, hx1250_4⟩ := at_T89 HR0.out x20_2 p1250 q1250
          cases e1250
          replace hx1250_0 := (HB.out.cell (World.block_lt_of_cell? w _ hx1250_0)).trans hx1250_0
          replace hx1250_1 := (HB.out.cell (World.block_lt_of_cell? w _ hx1250_1)).trans hx1250_1
          replace hx1250_2 := (HB.out.cell (World.block_lt_of_cell? w _ hx1250_2)).trans hx1250_2
          replace hx1250_3 := (HB.out.cell (World.block_lt_of_cell? w _ hx1250_3)).trans hx1250_3
          replace hx1250_4 := (HB.out.cell (World.block_lt_of_cell? w _ hx1250_4)).trans hx1250_4
          replace p1250 := eq_true p1250
          replace q1250 := eq_true q1250
          go_wp2_with (first | ((with_reducible refine gate_dst (N := 8) rfl ?_); refine box_event ?hg (N := 8) ?hd (cs := #[.string (⟨#[]⟩ : ByteArray), .int .i64 0, .int .i64 0, .int .i64 0, .int .i64 0]) (t := 89) ?hr ?_; (case hd => rfl); (case hg => rfl); (case hr => first | (go_simp; done) | (go_simp; rfl)); intro gb1251 hg w20 hbox hb; have n0_ := Aside0.mk (Kd.R_below (by (with_reducible repeat (first | apply Kd.R_alloc | apply Kd.R_drewN | apply Kd.R_drew)); exact HO_6.out) hb); have n1_ := Aside0.mk (below_step (by repeat (first | (with_reducible first | exact HB.out | apply below_alloc | apply pw_below_drewN | apply below_drew1) | exact HB.out)) hb); have n2_ := Aside0.mk (hbox); have n3_ := Aside0.mk ((by rw [hg]; exact (below_size (by repeat (first | (with_reducible first | exact HB.out | apply below_alloc | apply pw_below_drewN | apply below_drew1) | exact HB.out))) : w.heap.size ≤ gb1251)); have n4_ := Aside0.mk ((by rw [hg]; exact (below_size (by repeat (first | (with_reducible first | exact HB.out | apply below_alloc | apply pw_below_drewN | apply below_drew1) | exact HB.out))) : w.heap.size ≤ gb1251)); clear HO_6; clear HB; have HO_6 := n0_; have HB := n1_; have BK1251 := n2_; have GW1251 := n3_; have GE1251 := n4_; clear n0_ n1_ n2_ n3_ n4_; clear hb hbox hg; have hcz21_0 : w20.cell? ⟨gb1251, 0, none⟩ = some (.string (⟨#[]⟩ : ByteArray)) := (blk_cell BK1251.out 0).trans rfl; have hcz21_1 : w20.cell? ⟨gb1251, 1, none⟩ = some (.int .i64 0) := (blk_cell BK1251.out 1).trans rfl; have hcz21_2 : w20.cell? ⟨gb1251, 2, none⟩ = some (.int .i64 0) := (blk_cell BK1251.out 2).trans rfl; have hcz21_3 : w20.cell? ⟨gb1251, 3, none⟩ = some (.int .i64 0) := (blk_cell BK1251.out 3).trans rfl; have hcz21_4 : w20.cell? ⟨gb1251, 4, none⟩ = some (.int .i64 0) := (blk_cell BK1251.out 4).trans rfl; have hfz21_0 := blk_frozen BK1251.out 0; have hfz21_1 := blk_frozen BK1251.out 1; have hfz21_2 := blk_frozen BK1251.out 2; have hfz21_3 := blk_frozen BK1251.out 3; have hfz21_4 := blk_frozen BK1251.out 4))
          go_roundg k2
          case measure => have := HJ2.out; have := HK2.out; omega
          case rel => exact ⟨(x6_2), (wrap64 (x20_2 + 1)), (by first | rfl | (simp; done) | (simp [*]; done)), H', ⟨by have := HJ2.out; have := HK2.out; omega⟩, ⟨by (with_reducible repeat (first | apply Kd.R_alloc | apply Kd.R_drewN | apply Kd.R_drew)); exact Kd.R_mono (Kd.R_far (p := ⟨gb1251, 4, none⟩) (Kd.R_far (p := ⟨gb1251, 3, none⟩) (Kd.R_far (p := ⟨gb1251, 2, none⟩) (Kd.R_far (p := ⟨gb1251, 1, none⟩) (Kd.R_far (p := ⟨gb1251, 0, none⟩) (Kd.R_types HO_6.out BK1251.out (by decide)) (fun _ hk => hk.2) (.string ((rd_T89 l0 x20_2).f0))) (fun _ hk => hk.2) (.int .i64 ((rd_T89 l0 x20_2).f1))) (fun _ hk => hk.2) (.int .i64 ((rd_T89 l0 x20_2).f2))) (fun _ hk => hk.2) (.int .i64 ((rd_T89 l0 x20_2).f3))) (fun _ hk => hk.2) (.int .i64 ((rd_T89 l0 x20_2).f4))) (fun _ hk => trivial)⟩, ⟨by repeat (first | (with_reducible first | exact HB.out | apply below_alloc | apply pw_below_drewN | apply below_drew1 | refine below_set ?_ GE1251.out) | exact HB.out)⟩⟩
        ·rw [if_neg c14] at H
         exact absurd H (by simp)
       ·rw [if_neg c13] at H
        exact absurd H (by simp)
      ·rw [if_neg c12] at H
       have c12b0 : decide (x20_2 < (l0.length : Int)) = false := decide_eq_false c12
       clear c12
       simp only [Option.some.injEq, Prod.mk.injEq] at H
       obtain ⟨rfl, rfl⟩ := H
       go_wp2
       go_ret2
       exact ⟨_, by first | rfl | (simp [errW_none, errW_some] <;> rfl) | (simp [*, errW_none, errW_some] <;> rfl), by (with_reducible repeat (first | apply Kd.R_alloc | apply Kd.R_drewN | apply Kd.R_drew)); exact HO_6.out, by repeat (first | (with_reducible first | exact HB.out | apply below_alloc | apply pw_below_drewN | apply below_drew1) | exact HB.out)⟩

end Go.Proofs.Ytlldonokjgoajaa.X
