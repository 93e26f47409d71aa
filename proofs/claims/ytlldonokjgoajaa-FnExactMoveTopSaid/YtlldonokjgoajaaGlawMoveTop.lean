/- The law on MoveTop, walked by hand: the calls answer alike, what was handed in stays, what was handed out is the caller's own. -/
import Derived.Test.YtlldonokjgoajaaMLawY
import Derived.Test.YtlldonokjgoajaaMLawYY
import Derived.Test.YtlldonokjgoajaaFspecMoveTop
import Derived.Test.YtlldonokjgoajaaGimplMove
import Derived.Test.YtlldonokjgoajaaMMoveA
namespace Go.Proofs.Ytlldonokjgoajaa.X
open Go.RowKit Go.Lib Go.Proofs.YtlldonokjgoajaaW.PrintWords Go.Proofs.YtlldonokjgoajaaW.PrintLast Go.Proofs.YtlldonokjgoajaaW.PrintMore
set_option linter.unusedVariables false
set_option linter.unusedSimpArgs false

set_option maxHeartbeats 8000000 in
set_option maxRecDepth 100000 in
theorem MoveTop_law (K : Nat) (rr : List (List Int)) (x0 : Int) (bb : Bool) (A0 : Option Addr) (c0 : Nat) (ss : List (List Int)) (a1 : Int) (a2 : Int) (W : World) (hr0 : Kd.C (Kd.slice 3 (Kd.int .i64)) W A0 ss.length ss) (hc0 : ss.length ≤ c0)
    (hsz : ss.length + tot ss ≤ 1048576) (hK : 2097160 ≤ K) (e1 : spec_MoveTop.f K ss a1 a2 = some (rr, x0, bb)) (e2 : impl_MoveTop.f K ss a1 a2 = some (rr, x0, bb)) (hrl : rr.length ≤ 1048576) (hrt : tot rr ≤ 1048576) :
    Calls Try.prog 4 #[.agg #[.slice A0 ss.length c0], .int .i64 a1, .int .i64 a2] W fun e w' => e = .returned (.bool true) ∧ Below W.heap.size W w' := by
  have F1 := Aside0.mk (show laws_szYard.f K ss 1048576 = some ((1048576 : Int) - ss.length - tot ss) by rw [szYard_ends ss (by omega) (C_rows_max hr0) K (by omega), if_neg (by omega)])
  have F2 := Aside0.mk (toYard_ends ss (by omega) (by omega) K (by omega))
  have F3 := Aside0.mk (eqYard_refl ss (by omega) (by omega) K (by omega))
  have F4 := Aside0.mk (eqYard_refl rr hrl hrt K (by omega))
  have F6 := Aside0.mk (heldYard_ends rr hrl hrt K (by omega))
  have E1 := Aside0.mk e1
  have E2 := Aside0.mk e2
  have HR := Aside0.mk hr0
  have HC := Aside0.mk hc0
  have HZ := Aside0.mk hsz
  have HL := Aside0.mk hrl
  have HT0 := Aside0.mk hrt
  have d1 : decide ((1048576 : Int) - ss.length - tot ss < 0) = false := decide_eq_false (by omega)
  have d2 : decide ((1 : Int) + tot ss < 0) = false := decide_eq_false (by omega)
  have d3 : decide ((1 : Int) + tot rr < 0) = false := decide_eq_false (by omega)
  clear e1 e2 hr0 hc0 hsz hK hrl hrt
  have HB0 := Aside0.mk ((Below.refl W.heap.size W).alloc (Nat.le_refl _) (.cells #[.slice A0 ss.length c0] 40))
  go_enter Try.func4, Try.ntmps4
  go_upto_region 5 with (go_at_call 28; refine (laws_szYard.calls K _ _ ss _ _ _ (Kd.C_below HR.out HB0.out) HC.out F1.out).mono ?_; rintro e w1 ⟨rfl, hb⟩; have HB1 := Aside0.mk (below_then HB0.out (by simp) hb); have BY := Aside0.mk (cell_below (a := ⟨W.heap.size, 0, none⟩) (u := .slice A0 ss.length c0) (by simp) hb); clear hb)
  have hby := BY.out
  have HB := HB1
  clear BY HB1 HB0
  go_upto_region 6 with (first
    | (go_at_call 30; refine (laws_toYard.calls K _ _ ss ss _ (Kd.C_below HR.out HB.out) HC.out F2.out).mono ?_; rintro e w2 ⟨v1, rfl, hs, hb⟩; have HX1 := Aside0.mk (HldS.new hs); replace HB := Aside0.mk (below_then HB.out HB.out.size hb); replace hby := cell_below hby hb; clear hs hb; obtain ⟨A1, c1, rfl⟩ := HX1.out.slice)
    | (go_at_call 29; refine (spec_MoveTop.calls K _ _ ss a1 a2 rr x0 bb _ HX1.out.reads.2 HX1.out.reads.1 E1.out).mono ?_; rintro e w3 ⟨vw, rfl, hs, hb⟩; have HW := Aside0.mk (HldS.new hs); replace HB := Aside0.mk (below_then HB.out HB.out.size hb); replace hby := cell_below hby hb; clear hs hb HX1; obtain ⟨Aw, cw, rfl⟩ := HW.out.slice))
  generalize hwb : w3.alloc (Obj.cells #[Value.slice Aw rr.length cw] 42) = w3b
  have hb : Below w3.heap.size w3 w3b := by rw [← hwb]; exact (Below.refl _ _).alloc (Nat.le_refl _) _
  have hbw : w3b.cell? ⟨w3.heap.size, 0, none⟩ = some (.slice Aw rr.length cw) := by rw [← hwb]; simp
  replace HB := Aside0.mk (below_then HB.out HB.out.size hb); replace hby := cell_below hby hb
  replace HW := Aside0.mk (HW.out.below hb)
  clear hb hwb
  have OA := Aside0.mk (World.block_lt_of_cell? w3b _ hby)
  have OW := Aside0.mk (World.block_lt_of_cell? w3b _ hbw)
  go_upto_region 7 with (first
    | (go_at_call 30; refine (laws_toYard.calls K _ _ ss ss _ (Kd.C_below HR.out HB.out) HC.out F2.out).mono ?_; rintro e w4 ⟨vx, rfl, hs, hb⟩; have HX := Aside0.mk (HldS.new hs); have OB := Aside0.mk hb.size; replace HB := Aside0.mk (below_then HB.out HB.out.size hb); replace hby := cell_below hby hb; replace hbw := cell_below hbw hb; replace HW := Aside0.mk (HW.out.below hb); clear hs hb; obtain ⟨Ax, cx, rfl⟩ := HX.out.slice))
  generalize hw5 : w4.alloc (Obj.cells #[Value.slice Ax ss.length cx] 42) = w5
  have hb : Below w4.heap.size w4 w5 := by rw [← hw5]; exact (Below.refl _ _).alloc (Nat.le_refl _) _
  have hbx : w5.cell? ⟨w4.heap.size, 0, none⟩ = some (.slice Ax ss.length cx) := by rw [← hw5]; simp
  replace HB := Aside0.mk (below_then HB.out HB.out.size hb); replace hby := cell_below hby hb; replace hbw := cell_below hbw hb; replace HW := Aside0.mk (HW.out.below hb)
  replace HX := Aside0.mk (HX.out.below hb)
  clear hb hw5
  have OC := Aside0.mk (World.block_lt_of_cell? w5 _ hbx)
  go_upto_region 8 with (first
    | (go_at_call 31; refine (impl_MoveTop.calls K _ _ ss a1 a2 rr x0 bb _ HX.out.reads.2 HX.out.reads.1 E2.out).mono ?_; rintro e w6 ⟨vg, rfl, hs, hb⟩; have HG := Aside0.mk (HldS.new hs); have OD := Aside0.mk hb.size; replace HB := Aside0.mk (below_then HB.out HB.out.size hb); replace hby := cell_below hby hb; replace hbw := cell_below hbw hb; replace HW := Aside0.mk (HW.out.below hb); replace hbx := cell_below hbx hb; replace HX := Aside0.mk (HX.out.below hb); clear hs hb; obtain ⟨Ag, cg, rfl⟩ := HG.out.slice))
  generalize hw6 : w6.alloc (Obj.cells #[Value.slice Ag rr.length cg] 42) = w6b
  have hb : Below w6.heap.size w6 w6b := by rw [← hw6]; exact (Below.refl _ _).alloc (Nat.le_refl _) _
  have hbg : w6b.cell? ⟨w6.heap.size, 0, none⟩ = some (.slice Ag rr.length cg) := by rw [← hw6]; simp
  replace HB := Aside0.mk (below_then HB.out HB.out.size hb); replace hby := cell_below hby hb; replace hbw := cell_below hbw hb; replace HW := Aside0.mk (HW.out.below hb); replace hbx := cell_below hbx hb; replace HX := Aside0.mk (HX.out.below hb)
  replace HG := Aside0.mk (HG.out.below hb)
  clear hb hw6
  go_upto_region 10 with (first
    | (go_at_call 32; refine (laws_eqYard.calls K _ _ rr _ _ rr true _ HG.out.reads.2 HG.out.reads.1 HW.out.reads.2 HW.out.reads.1 F4.out).mono ?_; rintro e w7 ⟨rfl, hb⟩; replace HB := Aside0.mk (below_then HB.out HB.out.size hb); replace hby := cell_below hby hb; replace hbw := cell_below hbw hb; replace HW := Aside0.mk (HW.out.below hb); replace hbx := cell_below hbx hb; replace HX := Aside0.mk (HX.out.below hb); replace hbg := cell_below hbg hb; replace HG := Aside0.mk (HG.out.below hb); clear hb))
  have hb : Below w7.heap.size w7 w7.drew := below_drew (Below.refl _ _)
  replace HB := Aside0.mk (below_then HB.out HB.out.size hb); replace hby := cell_below hby hb; replace hbw := cell_below hbw hb; replace HW := Aside0.mk (HW.out.below hb); replace hbx := cell_below hbx hb; replace HX := Aside0.mk (HX.out.below hb); replace hbg := cell_below hbg hb; replace HG := Aside0.mk (HG.out.below hb)
  clear hb
  refine start_ (n := 5) (S := fun w' => w'.cell? ⟨w4.heap.size, 0, none⟩ = some (.slice Ax ss.length cx) ∧ w'.cell? ⟨W.heap.size, 0, none⟩ = some (.slice A0 ss.length c0)) (ds := []) #[false, false, false, false, false] (by kernel_rfl) rfl rfl ⟨hbx, hby⟩ (fun hHeld => ?_)
  generalize w7.drew = w8 at HB hby hbw hbx hbg HW HX HG hHeld ⊢
  refine take_ (i := 0) (N := some 59) (v := ?_) (a' := ?_) #[true, false, false, false, false] rfl rfl (by kernel_rfl) (fun _ _ _ h => h) (Or.inl ⟨by rfl, ?_⟩) hHeld ?_ ?_
  rotate_left
  · rintro w' ⟨s0, s1⟩
    go_simp
    with_reducible rfl
  rotate_left
  · simp only [Act.put, List.setIfInBounds_toArray, List.set_cons_zero, List.set_cons_succ, i64_w, i32_w]
    rfl
  refine take_ (i := 1) (N := some 60) (v := ?_) (a' := ?_) #[true, true, false, false, false] rfl rfl (by kernel_rfl) (fun _ _ _ h => h) (Or.inl ⟨by rfl, ?_⟩) hHeld ?_ ?_
  rotate_left
  · rintro w' ⟨s0, s1⟩
    go_simp
    with_reducible rfl
  rotate_left
  · simp only [Act.put, List.setIfInBounds_toArray, List.set_cons_zero, List.set_cons_succ, i64_w, i32_w]
    rfl
  refine one_ (i := 2) (N := some 61) #[true, true, true, false, false] rfl rfl (by kernel_rfl) (by decide) (fun K' hK' => ?_)
  refine goes_ Try.func30 (by kernel_rfl) rfl #[.agg #[.slice A0 ss.length c0]] (by rfl) rfl rfl (by (try simp only [List.map_toArray, List.map_cons, List.map_nil]); first | done | rfl) ?_
  with_reducible refine (laws_toYard.calls K _ _ ss ss _ (Kd.C_below HR.out HB.out) HC.out F2.out).mono ?_
  rintro e w9 ⟨vt, rfl, hs, hb⟩
  refine ⟨_, rfl, ?_⟩
  have HT := Aside0.mk (HldS.new hs)
  replace HB := Aside0.mk (below_then HB.out HB.out.size hb); replace hby := cell_below hby hb; replace hbw := cell_below hbw hb; replace HW := Aside0.mk (HW.out.below hb); replace hbx := cell_below hbx hb; replace HX := Aside0.mk (HX.out.below hb); replace hbg := cell_below hbg hb; replace HG := Aside0.mk (HG.out.below hb)
  clear hs hb
  obtain ⟨At, ct, rfl⟩ := HT.out.slice
  refine hK'.out _ _ ⟨hbx, hby⟩ (fun hHeld => ?_)
  clear hK' K'
  refine norm_ (a' := ?_) ?_ ?_
  rotate_left
  · show Act.put _ (some 61) _ = _
    simp only [Act.put, List.setIfInBounds_toArray, List.set_cons_zero, List.set_cons_succ, i64_w, i32_w]
    rfl
  refine one_ (i := 3) (N := some 62) #[true, true, true, true, false] rfl rfl (by kernel_rfl) (by decide) (fun K' hK' => ?_)
  refine goes_ Try.func32 (by kernel_rfl) rfl #[.agg #[.slice Ax ss.length cx], .agg #[.slice At ss.length ct]] (by rfl) rfl rfl (by (try simp only [List.map_toArray, List.map_cons, List.map_nil]); first | done | rfl) ?_
  with_reducible refine (laws_eqYard.calls K _ _ ss _ _ ss true _ HX.out.reads.2 HX.out.reads.1 HT.out.reads.2 HT.out.reads.1 F3.out).mono ?_
  rintro e w10 ⟨rfl, hb⟩
  refine ⟨_, rfl, ?_⟩
  replace HB := Aside0.mk (below_then HB.out HB.out.size hb); replace hby := cell_below hby hb; replace hbw := cell_below hbw hb; replace HW := Aside0.mk (HW.out.below hb); replace hbx := cell_below hbx hb; replace HX := Aside0.mk (HX.out.below hb); replace hbg := cell_below hbg hb; replace HG := Aside0.mk (HG.out.below hb)
  clear hb HT
  refine hK'.out _ _ ⟨hbx, hby⟩ (fun hHeld => ?_)
  clear hK' K'
  refine norm_ (a' := ?_) ?_ ?_
  rotate_left
  · show Act.put _ (some 62) _ = _
    simp only [Act.put, List.setIfInBounds_toArray, List.set_cons_zero, List.set_cons_succ, i64_w, i32_w]
    rfl
  refine pure_ (i := 4) (N := some 63) (v := ?_) (a' := ?_) #[true, true, true, true, true] rfl rfl (by kernel_rfl) (fun _ _ _ h => h) (Or.inl ⟨by rfl, ?_⟩) ?_ ?_
  rotate_left
  · intro w'
    go_simp
    with_reducible rfl
  rotate_left
  · simp only [Act.put, List.setIfInBounds_toArray, List.set_cons_zero, List.set_cons_succ, i64_w, i32_w]
    rfl
  refine done_ (by kernel_rfl) ?_
  clear hHeld
  go_upto_region 14 with (first
    | (go_at_call 33; refine (markYard_walk W _ _ _ ss 1 (by omega) (by have := HZ.out; omega) (by have := HZ.out; omega) HB.out (Kd.S_lower HX.out.1 (by have := OA.out; omega))).mono ?_; rintro e w11 ⟨rfl, _, hb, hk⟩; replace HB := Aside0.mk hb; replace hby := cell_kept hby hk (.inl OA.out); replace hbw := cell_kept hbw hk (.inl OW.out); replace HW := Aside0.mk (HW.out.kept hk (.inl (Nat.le_of_lt OW.out))); replace HG := Aside0.mk (HG.out.kept hk (.inr (Nat.le_of_lt OC.out))); replace hbg := cell_kept hbg hk (.inr (Nat.le_trans (Nat.le_of_lt OC.out) OD.out)); clear hb hk HX))
  clear hbx
  go_upto_region 17 with (go_at_call 32; refine (laws_eqYard.calls K _ _ rr _ _ rr true _ HG.out.reads.2 HG.out.reads.1 HW.out.reads.2 HW.out.reads.1 F4.out).mono ?_; rintro e w12 ⟨rfl, hb⟩; replace HB := Aside0.mk (below_then HB.out HB.out.size hb); replace hby := cell_below hby hb; replace hbw := cell_below hbw hb; replace HW := Aside0.mk (HW.out.below hb); replace hbg := cell_below hbg hb; replace HG := Aside0.mk (HG.out.below hb); clear hb)
  go_upto_region 19 with (go_at_call 33; refine (markYard_walk W _ (Span w5.heap.size w6.heap.size) _ rr 1 (by omega) (by have := HT0.out; omega) HL.out HB.out (Kd.S_lower HG.out.1 (by have := OA.out; have := OB.out; have := OC.out; omega))).mono ?_; rintro e w13 ⟨rfl, hs, hb, hk⟩; replace HB := Aside0.mk hb; replace hby := cell_kept hby hk (.inl (by have := OA.out; have := OB.out; have := OC.out; show W.heap.size < _; omega)); replace hbw := cell_kept hbw hk (.inl (by have := OW.out; have := OB.out; have := OC.out; show w3.heap.size < _; omega)); replace hbg := cell_kept hbg hk (.inr (Nat.le_refl _)); replace HW := Aside0.mk (HW.out.kept hk (.inl (by have := OW.out; have := OB.out; have := OC.out; omega))); replace HG := Aside0.mk (HldS.new hs); clear hs hb hk)
  go_upto_region 24 with (go_at_call 34; refine (heldYard_own K _ _ _ _ rr _ HG.out F6.out).mono ?_; rintro e w14 ⟨rfl, hb⟩; replace HB := Aside0.mk (below_then HB.out HB.out.size hb); replace hby := cell_below hby hb; replace hbw := cell_below hbw hb; replace HW := Aside0.mk (HW.out.below hb); replace hbg := cell_below hbg hb; replace HG := Aside0.mk (HG.out.below hb); clear hb)
  go_upto_region 25 with (first
    | (go_at_call 30; refine (laws_toYard.calls K _ _ ss ss _ (Kd.C_below HR.out HB.out) HC.out F2.out).mono ?_; rintro e w15 ⟨v1, rfl, hs, hb⟩; have HX := Aside0.mk (HldS.new hs); replace HB := Aside0.mk (below_then HB.out HB.out.size hb); replace hby := cell_below hby hb; replace hbw := cell_below hbw hb; replace HW := Aside0.mk (HW.out.below hb); replace hbg := cell_below hbg hb; replace HG := Aside0.mk (HG.out.below hb); clear hs hb; obtain ⟨A2, c2, rfl⟩ := HX.out.slice)
    | (go_at_call 31; refine (impl_MoveTop.calls K _ _ ss a1 a2 rr x0 bb _ HX.out.reads.2 HX.out.reads.1 E2.out).mono ?_; rintro e w16 ⟨vh, rfl, hs, hb⟩; have HH := Aside0.mk (HldS.new hs); replace HB := Aside0.mk (below_then HB.out HB.out.size hb); replace hby := cell_below hby hb; replace hbw := cell_below hbw hb; replace HW := Aside0.mk (HW.out.below hb); replace hbg := cell_below hbg hb; replace HG := Aside0.mk (HG.out.below hb); clear hs hb HX; obtain ⟨Ah, ch, rfl⟩ := HH.out.slice))
  generalize hw7 : w16.alloc (Obj.cells #[Value.slice Ah rr.length ch] 42) = w16b
  have hb : Below w16.heap.size w16 w16b := by rw [← hw7]; exact (Below.refl _ _).alloc (Nat.le_refl _) _
  have hbh : w16b.cell? ⟨w16.heap.size, 0, none⟩ = some (.slice Ah rr.length ch) := by rw [← hw7]; simp
  replace HB := Aside0.mk (below_then HB.out HB.out.size hb); replace hby := cell_below hby hb; replace hbw := cell_below hbw hb; replace HW := Aside0.mk (HW.out.below hb); replace hbg := cell_below hbg hb; replace HG := Aside0.mk (HG.out.below hb)
  replace HH := Aside0.mk (HH.out.below hb)
  clear hb hw7
  go_upto_region 28 with (go_at_call 32; refine (laws_eqYard.calls K _ _ rr _ _ rr true _ HH.out.reads.2 HH.out.reads.1 HW.out.reads.2 HW.out.reads.1 F4.out).mono ?_; rintro e w17 ⟨rfl, hb⟩; replace HB := Aside0.mk (below_then HB.out HB.out.size hb); replace hby := cell_below hby hb; replace hbw := cell_below hbw hb; replace HW := Aside0.mk (HW.out.below hb); replace hbg := cell_below hbg hb; replace HG := Aside0.mk (HG.out.below hb); clear hb)
  go_wp2_with (go_at_call 34; refine (heldYard_own K _ _ _ _ rr _ HG.out F6.out).mono ?_; rintro e w18 ⟨rfl, hb⟩; replace HB := Aside0.mk (below_then HB.out HB.out.size hb); replace hby := cell_below hby hb; replace hbw := cell_below hbw hb; replace HW := Aside0.mk (HW.out.below hb); replace hbg := cell_below hbg hb; replace HG := Aside0.mk (HG.out.below hb); clear hb)
  go_ret
  exact ⟨rfl, HB.out⟩

set_option maxHeartbeats 8000000 in
set_option maxRecDepth 100000 in
theorem MoveTop_large (K : Nat) (A0 : Option Addr) (c0 : Nat) (ss : List (List Int)) (a1 : Int) (a2 : Int) (W : World) (hr0 : Kd.C (Kd.slice 3 (Kd.int .i64)) W A0 ss.length ss) (hc0 : ss.length ≤ c0)
    (hsz : ¬ ss.length + tot ss ≤ 1048576) (hK : 2097160 ≤ K) :
    Calls Try.prog 4 #[.agg #[.slice A0 ss.length c0], .int .i64 a1, .int .i64 a2] W fun e w' => e = .returned (.bool true) ∧ Below W.heap.size W w' := by
  have F1 := Aside0.mk (show laws_szYard.f K ss 1048576 = some (-1) by rw [szYard_ends ss (Kd.C_max hr0) (C_rows_max hr0) K (by omega), if_pos (by omega)])
  have HR := Aside0.mk hr0
  have HC := Aside0.mk hc0
  have d1 : decide ((-1 : Int) < 0) = true := by decide
  clear hr0 hc0 hsz hK
  have HB0 := Aside0.mk ((Below.refl W.heap.size W).alloc (Nat.le_refl _) (.cells #[.slice A0 ss.length c0] 40))
  go_enter Try.func4, Try.ntmps4
  go_wp2_with (go_at_call 28; refine (laws_szYard.calls K _ _ ss _ _ _ (Kd.C_below HR.out HB0.out) HC.out F1.out).mono ?_; rintro e w1 ⟨rfl, hb⟩; have HB1 := Aside0.mk (below_then HB0.out (by simp) hb); clear hb)
  go_ret
  exact ⟨rfl, HB1.out⟩

def laws_FnExactMoveTop.f (k : Nat) (l0_0 : List (List Int)) (a1 : Int) (a2 : Int) : Option Bool := some true
theorem laws_FnExactMoveTop.mono : ∀ a0 a1 a2 k, LeO (laws_FnExactMoveTop.f k a0 a1 a2) (laws_FnExactMoveTop.f (k + 1) a0 a1 a2) := fun _ _ _ _ => LeO.refl _
theorem laws_FnExactMoveTop.calls (k : Nat) (A0_0 : Option Addr) (c0_0 : Nat) (l0_0 : List (List Int)) (a1 : Int) (a2 : Int) (r : Bool) (w : World) (hr0_0 : Kd.C (Kd.slice 3 (Kd.int .i64)) w A0_0 l0_0.length l0_0) (hc0_0 : l0_0.length ≤ c0_0) (h : laws_FnExactMoveTop.f k l0_0 a1 a2 = some r) :
    Calls Try.prog 4 #[.agg #[.slice A0_0 l0_0.length c0_0], .int .i64 a1, .int .i64 a2] w fun e w' => e = .returned (.bool r) ∧ Below w.heap.size w w' := by
  unfold laws_FnExactMoveTop.f at h
  cases h
  by_cases hsz : l0_0.length + tot l0_0 ≤ 1048576
  · obtain ⟨e1, e2⟩ := move_both l0_0 a1 a2 4000000 (by omega)
    obtain ⟨hrl, hrt⟩ := moveA_small l0_0 a1 a2
    exact MoveTop_law 4000000 (moveA l0_0 a1 a2).1 (moveA l0_0 a1 a2).2.1 (moveA l0_0 a1 a2).2.2 A0_0 c0_0 l0_0 a1 a2 w hr0_0 hc0_0 hsz (by omega) e1 e2 hrl hrt
  · exact MoveTop_large 4000000 A0_0 c0_0 l0_0 a1 a2 w hr0_0 hc0_0 hsz (by omega)
end Go.Proofs.Ytlldonokjgoajaa.X
