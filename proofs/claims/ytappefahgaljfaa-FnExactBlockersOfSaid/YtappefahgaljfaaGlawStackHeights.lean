/- The law on StackHeights, walked by hand: the calls answer alike, what was handed in stays, what was handed out is the caller's own. -/
import Derived.Test.YtappefahgaljfaaMLawY
import Derived.Test.YtappefahgaljfaaFspecStackHeights
import Derived.Test.YtappefahgaljfaaFimplStackHeights
import Derived.Test.YtappefahgaljfaaFbHelpY
import Derived.Test.YtappefahgaljfaaFbHelpR
namespace Go.Proofs.Ytappefahgaljfaa.X
open Go.RowKit Go.Lib Go.Proofs.YtappefahgaljfaaW.PrintWords Go.Proofs.YtappefahgaljfaaW.PrintLast Go.Proofs.YtappefahgaljfaaW.PrintMore
set_option linter.unusedVariables false
set_option linter.unusedSimpArgs false

theorem heldIntS_own (K : Nat) (A : Option Addr) (c b n : Nat) (m : Nat) (w : World) (h : Hld w b n (.slice A m c) (upFrom 1 m)) (hf : laws_heldIntS.f K (upFrom 1 m) 1 = some (1 + (m : Int))) :
    Calls Try.prog 31 #[.slice A m c, .int .i64 1] w fun e w' => e = .returned (.int .i64 (1 + (m : Int))) ∧ Drawn0 w w' := by
  have h1 := h.reads
  have := laws_heldIntS.calls K A c (upFrom 1 m) 1 _ w h1.2 (by rw [upFrom_length]; exact h1.1) hf
  rw [upFrom_length] at this
  exact this

set_option maxHeartbeats 8000000 in
set_option maxRecDepth 100000 in
theorem StackHeights_law (K : Nat) (r : List Int) (bb : Bool) (A0 : Option Addr) (c0 : Nat) (ss : List (List Int)) (W : World) (hr0 : Kd.C (Kd.slice 3 (Kd.int .i64)) W A0 ss.length ss) (hc0 : ss.length ≤ c0)
    (hsz : ss.length + tot ss ≤ 1048576) (hK : 2097160 ≤ K) (e1 : spec_StackHeights.f K ss = some (r, bb)) (e2 : impl_StackHeights.f K ss = some (r, bb)) (hrl : r.length ≤ 1048576) :
    Calls Try.prog 7 #[.agg #[.slice A0 ss.length c0]] W fun e w' => e = .returned (.bool true) ∧ Below W.heap.size W w' := by
  have F1 := Aside0.mk (show laws_szYard.f K ss 1048576 = some ((1048576 : Int) - ss.length - tot ss) by rw [szYard_ends ss (by omega) (C_rows_max hr0) K (by omega), if_neg (by omega)])
  have F2 := Aside0.mk (toYard_ends ss (by omega) (by omega) K (by omega))
  have F3 := Aside0.mk (eqYard_refl ss (by omega) (by omega) K (by omega))
  have F4 := Aside0.mk (eqIntS_refl r (by omega) K (by omega))
  have F5 := Aside0.mk (markIntS_ends r 1 (by omega) (by omega) K (by omega))
  have F6 := Aside0.mk (heldIntS_ends r.length 1 (by omega) (by omega) K (by omega))
  have E1 := Aside0.mk e1
  have E2 := Aside0.mk e2
  have HR := Aside0.mk hr0
  have HC := Aside0.mk hc0
  have HZ := Aside0.mk hsz
  have d1 : decide ((1048576 : Int) - ss.length - tot ss < 0) = false := decide_eq_false (by omega)
  have d2 : decide ((1 : Int) + tot ss < 0) = false := decide_eq_false (by omega)
  have d3 : decide ((1 : Int) + r.length < 0) = false := decide_eq_false (by omega)
  clear e1 e2 hr0 hc0 hsz hK hrl
  have HB0 := Aside0.mk ((Below.refl W.heap.size W).alloc (Nat.le_refl _) (.cells #[.slice A0 ss.length c0] 24))
  go_enter Try.func7, Try.ntmps7
  go_upto_region 5 with (go_at_call 15; refine (laws_szYard.calls K _ _ ss _ _ _ (Kd.C_below HR.out HB0.out) HC.out F1.out).mono ?_; rintro e w1 ⟨rfl, hb⟩; have HB1 := Aside0.mk (below_then HB0.out (by simp) hb); have BY := Aside0.mk (cell_below (a := ⟨W.heap.size, 0, none⟩) (u := .slice A0 ss.length c0) (by simp) hb); clear hb)
  have hby := BY.out
  have HB := HB1
  clear BY HB1 HB0
  go_upto_region 6 with (first
    | (go_at_call 17; refine (laws_toYard.calls K _ _ ss ss _ (Kd.C_below HR.out HB.out) HC.out F2.out).mono ?_; rintro e w2 ⟨v1, rfl, hs, hb⟩; have HX1 := Aside0.mk (HldS.new hs); replace HB := Aside0.mk (below_then HB.out HB.out.size hb); replace hby := cell_below hby hb; clear hs hb; obtain ⟨A1, c1, rfl⟩ := HX1.out.slice)
    | (go_at_call 26; refine (spec_StackHeights.calls K _ _ ss r bb _ HX1.out.reads.2 HX1.out.reads.1 E1.out).mono ?_; rintro e w3 ⟨vw, rfl, hs, hb⟩; have HW := Aside0.mk (Hld.new hs); replace HB := Aside0.mk (below_then HB.out HB.out.size hb); replace hby := cell_below hby hb; clear hs hb HX1; obtain ⟨Aw, cw, rfl⟩ := HW.out.slice))
  have OA := Aside0.mk (World.block_lt_of_cell? w3 _ hby)
  go_upto_region 7 with (first
    | (go_at_call 17; refine (laws_toYard.calls K _ _ ss ss _ (Kd.C_below HR.out HB.out) HC.out F2.out).mono ?_; rintro e w4 ⟨vx, rfl, hs, hb⟩; have HX := Aside0.mk (HldS.new hs); have OB := Aside0.mk hb.size; replace HB := Aside0.mk (below_then HB.out HB.out.size hb); replace hby := cell_below hby hb; replace HW := Aside0.mk (HW.out.below hb); clear hs hb; obtain ⟨Ax, cx, rfl⟩ := HX.out.slice))
  generalize hw5 : w4.alloc (Obj.cells #[Value.slice Ax ss.length cx] 27) = w5
  have hb : Below w4.heap.size w4 w5 := by rw [← hw5]; exact (Below.refl _ _).alloc (Nat.le_refl _) _
  have hbx : w5.cell? ⟨w4.heap.size, 0, none⟩ = some (.slice Ax ss.length cx) := by rw [← hw5]; simp
  replace HB := Aside0.mk (below_then HB.out HB.out.size hb); replace hby := cell_below hby hb
  replace HW := Aside0.mk (HW.out.below hb)
  replace HX := Aside0.mk (HX.out.below hb)
  clear hb hw5
  have OC := Aside0.mk (World.block_lt_of_cell? w5 _ hbx)
  go_upto_region 8 with (first
    | (go_at_call 27; refine (impl_StackHeights.calls K _ _ ss r bb _ HX.out.reads.2 HX.out.reads.1 E2.out).mono ?_; rintro e w6 ⟨vg, rfl, hs, hb⟩; have HG := Aside0.mk (Hld.new hs); have OD := Aside0.mk hb.size; replace HB := Aside0.mk (below_then HB.out HB.out.size hb); replace hby := cell_below hby hb; replace hbx := cell_below hbx hb; replace HW := Aside0.mk (HW.out.below hb); replace HX := Aside0.mk (HX.out.below hb); clear hs hb; obtain ⟨Ag, cg, rfl⟩ := HG.out.slice))
  go_upto_region 10 with (first
    | (go_at_call 28; refine (laws_eqIntS.calls K _ _ r _ _ r true _ HG.out.reads.2 HG.out.reads.1 HW.out.reads.2 HW.out.reads.1 F4.out).mono ?_; rintro e w7 ⟨rfl, ⟨q7, rfl⟩⟩; have hb := pw_below_drewN (Below.refl w6.heap.size w6) q7; replace HB := Aside0.mk (below_then HB.out HB.out.size hb); replace hby := cell_below hby hb; replace hbx := cell_below hbx hb; replace HW := Aside0.mk (HW.out.below hb); replace HX := Aside0.mk (HX.out.below hb); replace HG := Aside0.mk (HG.out.below hb); clear hb))
  generalize w6.drewN q7 = w7 at HB hby hbx HW HX HG ⊢
  have hb : Below w7.heap.size w7 w7.drew := below_drew (Below.refl _ _)
  replace HB := Aside0.mk (below_then HB.out HB.out.size hb); replace hby := cell_below hby hb; replace hbx := cell_below hbx hb; replace HW := Aside0.mk (HW.out.below hb); replace HX := Aside0.mk (HX.out.below hb); replace HG := Aside0.mk (HG.out.below hb)
  clear hb
  refine start_ (n := 5) (S := fun w' => w'.cell? ⟨w4.heap.size, 0, none⟩ = some (.slice Ax ss.length cx) ∧ w'.cell? ⟨W.heap.size, 0, none⟩ = some (.slice A0 ss.length c0)) (ds := []) #[false, false, false, false, false] (by kernel_rfl) rfl rfl ⟨hbx, hby⟩ (fun hHeld => ?_)
  generalize w7.drew = w8 at HB hby hbx HW HX HG hHeld ⊢
  refine take_ (i := 0) (N := some 41) (v := ?_) (a' := ?_) #[true, false, false, false, false] rfl rfl (by kernel_rfl) (fun _ _ _ h => h) (Or.inl ⟨by rfl, ?_⟩) hHeld ?_ ?_
  rotate_left
  · rintro w' ⟨s0, s1⟩
    go_simp
    with_reducible rfl
  rotate_left
  · simp only [Act.put, List.setIfInBounds_toArray, List.set_cons_zero, List.set_cons_succ, i64_w, i32_w]
    rfl
  refine take_ (i := 1) (N := some 42) (v := ?_) (a' := ?_) #[true, true, false, false, false] rfl rfl (by kernel_rfl) (fun _ _ _ h => h) (Or.inl ⟨by rfl, ?_⟩) hHeld ?_ ?_
  rotate_left
  · rintro w' ⟨s0, s1⟩
    go_simp
    with_reducible rfl
  rotate_left
  · simp only [Act.put, List.setIfInBounds_toArray, List.set_cons_zero, List.set_cons_succ, i64_w, i32_w]
    rfl
  refine one_ (i := 2) (N := some 43) #[true, true, true, false, false] rfl rfl (by kernel_rfl) (by decide) (fun K' hK' => ?_)
  refine goes_ Try.func17 (by kernel_rfl) rfl #[.agg #[.slice A0 ss.length c0]] (by rfl) rfl rfl (by (try simp only [List.map_toArray, List.map_cons, List.map_nil]); first | done | rfl) ?_
  with_reducible refine (laws_toYard.calls K _ _ ss ss _ (Kd.C_below HR.out HB.out) HC.out F2.out).mono ?_
  rintro e w9 ⟨vt, rfl, hs, hb⟩
  refine ⟨_, rfl, ?_⟩
  have HT := Aside0.mk (HldS.new hs)
  replace HB := Aside0.mk (below_then HB.out HB.out.size hb); replace hby := cell_below hby hb; replace hbx := cell_below hbx hb; replace HW := Aside0.mk (HW.out.below hb); replace HX := Aside0.mk (HX.out.below hb); replace HG := Aside0.mk (HG.out.below hb)
  clear hs hb
  obtain ⟨At, ct, rfl⟩ := HT.out.slice
  refine hK'.out _ _ ⟨hbx, hby⟩ (fun hHeld => ?_)
  clear hK' K'
  refine norm_ (a' := ?_) ?_ ?_
  rotate_left
  · show Act.put _ (some 43) _ = _
    simp only [Act.put, List.setIfInBounds_toArray, List.set_cons_zero, List.set_cons_succ, i64_w, i32_w]
    rfl
  refine one_ (i := 3) (N := some 44) #[true, true, true, true, false] rfl rfl (by kernel_rfl) (by decide) (fun K' hK' => ?_)
  refine goes_ Try.func19 (by kernel_rfl) rfl #[.agg #[.slice Ax ss.length cx], .agg #[.slice At ss.length ct]] (by rfl) rfl rfl (by (try simp only [List.map_toArray, List.map_cons, List.map_nil]); first | done | rfl) ?_
  with_reducible refine (laws_eqYard.calls K _ _ ss _ _ ss true _ HX.out.reads.2 HX.out.reads.1 HT.out.reads.2 HT.out.reads.1 F3.out).mono ?_
  rintro e w10 ⟨rfl, hb⟩
  refine ⟨_, rfl, ?_⟩
  replace HB := Aside0.mk (below_then HB.out HB.out.size hb); replace hby := cell_below hby hb; replace hbx := cell_below hbx hb; replace HW := Aside0.mk (HW.out.below hb); replace HX := Aside0.mk (HX.out.below hb); replace HG := Aside0.mk (HG.out.below hb)
  clear hb HT
  refine hK'.out _ _ ⟨hbx, hby⟩ (fun hHeld => ?_)
  clear hK' K'
  refine norm_ (a' := ?_) ?_ ?_
  rotate_left
  · show Act.put _ (some 44) _ = _
    simp only [Act.put, List.setIfInBounds_toArray, List.set_cons_zero, List.set_cons_succ, i64_w, i32_w]
    rfl
  refine pure_ (i := 4) (N := some 45) (v := ?_) (a' := ?_) #[true, true, true, true, true] rfl rfl (by kernel_rfl) (fun _ _ _ h => h) (Or.inl ⟨by rfl, ?_⟩) ?_ ?_
  rotate_left
  · intro w'
    go_simp
    with_reducible rfl
  rotate_left
  · simp only [Act.put, List.setIfInBounds_toArray, List.set_cons_zero, List.set_cons_succ, i64_w, i32_w]
    rfl
  refine done_ (by kernel_rfl) ?_
  clear hHeld
  go_upto_region 14 with (first
    | (go_at_call 29; refine (markYard_walk W _ _ _ ss 1 (by omega) (by have := HZ.out; omega) (by have := HZ.out; omega) HB.out (Kd.S_lower HX.out.1 (by have := OA.out; omega))).mono ?_; rintro e w11 ⟨rfl, _, hb, hk⟩; replace HB := Aside0.mk hb; replace hby := cell_kept hby hk (.inl OA.out); replace hbx := cell_kept hbx hk (.inr (Nat.le_refl _)); replace HW := Aside0.mk (HW.out.kept hk (.inl (Nat.le_refl _))); replace HG := Aside0.mk (HG.out.kept hk (.inr (Nat.le_of_lt OC.out))); clear hb hk HX))
  clear hbx
  go_upto_region 17 with (go_at_call 28; refine (laws_eqIntS.calls K _ _ r _ _ r true _ HG.out.reads.2 HG.out.reads.1 HW.out.reads.2 HW.out.reads.1 F4.out).mono ?_; rintro e w12 ⟨rfl, ⟨q12, rfl⟩⟩; have hb := pw_below_drewN (Below.refl w11.heap.size w11) q12; replace HB := Aside0.mk (below_then HB.out HB.out.size hb); replace hby := cell_below hby hb; replace HW := Aside0.mk (HW.out.below hb); replace HG := Aside0.mk (HG.out.below hb); clear hb)
  generalize w11.drewN q12 = w12 at HB hby HW HG ⊢
  go_upto_region 19 with (go_at_call 30; refine (laws_markIntS.calls K (Span w5.heap.size w6.heap.size) _ r 1 _ _ W _ HB.out (Kd.R_lower HG.out.1 (by have := OA.out; have := OB.out; have := OC.out; omega)) F5.out).mono ?_; rintro e w13 ⟨rfl, hs, hb, hk⟩; replace HB := Aside0.mk hb; replace hby := cell_kept hby hk (.inl (by have := OA.out; have := OB.out; have := OC.out; show W.heap.size < _; omega)); replace HW := Aside0.mk (HW.out.kept hk (.inl (by have := OB.out; have := OC.out; omega))); replace HG := Aside0.mk (Hld.new hs); clear hs hb hk)
  go_upto_region 24 with (go_at_call 31; refine (heldIntS_own K _ _ _ _ r.length _ HG.out F6.out).mono ?_; rintro e w14 ⟨rfl, ⟨q14, rfl⟩⟩; have hb := pw_below_drewN (Below.refl w13.heap.size w13) q14; replace HB := Aside0.mk (below_then HB.out HB.out.size hb); replace hby := cell_below hby hb; replace HW := Aside0.mk (HW.out.below hb); replace HG := Aside0.mk (HG.out.below hb); clear hb)
  generalize w13.drewN q14 = w14 at HB hby HW HG ⊢
  go_upto_region 25 with (first
    | (go_at_call 17; refine (laws_toYard.calls K _ _ ss ss _ (Kd.C_below HR.out HB.out) HC.out F2.out).mono ?_; rintro e w15 ⟨v1, rfl, hs, hb⟩; have HX := Aside0.mk (HldS.new hs); replace HB := Aside0.mk (below_then HB.out HB.out.size hb); replace hby := cell_below hby hb; replace HW := Aside0.mk (HW.out.below hb); replace HG := Aside0.mk (HG.out.below hb); clear hs hb; obtain ⟨A2, c2, rfl⟩ := HX.out.slice)
    | (go_at_call 27; refine (impl_StackHeights.calls K _ _ ss r bb _ HX.out.reads.2 HX.out.reads.1 E2.out).mono ?_; rintro e w16 ⟨vh, rfl, hs, hb⟩; have HH := Aside0.mk (Hld.new hs); replace HB := Aside0.mk (below_then HB.out HB.out.size hb); replace hby := cell_below hby hb; replace HW := Aside0.mk (HW.out.below hb); replace HG := Aside0.mk (HG.out.below hb); clear hs hb HX; obtain ⟨Ah, ch, rfl⟩ := HH.out.slice))
  go_upto_region 28 with (go_at_call 28; refine (laws_eqIntS.calls K _ _ r _ _ r true _ HH.out.reads.2 HH.out.reads.1 HW.out.reads.2 HW.out.reads.1 F4.out).mono ?_; rintro e w17 ⟨rfl, ⟨q17, rfl⟩⟩; have hb := pw_below_drewN (Below.refl w16.heap.size w16) q17; replace HB := Aside0.mk (below_then HB.out HB.out.size hb); replace hby := cell_below hby hb; replace HW := Aside0.mk (HW.out.below hb); replace HG := Aside0.mk (HG.out.below hb); clear hb)
  generalize w16.drewN q17 = w17 at HB hby HW HG ⊢
  go_wp2_with (go_at_call 31; refine (heldIntS_own K _ _ _ _ r.length _ HG.out F6.out).mono ?_; rintro e w18 ⟨rfl, ⟨q18, rfl⟩⟩; have hb := pw_below_drewN (Below.refl w17.heap.size w17) q18; replace HB := Aside0.mk (below_then HB.out HB.out.size hb); replace hby := cell_below hby hb; replace HW := Aside0.mk (HW.out.below hb); replace HG := Aside0.mk (HG.out.below hb); clear hb)
  go_ret
  exact ⟨rfl, HB.out⟩
set_option maxHeartbeats 8000000 in
set_option maxRecDepth 100000 in
theorem StackHeights_large (K : Nat) (A0 : Option Addr) (c0 : Nat) (ss : List (List Int)) (W : World) (hr0 : Kd.C (Kd.slice 3 (Kd.int .i64)) W A0 ss.length ss) (hc0 : ss.length ≤ c0)
    (hsz : ¬ ss.length + tot ss ≤ 1048576) (hK : 2097160 ≤ K) :
    Calls Try.prog 7 #[.agg #[.slice A0 ss.length c0]] W fun e w' => e = .returned (.bool true) ∧ Below W.heap.size W w' := by
  have F1 := Aside0.mk (show laws_szYard.f K ss 1048576 = some (-1) by rw [szYard_ends ss (Kd.C_max hr0) (C_rows_max hr0) K (by omega), if_pos (by omega)])
  have HR := Aside0.mk hr0
  have HC := Aside0.mk hc0
  have d1 : decide ((-1 : Int) < 0) = true := by decide
  clear hr0 hc0 hsz hK
  have HB0 := Aside0.mk ((Below.refl W.heap.size W).alloc (Nat.le_refl _) (.cells #[.slice A0 ss.length c0] 24))
  go_enter Try.func7, Try.ntmps7
  go_wp2_with (go_at_call 15; refine (laws_szYard.calls K _ _ ss _ _ _ (Kd.C_below HR.out HB0.out) HC.out F1.out).mono ?_; rintro e w1 ⟨rfl, hb⟩; have HB1 := Aside0.mk (below_then HB0.out (by simp) hb); clear hb)
  go_ret
  exact ⟨rfl, HB1.out⟩

/-! ### the two answer alike -/
theorem StackHeights_loops (ss : List (List Int)) (h6 : ss.length ≤ 6) (d : Nat) : ∀ (k i : Nat) (t : List Int), i + d = ss.length → d < k → t.length = i →
    spec_StackHeights.l0 k t (i : Int) ss = some (t ++ (ss.drop i).map (fun s => (s.length : Int)), true) ∧ impl_StackHeights.l0 k t ss (ss.length : Int) (i : Int) = some (t ++ (ss.drop i).map (fun s => (s.length : Int)), true) := by
  induction d with
  | zero =>
    intro k i t hi hk ht
    obtain ⟨k, rfl⟩ := kpos hk
    simp only [spec_StackHeights.l0, impl_StackHeights.l0]
    rw [if_neg (by omega), if_neg (by omega), List.drop_of_length_le (by omega)]
    simp
  | succ d ih =>
    intro k i t hi hk ht
    obtain ⟨k, rfl⟩ := kpos hk
    have hlt : i < ss.length := by omega
    obtain ⟨i1, i2⟩ := ih k (i + 1) (t ++ [((ss.getD i []).length : Int)]) (by omega) (by omega) (by simp [ht])
    have p1 : (i : Int) < (ss.length : Int) := by omega
    have p2 : 0 ≤ (i : Int) := by omega
    have p3 : t.length < 17592186044416 := by omega
    simp only [spec_StackHeights.l0, impl_StackHeights.l0, if_pos p1, if_pos p2, if_pos p3, rdL_nat, wnext hlt (show ss.length ≤ 9223372036854775807 by omega), i1, i2]
    rw [getD_cons (z := ([] : List Int)) hlt]
    simp
theorem StackHeights_both (ss : List (List Int)) (k : Nat) (hk : 200 ≤ k) : ∃ r bb, spec_StackHeights.f k ss = some (r, bb) ∧ impl_StackHeights.f k ss = some (r, bb) ∧ r.length ≤ 1048576 := by
  unfold spec_StackHeights.f impl_StackHeights.f
  simp only [Option.bind_some, impl_IsValidYard.f]
  rw [spec_goodY _ _ hk]
  simp only [Option.bind_some]
  by_cases h : goodY ss = true
  · have h6 := goodY_len h
    obtain ⟨i1, i2⟩ := StackHeights_loops ss (by omega) ss.length k 0 [] (by omega) (by omega) rfl
    rw [show ((0 : Nat) : Int) = 0 from rfl] at i1 i2
    rw [if_pos h, if_pos h, i1, i2]
    exact ⟨_, _, rfl, rfl, by simp; omega⟩
  · rw [if_neg h, if_neg h]
    exact ⟨_, _, rfl, rfl, by simp⟩

def laws_FnExactStackHeights.f (k : Nat) (l0_0 : List (List Int)) : Option Bool := some true
theorem laws_FnExactStackHeights.calls (k : Nat) (A0_0 : Option Addr) (c0_0 : Nat) (l0_0 : List (List Int)) (r : Bool) (w : World) (hr0_0 : Kd.C (Kd.slice 3 (Kd.int .i64)) w A0_0 l0_0.length l0_0) (hc0_0 : l0_0.length ≤ c0_0) (h : laws_FnExactStackHeights.f k l0_0 = some r) :
    Calls Try.prog 7 #[.agg #[.slice A0_0 l0_0.length c0_0]] w fun e w' => e = .returned (.bool r) ∧ Below w.heap.size w w' := by
  unfold laws_FnExactStackHeights.f at h
  cases h
  by_cases hsz : l0_0.length + tot l0_0 ≤ 1048576
  · obtain ⟨r, bb, e1, e2, hrl⟩ := StackHeights_both l0_0 4000000 (by omega)
    exact StackHeights_law 4000000 r bb A0_0 c0_0 l0_0 w hr0_0 hc0_0 hsz (by omega) e1 e2 hrl
  · exact StackHeights_large 4000000 A0_0 c0_0 l0_0 w hr0_0 hc0_0 hsz (by omega)
end Go.Proofs.Ytappefahgaljfaa.X
