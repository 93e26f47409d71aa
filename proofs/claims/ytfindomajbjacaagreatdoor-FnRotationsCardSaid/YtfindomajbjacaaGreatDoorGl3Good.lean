/- The reference's l3Good, walked by hand: is a rotation valid? -/
import Derived.Test.YtfindomajbjacaaGreatDoorX0
import Derived.Test.YtfindomajbjacaaGreatDoorMRotM
import Derived.Lib.Walk
import Derived.Deep.LoopGhost
import Derived.Deep.Draws
import Derived.Deep.QuietTactic
import Derived.BigQuiet
namespace Go.Proofs.YtfindomajbjacaaGreatDoor.X
open Go.RowKit Go.Lib Go.Proofs.YtfindomajbjacaaGreatDoorW.PrintWords Go.Proofs.YtfindomajbjacaaGreatDoorW.PrintLast Go.Proofs.YtfindomajbjacaaGreatDoorW.PrintMore
set_option linter.unusedVariables false
set_option linter.unusedSimpArgs false

theorem l1In_same (x a b : Int) (w : World) : Calls Tryz.prog 71 #[.int .i64 x, .int .i64 a, .int .i64 b] w fun e w' => e = .returned (.bool (inB x a b)) ∧ w' = w := by
  by_cases h : a ≤ x
  · have hd : decide (a ≤ x) = true := decide_eq_true h
    have he : decide (x ≤ b) = inB x a b := by unfold inB; rw [Bool.eq_iff_iff]; simp [h]
    have HE := Aside0.mk he
    clear he h
    go_enter Tryz.func71, Tryz.ntmps71
    go_wp2
    go_ret
    exact ⟨by rw [← HE.out]; rfl, rfl⟩
  · have hd : decide (a ≤ x) = false := decide_eq_false h
    have he : false = inB x a b := by unfold inB; symm; rw [decide_eq_false_iff_not]; omega
    have HE := Aside0.mk he
    clear he h
    go_enter Tryz.func71, Tryz.ntmps71
    go_wp2
    go_ret
    exact ⟨by rw [← HE.out]; rfl, rfl⟩

set_option maxHeartbeats 4000000 in
set_option maxRecDepth 100000 in
theorem l3Good_walk (A0 : Option Addr) (c0 : Nat) (ps : List Int) (A1 : Option Addr) (c1 : Nat) (ds : List Int) (w : World) (hr0 : Kd.C (Kd.int .i64) w A0 ps.length ps) (hr1 : Kd.C (Kd.int .i64) w A1 ds.length ds) :
    Calls Tryz.prog 33 #[.agg #[.slice A0 ps.length c0, .slice A1 ds.length c1]] w fun e w' => e = .returned (.bool (goodR ps ds)) ∧ Below w.heap.size w w' := by
  have HR0 := Aside0.mk hr0
  have HR1 := Aside0.mk hr1
  clear hr0 hr1
  have HG := Aside0.mk (show goodR ps ds = (inB (ps.length : Int) 1 12 && decide (ds.length = ps.length) && okFromR ps ds ps.length 0) from rfl)
  by_cases h1 : inB (ps.length : Int) 1 12 = true
  · by_cases h2 : ds.length = ps.length
    · have hn : ps.length ≤ 12 := by rw [inB_iff] at h1; omega
      have hn1 : 1 ≤ ps.length := by rw [inB_iff] at h1; omega
      have e2 : ((ds.length : Int) != (ps.length : Int)) = false := by rw [bne_eq_false_iff_eq]; omega
      have e3 : (ds.length != ps.length) = false := by rw [bne_eq_false_iff_eq]; exact h2
      have H1 := Aside0.mk h1
      have H2 := Aside0.mk h2
      clear h1 h2
      go_enter Tryz.func33, Tryz.ntmps33
      go_wp2_with (go_at_call 71; refine (l1In_same _ _ _ _).mono ?_; rw [H1.out]; rintro e w' ⟨rfl, rfl⟩)
      generalize hW : w.alloc _ = W0
      have hB0 : Below w.heap.size w W0 := by rw [← hW]; exact (Below.refl _ _).alloc (Nat.le_refl _) _
      have hb0 : W0.cell? ⟨w.heap.size, 0, none⟩ = some (.slice A0 ps.length c0) := by rw [← hW]; simp
      have hb1 : W0.cell? ⟨w.heap.size, 1, none⟩ = some (.slice A1 ds.length c1) := by rw [← hW]; simp
      clear hW e2 e3
      have HB0 := Aside0.mk hB0
      clear hB0
      go_loopg [4] ps.length (fun kq v4 w' => ∃ i : Nat, v4 = .int .i64 (i : Int) ∧ Aside0 (i ≤ ps.length ∧ ps.length - i ≤ kq) ∧ Aside0 (okFromR ps ds ps.length 0 = okFromR ps ds (ps.length - i) i) ∧ Drawn0 W0 w')
      case atStart => exact ⟨0, rfl, ⟨Nat.zero_le _, by omega⟩, ⟨rfl⟩, Drawn0.refl _⟩
      case round =>
        obtain ⟨i, rfl, HN, HA, ⟨m1, rfl⟩⟩ := hrel
        by_cases hlt : i < ps.length
        · have c3b0 : decide ((i : Int) < (ps.length : Int)) = true := decide_eq_true (by omega)
          have c3b1 : decide (i < ps.length) = true := decide_eq_true hlt
          have HL := Aside0.mk hlt
          have HS := Aside0.mk (show ps.length - i = (ps.length - (i + 1)) + 1 by omega)
          have hds : i < ds.length := by rw [H2.out]; exact hlt
          obtain ⟨j, hjd⟩ : ∃ j, (i + 1) % ps.length = j := ⟨_, rfl⟩
          have hj : j < ps.length := hjd ▸ Nat.mod_lt _ (by omega)
          have HJ := Aside0.mk hjd
          have hm : Int.tmod ((i + 1 : Nat) : Int) (ps.length : Int) = (j : Int) := by rw [← hjd]; rfl
          have hm2 : Int.tmod ((i : Int) + 1) (ps.length : Int) = (j : Int) := by rw [← hjd]; rfl
          have hm3 : ((i : Int) + 1) % (ps.length : Int) = (j : Int) := by rw [← hjd]; rfl
          obtain ⟨ad0, e0, hx0⟩ := Kd.at_int HR0.out (i : Int) (by omega) (by omega)
          obtain ⟨ad1, e1, hx1⟩ := Kd.at_int HR1.out (i : Int) (by omega) (by omega)
          obtain ⟨ad2, e2, hx2⟩ := Kd.at_int HR0.out (j : Int) (by omega) (by omega)
          cases e0
          cases e1
          cases e2
          rw [Int.toNat_natCast] at hx0 hx1 hx2
          have hy0 := (HB0.out.cell (World.block_lt_of_cell? w _ hx0)).trans hx0
          have hy1 := (HB0.out.cell (World.block_lt_of_cell? w _ hx1)).trans hx1
          have hy2 := (HB0.out.cell (World.block_lt_of_cell? w _ hx2)).trans hx2
          have q0 : ((i : Int) < (ps.length : Int)) = True := eq_true (by omega)
          have q1 : ((i : Int) < (ds.length : Int)) = True := eq_true (by omega)
          have q2 : ((j : Int) < (ps.length : Int)) = True := eq_true (by omega)
          have q3 : (0 ≤ (i : Int)) = True := eq_true (by omega)
          clear hx0 hx1 hx2
          have HOK := Aside0.mk (show okFromR ps ds (ps.length - i) i = (okCall ps ds i && okFromR ps ds (ps.length - (i + 1)) (i + 1)) by rw [HS.out]; rfl)
          have HC := Aside0.mk (show okCall ps ds i = (inB (rd ps (i : Int)) 1 9 && inB (rd ds (i : Int)) 1 40 && !(decide (1 < ps.length) && decide (rd ps (i : Int) = rd ps (j : Int)))) by rw [← HJ.out]; rfl)
          clear hjd
          have hw1 : wrap64 ((i : Int) + 1) = ((i + 1 : Nat) : Int) := wnext (m := 13) (by omega) (by omega)
          by_cases b1 : inB (rd ps (i : Int)) 1 9 = true
          · have B1 := Aside0.mk b1
            by_cases b2 : inB (rd ds (i : Int)) 1 40 = true
            · have B2 := Aside0.mk b2
              clear b1 b2 hds hj
              by_cases hn2 : 1 < ps.length
              · have c4 : decide ((1 : Int) < (ps.length : Int)) = true := decide_eq_true (by omega)
                have c5 : decide (1 < ps.length) = true := decide_eq_true hn2
                have hz : ((ps.length : Int) == 0) = false := by rw [beq_eq_false_iff_ne]; omega
                by_cases hq : rd ps (i : Int) = rd ps (j : Int)
                · have c6 : (rd ps (i : Int) == rd ps (j : Int)) = true := by rw [beq_iff_eq]; exact hq
                  have HQ := Aside0.mk hq
                  have HC5 := Aside0.mk c5
                  clear hn2 hlt hq
                  go_wp2
                  go_quiet ((go_at_call 71; refine (l1In_same _ _ _ _).mono ?_; (first | rw [B1.out] | rw [B2.out]); rintro e w' ⟨rfl, rfl⟩; exact ⟨rfl, _, rfl⟩))
                  go_wp2
                  go_ret
                  refine ⟨?_, pw_below_drewN (pw_below_drewN HB0.out _) _⟩
                  rw [HG.out, H1.out, decide_eq_true H2.out, HA.out, HOK.out, HC.out, B1.out, B2.out, HC5.out, decide_eq_true HQ.out]
                  rfl
                · have c6 : (rd ps (i : Int) == rd ps (j : Int)) = false := by rw [beq_eq_false_iff_ne]; exact hq
                  have HQ := Aside0.mk hq
                  have HC5 := Aside0.mk c5
                  clear hn2 hlt hq
                  go_wp2
                  go_quiet ((go_at_call 71; refine (l1In_same _ _ _ _).mono ?_; (first | rw [B1.out] | rw [B2.out]); rintro e w' ⟨rfl, rfl⟩; exact ⟨rfl, _, rfl⟩))
                  go_wp2
                  go_roundg (ps.length - (i + 1))
                  · refine ⟨i + 1, by rw [hw1], ⟨by have := HL.out; omega, Nat.le_refl _⟩, ⟨?_⟩, ⟨_, rfl⟩⟩
                    rw [HA.out, HOK.out, HC.out, B1.out, B2.out, HC5.out, decide_eq_false HQ.out]
                    rfl
                  · have := HN.out; have := HL.out; omega
              · have c4 : decide ((1 : Int) < (ps.length : Int)) = false := decide_eq_false (by omega)
                have c5 : decide (1 < ps.length) = false := decide_eq_false hn2
                have HC5 := Aside0.mk c5
                clear hn2 hlt
                go_wp2
                go_quiet ((go_at_call 71; refine (l1In_same _ _ _ _).mono ?_; (first | rw [B1.out] | rw [B2.out]); rintro e w' ⟨rfl, rfl⟩; exact ⟨rfl, _, rfl⟩))
                go_wp2
                go_roundg (ps.length - (i + 1))
                · refine ⟨i + 1, by rw [hw1], ⟨by have := HL.out; omega, Nat.le_refl _⟩, ⟨?_⟩, ⟨_, rfl⟩⟩
                  rw [HA.out, HOK.out, HC.out, B1.out, B2.out, HC5.out]
                  rfl
                · have := HN.out; have := HL.out; omega
            · have b2' : inB (rd ds (i : Int)) 1 40 = false := by simpa using b2
              have B2 := Aside0.mk b2'
              clear b1 b2 b2' hds hj hlt
              go_wp2
              go_quiet ((go_at_call 71; refine (l1In_same _ _ _ _).mono ?_; (first | rw [B1.out] | rw [B2.out]); rintro e w' ⟨rfl, rfl⟩; exact ⟨rfl, _, rfl⟩))
              go_wp2
              go_ret
              refine ⟨?_, pw_below_drewN (pw_below_drewN HB0.out _) _⟩
              rw [HG.out, H1.out, decide_eq_true H2.out, HA.out, HOK.out, HC.out, B1.out, B2.out]
              rfl
          · have b1' : inB (rd ps (i : Int)) 1 9 = false := by simpa using b1
            have B1 := Aside0.mk b1'
            clear b1 b1' hds hj hlt
            go_wp2
            go_quiet ((go_at_call 71; refine (l1In_same _ _ _ _).mono ?_; rw [B1.out]; rintro e w' ⟨rfl, rfl⟩; exact ⟨rfl, _, rfl⟩))
            go_wp2
            go_ret
            refine ⟨?_, pw_below_drewN (pw_below_drewN HB0.out _) _⟩
            rw [HG.out, H1.out, decide_eq_true H2.out, HA.out, HOK.out, HC.out, B1.out]
            rfl
        · have c3b0 : decide ((i : Int) < (ps.length : Int)) = false := decide_eq_false (by omega)
          have c3b1 : decide (i < ps.length) = false := decide_eq_false hlt
          have HE := Aside0.mk (show ps.length - i = 0 by omega)
          clear hlt
          go_wp2
          go_ret
          refine ⟨?_, pw_below_drewN HB0.out _⟩
          rw [HG.out, H1.out, decide_eq_true H2.out, HA.out, HE.out]
          rfl
    · have e2 : ((ds.length : Int) != (ps.length : Int)) = true := by rw [bne_iff_ne]; omega
      have e3 : (ds.length != ps.length) = true := by rw [bne_iff_ne]; exact h2
      have H1 := Aside0.mk h1
      have H2 := Aside0.mk h2
      clear h1 h2
      go_enter Tryz.func33, Tryz.ntmps33
      go_wp2_with (go_at_call 71; refine (l1In_same _ _ _ _).mono ?_; rw [H1.out]; rintro e w' ⟨rfl, rfl⟩)
      go_ret
      exact ⟨by rw [HG.out, H1.out, decide_eq_false H2.out]; rfl, (Below.refl _ _).alloc (Nat.le_refl _) _⟩
  · have h1' : inB (ps.length : Int) 1 12 = false := by simpa using h1
    have H1 := Aside0.mk h1'
    clear h1 h1'
    go_enter Tryz.func33, Tryz.ntmps33
    go_wp2_with (go_at_call 71; refine (l1In_same _ _ _ _).mono ?_; rw [H1.out]; rintro e w' ⟨rfl, rfl⟩)
    go_ret
    exact ⟨by rw [HG.out, H1.out]; rfl, (Below.refl _ _).alloc (Nat.le_refl _) _⟩

def spec_l3Good.f (k : Nat) (l0_0 : List Int) (l0_1 : List Int) : Option Bool := some (goodR l0_0 l0_1)
theorem spec_l3Good.mono : ∀ a0 a1 k, LeO (spec_l3Good.f k a0 a1) (spec_l3Good.f (k + 1) a0 a1) := fun _ _ _ => LeO.refl _
theorem spec_l3Good.calls (k : Nat) (A0_0 : Option Addr) (c0_0 : Nat) (l0_0 : List Int) (A0_1 : Option Addr) (c0_1 : Nat) (l0_1 : List Int) (r : Bool) (w : World) (hr0_0 : Kd.C (Kd.int .i64) w A0_0 l0_0.length l0_0) (hc0_0 : l0_0.length ≤ c0_0) (hr0_1 : Kd.C (Kd.int .i64) w A0_1 l0_1.length l0_1) (hc0_1 : l0_1.length ≤ c0_1) (h : spec_l3Good.f k l0_0 l0_1 = some r) :
    Calls Tryz.prog 33 #[.agg #[.slice A0_0 l0_0.length c0_0, .slice A0_1 l0_1.length c0_1]] w fun e w' => e = .returned (.bool r) ∧ Below w.heap.size w w' := by
  unfold spec_l3Good.f at h
  cases h
  exact l3Good_walk A0_0 c0_0 l0_0 A0_1 c0_1 l0_1 w hr0_0 hr0_1
end Go.Proofs.YtfindomajbjacaaGreatDoor.X
