/- The program's SameYard, walked: both yards' rows sorted and compared. -/
import Derived.Test.YtlldonokjgoajaaGSameY
import Derived.Test.YtlldonokjgoajaaMCutS
namespace Go.Proofs.Ytlldonokjgoajaa.X
open Go.RowKit Go.Proofs.YtlldonokjgoajaaW.PrintWords Go.Proofs.YtlldonokjgoajaaW.PrintLast Go.Proofs.YtlldonokjgoajaaW.PrintMore
set_option linter.unusedVariables false
set_option linter.unusedSimpArgs false
set_option maxHeartbeats 8000000 in
set_option maxRecDepth 100000 in
theorem same_bad0 (A0 : Option Addr) (c0 : Nat) (l0 : List (List Int)) (A1 : Option Addr) (c1 : Nat) (l1 : List (List Int)) (w : World) (hr0 : Kd.C KR w A0 l0.length l0) (hc0 : l0.length ≤ c0) (hr1 : Kd.C KR w A1 l1.length l1) (hc1 : l1.length ≤ c1) (hg0 : goodY l0 = false) :
    Calls Try.prog 69 #[.agg #[.slice A0 l0.length c0], .agg #[.slice A1 l1.length c1]] w fun e w' => e = .returned (.tuple #[.bool false, .bool false]) ∧ Below w.heap.size w w' := by
  have HR0 := Aside0.mk hr0
  have HC0 := Aside0.mk hc0
  have HR1 := Aside0.mk hr1
  have HC1 := Aside0.mk hc1
  clear hr0 hc0 hr1 hc1
  have HV0 := Aside0.mk (show impl_IsValidYard.f l0 = some false by unfold impl_IsValidYard.f; rw [hg0])
  clear hg0
  go_enter Try.func69, Try.ntmps69
  go_upto_region 1 with (fail)
  generalize hwa : (w.alloc (Obj.cells #[Value.slice A0 l0.length c0] 42)).alloc (Obj.cells #[Value.slice A1 l1.length c1] 42) = wa
  have hba : Below w.heap.size w wa := by rw [← hwa]; exact below_alloc (below_alloc (Below.refl _ _) _) _
  have hx2 : wa.cell? ⟨w.heap.size, 0, none⟩ = some (.slice A0 l0.length c0) := by
    rw [← hwa]
    have h0 : (w.alloc (Obj.cells #[Value.slice A0 l0.length c0] 42)).cell? ⟨w.heap.size, 0, none⟩ = some (.slice A0 l0.length c0) := (blk_cell (blk_new _ _) 0).trans rfl
    exact (World.cell?_alloc_lt _ _ _ (World.block_lt_of_cell? _ _ h0)).trans h0
  have hx3 : wa.cell? ⟨w.heap.size + 1, 0, none⟩ = some (.slice A1 l1.length c1) := by
    rw [← hwa]
    have hb := blk_new (w.alloc (Obj.cells #[Value.slice A0 l0.length c0] 42)) (Obj.cells #[Value.slice A1 l1.length c1] 42)
    rw [show (w.alloc (Obj.cells #[Value.slice A0 l0.length c0] 42)).heap.size = w.heap.size + 1 by simp] at hb
    exact (blk_cell hb 0).trans rfl
  have HBA := Aside0.mk hba
  clear hwa hba
  go_wp2_with (go_at_call 40; with_reducible refine (impl_IsValidYard.calls A0 c0 l0 false _ (Kd.C_below HR0.out HBA.out) HC0.out HV0.out).mono ?_; rintro e w1 ⟨rfl, hb⟩; replace hx2 := cell_below hx2 hb; replace hx3 := cell_below hx3 hb; replace HBA := Aside0.mk (below_then HBA.out HBA.out.size hb); clear hb)
  go_ret2
  exact ⟨rfl, HBA.out⟩
set_option maxHeartbeats 8000000 in
set_option maxRecDepth 100000 in
theorem same_bad1 (A0 : Option Addr) (c0 : Nat) (l0 : List (List Int)) (A1 : Option Addr) (c1 : Nat) (l1 : List (List Int)) (w : World) (hr0 : Kd.C KR w A0 l0.length l0) (hc0 : l0.length ≤ c0) (hr1 : Kd.C KR w A1 l1.length l1) (hc1 : l1.length ≤ c1) (hg0 : goodY l0 = true) (hg1 : goodY l1 = false) :
    Calls Try.prog 69 #[.agg #[.slice A0 l0.length c0], .agg #[.slice A1 l1.length c1]] w fun e w' => e = .returned (.tuple #[.bool false, .bool false]) ∧ Below w.heap.size w w' := by
  have HR0 := Aside0.mk hr0
  have HC0 := Aside0.mk hc0
  have HR1 := Aside0.mk hr1
  have HC1 := Aside0.mk hc1
  clear hr0 hc0 hr1 hc1
  have HV0 := Aside0.mk (show impl_IsValidYard.f l0 = some true by unfold impl_IsValidYard.f; rw [hg0])
  have HV1 := Aside0.mk (show impl_IsValidYard.f l1 = some false by unfold impl_IsValidYard.f; rw [hg1])
  clear hg0 hg1
  go_enter Try.func69, Try.ntmps69
  go_upto_region 1 with (fail)
  generalize hwa : (w.alloc (Obj.cells #[Value.slice A0 l0.length c0] 42)).alloc (Obj.cells #[Value.slice A1 l1.length c1] 42) = wa
  have hba : Below w.heap.size w wa := by rw [← hwa]; exact below_alloc (below_alloc (Below.refl _ _) _) _
  have hx2 : wa.cell? ⟨w.heap.size, 0, none⟩ = some (.slice A0 l0.length c0) := by
    rw [← hwa]
    have h0 : (w.alloc (Obj.cells #[Value.slice A0 l0.length c0] 42)).cell? ⟨w.heap.size, 0, none⟩ = some (.slice A0 l0.length c0) := (blk_cell (blk_new _ _) 0).trans rfl
    exact (World.cell?_alloc_lt _ _ _ (World.block_lt_of_cell? _ _ h0)).trans h0
  have hx3 : wa.cell? ⟨w.heap.size + 1, 0, none⟩ = some (.slice A1 l1.length c1) := by
    rw [← hwa]
    have hb := blk_new (w.alloc (Obj.cells #[Value.slice A0 l0.length c0] 42)) (Obj.cells #[Value.slice A1 l1.length c1] 42)
    rw [show (w.alloc (Obj.cells #[Value.slice A0 l0.length c0] 42)).heap.size = w.heap.size + 1 by simp] at hb
    exact (blk_cell hb 0).trans rfl
  have HBA := Aside0.mk hba
  clear hwa hba
  go_wp2_with (first | (go_at_call 40; with_reducible refine (impl_IsValidYard.calls A0 c0 l0 true _ (Kd.C_below HR0.out HBA.out) HC0.out HV0.out).mono ?_; rintro e w1 ⟨rfl, hb⟩; replace hx2 := cell_below hx2 hb; replace hx3 := cell_below hx3 hb; replace HBA := Aside0.mk (below_then HBA.out HBA.out.size hb); clear hb) | (go_at_call 40; with_reducible refine (impl_IsValidYard.calls A1 c1 l1 false _ (Kd.C_below HR1.out HBA.out) HC1.out HV1.out).mono ?_; rintro e w1 ⟨rfl, hb⟩; replace hx2 := cell_below hx2 hb; replace hx3 := cell_below hx3 hb; replace HBA := Aside0.mk (below_then HBA.out HBA.out.size hb); clear hb))
  go_ret2
  exact ⟨rfl, HBA.out⟩
set_option maxHeartbeats 8000000 in
set_option maxRecDepth 100000 in
theorem same_walk (A0 : Option Addr) (c0 : Nat) (l0 : List (List Int)) (A1 : Option Addr) (c1 : Nat) (l1 : List (List Int)) (w : World) (hr0 : Kd.C KR w A0 l0.length l0) (hc0 : l0.length ≤ c0) (hr1 : Kd.C KR w A1 l1.length l1) (hc1 : l1.length ≤ c1) (hg0 : goodY l0 = true) (hg1 : goodY l1 = true) :
    Calls Try.prog 69 #[.agg #[.slice A0 l0.length c0], .agg #[.slice A1 l1.length c1]] w fun e w' => e = .returned (.tuple #[.bool (decide (sortY l0 = sortY l1)), .bool true]) ∧ Below w.heap.size w w' := by
  have HR0 := Aside0.mk hr0
  have HC0 := Aside0.mk hc0
  have HR1 := Aside0.mk hr1
  have HC1 := Aside0.mk hc1
  clear hr0 hc0 hr1 hc1
  have HV0 := Aside0.mk (show impl_IsValidYard.f l0 = some true by unfold impl_IsValidYard.f; rw [hg0])
  have HV1 := Aside0.mk (show impl_IsValidYard.f l1 = some true by unfold impl_IsValidYard.f; rw [hg1])
  have HG0 := Aside0.mk hg0
  have HG1 := Aside0.mk hg1
  have HLS := Aside0.mk (show (sortY l0).length ≤ 1000 by rw [(sortY_perm l0).length_eq]; have := (goodY_len hg0).2; omega)
  have HL4 := Aside0.mk (show ∀ n, ((sortY l0).getD n []).length ≤ 1048576 from fun n => by
    by_cases hn : n < (sortY l0).length
    · obtain ⟨m, hm, e⟩ := row_at ((sortY_perm l0).mem_iff.1 (row_mem hn))
      have := goodY_row hg0 m
      rw [e] at this
      omega
    · rw [List.getD_eq_getElem?_getD, List.getElem?_eq_none (by omega)]
      exact Nat.zero_le _)
  clear hg0 hg1
  go_enter Try.func69, Try.ntmps69
  go_upto_region 1 with (fail)
  generalize hwa : (w.alloc (Obj.cells #[Value.slice A0 l0.length c0] 42)).alloc (Obj.cells #[Value.slice A1 l1.length c1] 42) = wa
  have hba : Below w.heap.size w wa := by rw [← hwa]; exact below_alloc (below_alloc (Below.refl _ _) _) _
  have hx2 : wa.cell? ⟨w.heap.size, 0, none⟩ = some (.slice A0 l0.length c0) := by
    rw [← hwa]
    have h0 : (w.alloc (Obj.cells #[Value.slice A0 l0.length c0] 42)).cell? ⟨w.heap.size, 0, none⟩ = some (.slice A0 l0.length c0) := (blk_cell (blk_new _ _) 0).trans rfl
    exact (World.cell?_alloc_lt _ _ _ (World.block_lt_of_cell? _ _ h0)).trans h0
  have hx3 : wa.cell? ⟨w.heap.size + 1, 0, none⟩ = some (.slice A1 l1.length c1) := by
    rw [← hwa]
    have hb := blk_new (w.alloc (Obj.cells #[Value.slice A0 l0.length c0] 42)) (Obj.cells #[Value.slice A1 l1.length c1] 42)
    rw [show (w.alloc (Obj.cells #[Value.slice A0 l0.length c0] 42)).heap.size = w.heap.size + 1 by simp] at hb
    exact (blk_cell hb 0).trans rfl
  have HBA := Aside0.mk hba
  clear hwa hba
  go_upto_region 3 with (first | (go_at_call 40; with_reducible refine (impl_IsValidYard.calls A0 c0 l0 true _ (Kd.C_below HR0.out HBA.out) HC0.out HV0.out).mono ?_; rintro e w1 ⟨rfl, hb⟩; replace hx2 := cell_below hx2 hb; replace hx3 := cell_below hx3 hb; replace HBA := Aside0.mk (below_then HBA.out HBA.out.size hb); clear hb) | (go_at_call 40; with_reducible refine (impl_IsValidYard.calls A1 c1 l1 true _ (Kd.C_below HR1.out HBA.out) HC1.out HV1.out).mono ?_; rintro e w1 ⟨rfl, hb⟩; replace hx2 := cell_below hx2 hb; replace hx3 := cell_below hx3 hb; replace HBA := Aside0.mk (below_then HBA.out HBA.out.size hb); clear hb))
  refine start_ (n := 7) (S := fun w' => w'.cell? ⟨w.heap.size, 0, none⟩ = some (.slice A0 l0.length c0) ∧ w'.cell? ⟨w.heap.size + 1, 0, none⟩ = some (.slice A1 l1.length c1) ∧ Below w.heap.size w w') (ds := []) #[false, false, false, false, false, false, false] (by kernel_rfl) rfl rfl ⟨hx2, hx3, ⟨HBA.out.os, HBA.out.tape, HBA.out.output, HBA.out.size, HBA.out.block⟩⟩ (fun hHeld => ?_)
  refine take_ (i := 0) (N := some 14) (v := ?_) (a' := ?_) #[true, false, false, false, false, false, false] rfl rfl (by kernel_rfl) (fun _ _ _ h => h) (Or.inl ⟨by rfl, ?_⟩) hHeld ?_ ?_
  rotate_left
  · rintro w' ⟨s0, s1, s2⟩
    go_simp
    with_reducible rfl
  rotate_left
  · simp only [Act.put, List.setIfInBounds_toArray, List.set_cons_zero, List.set_cons_succ, i64_w, i32_w]
    rfl
  refine take_ (i := 2) (N := some 16) (v := ?_) (a' := ?_) #[true, false, true, false, false, false, false] rfl rfl (by kernel_rfl) (fun _ _ _ h => h) (Or.inl ⟨by rfl, ?_⟩) hHeld ?_ ?_
  rotate_left
  · rintro w' ⟨s0, s1, s2⟩
    go_simp
    with_reducible rfl
  rotate_left
  · simp only [Act.put, List.setIfInBounds_toArray, List.set_cons_zero, List.set_cons_succ, i64_w, i32_w]
    rfl
  refine one_ (i := 1) (N := some 15) #[true, true, true, false, false, false, false] rfl rfl (by kernel_rfl) (by decide) (fun K hK => ?_)
  refine goes_ Try.func145 (by kernel_rfl) rfl #[.agg #[.slice A0 l0.length c0]] (by rfl) rfl rfl (by (try simp only [List.map_toArray, List.map_cons, List.map_nil]); first | done | rfl) ?_
  refine (sorted_walk A0 c0 l0 _ (Kd.C_below HR0.out hHeld.2.2) HC0.out HG0.out).mono ?_
  rintro e w4 ⟨v4, rfl, hs, hb⟩
  obtain ⟨A4, d4, rfl, hl4, hc4⟩ := Kd.R_reads hs
  have HC4 := Aside0.mk hc4
  refine ⟨_, rfl, ?_⟩
  refine hK.out _ _ ⟨cell_below hHeld.1 hb, cell_below hHeld.2.1 hb, below_then hHeld.2.2 hHeld.2.2.size hb⟩ (fun hHeld => ?_)
  clear hs hb hc4 hl4
  clear hK K
  refine norm_ (a' := ?_) ?_ ?_
  rotate_left
  · show Act.put _ (some 15) _ = _
    simp only [Act.put, List.setIfInBounds_toArray, List.set_cons_zero, List.set_cons_succ, i64_w, i32_w]
    rfl
  refine one_ (i := 3) (N := some 17) #[true, true, true, true, false, false, false] rfl rfl (by kernel_rfl) (by decide) (fun K hK => ?_)
  refine goes_ Try.func145 (by kernel_rfl) rfl #[.agg #[.slice A1 l1.length c1]] (by rfl) rfl rfl (by (try simp only [List.map_toArray, List.map_cons, List.map_nil]); first | done | rfl) ?_
  refine (sorted_walk A1 c1 l1 _ (Kd.C_below HR1.out hHeld.2.2) HC1.out HG1.out).mono ?_
  rintro e w5 ⟨v5, rfl, hs, hb⟩
  obtain ⟨A5, d5, rfl, hl5, hc5⟩ := Kd.R_reads hs
  have HC5 := Aside0.mk hc5
  have HC4b := Aside0.mk (Kd.C_below HC4.out hb)
  refine ⟨_, rfl, ?_⟩
  refine hK.out _ _ ⟨cell_below hHeld.1 hb, cell_below hHeld.2.1 hb, below_then hHeld.2.2 hHeld.2.2.size hb⟩ (fun hHeld => ?_)
  clear hs hb hc5 hl5 HC4
  clear hK K
  refine norm_ (a' := ?_) ?_ ?_
  rotate_left
  · show Act.put _ (some 17) _ = _
    simp only [Act.put, List.setIfInBounds_toArray, List.set_cons_zero, List.set_cons_succ, i64_w, i32_w]
    rfl
  refine one_ (i := 4) (N := some 18) #[true, true, true, true, true, false, false] rfl rfl (by kernel_rfl) (by decide) (fun K hK => ?_)
  refine goes_ Try.func144 (by kernel_rfl) rfl #[.slice A4 (sortY l0).length d4, .slice A5 (sortY l1).length d5, .func (.func 146) #[] #[]] (by rfl) rfl rfl (by (try simp only [List.map_toArray, List.map_cons, List.map_nil]); first | done | rfl) ?_
  refine (eqR_calls A4 d4 (sortY l0) A5 d5 (sortY l1) _ HC4b.out HC5.out HLS.out HL4.out).mono ?_
  rintro e w6 ⟨rfl, ⟨⟨q6, rfl⟩⟩⟩
  refine ⟨_, rfl, ?_⟩
  refine hK.out _ _ ⟨hHeld.1, hHeld.2.1, ⟨hHeld.2.2.os, hHeld.2.2.tape, hHeld.2.2.output, hHeld.2.2.size, hHeld.2.2.block⟩⟩ (fun hHeld => ?_)
  clear hK K
  refine norm_ (a' := ?_) ?_ ?_
  rotate_left
  · show Act.put _ (some 18) _ = _
    simp only [Act.put, List.setIfInBounds_toArray, List.set_cons_zero, List.set_cons_succ, i64_w, i32_w]
    rfl
  refine pure_ (i := 5) (N := some 4) (v := ?_) (a' := ?_) #[true, true, true, true, true, true, false] rfl rfl (by kernel_rfl) (fun _ _ _ h => h) (Or.inl ⟨by rfl, ?_⟩) ?_ ?_
  rotate_left
  · intro w'
    go_simp
    with_reducible rfl
  rotate_left
  · simp only [Act.put, List.setIfInBounds_toArray, List.set_cons_zero, List.set_cons_succ, i64_w, i32_w]
    rfl
  refine pure_ (i := 6) (N := some 5) (v := ?_) (a' := ?_) #[true, true, true, true, true, true, true] rfl rfl (by kernel_rfl) (fun _ _ _ h => h) (Or.inl ⟨by rfl, ?_⟩) ?_ ?_
  rotate_left
  · intro w'
    go_simp
    with_reducible rfl
  rotate_left
  · simp only [Act.put, List.setIfInBounds_toArray, List.set_cons_zero, List.set_cons_succ, i64_w, i32_w]
    rfl
  refine done_ (by kernel_rfl) ?_
  go_wp2
  go_ret2
  exact ⟨rfl, hHeld.2.2⟩
def impl_SameYard.f (_k : Nat) (l0_0 : List (List Int)) (l1_0 : List (List Int)) : Option (Bool × Bool) := some (sameA l0_0 l1_0)
theorem impl_SameYard.mono : ∀ a0 a1 k, LeO (impl_SameYard.f k a0 a1) (impl_SameYard.f (k + 1) a0 a1) := fun _ _ _ => LeO.refl _
theorem impl_SameYard.calls (k : Nat) (A0_0 : Option Addr) (c0_0 : Nat) (l0_0 : List (List Int)) (A1_0 : Option Addr) (c1_0 : Nat) (l1_0 : List (List Int)) (r1 : Bool) (r2 : Bool) (w : World) (hr0_0 : Kd.C (Kd.slice 3 (Kd.int .i64)) w A0_0 l0_0.length l0_0) (hc0_0 : l0_0.length ≤ c0_0) (hr1_0 : Kd.C (Kd.slice 3 (Kd.int .i64)) w A1_0 l1_0.length l1_0) (hc1_0 : l1_0.length ≤ c1_0) (h : impl_SameYard.f k l0_0 l1_0 = some (r1, r2)) :
    Calls Try.prog 69 #[.agg #[.slice A0_0 l0_0.length c0_0], .agg #[.slice A1_0 l1_0.length c1_0]] w fun e w' => e = .returned (.tuple #[.bool r1, .bool r2]) ∧ Below w.heap.size w w' := by
  have h := Option.some.inj h
  unfold sameA at h
  by_cases hg0 : goodY l0_0 = true
  · rw [if_pos hg0] at h
    by_cases hg1 : goodY l1_0 = true
    · rw [if_pos hg1] at h
      cases h
      exact same_walk A0_0 c0_0 l0_0 A1_0 c1_0 l1_0 w hr0_0 hc0_0 hr1_0 hc1_0 hg0 hg1
    · rw [if_neg hg1] at h
      cases h
      exact same_bad1 A0_0 c0_0 l0_0 A1_0 c1_0 l1_0 w hr0_0 hc0_0 hr1_0 hc1_0 hg0 (by simpa using hg1)
  · rw [if_neg hg0] at h
    cases h
    exact same_bad0 A0_0 c0_0 l0_0 A1_0 c1_0 l1_0 w hr0_0 hc0_0 hr1_0 hc1_0 (by simpa using hg0)
end Go.Proofs.Ytlldonokjgoajaa.X
