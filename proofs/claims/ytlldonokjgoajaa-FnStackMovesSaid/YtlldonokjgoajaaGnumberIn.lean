/- The reference's drawing of a number of a yard, walked. -/
import Derived.Test.YtlldonokjgoajaaFbCur
import Derived.Test.YtlldonokjgoajaaMYardG
import Derived.Test.YtlldonokjgoajaaMCutS
namespace Go.Proofs.Ytlldonokjgoajaa.X
open Go.RowKit Go.Lib Go.Proofs.YtlldonokjgoajaaW.PrintWords Go.Proofs.YtlldonokjgoajaaW.PrintLast Go.Proofs.YtlldonokjgoajaaW.PrintMore
set_option linter.unusedVariables false
set_option linter.unusedSimpArgs false
set_option maxHeartbeats 8000000 in
set_option maxRecDepth 100000 in
theorem number_empty (g : Nat) (s0 : List Int) (s1 s2 : Int) (A : Option Addr) (c : Nat) (ss : List (List Int)) (r1 r2 r3 : Int) (w0 w : World) (hI : IsS112 w0 w g s0 s1 s2) (hB : Below w0.heap.size w0 w)
    (hr : ∀ W', KeepBut w W' g none → Kd.C (Kd.slice 3 (Kd.int .i64)) W' A ss.length ss) (hc : ss.length ≤ c) (h0 : ss.length = 0) (hp : spec_l1Cur_pick.f s0 s1 s2 12 = some (r1, r2, r3)) :
    Calls Try.prog 184 #[.pointer (some ⟨g, 0, none⟩), .agg #[.slice A ss.length c]] w fun e w' => e = .returned (.int .i64 r1) ∧ IsS112 w0 w' g s0 r2 r3 ∧ Below w0.heap.size w0 w' ∧ KeepBut w w' g none := by
  have HR := Aside0.mk hr
  have HC := Aside0.mk hc
  have HNE := Aside0.mk (show (⟨w.heap.size, 0, none⟩ : Addr).block ≠ g from by obtain ⟨_, _, hb, _⟩ := hI; exact Nat.ne_of_gt (blk_lt hb))
  have HI0 := Aside0.mk (hI.alloc (.cells #[.slice A ss.length c] 42))
  have HB0 := Aside0.mk (below_alloc hB (.cells #[.slice A ss.length c] 42))
  have HK0 := Aside0.mk (keep_alloc (KeepBut.refl w g none) (.cells #[.slice A ss.length c] 42))
  clear hr hc hI hB
  have HP := Aside0.mk hp
  have d0 : decide ((ss.length : Int) = 0) = true := decide_eq_true (by omega)
  have d1 : ((ss.length : Int) == 0) = true := by rw [h0]; rfl
  have d2 : (ss = []) = True := eq_true (List.eq_nil_of_length_eq_zero h0)
  clear hp h0
  go_enter Try.func184, Try.ntmps184
  go_upto_region 1 with (fail)
  have hx3 : (w.alloc (Obj.cells #[Value.slice A ss.length c] 42)).cell? ⟨w.heap.size, 0, none⟩ = some (.slice A ss.length c) := (blk_cell (blk_new _ _) 0).trans rfl
  generalize w.alloc (Obj.cells #[Value.slice A ss.length c] 42) = W0 at HI0 HB0 HK0 hx3 ⊢
  go_wp2_with ((with_reducible refine gate_callee (f := 97) rfl ?_); refine goesL_ (some 15) rfl rfl Try.func97 (by kernel_rfl) rfl #[.pointer (some ⟨g, 0, none⟩), .int .i64 12] rfl (by (try simp only [List.map_toArray, List.map_cons, List.map_nil]); first | done | rfl) ?_; refine (spec_l1Cur_pick.calls g s0 s1 s2 12 r1 r2 r3 w0 _ HI0.out HB0.out HP.out).mono ?_; rintro e W5 ⟨rfl, hi, hb, hk⟩; refine ⟨_, rfl, ?_⟩; have HI5 := Aside0.mk hi; have HB5 := Aside0.mk hb; have HK5 := Aside0.mk (KeepBut.trans HK0.out hk (.inl rfl)); clear hi hb hk)
  go_ret
  exact ⟨rfl, HI5.out, HB5.out, HK5.out⟩
set_option maxHeartbeats 8000000 in
set_option maxRecDepth 100000 in
theorem number_one (g : Nat) (s0 : List Int) (s1 s2 : Int) (A : Option Addr) (c : Nat) (ss : List (List Int)) (r1 r2 r3 : Int) (w0 w : World) (hI : IsS112 w0 w g s0 s1 s2) (hB : Below w0.heap.size w0 w)
    (hr : ∀ W', KeepBut w W' g none → Kd.C (Kd.slice 3 (Kd.int .i64)) W' A ss.length ss) (hc : ss.length ≤ c) (h0 : 0 < ss.length) (t1 t2 : Int) (ho : spec_l1Cur_one.f s0 s1 s2 8 = some (true, t1, t2)) (hp : spec_l1Cur_pick.f s0 t1 t2 12 = some (r1, r2, r3)) :
    Calls Try.prog 184 #[.pointer (some ⟨g, 0, none⟩), .agg #[.slice A ss.length c]] w fun e w' => e = .returned (.int .i64 r1) ∧ IsS112 w0 w' g s0 r2 r3 ∧ Below w0.heap.size w0 w' ∧ KeepBut w w' g none := by
  have HR := Aside0.mk hr
  have HC := Aside0.mk hc
  have HNE := Aside0.mk (show (⟨w.heap.size, 0, none⟩ : Addr).block ≠ g from by obtain ⟨_, _, hb, _⟩ := hI; exact Nat.ne_of_gt (blk_lt hb))
  have HI0 := Aside0.mk (hI.alloc (.cells #[.slice A ss.length c] 42))
  have HB0 := Aside0.mk (below_alloc hB (.cells #[.slice A ss.length c] 42))
  have HK0 := Aside0.mk (keep_alloc (KeepBut.refl w g none) (.cells #[.slice A ss.length c] 42))
  clear hr hc hI hB
  have HP := Aside0.mk hp
  have HO := Aside0.mk ho
  have d0 : decide ((ss.length : Int) = 0) = false := decide_eq_false (by omega)
  have d1 : ((ss.length : Int) == 0) = false := by simp; intro h; subst h; simp at h0
  have d2 : (ss = []) = False := eq_false (fun h => by subst h; simp at h0)
  clear hp ho h0
  go_enter Try.func184, Try.ntmps184
  go_upto_region 1 with (fail)
  have hx3 : (w.alloc (Obj.cells #[Value.slice A ss.length c] 42)).cell? ⟨w.heap.size, 0, none⟩ = some (.slice A ss.length c) := (blk_cell (blk_new _ _) 0).trans rfl
  generalize w.alloc (Obj.cells #[Value.slice A ss.length c] 42) = W0 at HI0 HB0 HK0 hx3 ⊢
  go_wp2_with (first | (go_at_call 151; refine (spec_l1Cur_one.calls g s0 s1 s2 8 true t1 t2 w0 _ HI0.out HB0.out HO.out).mono ?_; rintro e W1 ⟨rfl, hi, hb, hk⟩; have hx3b := keep_cell hk hx3 HNE.out; have HI := Aside0.mk hi; have HB := Aside0.mk hb; have HK := Aside0.mk (KeepBut.trans HK0.out hk (.inl rfl)); clear hi hb hk hx3; have hx3 := hx3b; clear hx3b) | ((with_reducible refine gate_callee (f := 97) rfl ?_); refine goesL_ (some 15) rfl rfl Try.func97 (by kernel_rfl) rfl #[.pointer (some ⟨g, 0, none⟩), .int .i64 12] rfl (by (try simp only [List.map_toArray, List.map_cons, List.map_nil]); first | done | rfl) ?_; refine (spec_l1Cur_pick.calls g s0 t1 t2 12 r1 r2 r3 w0 _ HI.out HB.out HP.out).mono ?_; rintro e W5 ⟨rfl, hi, hb, hk⟩; refine ⟨_, rfl, ?_⟩; have HI5 := Aside0.mk hi; have HB5 := Aside0.mk hb; have HK5 := Aside0.mk (KeepBut.trans HK.out hk (.inl rfl)); clear hi hb hk))
  go_ret
  exact ⟨rfl, HI5.out, HB5.out, HK5.out⟩
set_option maxHeartbeats 8000000 in
set_option maxRecDepth 100000 in
theorem number_bare (g : Nat) (s0 : List Int) (s1 s2 : Int) (A : Option Addr) (c : Nat) (ss : List (List Int)) (r1 r2 r3 : Int) (w0 w : World) (hI : IsS112 w0 w g s0 s1 s2) (hB : Below w0.heap.size w0 w)
    (hr : ∀ W', KeepBut w W' g none → Kd.C (Kd.slice 3 (Kd.int .i64)) W' A ss.length ss) (hc : ss.length ≤ c) (h0 : 0 < ss.length) (t1 t2 : Int) (ho : spec_l1Cur_one.f s0 s1 s2 8 = some (false, t1, t2)) (i : Nat) (t3 t4 : Int) (hp : spec_l1Cur_pick.f s0 t1 t2 (ss.length : Int) = some ((i : Int), t3, t4)) (hi : i < ss.length) (row : List Int) (hrow : rd_L2 ss (i : Int) = row) (hz : row.length = 0) (p : Int) (hq : spec_l1Cur_pick.f s0 t3 t4 9 = some (p, r2, r3)) (hr1 : r1 = wrap64 (1 + p)) :
    Calls Try.prog 184 #[.pointer (some ⟨g, 0, none⟩), .agg #[.slice A ss.length c]] w fun e w' => e = .returned (.int .i64 r1) ∧ IsS112 w0 w' g s0 r2 r3 ∧ Below w0.heap.size w0 w' ∧ KeepBut w w' g none := by
  have HR := Aside0.mk hr
  have HC := Aside0.mk hc
  have HNE := Aside0.mk (show (⟨w.heap.size, 0, none⟩ : Addr).block ≠ g from by obtain ⟨_, _, hb, _⟩ := hI; exact Nat.ne_of_gt (blk_lt hb))
  have HI0 := Aside0.mk (hI.alloc (.cells #[.slice A ss.length c] 42))
  have HB0 := Aside0.mk (below_alloc hB (.cells #[.slice A ss.length c] 42))
  have HK0 := Aside0.mk (keep_alloc (KeepBut.refl w g none) (.cells #[.slice A ss.length c] 42))
  clear hr hc hI hB
  have HQ := Aside0.mk hq
  have HR1 := Aside0.mk hr1
  have HZ := Aside0.mk hz
  clear hq hr1 hz
  have HP := Aside0.mk hp
  have HO := Aside0.mk ho
  have HLT := Aside0.mk hi
  have HROW := Aside0.mk hrow
  have d0 : decide ((ss.length : Int) = 0) = false := decide_eq_false (by omega)
  have d1 : ((ss.length : Int) == 0) = false := by simp; intro h; subst h; simp at h0
  have d2 : (ss = []) = False := eq_false (fun h => by subst h; simp at h0)
  clear hp ho h0 hi hrow
  go_enter Try.func184, Try.ntmps184
  go_upto_region 1 with (fail)
  have hx3 : (w.alloc (Obj.cells #[Value.slice A ss.length c] 42)).cell? ⟨w.heap.size, 0, none⟩ = some (.slice A ss.length c) := (blk_cell (blk_new _ _) 0).trans rfl
  generalize w.alloc (Obj.cells #[Value.slice A ss.length c] 42) = W0 at HI0 HB0 HK0 hx3 ⊢
  go_upto_region 3 with (go_at_call 151; refine (spec_l1Cur_one.calls g s0 s1 s2 8 false t1 t2 w0 _ HI0.out HB0.out HO.out).mono ?_; rintro e W1 ⟨rfl, hi, hb, hk⟩; have hx3b := keep_cell hk hx3 HNE.out; have HI := Aside0.mk hi; have HB := Aside0.mk hb; have HK := Aside0.mk (KeepBut.trans HK0.out hk (.inl rfl)); clear hi hb hk hx3; have hx3 := hx3b; clear hx3b)
  refine start_ (n := 10) (S := fun w' => w'.cell? ⟨w.heap.size, 0, none⟩ = some (.slice A ss.length c)) (ds := []) #[false, false, false, false, false, false, false, false, false, false] (by kernel_rfl) rfl rfl hx3 (fun hHeld => ?_)
  replace HI := Aside0.mk (IsS112.drew HI.out)
  replace HB := Aside0.mk (below_drew1 HB.out)
  replace HK := Aside0.mk (keep_drew HK.out)
  generalize W1.drew = W2 at HI HB HK hHeld ⊢
  refine pure_ (i := 0) (N := some 16) (v := ?_) (a' := ?_) #[true, false, false, false, false, false, false, false, false, false] rfl rfl (by kernel_rfl) (fun _ _ _ h => h) (Or.inl ⟨by rfl, ?_⟩) ?_ ?_
  rotate_left
  · intro w'
    go_simp
    with_reducible rfl
  rotate_left
  · simp only [Act.put, List.setIfInBounds_toArray, List.set_cons_zero, List.set_cons_succ, i64_w, i32_w]
    rfl
  refine take_ (i := 1) (N := some 17) (v := ?_) (a' := ?_) #[true, true, false, false, false, false, false, false, false, false] rfl rfl (by kernel_rfl) (fun _ _ _ h => h) (Or.inl ⟨by rfl, ?_⟩) hHeld ?_ ?_
  rotate_left
  · rintro w' s0_
    go_simp
    with_reducible rfl
  rotate_left
  · simp only [Act.put, List.setIfInBounds_toArray, List.set_cons_zero, List.set_cons_succ, i64_w, i32_w]
    rfl
  refine pure_ (i := 2) (N := some 18) (v := ?_) (a' := ?_) #[true, true, true, false, false, false, false, false, false, false] rfl rfl (by kernel_rfl) (fun _ _ _ h => h) (Or.inl ⟨by rfl, ?_⟩) ?_ ?_
  rotate_left
  · intro w'
    go_simp
    with_reducible rfl
  rotate_left
  · simp only [Act.put, List.setIfInBounds_toArray, List.set_cons_zero, List.set_cons_succ, i64_w, i32_w]
    rfl
  refine pure_ (i := 3) (N := some 19) (v := ?_) (a' := ?_) #[true, true, true, true, false, false, false, false, false, false] rfl rfl (by kernel_rfl) (fun _ _ _ h => h) (Or.inl ⟨by rfl, ?_⟩) ?_ ?_
  rotate_left
  · intro w'
    go_simp
    with_reducible rfl
  rotate_left
  · simp only [Act.put, List.setIfInBounds_toArray, List.set_cons_zero, List.set_cons_succ, i64_w, i32_w]
    rfl
  refine take_ (i := 4) (N := some 20) (v := ?_) (a' := ?_) #[true, true, true, true, true, false, false, false, false, false] rfl rfl (by kernel_rfl) (fun _ _ _ h => h) (Or.inl ⟨by rfl, ?_⟩) hHeld ?_ ?_
  rotate_left
  · rintro w' s0_
    go_simp
    with_reducible rfl
  rotate_left
  · simp only [Act.put, List.setIfInBounds_toArray, List.set_cons_zero, List.set_cons_succ, i64_w, i32_w]
    rfl
  refine pure_ (i := 5) (N := some 21) (v := ?_) (a' := ?_) #[true, true, true, true, true, true, false, false, false, false] rfl rfl (by kernel_rfl) (fun _ _ _ h => h) (Or.inl ⟨by rfl, ?_⟩) ?_ ?_
  rotate_left
  · intro w'
    go_simp
    with_reducible rfl
  rotate_left
  · simp only [Act.put, List.setIfInBounds_toArray, List.set_cons_zero, List.set_cons_succ, i64_w, i32_w]
    rfl
  refine one_ (i := 6) (N := some 22) #[true, true, true, true, true, true, true, false, false, false] rfl rfl (by kernel_rfl) (by decide) (fun K hK => ?_)
  refine goes_ Try.func97 (by kernel_rfl) rfl #[.pointer (some ⟨g, 0, none⟩), .int .i64 (ss.length : Int)] (by rfl) rfl rfl (by (try simp only [List.map_toArray, List.map_cons, List.map_nil]); first | done | rfl) ?_
  refine (spec_l1Cur_pick.calls g s0 t1 t2 (ss.length : Int) (i : Int) t3 t4 w0 _ HI.out HB.out HP.out).mono ?_
  rintro e w4 ⟨rfl, hi, hb, hk⟩
  replace HK := Aside0.mk (KeepBut.trans HK.out hk (.inl rfl))
  replace HI := Aside0.mk hi
  replace HB := Aside0.mk hb
  obtain ⟨ad, Ai, ci, eA, hcell, hlen, hCi⟩ := at_L2 (HR.out _ HK.out) (i : Int) (by omega) (by have := HLT.out; omega)
  cases eA
  have HNA := Aside0.mk (Kd.foot_ne HR.out (by have := HLT.out; omega) (by decide))
  rw [Int.toNat_natCast, show rd_L2 ss (i : Int) = row from HROW.out] at hcell
  rw [show rd_L2 ss (i : Int) = row from HROW.out] at hlen hCi
  have HLI := Aside0.mk hlen
  have i0 : 0 ≤ (i : Int) := by omega
  have i1 : (i : Int) < (ss.length : Int) := by have := HLT.out; omega
  refine ⟨_, rfl, ?_⟩
  refine hK.out _ _ (keep_cell hk hHeld HNE.out) (fun hHeld => ?_)
  clear hi hb hk hlen hCi
  clear hK K
  refine norm_ (a' := ?_) ?_ ?_
  rotate_left
  · show Act.put _ (some 22) _ = _
    simp only [Act.put, List.setIfInBounds_toArray, List.set_cons_zero, List.set_cons_succ, i64_w, i32_w]
    rfl
  refine pure_ (i := 7) (N := some 23) (v := ?_) (a' := ?_) #[true, true, true, true, true, true, true, true, false, false] rfl rfl (by kernel_rfl) (fun _ _ _ h => h) (Or.inl ⟨by rfl, ?_⟩) ?_ ?_
  rotate_left
  · intro w'
    go_simp
    with_reducible rfl
  rotate_left
  · simp only [Act.put, List.setIfInBounds_toArray, List.set_cons_zero, List.set_cons_succ, i64_w, i32_w]
    rfl
  refine one_ (i := 8) (N := some 24) #[true, true, true, true, true, true, true, true, true, false] rfl rfl (by kernel_rfl) (by decide) (fun K hK => ?_)
  refine value_ (w1 := ?_) (v := ?_) (by rfl) rfl ?_ ?_
  rotate_left 2
  · go_simp
    constructor
    · rfl
    · rfl
  refine hK.out _ _ hHeld (fun hHeld => ?_)
  clear hK K
  refine norm_ (a' := ?_) ?_ ?_
  rotate_left
  · show Act.put _ (some 24) _ = _
    simp only [Act.put, List.setIfInBounds_toArray, List.set_cons_zero, List.set_cons_succ, i64_w, i32_w]
    rfl
  refine pure_ (i := 9) (N := some 5) (v := ?_) (a' := ?_) #[true, true, true, true, true, true, true, true, true, true] rfl rfl (by kernel_rfl) (fun _ _ _ h => h) (Or.inl ⟨by rfl, ?_⟩) ?_ ?_
  rotate_left
  · intro w'
    go_simp
    with_reducible rfl
  rotate_left
  · simp only [Act.put, List.setIfInBounds_toArray, List.set_cons_zero, List.set_cons_succ, i64_w, i32_w]
    rfl
  refine done_ (by kernel_rfl) ?_
  have d3 : row = [] := List.eq_nil_of_length_eq_zero HZ.out
  subst d3
  go_wp2_with ((with_reducible refine gate_callee (f := 97) rfl ?_); refine goesL_ (some 29) rfl rfl Try.func97 (by kernel_rfl) rfl #[.pointer (some ⟨g, 0, none⟩), .int .i64 9] rfl (by (try simp only [List.map_toArray, List.map_cons, List.map_nil]); first | done | rfl) ?_; refine (spec_l1Cur_pick.calls g s0 t3 t4 9 p r2 r3 w0 _ HI.out HB.out HQ.out).mono ?_; rintro e W5 ⟨rfl, hi, hb, hk⟩; refine ⟨_, rfl, ?_⟩; have HI5 := Aside0.mk hi; have HB5 := Aside0.mk hb; have HK5 := Aside0.mk (KeepBut.trans HK.out hk (.inl rfl)); clear hi hb hk)
  go_ret
  exact ⟨by rw [HR1.out]; rfl, HI5.out, HB5.out, HK5.out⟩
set_option maxHeartbeats 8000000 in
set_option maxRecDepth 100000 in
theorem number_row (g : Nat) (s0 : List Int) (s1 s2 : Int) (A : Option Addr) (c : Nat) (ss : List (List Int)) (r1 r2 r3 : Int) (w0 w : World) (hI : IsS112 w0 w g s0 s1 s2) (hB : Below w0.heap.size w0 w)
    (hr : ∀ W', KeepBut w W' g none → Kd.C (Kd.slice 3 (Kd.int .i64)) W' A ss.length ss) (hc : ss.length ≤ c) (h0 : 0 < ss.length) (t1 t2 : Int) (ho : spec_l1Cur_one.f s0 s1 s2 8 = some (false, t1, t2)) (i : Nat) (t3 t4 : Int) (hp : spec_l1Cur_pick.f s0 t1 t2 (ss.length : Int) = some ((i : Int), t3, t4)) (hi : i < ss.length) (row : List Int) (hrow : rd_L2 ss (i : Int) = row) (j : Nat) (hj : j < row.length) (hq : spec_l1Cur_pick.f s0 t3 t4 (row.length : Int) = some ((j : Int), r2, r3)) (hr1 : r1 = rd row (j : Int)) :
    Calls Try.prog 184 #[.pointer (some ⟨g, 0, none⟩), .agg #[.slice A ss.length c]] w fun e w' => e = .returned (.int .i64 r1) ∧ IsS112 w0 w' g s0 r2 r3 ∧ Below w0.heap.size w0 w' ∧ KeepBut w w' g none := by
  have HR := Aside0.mk hr
  have HC := Aside0.mk hc
  have HNE := Aside0.mk (show (⟨w.heap.size, 0, none⟩ : Addr).block ≠ g from by obtain ⟨_, _, hb, _⟩ := hI; exact Nat.ne_of_gt (blk_lt hb))
  have HI0 := Aside0.mk (hI.alloc (.cells #[.slice A ss.length c] 42))
  have HB0 := Aside0.mk (below_alloc hB (.cells #[.slice A ss.length c] 42))
  have HK0 := Aside0.mk (keep_alloc (KeepBut.refl w g none) (.cells #[.slice A ss.length c] 42))
  clear hr hc hI hB
  have HQ := Aside0.mk hq
  have HR1 := Aside0.mk hr1
  have HJ := Aside0.mk hj
  clear hq hr1 hj
  have HP := Aside0.mk hp
  have HO := Aside0.mk ho
  have HLT := Aside0.mk hi
  have HROW := Aside0.mk hrow
  have d0 : decide ((ss.length : Int) = 0) = false := decide_eq_false (by omega)
  have d1 : ((ss.length : Int) == 0) = false := by simp; intro h; subst h; simp at h0
  have d2 : (ss = []) = False := eq_false (fun h => by subst h; simp at h0)
  clear hp ho h0 hi hrow
  go_enter Try.func184, Try.ntmps184
  go_upto_region 1 with (fail)
  have hx3 : (w.alloc (Obj.cells #[Value.slice A ss.length c] 42)).cell? ⟨w.heap.size, 0, none⟩ = some (.slice A ss.length c) := (blk_cell (blk_new _ _) 0).trans rfl
  generalize w.alloc (Obj.cells #[Value.slice A ss.length c] 42) = W0 at HI0 HB0 HK0 hx3 ⊢
  go_upto_region 3 with (go_at_call 151; refine (spec_l1Cur_one.calls g s0 s1 s2 8 false t1 t2 w0 _ HI0.out HB0.out HO.out).mono ?_; rintro e W1 ⟨rfl, hi, hb, hk⟩; have hx3b := keep_cell hk hx3 HNE.out; have HI := Aside0.mk hi; have HB := Aside0.mk hb; have HK := Aside0.mk (KeepBut.trans HK0.out hk (.inl rfl)); clear hi hb hk hx3; have hx3 := hx3b; clear hx3b)
  refine start_ (n := 10) (S := fun w' => w'.cell? ⟨w.heap.size, 0, none⟩ = some (.slice A ss.length c)) (ds := []) #[false, false, false, false, false, false, false, false, false, false] (by kernel_rfl) rfl rfl hx3 (fun hHeld => ?_)
  replace HI := Aside0.mk (IsS112.drew HI.out)
  replace HB := Aside0.mk (below_drew1 HB.out)
  replace HK := Aside0.mk (keep_drew HK.out)
  generalize W1.drew = W2 at HI HB HK hHeld ⊢
  refine pure_ (i := 0) (N := some 16) (v := ?_) (a' := ?_) #[true, false, false, false, false, false, false, false, false, false] rfl rfl (by kernel_rfl) (fun _ _ _ h => h) (Or.inl ⟨by rfl, ?_⟩) ?_ ?_
  rotate_left
  · intro w'
    go_simp
    with_reducible rfl
  rotate_left
  · simp only [Act.put, List.setIfInBounds_toArray, List.set_cons_zero, List.set_cons_succ, i64_w, i32_w]
    rfl
  refine take_ (i := 1) (N := some 17) (v := ?_) (a' := ?_) #[true, true, false, false, false, false, false, false, false, false] rfl rfl (by kernel_rfl) (fun _ _ _ h => h) (Or.inl ⟨by rfl, ?_⟩) hHeld ?_ ?_
  rotate_left
  · rintro w' s0_
    go_simp
    with_reducible rfl
  rotate_left
  · simp only [Act.put, List.setIfInBounds_toArray, List.set_cons_zero, List.set_cons_succ, i64_w, i32_w]
    rfl
  refine pure_ (i := 2) (N := some 18) (v := ?_) (a' := ?_) #[true, true, true, false, false, false, false, false, false, false] rfl rfl (by kernel_rfl) (fun _ _ _ h => h) (Or.inl ⟨by rfl, ?_⟩) ?_ ?_
  rotate_left
  · intro w'
    go_simp
    with_reducible rfl
  rotate_left
  · simp only [Act.put, List.setIfInBounds_toArray, List.set_cons_zero, List.set_cons_succ, i64_w, i32_w]
    rfl
  refine pure_ (i := 3) (N := some 19) (v := ?_) (a' := ?_) #[true, true, true, true, false, false, false, false, false, false] rfl rfl (by kernel_rfl) (fun _ _ _ h => h) (Or.inl ⟨by rfl, ?_⟩) ?_ ?_
  rotate_left
  · intro w'
    go_simp
    with_reducible rfl
  rotate_left
  · simp only [Act.put, List.setIfInBounds_toArray, List.set_cons_zero, List.set_cons_succ, i64_w, i32_w]
    rfl
  refine take_ (i := 4) (N := some 20) (v := ?_) (a' := ?_) #[true, true, true, true, true, false, false, false, false, false] rfl rfl (by kernel_rfl) (fun _ _ _ h => h) (Or.inl ⟨by rfl, ?_⟩) hHeld ?_ ?_
  rotate_left
  · rintro w' s0_
    go_simp
    with_reducible rfl
  rotate_left
  · simp only [Act.put, List.setIfInBounds_toArray, List.set_cons_zero, List.set_cons_succ, i64_w, i32_w]
    rfl
  refine pure_ (i := 5) (N := some 21) (v := ?_) (a' := ?_) #[true, true, true, true, true, true, false, false, false, false] rfl rfl (by kernel_rfl) (fun _ _ _ h => h) (Or.inl ⟨by rfl, ?_⟩) ?_ ?_
  rotate_left
  · intro w'
    go_simp
    with_reducible rfl
  rotate_left
  · simp only [Act.put, List.setIfInBounds_toArray, List.set_cons_zero, List.set_cons_succ, i64_w, i32_w]
    rfl
  refine one_ (i := 6) (N := some 22) #[true, true, true, true, true, true, true, false, false, false] rfl rfl (by kernel_rfl) (by decide) (fun K hK => ?_)
  refine goes_ Try.func97 (by kernel_rfl) rfl #[.pointer (some ⟨g, 0, none⟩), .int .i64 (ss.length : Int)] (by rfl) rfl rfl (by (try simp only [List.map_toArray, List.map_cons, List.map_nil]); first | done | rfl) ?_
  refine (spec_l1Cur_pick.calls g s0 t1 t2 (ss.length : Int) (i : Int) t3 t4 w0 _ HI.out HB.out HP.out).mono ?_
  rintro e w4 ⟨rfl, hi, hb, hk⟩
  replace HK := Aside0.mk (KeepBut.trans HK.out hk (.inl rfl))
  replace HI := Aside0.mk hi
  replace HB := Aside0.mk hb
  obtain ⟨ad, Ai, ci, eA, hcell, hlen, hCi⟩ := at_L2 (HR.out _ HK.out) (i : Int) (by omega) (by have := HLT.out; omega)
  cases eA
  have HNA := Aside0.mk (Kd.foot_ne HR.out (by have := HLT.out; omega) (by decide))
  rw [Int.toNat_natCast, show rd_L2 ss (i : Int) = row from HROW.out] at hcell
  rw [show rd_L2 ss (i : Int) = row from HROW.out] at hlen hCi
  have HLI := Aside0.mk hlen
  have i0 : 0 ≤ (i : Int) := by omega
  have i1 : (i : Int) < (ss.length : Int) := by have := HLT.out; omega
  refine ⟨_, rfl, ?_⟩
  refine hK.out _ _ (keep_cell hk hHeld HNE.out) (fun hHeld => ?_)
  clear hi hb hk hlen hCi
  clear hK K
  refine norm_ (a' := ?_) ?_ ?_
  rotate_left
  · show Act.put _ (some 22) _ = _
    simp only [Act.put, List.setIfInBounds_toArray, List.set_cons_zero, List.set_cons_succ, i64_w, i32_w]
    rfl
  refine pure_ (i := 7) (N := some 23) (v := ?_) (a' := ?_) #[true, true, true, true, true, true, true, true, false, false] rfl rfl (by kernel_rfl) (fun _ _ _ h => h) (Or.inl ⟨by rfl, ?_⟩) ?_ ?_
  rotate_left
  · intro w'
    go_simp
    with_reducible rfl
  rotate_left
  · simp only [Act.put, List.setIfInBounds_toArray, List.set_cons_zero, List.set_cons_succ, i64_w, i32_w]
    rfl
  refine one_ (i := 8) (N := some 24) #[true, true, true, true, true, true, true, true, true, false] rfl rfl (by kernel_rfl) (by decide) (fun K hK => ?_)
  refine value_ (w1 := ?_) (v := ?_) (by rfl) rfl ?_ ?_
  rotate_left 2
  · go_simp
    constructor
    · rfl
    · rfl
  refine hK.out _ _ hHeld (fun hHeld => ?_)
  clear hK K
  refine norm_ (a' := ?_) ?_ ?_
  rotate_left
  · show Act.put _ (some 24) _ = _
    simp only [Act.put, List.setIfInBounds_toArray, List.set_cons_zero, List.set_cons_succ, i64_w, i32_w]
    rfl
  refine pure_ (i := 9) (N := some 5) (v := ?_) (a' := ?_) #[true, true, true, true, true, true, true, true, true, true] rfl rfl (by kernel_rfl) (fun _ _ _ h => h) (Or.inl ⟨by rfl, ?_⟩) ?_ ?_
  rotate_left
  · intro w'
    go_simp
    with_reducible rfl
  rotate_left
  · simp only [Act.put, List.setIfInBounds_toArray, List.set_cons_zero, List.set_cons_succ, i64_w, i32_w]
    rfl
  refine done_ (by kernel_rfl) ?_
  have d3 : decide ((row.length : Int) = 0) = false := decide_eq_false (by have := HJ.out; omega)
  have d4 : ((row.length : Int) == 0) = false := by have := HJ.out; simp; intro h; subst h; simp at this
  have d5 : (row = []) = False := eq_false (fun h => by have := HJ.out; subst h; simp at this)
  go_wp2_with ((with_reducible refine gate_callee (f := 97) rfl ?_); refine goesL_ (some 35) rfl rfl Try.func97 (by kernel_rfl) rfl #[.pointer (some ⟨g, 0, none⟩), .int .i64 (row.length : Int)] rfl (by (try simp only [List.map_toArray, List.map_cons, List.map_nil]); first | done | rfl) ?_; refine (spec_l1Cur_pick.calls g s0 t3 t4 (row.length : Int) (j : Int) r2 r3 w0 _ HI.out HB.out HQ.out).mono ?_; rintro e W5 ⟨rfl, hi, hb, hk⟩; refine ⟨_, rfl, ?_⟩; have HI5 := Aside0.mk hi; have HB5 := Aside0.mk hb; have HK5 := Aside0.mk (KeepBut.trans HK.out hk (.inl rfl)); have hc5 := keep_cell hk hcell (by rw [add_block]; exact HNA.out); obtain ⟨ad5, A5, c5, e5, hcell5, hlen5, hC5⟩ := at_L2 (HR.out _ HK5.out) (i : Int) (by omega) (by have := HLT.out; omega); cases e5; rw [Int.toNat_natCast, show rd_L2 ss (i : Int) = row from HROW.out] at hcell5; rw [show rd_L2 ss (i : Int) = row from HROW.out] at hC5; have he := Option.some.inj (hc5.symm.trans hcell5); injection he with e6 _ _; subst e6; obtain ⟨adj, eA, hxj⟩ := Kd.at_int hC5 (j : Int) (by omega) (by have := HJ.out; omega); cases eA; rw [Int.toNat_natCast] at hxj; have j0 : 0 ≤ (j : Int) := (by omega); have j1 : (j : Int) < (row.length : Int) := (by have := HJ.out; omega); clear hi hb hk hc5 hcell5 hlen5 hC5 hcell)
  go_ret
  exact ⟨by rw [HR1.out]; rfl, HI5.out, HB5.out, HK5.out⟩
def spec_l1Cur_numberIn.f (s0 : List Int) (s1 s2 : Int) (l1 : List (List Int)) : Option (Int × Int × Int) :=
  if l1.length = 0 then spec_l1Cur_pick.f s0 s1 s2 12 else
  (spec_l1Cur_one.f s0 s1 s2 8).bind fun b =>
    if b.1 = true then spec_l1Cur_pick.f s0 b.2.1 b.2.2 12 else
    (spec_l1Cur_pick.f s0 b.2.1 b.2.2 (l1.length : Int)).bind fun i =>
      if 0 ≤ i.1 ∧ i.1 < (l1.length : Int) then
        (if (rd_L2 l1 i.1).length = 0 then (spec_l1Cur_pick.f s0 i.2.1 i.2.2 9).bind fun p => some (wrap64 (1 + p.1), p.2.1, p.2.2)
        else (spec_l1Cur_pick.f s0 i.2.1 i.2.2 ((rd_L2 l1 i.1).length : Int)).bind fun j => if 0 ≤ j.1 ∧ j.1 < ((rd_L2 l1 i.1).length : Int) then some (rd (rd_L2 l1 i.1) j.1, j.2.1, j.2.2) else none)
      else none
theorem spec_l1Cur_numberIn.calls (g : Nat) (s0 : List Int) (s1 s2 : Int) (A : Option Addr) (c : Nat) (ss : List (List Int)) (r1 r2 r3 : Int) (w0 w : World) (hI : IsS112 w0 w g s0 s1 s2) (hB : Below w0.heap.size w0 w)
    (hr : ∀ W', KeepBut w W' g none → Kd.C (Kd.slice 3 (Kd.int .i64)) W' A ss.length ss) (hc : ss.length ≤ c) (h : spec_l1Cur_numberIn.f s0 s1 s2 ss = some (r1, r2, r3)) :
    Calls Try.prog 184 #[.pointer (some ⟨g, 0, none⟩), .agg #[.slice A ss.length c]] w fun e w' => e = .returned (.int .i64 r1) ∧ IsS112 w0 w' g s0 r2 r3 ∧ Below w0.heap.size w0 w' ∧ KeepBut w w' g none := by
  unfold spec_l1Cur_numberIn.f at h
  by_cases h0 : ss.length = 0
  · rw [if_pos h0] at h
    exact number_empty g s0 s1 s2 A c ss r1 r2 r3 w0 w hI hB hr hc h0 h
  rw [if_neg h0] at h
  obtain ⟨⟨b, t1, t2⟩, ho, h⟩ := Option.bind_eq_some_iff.mp h
  dsimp only at h
  cases b with
  | true =>
    rw [if_pos rfl] at h
    exact number_one g s0 s1 s2 A c ss r1 r2 r3 w0 w hI hB hr hc (by omega) t1 t2 ho h
  | false =>
    rw [if_neg (by decide)] at h
    obtain ⟨⟨i, t3, t4⟩, hp, h⟩ := Option.bind_eq_some_iff.mp h
    dsimp only at h
    by_cases hi : 0 ≤ i ∧ i < (ss.length : Int)
    · rw [if_pos hi] at h
      obtain ⟨n, rfl⟩ : ∃ n : Nat, i = n := ⟨i.toNat, by omega⟩
      by_cases hz : (rd_L2 ss (n : Int)).length = 0
      · rw [if_pos hz] at h
        obtain ⟨⟨p, q2, q3⟩, hq, h⟩ := Option.bind_eq_some_iff.mp h
        cases h
        exact number_bare g s0 s1 s2 A c ss _ _ _ w0 w hI hB hr hc (by omega) t1 t2 ho n t3 t4 hp (by omega) _ rfl hz p hq rfl
      · rw [if_neg hz] at h
        obtain ⟨⟨j, q2, q3⟩, hq, h⟩ := Option.bind_eq_some_iff.mp h
        dsimp only at h
        by_cases hj : 0 ≤ j ∧ j < ((rd_L2 ss (n : Int)).length : Int)
        · rw [if_pos hj] at h
          obtain ⟨m, rfl⟩ : ∃ m : Nat, j = m := ⟨j.toNat, by omega⟩
          cases h
          exact number_row g s0 s1 s2 A c ss _ _ _ w0 w hI hB hr hc (by omega) t1 t2 ho n t3 t4 hp (by omega) _ rfl m (by omega) hq rfl
        · rw [if_neg hj] at h
          cases h
    · rw [if_neg hi] at h
      cases h
end Go.Proofs.Ytlldonokjgoajaa.X
