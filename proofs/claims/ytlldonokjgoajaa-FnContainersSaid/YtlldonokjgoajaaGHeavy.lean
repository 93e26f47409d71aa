/- The program's HeaviestFirst, walked: the closure that compares, the library's sort by its contract. -/
import Derived.Test.YtlldonokjgoajaaMHeavyO
import Derived.Test.YtlldonokjgoajaaMContL
import Derived.Test.YtlldonokjgoajaaShelfF
import Derived.Test.YtlldonokjgoajaaFcmpCompareint
import Derived.Test.YtlldonokjgoajaaFcmpComparestring
import Derived.Test.YtlldonokjgoajaaFcmpOrint
import Derived.Test.YtlldonokjgoajaaFimplupTo
import Derived.Test.YtlldonokjgoajaaFbGood
import Derived.Sort.OwnSorted
namespace Go.Proofs.Ytlldonokjgoajaa.X
open Go.RowKit Go.Sort Go.Proofs.YtlldonokjgoajaaW.PrintWords Go.Proofs.YtlldonokjgoajaaW.PrintLast Go.Proofs.YtlldonokjgoajaaW.PrintMore
set_option linter.unusedVariables false
set_option linter.unusedSimpArgs false
theorem lit2_C {W : World} {b : Nat} {x y : Int} (h : W.heap[b]? = some (.cells #[.int .i64 x, .int .i64 y] 3 (0, 0))) : Kd.C (Kd.int .i64) W (some ⟨b, 0, none⟩) ([x, y] : List Int).length [x, y] := by
  refine ⟨rfl, (show (2 : Nat) ≤ 9223372036854775807 by decide), fun _ => ⟨_, rfl, fun j p hj => ⟨[.int .i64 p], rfl, rfl, fun i u hu => ?_⟩⟩⟩
  rcases i with _ | i
  · rcases j with _ | _ | j
    · simp only [List.getElem?_cons_zero, Option.some.injEq] at hj hu
      subst hj
      subst hu
      exact (blk_cell h 0).trans rfl
    · simp only [List.getElem?_cons_succ, List.getElem?_cons_zero, Option.some.injEq] at hj hu
      subst hj
      subst hu
      exact (blk_cell h 1).trans rfl
    · simp at hj
  · simp at hu
theorem cmpI_ends (a b : Int) : cmp_Compare_int.f a b = some (cmpI a b) := by
  unfold cmp_Compare_int.f cmp_isNaN_int.f cmpI
  simp only [bne_self_eq_false, Option.bind_some, Bool.false_eq_true, if_false, ne_eq, not_true, decide_false]
  split
  · rfl
  · split <;> rfl
theorem cmpS_ends (a b : ByteArray) : cmp_Compare_string.f a b = some (cmpS a b) := by
  unfold cmp_Compare_string.f cmp_isNaN_string.f cmpS
  simp only [bne_self_eq_false, Option.bind_some, Bool.false_eq_true, if_false, ne_eq, not_true, decide_false]
  split
  · rfl
  · split <;> rfl
theorem or2_ends (a b : Int) : cmp_Or_int.f 4 [a, b] = some (or2 a b) := by
  have w1 : wrap64 (0 + 1) = 1 := w64 (by decide) (by decide)
  have w2 : wrap64 (1 + 1) = 2 := w64 (by decide) (by decide)
  have r0 : rd [a, b] 0 = a := rfl
  have r1 : rd [a, b] 1 = b := rfl
  unfold cmp_Or_int.f or2
  simp only [cmp_Or_int.l0, List.length_cons, List.length_nil, r0, w1, r1, w2]
  by_cases h : a = 0
  · by_cases h2 : b = 0
    · simp [h, h2]
    · simp [h, h2]
  · simp [h]
theorem grown_form (W : World) (q q3 : Nat) (o : Obj) : ∃ p os', ((W.drewN q).alloc o).drewN q3 = grow (W.drewN p) os' := by
  refine ⟨q + q3, #[o], ?_⟩
  simp only [grow, World.alloc, World.drewN, Nat.add_assoc]
  congr 1
set_option maxHeartbeats 8000000 in
set_option maxRecDepth 100000 in
/-- The closure: two places compared. -/
theorem heavy_cmp (W : World) (b : Nat) (A : Option Addr) (c : Nat) (cs : List S89) (i k : Nat) (hi : i < cs.length) (hk : k < cs.length) (hb : W.cell? ⟨b, 0, none⟩ = some (.slice A cs.length c)) (hr : Kd.C k89 W A cs.length cs) :
    Calls Try.prog 138 #[.int .i64 i, .int .i64 k, .pointer (some ⟨b, 0, none⟩)] W fun e w' => e = .returned (.int .i64 (cfC (cs.getD i z89) (cs.getD k z89))) ∧ ∃ p os', w' = grow (W.drewN p) os' := by
  obtain ⟨ad, rfl, hi0, _, hi2, _, _⟩ := at_T89 hr (i : Int) (by omega) (by omega)
  obtain ⟨ad', ea, hk0, _, hk2, _, _⟩ := at_T89 hr (k : Int) (by omega) (by omega)
  cases ea
  rw [Int.toNat_natCast, rdC61_nat] at hi0 hi2 hk0 hk2
  generalize cs.getD i z89 = yi at hi0 hi2 ⊢
  generalize cs.getD k z89 = yk at hk0 hk2 ⊢
  have HI := Aside0.mk (cmpI_ends yk.f2 yi.f2)
  have HS := Aside0.mk (cmpS_ends yi.f0 yk.f0)
  have HOr := Aside0.mk (or2_ends (cmpI yk.f2 yi.f2) (cmpS yi.f0 yk.f0))
  have p1 : (0 ≤ (i : Int)) = True := eq_true (by omega)
  have p2 : ((i : Int) < (cs.length : Int)) = True := eq_true (by omega)
  have p3 : (0 ≤ (k : Int)) = True := eq_true (by omega)
  have p4 : ((k : Int) < (cs.length : Int)) = True := eq_true (by omega)
  clear hi hk hr
  show Calls _ _ _ _ fun e w' => e = .returned (.int .i64 (or2 (cmpI yk.f2 yi.f2) (cmpS yi.f0 yk.f0))) ∧ ∃ p os', w' = grow (W.drewN p) os'
  go_enter Try.func138, Try.ntmps138
  go_upto_region 1 with (fail)
  refine start_ (n := 25) (S := fun w' => w'.cell? ⟨b, 0, none⟩ = some (.slice (some ad) cs.length c) ∧ w'.cell? ⟨(ad.add (k * 5)).block, (ad.add (k * 5)).off + 2, none⟩ = some (.int .i64 yk.f2) ∧ w'.cell? ⟨(ad.add (i * 5)).block, (ad.add (i * 5)).off + 2, none⟩ = some (.int .i64 yi.f2) ∧ w'.cell? (ad.add (i * 5)) = some (.string yi.f0) ∧ w'.cell? (ad.add (k * 5)) = some (.string yk.f0)) (ds := []) #[false, false, false, false, false, false, false, false, false, false, false, false, false, false, false, false, false, false, false, false, false, false, false, false, false] (by kernel_rfl) rfl rfl ⟨hb, hk2, hi2, hi0, hk0⟩ (fun hHeld => ?_)
  refine take_ (i := 0) (N := some 6) (v := ?_) (a' := ?_) #[true, false, false, false, false, false, false, false, false, false, false, false, false, false, false, false, false, false, false, false, false, false, false, false, false] rfl rfl (by kernel_rfl) (fun _ _ _ h => h) (Or.inl ⟨by rfl, ?_⟩) hHeld ?_ ?_
  rotate_left
  · rintro w' ⟨s0, s1, s2, s3, s4⟩
    go_simp
    with_reducible rfl
  rotate_left
  · simp only [Act.put, List.setIfInBounds_toArray, List.set_cons_zero, List.set_cons_succ, i64_w, i32_w]
    rfl
  refine pure_ (i := 1) (N := some 7) (v := ?_) (a' := ?_) #[true, true, false, false, false, false, false, false, false, false, false, false, false, false, false, false, false, false, false, false, false, false, false, false, false] rfl rfl (by kernel_rfl) (fun _ _ _ h => h) (Or.inl ⟨by rfl, ?_⟩) ?_ ?_
  rotate_left
  · intro w'
    go_simp
    with_reducible rfl
  rotate_left
  · simp only [Act.put, List.setIfInBounds_toArray, List.set_cons_zero, List.set_cons_succ, i64_w, i32_w]
    rfl
  refine pure_ (i := 2) (N := some 8) (v := ?_) (a' := ?_) #[true, true, true, false, false, false, false, false, false, false, false, false, false, false, false, false, false, false, false, false, false, false, false, false, false] rfl rfl (by kernel_rfl) (fun _ _ _ h => h) (Or.inl ⟨by rfl, ?_⟩) ?_ ?_
  rotate_left
  · intro w'
    go_simp
    with_reducible rfl
  rotate_left
  · simp only [Act.put, List.setIfInBounds_toArray, List.set_cons_zero, List.set_cons_succ, i64_w, i32_w]
    rfl
  refine pure_ (i := 3) (N := some 9) (v := ?_) (a' := ?_) #[true, true, true, true, false, false, false, false, false, false, false, false, false, false, false, false, false, false, false, false, false, false, false, false, false] rfl rfl (by kernel_rfl) (fun _ _ _ h => h) (Or.inl ⟨by rfl, ?_⟩) ?_ ?_
  rotate_left
  · intro w'
    go_simp
    with_reducible rfl
  rotate_left
  · simp only [Act.put, List.setIfInBounds_toArray, List.set_cons_zero, List.set_cons_succ, i64_w, i32_w]
    rfl
  refine take_ (i := 4) (N := some 10) (v := ?_) (a' := ?_) #[true, true, true, true, true, false, false, false, false, false, false, false, false, false, false, false, false, false, false, false, false, false, false, false, false] rfl rfl (by kernel_rfl) (fun _ _ _ h => h) (Or.inl ⟨by rfl, ?_⟩) hHeld ?_ ?_
  rotate_left
  · rintro w' ⟨s0, s1, s2, s3, s4⟩
    go_simp
    with_reducible rfl
  rotate_left
  · simp only [Act.put, List.setIfInBounds_toArray, List.set_cons_zero, List.set_cons_succ, i64_w, i32_w]
    rfl
  refine take_ (i := 5) (N := some 11) (v := ?_) (a' := ?_) #[true, true, true, true, true, true, false, false, false, false, false, false, false, false, false, false, false, false, false, false, false, false, false, false, false] rfl rfl (by kernel_rfl) (fun _ _ _ h => h) (Or.inl ⟨by rfl, ?_⟩) hHeld ?_ ?_
  rotate_left
  · rintro w' ⟨s0, s1, s2, s3, s4⟩
    go_simp
    with_reducible rfl
  rotate_left
  · simp only [Act.put, List.setIfInBounds_toArray, List.set_cons_zero, List.set_cons_succ, i64_w, i32_w]
    rfl
  refine pure_ (i := 6) (N := some 12) (v := ?_) (a' := ?_) #[true, true, true, true, true, true, true, false, false, false, false, false, false, false, false, false, false, false, false, false, false, false, false, false, false] rfl rfl (by kernel_rfl) (fun _ _ _ h => h) (Or.inl ⟨by rfl, ?_⟩) ?_ ?_
  rotate_left
  · intro w'
    go_simp
    with_reducible rfl
  rotate_left
  · simp only [Act.put, List.setIfInBounds_toArray, List.set_cons_zero, List.set_cons_succ, i64_w, i32_w]
    rfl
  refine pure_ (i := 7) (N := some 13) (v := ?_) (a' := ?_) #[true, true, true, true, true, true, true, true, false, false, false, false, false, false, false, false, false, false, false, false, false, false, false, false, false] rfl rfl (by kernel_rfl) (fun _ _ _ h => h) (Or.inl ⟨by rfl, ?_⟩) ?_ ?_
  rotate_left
  · intro w'
    go_simp
    with_reducible rfl
  rotate_left
  · simp only [Act.put, List.setIfInBounds_toArray, List.set_cons_zero, List.set_cons_succ, i64_w, i32_w]
    rfl
  refine pure_ (i := 8) (N := some 14) (v := ?_) (a' := ?_) #[true, true, true, true, true, true, true, true, true, false, false, false, false, false, false, false, false, false, false, false, false, false, false, false, false] rfl rfl (by kernel_rfl) (fun _ _ _ h => h) (Or.inl ⟨by rfl, ?_⟩) ?_ ?_
  rotate_left
  · intro w'
    go_simp
    with_reducible rfl
  rotate_left
  · simp only [Act.put, List.setIfInBounds_toArray, List.set_cons_zero, List.set_cons_succ, i64_w, i32_w]
    rfl
  refine take_ (i := 9) (N := some 15) (v := ?_) (a' := ?_) #[true, true, true, true, true, true, true, true, true, true, false, false, false, false, false, false, false, false, false, false, false, false, false, false, false] rfl rfl (by kernel_rfl) (fun _ _ _ h => h) (Or.inl ⟨by rfl, ?_⟩) hHeld ?_ ?_
  rotate_left
  · rintro w' ⟨s0, s1, s2, s3, s4⟩
    go_simp
    with_reducible rfl
  rotate_left
  · simp only [Act.put, List.setIfInBounds_toArray, List.set_cons_zero, List.set_cons_succ, i64_w, i32_w]
    rfl
  refine take_ (i := 11) (N := some 17) (v := ?_) (a' := ?_) #[true, true, true, true, true, true, true, true, true, true, false, true, false, false, false, false, false, false, false, false, false, false, false, false, false] rfl rfl (by kernel_rfl) (fun _ _ _ h => h) (Or.inl ⟨by rfl, ?_⟩) hHeld ?_ ?_
  rotate_left
  · rintro w' ⟨s0, s1, s2, s3, s4⟩
    go_simp
    with_reducible rfl
  rotate_left
  · simp only [Act.put, List.setIfInBounds_toArray, List.set_cons_zero, List.set_cons_succ, i64_w, i32_w]
    rfl
  refine pure_ (i := 12) (N := some 18) (v := ?_) (a' := ?_) #[true, true, true, true, true, true, true, true, true, true, false, true, true, false, false, false, false, false, false, false, false, false, false, false, false] rfl rfl (by kernel_rfl) (fun _ _ _ h => h) (Or.inl ⟨by rfl, ?_⟩) ?_ ?_
  rotate_left
  · intro w'
    go_simp
    with_reducible rfl
  rotate_left
  · simp only [Act.put, List.setIfInBounds_toArray, List.set_cons_zero, List.set_cons_succ, i64_w, i32_w]
    rfl
  refine pure_ (i := 13) (N := some 19) (v := ?_) (a' := ?_) #[true, true, true, true, true, true, true, true, true, true, false, true, true, true, false, false, false, false, false, false, false, false, false, false, false] rfl rfl (by kernel_rfl) (fun _ _ _ h => h) (Or.inl ⟨by rfl, ?_⟩) ?_ ?_
  rotate_left
  · intro w'
    go_simp
    with_reducible rfl
  rotate_left
  · simp only [Act.put, List.setIfInBounds_toArray, List.set_cons_zero, List.set_cons_succ, i64_w, i32_w]
    rfl
  refine pure_ (i := 14) (N := some 20) (v := ?_) (a' := ?_) #[true, true, true, true, true, true, true, true, true, true, false, true, true, true, true, false, false, false, false, false, false, false, false, false, false] rfl rfl (by kernel_rfl) (fun _ _ _ h => h) (Or.inl ⟨by rfl, ?_⟩) ?_ ?_
  rotate_left
  · intro w'
    go_simp
    with_reducible rfl
  rotate_left
  · simp only [Act.put, List.setIfInBounds_toArray, List.set_cons_zero, List.set_cons_succ, i64_w, i32_w]
    rfl
  refine take_ (i := 15) (N := some 21) (v := ?_) (a' := ?_) #[true, true, true, true, true, true, true, true, true, true, false, true, true, true, true, true, false, false, false, false, false, false, false, false, false] rfl rfl (by kernel_rfl) (fun _ _ _ h => h) (Or.inl ⟨by rfl, ?_⟩) hHeld ?_ ?_
  rotate_left
  · rintro w' ⟨s0, s1, s2, s3, s4⟩
    go_simp
    with_reducible rfl
  rotate_left
  · simp only [Act.put, List.setIfInBounds_toArray, List.set_cons_zero, List.set_cons_succ, i64_w, i32_w]
    rfl
  refine take_ (i := 16) (N := some 22) (v := ?_) (a' := ?_) #[true, true, true, true, true, true, true, true, true, true, false, true, true, true, true, true, true, false, false, false, false, false, false, false, false] rfl rfl (by kernel_rfl) (fun _ _ _ h => h) (Or.inl ⟨by rfl, ?_⟩) hHeld ?_ ?_
  rotate_left
  · rintro w' ⟨s0, s1, s2, s3, s4⟩
    go_simp
    with_reducible rfl
  rotate_left
  · simp only [Act.put, List.setIfInBounds_toArray, List.set_cons_zero, List.set_cons_succ, i64_w, i32_w]
    rfl
  refine pure_ (i := 17) (N := some 23) (v := ?_) (a' := ?_) #[true, true, true, true, true, true, true, true, true, true, false, true, true, true, true, true, true, true, false, false, false, false, false, false, false] rfl rfl (by kernel_rfl) (fun _ _ _ h => h) (Or.inl ⟨by rfl, ?_⟩) ?_ ?_
  rotate_left
  · intro w'
    go_simp
    with_reducible rfl
  rotate_left
  · simp only [Act.put, List.setIfInBounds_toArray, List.set_cons_zero, List.set_cons_succ, i64_w, i32_w]
    rfl
  refine pure_ (i := 18) (N := some 24) (v := ?_) (a' := ?_) #[true, true, true, true, true, true, true, true, true, true, false, true, true, true, true, true, true, true, true, false, false, false, false, false, false] rfl rfl (by kernel_rfl) (fun _ _ _ h => h) (Or.inl ⟨by rfl, ?_⟩) ?_ ?_
  rotate_left
  · intro w'
    go_simp
    with_reducible rfl
  rotate_left
  · simp only [Act.put, List.setIfInBounds_toArray, List.set_cons_zero, List.set_cons_succ, i64_w, i32_w]
    rfl
  refine pure_ (i := 19) (N := some 25) (v := ?_) (a' := ?_) #[true, true, true, true, true, true, true, true, true, true, false, true, true, true, true, true, true, true, true, true, false, false, false, false, false] rfl rfl (by kernel_rfl) (fun _ _ _ h => h) (Or.inl ⟨by rfl, ?_⟩) ?_ ?_
  rotate_left
  · intro w'
    go_simp
    with_reducible rfl
  rotate_left
  · simp only [Act.put, List.setIfInBounds_toArray, List.set_cons_zero, List.set_cons_succ, i64_w, i32_w]
    rfl
  refine take_ (i := 20) (N := some 26) (v := ?_) (a' := ?_) #[true, true, true, true, true, true, true, true, true, true, false, true, true, true, true, true, true, true, true, true, true, false, false, false, false] rfl rfl (by kernel_rfl) (fun _ _ _ h => h) (Or.inl ⟨by rfl, ?_⟩) hHeld ?_ ?_
  rotate_left
  · rintro w' ⟨s0, s1, s2, s3, s4⟩
    go_simp
    with_reducible rfl
  rotate_left
  · simp only [Act.put, List.setIfInBounds_toArray, List.set_cons_zero, List.set_cons_succ, i64_w, i32_w]
    rfl
  refine one_ (i := 10) (N := some 16) #[true, true, true, true, true, true, true, true, true, true, true, true, true, true, true, true, true, true, true, true, true, false, false, false, false] rfl rfl (by kernel_rfl) (by decide) (fun K hK => ?_)
  refine goes_ Try.func140 (by kernel_rfl) rfl #[.int .i64 yk.f2, .int .i64 yi.f2] (by rfl) rfl rfl (by (try simp only [List.map_toArray, List.map_cons, List.map_nil]); first | done | rfl) ?_
  with_reducible refine (cmp_Compare_int.calls yk.f2 yi.f2 _ _ HI.out).mono ?_
  rintro e w1 ⟨rfl, ⟨⟨q1, rfl⟩⟩⟩
  refine ⟨_, rfl, ?_⟩
  refine hK.out _ _ ⟨hHeld.1, hHeld.2.1, hHeld.2.2.1, hHeld.2.2.2.1, hHeld.2.2.2.2⟩ (fun hHeld => ?_)
  clear hK K
  refine norm_ (a' := ?_) ?_ ?_
  rotate_left
  · show Act.put _ (some 16) _ = _
    simp only [Act.put, List.setIfInBounds_toArray, List.set_cons_zero, List.set_cons_succ, i64_w, i32_w]
    rfl
  refine one_ (i := 21) (N := some 27) #[true, true, true, true, true, true, true, true, true, true, true, true, true, true, true, true, true, true, true, true, true, true, false, false, false] rfl rfl (by kernel_rfl) (by decide) (fun K hK => ?_)
  refine goes_ Try.func141 (by kernel_rfl) rfl #[.string yi.f0, .string yk.f0] (by rfl) rfl rfl (by (try simp only [List.map_toArray, List.map_cons, List.map_nil]); first | done | rfl) ?_
  with_reducible refine (cmp_Compare_string.calls yi.f0 yk.f0 _ _ HS.out).mono ?_
  rintro e w1 ⟨rfl, ⟨⟨q2, rfl⟩⟩⟩
  refine ⟨_, rfl, ?_⟩
  refine hK.out _ _ ⟨hHeld.1, hHeld.2.1, hHeld.2.2.1, hHeld.2.2.2.1, hHeld.2.2.2.2⟩ (fun hHeld => ?_)
  clear hK K
  refine norm_ (a' := ?_) ?_ ?_
  rotate_left
  · show Act.put _ (some 27) _ = _
    simp only [Act.put, List.setIfInBounds_toArray, List.set_cons_zero, List.set_cons_succ, i64_w, i32_w]
    rfl
  have e_ : ((W.drew).drewN q1).drewN q2 = W.drewN (1 + q1 + q2) := by simp
  rw [e_] at hHeld ⊢
  generalize 1 + q1 + q2 = q at hHeld ⊢
  clear e_
  refine one_ (i := 22) (N := some 28) #[true, true, true, true, true, true, true, true, true, true, true, true, true, true, true, true, true, true, true, true, true, true, true, false, false] rfl rfl (by kernel_rfl) (by decide) (fun K hK => ?_)
  refine value_ (w1 := ?_) (v := ?_) (by rfl) rfl ?_ ?_
  rotate_left 2
  · go_simp
    constructor
    · rfl
    · rfl
  have hlt := fun (a : Addr) (u : Value) (h : (W.drewN q).cell? a = some u) => (World.cell?_alloc_lt _ (Obj.cells #[Value.int .i64 (cmpI yk.f2 yi.f2), Value.int .i64 (cmpS yi.f0 yk.f0)] 3) _ (World.block_lt_of_cell? _ _ h)).trans h
  have hlit := lit2_C (show ((W.drewN q).alloc (Obj.cells #[Value.int .i64 (cmpI yk.f2 yi.f2), Value.int .i64 (cmpS yi.f0 yk.f0)] 3)).heap[W.heap.size]? = some (.cells #[.int .i64 (cmpI yk.f2 yi.f2), .int .i64 (cmpS yi.f0 yk.f0)] 3 (0, 0)) from blk_new (W.drewN q) _)
  refine hK.out _ _ ⟨hlt _ _ hHeld.1, hlt _ _ hHeld.2.1, hlt _ _ hHeld.2.2.1, hlt _ _ hHeld.2.2.2.1, hlt _ _ hHeld.2.2.2.2⟩ (fun hHeld => ?_)
  clear hK K
  refine norm_ (a' := ?_) ?_ ?_
  rotate_left
  · show Act.put _ (some 28) _ = _
    simp only [Act.put, List.setIfInBounds_toArray, List.set_cons_zero, List.set_cons_succ, i64_w, i32_w]
    rfl
  refine one_ (i := 23) (N := some 29) #[true, true, true, true, true, true, true, true, true, true, true, true, true, true, true, true, true, true, true, true, true, true, true, true, false] rfl rfl (by kernel_rfl) (by decide) (fun K hK => ?_)
  refine goes_ Try.func139 (by kernel_rfl) rfl #[.slice (some ⟨W.heap.size, 0, none⟩) 2 2] (by rfl) rfl rfl (by (try simp only [List.map_toArray, List.map_cons, List.map_nil]); first | done | rfl) ?_
  refine (cmp_Or_int.calls 4 (some ⟨W.heap.size, 0, none⟩) 2 [cmpI yk.f2 yi.f2, cmpS yi.f0 yk.f0] _ _ hlit (Nat.le_refl _) HOr.out).mono ?_
  rintro e w1 ⟨rfl, ⟨⟨q3, rfl⟩⟩⟩
  refine ⟨_, rfl, ?_⟩
  refine hK.out _ _ ⟨hHeld.1, hHeld.2.1, hHeld.2.2.1, hHeld.2.2.2.1, hHeld.2.2.2.2⟩ (fun hHeld => ?_)
  clear hK K
  refine norm_ (a' := ?_) ?_ ?_
  rotate_left
  · show Act.put _ (some 29) _ = _
    simp only [Act.put, List.setIfInBounds_toArray, List.set_cons_zero, List.set_cons_succ, i64_w, i32_w]
    rfl
  refine pure_ (i := 24) (N := some 5) (v := ?_) (a' := ?_) #[true, true, true, true, true, true, true, true, true, true, true, true, true, true, true, true, true, true, true, true, true, true, true, true, true] rfl rfl (by kernel_rfl) (fun _ _ _ h => h) (Or.inl ⟨by rfl, ?_⟩) ?_ ?_
  rotate_left
  · intro w'
    go_simp
    with_reducible rfl
  rotate_left
  · simp only [Act.put, List.setIfInBounds_toArray, List.set_cons_zero, List.set_cons_succ, i64_w, i32_w]
    rfl
  refine done_ (by kernel_rfl) ?_
  go_wp2
  go_ret
  exact ⟨rfl, grown_form W q q3 _⟩

section
variable {α : Type} [Inhabited α] {enc : α → Value}
theorem holdsG {w : World} {g : Nat} {cur : Array Value} {e : TypeId} {ss : List α} (hb : w.heap[g]? = some (.cells cur e (0, 0))) (ht : cur.toList.take ss.length = ss.map enc) : Holds enc w g 0 ss.toArray := by
  intro j hj
  have hj' : j < ss.length := by simpa using hj
  refine ⟨?_, by simp [World.frozen?, hb]⟩
  have h1 : (cur.toList.take ss.length)[j]? = (ss.map enc)[j]? := by rw [ht]
  rw [List.getElem?_take_of_lt hj'] at h1
  simp only [World.cell?, hb, Nat.zero_add]
  simp only [Option.isSome_none, Bool.false_eq_true, if_false]
  rw [← Array.getElem?_toList, h1]
  simp [hj']
theorem heap_sortedG {w : World} {g n : Nat} {os : Array Obj} {cur : Array Value} {e : TypeId} {fr : Nat × Nat} (d : Array α) (hb : w.heap[g]? = some (.cells cur e fr)) :
    (grow (putRow enc (Sort.ahead w n) g 0 d) os).heap[g]? = some (.cells (putCells enc 0 d cur) e fr) := by
  have hg : g < w.heap.size := (Array.getElem?_eq_some_iff.1 hb).1
  rw [heap_grow_old _ _ (by simpa using hg)]
  simp [putRow, mapBlock, Sort.ahead, Array.getElem?_modify, hb, onCells]
theorem grownByG {w : World} {g n : Nat} {os : Array Obj} (d : Array α) : w.grownBy (grow (putRow enc (Sort.ahead w n) g 0 d) os) (some g) := by
  refine ⟨rfl, rfl, rfl, by simp, fun k hk hne => ?_⟩
  rw [heap_grow_old _ _ (by simpa using hk)]
  have : g ≠ k := fun e => hne (by rw [e])
  simp [putRow, mapBlock, Sort.ahead, Array.getElem?_modify, this]
theorem take_putG (cur : Array Value) (ts : List α) (h : ts.length ≤ cur.size) : (putCells enc 0 ts.toArray cur).toList.take ts.length = ts.map enc := by
  apply List.ext_getElem?
  intro j
  by_cases hj : j < ts.length
  · rw [List.getElem?_take_of_lt hj, Array.getElem?_toList]
    simp [putCells, hj, show j < cur.size by omega]
  · rw [List.getElem?_take_eq_none (by omega), List.getElem?_eq_none (by simp; omega)]
theorem ownsRowG {w : World} {base g cap n len : Nat} {e : TypeId} {os : Array Obj} {cur : Array Value} {ts : List α} (hl : ts.length = len) (hbase : base ≤ g) (hb : w.heap[g]? = some (.cells cur e (0, 0)))
    (h1 : len ≤ cap) (h2 : cap ≤ maxLen) (h3 : cur.size = cap * 1) :
    (grow (putRow enc (Sort.ahead w n) g 0 ts.toArray) os).ownsRow base e 1 (.slice (some ⟨g, 0, none⟩) len cap) len (ts.map enc) :=
  ⟨by simp [hl], .inr ⟨g, cap, _, rfl, hbase, heap_sortedG _ hb, h1, h2, by simp [putCells, h3], by rw [Nat.mul_one, ← hl]; exact take_putG cur ts (by omega)⟩⟩
end
theorem cell_grownH {W w1 : World} {row : Option Nat} (hg : W.grownBy w1 row) {a : Addr} {v : Value} (h : W.cell? a = some v) (hne : some a.block ≠ row) : w1.cell? a = some v := by
  have hlt := World.block_lt_of_cell? W _ h
  have e := hg.block a.block hlt hne
  unfold World.cell? at h ⊢
  rw [e]
  exact h
theorem cell_belowH {w w' : World} {a : Addr} {u : Value} (h : w.cell? a = some u) (hb : Below w.heap.size w w') : w'.cell? a = some u := (hb.cell (World.block_lt_of_cell? w _ h)).trans h
def encF (n : Nat) (x : Fin n) : Value := .int .i64 ((x.val : Nat) : Int)
theorem nums_get (d : Nat) : ∀ (i j : Nat), j < d → (nums i d)[j]? = some (((i + j : Nat)) : Int) := by
  induction d with
  | zero => intro i j h; omega
  | succ d ih =>
    intro i j h
    cases j with
    | zero => simp [nums]
    | succ j =>
      rw [nums, List.getElem?_cons_succ, ih (i + 1) j (by omega), show i + 1 + j = i + (j + 1) by omega]
theorem nums_fin (n : Nat) : nums 0 n = (List.finRange n).map fun x => ((x.val : Nat) : Int) := by
  apply List.ext_getElem?
  intro j
  by_cases h : j < n
  · rw [nums_get n 0 j h, List.getElem?_map, List.getElem?_eq_getElem (by simpa using h)]
    simp
  · rw [List.getElem?_eq_none (by rw [nums_length]; omega), List.getElem?_eq_none (by simp; omega)]
theorem upTo_loop (n : Nat) (hn : n ≤ 1000) (d : Nat) : ∀ (k i : Nat) (t : List Int), i + d = n → d < k → t.length = i → impl_upTo.l0 k t (n : Int) (i : Int) = some (t ++ nums i d) := by
  induction d with
  | zero =>
    intro k i t hi hk ht
    obtain ⟨k, rfl⟩ := kpos hk
    simp only [impl_upTo.l0]
    rw [if_neg (by omega), nums, List.append_nil]
  | succ d ih =>
    intro k i t hi hk ht
    obtain ⟨k, rfl⟩ := kpos hk
    simp only [impl_upTo.l0]
    rw [if_pos (by omega), if_pos (by omega), wnext (show i < n by omega) (by omega), ih k (i + 1) _ (by omega) (by omega) (by simp [ht]), nums, List.append_assoc]
    rfl
theorem upTo_ends (n : Nat) (hn : n ≤ 1000) (k : Nat) (hk : 1001 ≤ k) : impl_upTo.f k (n : Int) = some (nums 0 n) := by
  unfold impl_upTo.f
  have := upTo_loop n hn n k 0 [] (by omega) (by omega) rfl
  rw [show ((0 : Nat) : Int) = 0 from rfl, List.nil_append] at this
  exact this
theorem getD_fin (cs : List S89) (x : Fin cs.length) : cs.getD x.val z89 = cs.get x := by
  rw [List.getD_eq_getElem?_getD, List.getElem?_eq_getElem x.isLt]
  rfl
theorem heavy_lays (w0 w : World) (b blk : Nat) (A : Option Addr) (c : Nat) (cs : List S89) (n : Nat) [Inhabited (Fin cs.length)] (hB : Below w0.heap.size w0 w) (hr : Kd.C k89 w0 A cs.length cs) (hblk : w0.heap.size ≤ blk) (hne : b ≠ blk) (hb : w.cell? ⟨b, 0, none⟩ = some (.slice A cs.length c)) :
    CmpLays1 Try.prog 138 #[.pointer (some ⟨b, 0, none⟩)] (encF cs.length) (cfH cs) blk 0 n w := by
  intro m os dk hs x y
  have hgr : w.grownBy (sortWorld (encF cs.length) w blk 0 m dk os) (some blk) := grownByG dk
  have hb' := cell_grownH hgr hb (fun e => hne (Option.some.inj e))
  have hr' := Kd.C_below hr (hB.grown hgr hB.size (fun k hk => by cases hk; exact hblk))
  have h := heavy_cmp (sortWorld (encF cs.length) w blk 0 m dk os) b A c cs x.val y.val x.isLt y.isLt hb' hr'
  rw [getD_fin, getD_fin] at h
  exact h

set_option maxHeartbeats 8000000 in
set_option maxRecDepth 100000 in
theorem heavy_bad (k : Nat) (A0 : Option Addr) (c0 : Nat) (l0 : List S89) (w : World) (hr0 : Kd.C k89 w A0 l0.length l0) (hc0 : l0.length ≤ c0) (hv : impl_IsValidContainers.f k l0 = some false) :
    Calls Try.prog 65 #[.slice A0 l0.length c0] w fun e w' => ∃ v0_ : Value, e = .returned (.tuple #[v0_, .bool false]) ∧ Kd.R (Kd.int .i64) 3 w' w.heap.size (fun _ => True) v0_ [] ∧ Below w.heap.size w w' := by
  have HR0 := Aside0.mk hr0
  have HC0 := Aside0.mk hc0
  have HV := Aside0.mk hv
  clear hr0 hc0 hv
  go_enter Try.func65, Try.ntmps65
  go_upto_region 1 with (fail)
  generalize hwa : w.alloc (Obj.cells #[Value.slice A0 l0.length c0] 74) = wa
  have hba : Below w.heap.size w wa := by rw [← hwa]; exact below_alloc (Below.refl _ _) _
  have hx1 : wa.cell? ⟨w.heap.size, 0, none⟩ = some (.slice A0 l0.length c0) := by rw [← hwa]; exact (blk_cell (blk_new _ _) 0).trans rfl
  have HBA := Aside0.mk hba
  clear hwa hba
  go_wp2_with (go_at_call 72; refine (impl_IsValidContainers.calls k A0 c0 l0 false _ (Kd.C_below HR0.out HBA.out) HC0.out HV.out).mono ?_; rintro e w1 ⟨rfl, hb⟩; have HB1 := Aside0.mk (below_then HBA.out HBA.out.size hb); clear hb hx1)
  go_ret2
  exact ⟨_, rfl, Kd.R_nil _ _ _ _ _, HB1.out⟩
set_option maxHeartbeats 8000000 in
set_option maxRecDepth 100000 in
theorem heavy_walk (k : Nat) (A0 : Option Addr) (c0 : Nat) (l0 : List S89) (w : World) (hr0 : Kd.C k89 w A0 l0.length l0) (hc0 : l0.length ≤ c0) (hv : impl_IsValidContainers.f k l0 = some true) (hd : Dist l0) (hln : l0.length ≤ 1000) :
    Calls Try.prog 65 #[.slice A0 l0.length c0] w fun e w' => ∃ v0_ : Value, e = .returned (.tuple #[v0_, .bool true]) ∧ Kd.R (Kd.int .i64) 3 w' w.heap.size (fun _ => True) v0_ (heavyL l0) ∧ Below w.heap.size w w' := by
  have HR0 := Aside0.mk hr0
  have HC0 := Aside0.mk hc0
  have HV := Aside0.mk hv
  have HD := Aside0.mk hd
  have HLN := Aside0.mk hln
  have HU := Aside0.mk (upTo_ends l0.length hln 1001 (by omega))
  clear hr0 hc0 hv hd hln
  go_enter Try.func65, Try.ntmps65
  go_upto_region 1 with (fail)
  generalize hwa : w.alloc (Obj.cells #[Value.slice A0 l0.length c0] 74) = wa
  have hba : Below w.heap.size w wa := by rw [← hwa]; exact below_alloc (Below.refl _ _) _
  have hk1 : wa.heap[w.heap.size]? = some (.cells #[.slice A0 l0.length c0] 74 (0, 0)) := by rw [← hwa]; exact blk_new _ _
  have hx1 : wa.cell? ⟨w.heap.size, 0, none⟩ = some (.slice A0 l0.length c0) := (blk_cell hk1 0).trans rfl
  have HBA := Aside0.mk hba
  have BK := Aside0.mk hk1
  clear hwa hba hk1
  go_upto_region 3 with (go_at_call 72; refine (impl_IsValidContainers.calls k A0 c0 l0 true _ (Kd.C_below HR0.out HBA.out) HC0.out HV.out).mono ?_; rintro e w1 ⟨rfl, hb⟩; replace hx1 := cell_belowH hx1 hb; have BK1 := Aside0.mk (blk_below BK.out hb); have HB1 := Aside0.mk (below_then HBA.out HBA.out.size hb); clear hb)
  clear BK HBA
  go_upto_region 4 with (go_at_call 136; refine (impl_upTo.calls 1001 (l0.length : Int) (nums 0 l0.length) _ HU.out).mono ?_; rintro e w2 ⟨v2, rfl, hs, hb⟩; replace hx1 := cell_belowH hx1 hb; have BK2 := Aside0.mk (blk_below BK1.out hb); have HB2 := Aside0.mk (below_then HB1.out HB1.out.size hb); have HS2 := Aside0.mk (Kd.R_lower hs HB1.out.size); clear hs hb)
  clear BK1 HB1
  by_cases h0 : l0.length = 0
  · have hl : heavyL l0 = [] := List.eq_nil_of_length_eq_zero (by rw [heavyL_length]; exact h0)
    have hn : nums 0 l0.length = [] := by rw [h0]; rfl
    have HL := Aside0.mk hl
    obtain ⟨A2, c2, rfl⟩ := Kd.R_slice HS2.out
    have hz : (nums 0 l0.length).length = 0 := by rw [hn]; rfl
    have HSN := Aside0.mk (show Kd.R (Kd.int .i64) 3 w2 w.heap.size (fun _ => True) (.slice A2 0 c2) ([] : List Int) from by have h := HS2.out; rw [hn] at h; exact h)
    rw [hz]
    clear HS2 hl hn hz h0
    go_upto_region 5 with (go_at_call 137; refine (Try.sortFn_none A2 c2 _ w2).mono ?_; rintro e w3 ⟨rfl, rfl⟩)
    go_wp2
    go_ret2
    exact ⟨_, rfl, by rw [HL.out]; exact HSN.out, HB2.out⟩
  · haveI : Inhabited (Fin l0.length) := ⟨⟨0, by omega⟩⟩
    have hown : w2.ownsRow w.heap.size 3 1 v2 (nums 0 l0.length).length (encs (Value.int .i64) (nums 0 l0.length)) := Kd.own_of_R HS2.out
    rw [nums_length] at hown
    rcases hown.2 with ⟨_, hz⟩ | ⟨g, cap, cur, rfl, hbase, hb, h1, h2, h3, h4⟩
    · exact absurd hz h0
    rw [Nat.mul_one] at h4
    have he : encs (Value.int .i64) (nums 0 l0.length) = (List.finRange l0.length).map (encF l0.length) := by
      rw [nums_fin]
      simp [encs, encF]
    rw [he] at h4
    have hH : Holds (encF l0.length) w2 g 0 (List.finRange l0.length).toArray := holdsG hb (by rw [List.length_finRange]; exact h4)
    have hgl : g < w2.heap.size := (Array.getElem?_eq_some_iff.1 hb).1
    have hne : w.heap.size ≠ g := fun e => by
      have h := BK2.out
      rw [e, hb] at h
      simp at h
    have eg : ∀ args w, (callFunc 138 args).run Try.prog w = .ok (.enter 138 args) w := enters_of Try.func138 (by kernel_rfl) rfl
    have hc := Try.sortFn_total (encF l0.length) (fun _ => rfl) (cfH l0) (swoH l0) 138 #[.pointer (some ⟨w.heap.size, 0, none⟩)] g 0 cap (List.finRange l0.length).toArray w2 eg (heavy_lays w w2 w.heap.size g A0 c0 l0 _ HB2.out HR0.out hbase hne hx1) hH hgl (by have := HLN.out; simp; omega) (totH HD.out)
    rw [show (List.finRange l0.length).toArray.size = l0.length by simp] at hc
    have HCC := Aside0.mk hc
    have HBL := Aside0.mk hb
    have HBS := Aside0.mk hbase
    have H1 := Aside0.mk h1
    have H2 := Aside0.mk h2
    have H3 := Aside0.mk h3
    clear hc hb hbase h1 h2 h3 h4 he hH hgl hne eg hown HS2 h0
    go_upto_region 5 with (go_at_call 137; refine HCC.out.mono ?_; rintro e w3 ⟨rfl, n3, os3, rfl⟩)
    have hrow := ownsRowG (enc := encF l0.length) (n := n3) (os := os3) (ts := heavyF l0) (by simp [heavyF]) HBS.out HBL.out H1.out H2.out H3.out
    have hgr := grownByG (enc := encF l0.length) (w := w2) (g := g) (n := n3) (os := os3) (heavyF l0).toArray
    have HROW := Aside0.mk hrow
    have HGR := Aside0.mk hgr
    have e5 : sortWorld (encF l0.length) w2 g 0 n3 (((List.finRange l0.length).toArray.toList.mergeSort fun x y => !(ltOf (cfH l0)) y x).toArray) os3 = grow (putRow (encF l0.length) (Sort.ahead w2 n3) g 0 (heavyF l0).toArray) os3 := rfl
    rw [e5]
    clear hrow hgr e5 HCC hx1
    generalize grow (putRow (encF l0.length) (Sort.ahead w2 n3) g 0 (heavyF l0).toArray) os3 = w5 at HROW HGR ⊢
    go_wp2
    go_ret2
    refine ⟨_, rfl, ?_, HB2.out.grown HGR.out HB2.out.size (fun k hk => by cases hk; exact HBS.out)⟩
    have hfin : encs (Value.int .i64) (heavyL l0) = (heavyF l0).map (encF l0.length) := by simp [encs, heavyL, encF]
    refine Kd.R_of_own (enc := Value.int .i64) (h1 := fun _ => rfl) ?_ (fun _ _ => trivial)
    rw [hfin, heavyL_length]
    exact HROW.out
theorem listC_get (cs : List S89) (d : Nat) : ∀ i, listC cs d i = true → ∀ j, i ≤ j → j < i + d → stepC cs j = true := by
  induction d with
  | zero => intro i _ j h1 h2; omega
  | succ d ih =>
    intro i h j h1 h2
    simp only [listC, Bool.and_eq_true] at h
    by_cases e : j = i
    · subst e; exact h.1
    · exact ih (i + 1) h.2 j (by omega) (by omega)
theorem valid_dist {cs : List S89} (h : validC cs = true) : Dist cs ∧ cs.length ≤ 12 := by
  unfold validC at h
  simp only [Bool.and_eq_true, decide_eq_true_eq] at h
  refine ⟨?_, h.1⟩
  have key : ∀ i j : Fin cs.length, i.val < j.val → (cs.get i).f0.toList ≠ (cs.get j).f0.toList := by
    intro i j hij e
    have hs := listC_get cs cs.length 0 h.2 j.val (Nat.zero_le _) (by have := j.isLt; omega)
    unfold stepC at hs
    simp only [Bool.and_eq_true, Bool.not_eq_true'] at hs
    have h2 := hs.2
    rw [getD_fin, List.any_eq_false] at h2
    refine h2 (cs.get i) ?_ ?_
    · rw [List.mem_iff_getElem]
      exact ⟨i.val, by rw [List.length_take]; have := j.isLt; omega, by rw [List.getElem_take]; rfl⟩
    · unfold sameId
      rw [beq_iff_eq]
      exact e
  intro i j e
  rcases Nat.lt_trichotomy i.val j.val with h1 | h1 | h1
  · exact absurd e (key i j h1)
  · exact Fin.ext h1
  · exact absurd e.symm (key j i h1)
def impl_HeaviestFirst.f (k : Nat) (l0 : List S89) : Option (List Int × Bool) := (impl_IsValidContainers.f k l0).bind fun b => if b = true then (if validC l0 = true then some (heavyL l0, true) else none) else some ([], false)
theorem impl_HeaviestFirst.mono : ∀ a0 k, LeO (impl_HeaviestFirst.f k a0) (impl_HeaviestFirst.f (k + 1) a0) := by
  intro a0 k
  unfold impl_HeaviestFirst.f
  exact LeO.bind (impl_IsValidContainers.mono _ _) (fun _ => LeO.refl _)
theorem impl_HeaviestFirst.calls (k : Nat) (A0 : Option Addr) (c0 : Nat) (l0 : List S89) (r1 : List Int) (r2 : Bool) (w : World) (hr0 : Kd.C k89 w A0 l0.length l0) (hc0 : l0.length ≤ c0) (h : impl_HeaviestFirst.f k l0 = some (r1, r2)) :
    Calls Try.prog 65 #[.slice A0 l0.length c0] w fun e w' => ∃ v0_ : Value, e = .returned (.tuple #[v0_, .bool r2]) ∧ Kd.R (Kd.int .i64) 3 w' w.heap.size (fun _ => True) v0_ r1 ∧ Below w.heap.size w w' := by
  obtain ⟨b, hv, h⟩ := Option.bind_eq_some_iff.mp h
  cases b with
  | false =>
    rw [if_neg (by decide)] at h
    cases h
    exact heavy_bad k A0 c0 l0 w hr0 hc0 hv
  | true =>
    rw [if_pos rfl] at h
    split at h
    · rename_i hc
      cases h
      obtain ⟨h1, h2⟩ := valid_dist hc
      exact heavy_walk k A0 c0 l0 w hr0 hc0 hv h1 (by omega)
    · cases h
end Go.Proofs.Ytlldonokjgoajaa.X
