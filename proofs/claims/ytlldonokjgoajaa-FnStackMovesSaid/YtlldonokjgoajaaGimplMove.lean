/- The impl's MoveTop, walked. -/
import Derived.Test.YtlldonokjgoajaaGl5Move
import Derived.Test.YtlldonokjgoajaaFbYard
import Derived.Test.YtlldonokjgoajaaGhasStack
namespace Go.Proofs.Ytlldonokjgoajaa.X
open Go.RowKit Go.Lib Go.Proofs.YtlldonokjgoajaaW.PrintWords Go.Proofs.YtlldonokjgoajaaW.PrintLast Go.Proofs.YtlldonokjgoajaaW.PrintMore
set_option linter.unusedVariables false
set_option linter.unusedSimpArgs false
theorem lit2_C {W : World} {b : Nat} {x y : Int} (h : W.heap[b]? = some (.cells #[.int .i64 x, .int .i64 y] 3 (0, 0))) : Kd.C (Kd.int .i64) W (some ⟨b, 0, none⟩) ([x, y] : List Int).length [x, y] := by
  refine ⟨rfl, (show (2 : Nat) ≤ 9223372036854775807 by decide), fun _ => ⟨_, rfl, fun j p hj => ⟨[.int .i64 p], rfl, rfl, fun i u hu => ?_⟩⟩⟩
  rcases i with _ | i
  · rcases j with _ | _ | j
    · simp only [List.getElem?_cons_zero, Option.some.injEq] at hj hu
      subst hj
      subst hu
      exact (blk_cell h 0).trans rfl
    · simp only [List.getElem?_cons_succ, List.getElem?_cons_zero, Option.some.injEq] at hj hu
      subst hj
      subst hu
      exact (blk_cell h 1).trans rfl
    · simp at hj
  · simp at hu
set_option maxHeartbeats 8000000 in
set_option maxRecDepth 100000 in
theorem implMove_walk (k : Nat) (A0 : Option Addr) (c0 : Nat) (l0 ss : List (List Int)) (f t : Nat) (w : World) (hr0 : Kd.C (Kd.slice 3 (Kd.int .i64)) w A0 l0.length l0) (hc0 : l0.length ≤ c0)
    (hh : impl_hasStack.f k l0 [(f : Int), (t : Int)] = some true) (hne : f ≠ t) (hf0 : f < l0.length) (ht0 : t < l0.length) (he : (l0.getD f []).length ≠ 0) (h4 : (l0.getD t []).length ≠ 4) (ho : impl_ownYard.f k l0 = some ss)
    (hf : f < ss.length) (ht : t < ss.length) (hp : 0 < (ss.getD f []).length) (hlf : (ss.getD f []).length ≤ 1000000) (hlt : ((cutL ss f).getD t []).length ≤ 1000000) :
    Calls Try.prog 31 #[.agg #[.slice A0 l0.length c0], .int .i64 f, .int .i64 t] w fun e w' => ∃ v0_ : Value, e = .returned (.tuple #[.agg #[v0_], .int .i64 (topY (ss.getD f [])), .bool true]) ∧ Kd.S (Kd.slice 3 (Kd.int .i64)) 24 w' w.heap.size (fun _ => True) v0_ (moveL ss f t) ∧ Below w.heap.size w w' := by
  obtain ⟨ad, Af, cf, rfl, hcf, _, _⟩ := at_L2 hr0 (f : Int) (by omega) (by omega)
  obtain ⟨ad', At, ct, ea, hct, _, _⟩ := at_L2 hr0 (t : Int) (by omega) (by omega)
  cases ea
  rw [Int.toNat_natCast] at hcf hct
  have HR0 := Aside0.mk hr0
  have HC0 := Aside0.mk hc0
  have HH := Aside0.mk hh
  have HOW := Aside0.mk ho
  have HF := Aside0.mk hf
  have HTT := Aside0.mk ht
  have HP0 := Aside0.mk hp
  have HLF0 := Aside0.mk hlf
  have HLT := Aside0.mk hlt
  have he' : (rd_L2 l0 (f : Int)).length ≠ 0 := he
  have h4' : (rd_L2 l0 (t : Int)).length ≠ 4 := h4
  generalize (rd_L2 l0 (f : Int)).length = nf at hcf he'
  generalize (rd_L2 l0 (t : Int)).length = nt at hct h4'
  have n1 : ((nf : Int) = 0) = False := eq_false (by omega)
  have n2 : ((nt : Int) = 4) = False := eq_false (by omega)
  have n3 : ((f : Int) = (t : Int)) = False := eq_false (by omega)
  have n4 : (nf = 0) = False := eq_false he'
  have n5 : (nt = 4) = False := eq_false h4'
  have n6 : (f = t) = False := eq_false hne
  have b1 : ((nf : Int) == 0) = false := beq_eq_false_iff_ne.mpr (by omega)
  have b2 : ((nt : Int) == 4) = false := beq_eq_false_iff_ne.mpr (by omega)
  have b3 : ((f : Int) == (t : Int)) = false := beq_eq_false_iff_ne.mpr (by omega)
  have p1 : (0 ≤ (f : Int)) = True := eq_true (by omega)
  have p2 : ((f : Int) < (l0.length : Int)) = True := eq_true (by omega)
  have p3 : (0 ≤ (t : Int)) = True := eq_true (by omega)
  have p4 : ((t : Int) < (l0.length : Int)) = True := eq_true (by omega)
  clear hr0 hc0 hh ho hf ht hp hlf hlt he h4 hne hf0 ht0 he' h4'
  go_enter Try.func31, Try.ntmps31
  go_upto_region 1 with (fail)
  generalize hwa : (w.alloc (Obj.cells #[Value.slice (some ad) l0.length c0] 42)).alloc (Obj.cells #[Value.slice none 0 0] 42) = wa
  have hsz : wa.heap.size = w.heap.size + 2 := by rw [← hwa]; simp
  have hba : Below w.heap.size w wa := by rw [← hwa]; exact below_alloc (below_alloc (Below.refl _ _) _) _
  have hk3 : wa.heap[w.heap.size]? = some (.cells #[.slice (some ad) l0.length c0] 42 (0, 0)) := by rw [← hwa]; exact blk_alloc (blk_new _ _) _
  have hk6 : wa.heap[w.heap.size + 1]? = some (.cells #[.slice none 0 0] 42 (0, 0)) := by rw [← hwa]; have h := blk_new (w.alloc (Obj.cells #[Value.slice (some ad) l0.length c0] 42)) (Obj.cells #[Value.slice none 0 0] 42); simpa using h
  have hx3 : wa.cell? ⟨w.heap.size, 0, none⟩ = some (.slice (some ad) l0.length c0) := (blk_cell hk3 0).trans rfl
  have BK3 := Aside0.mk hk3
  have BK6 := Aside0.mk hk6
  have HB := Aside0.mk hba
  have HSZ := Aside0.mk hsz
  have HCF := Aside0.mk hcf
  have HCT := Aside0.mk hct
  clear hwa hsz hba hk3 hk6 hcf hct
  go_upto_region 3 with (go_at_call 107; refine (impl_hasStack.calls k (some ad) c0 l0 _ _ [(f : Int), (t : Int)] true _ (Kd.C_alloc (Kd.C_below HR0.out HB.out) _) HC0.out (lit2_C (blk_new _ _)) (Nat.le_refl _) HH.out).mono ?_; rintro e w1 ⟨rfl, hb⟩; have hb := below_then (below_alloc (Below.refl wa.heap.size wa) _) (by simp) hb; replace hx3 := cell_below hx3 hb; have BK6b := Aside0.mk (blk_below BK6.out hb); have BK3b := Aside0.mk (blk_below BK3.out hb); have HBb := Aside0.mk (below_then HB.out HB.out.size hb); have hcf := cell_below HCF.out HBb.out; have hct := cell_below HCT.out HBb.out; clear hb)
  have hsz1 : w.heap.size + 2 ≤ w1.heap.size := by have := blk_lt BK6b.out; have := HBb.out.size; omega
  have HRB := Aside0.mk (Kd.C_below HR0.out HBb.out)
  have HSZ1 := Aside0.mk hsz1
  clear hcf hct hsz1
  go_upto_region 4 with (go_at_call 108; refine (impl_ownYard.calls k (some ad) c0 l0 ss _ HRB.out HC0.out HOW.out).mono ?_; rintro e w2 ⟨v1, rfl, hs, hb⟩; have HS := Aside0.mk (Kd.S_lower hs HBb.out.size); have BK6c := Aside0.mk (blk_below BK6b.out hb); have HBc := Aside0.mk (below_then HBb.out HBb.out.size hb); have HSZ2 := Aside0.mk hb.size; clear hs hb hx3 BK6b HRB; obtain ⟨g, c1, rfl, hgb, hgl, _⟩ := Kd.S_form HS.out (by have := HF.out; omega); have HGB := Aside0.mk hgb; clear hgb hgl)
  have hk7 := blk_new w2 (Obj.cells #[Value.slice (some ⟨g, 0, none⟩) ss.length c1] 42)
  have hk6 := blk_alloc BK6c.out (Obj.cells #[Value.slice (some ⟨g, 0, none⟩) ss.length c1] 42)
  have hs2 := Kd.S_types (Kd.S_types (Kd.S_alloc HS.out (Obj.cells #[Value.slice (some ⟨g, 0, none⟩) ss.length c1] 42)) hk7 (by decide)) hk6 (by decide)
  have hb2 := below_alloc HBc.out (Obj.cells #[Value.slice (some ⟨g, 0, none⟩) ss.length c1] 42)
  have h27 : w.heap.size + 2 ≤ w2.heap.size := by have := HSZ1.out; have := HSZ2.out; omega
  generalize hN7 : w2.heap.size = n7 at hs2 hk7 hk6 hb2 h27 ⊢
  generalize w2.alloc (Obj.cells #[Value.slice (some ⟨g, 0, none⟩) ss.length c1] 42) = w3 at hs2 hk7 hk6 hb2 ⊢
  have HS2 := Aside0.mk hs2
  have BK7 := Aside0.mk hk7
  have BK6 := Aside0.mk hk6
  have HB2 := Aside0.mk hb2
  have H27 := Aside0.mk h27
  have hx7 : w3.cell? ⟨n7, 0, none⟩ = some (.slice (some ⟨g, 0, none⟩) ss.length c1) := (blk_cell BK7.out 0).trans rfl
  clear hs2 hk7 hk6 hb2 h27 HS BK6c HBc HSZ1 HSZ2 hN7 BK3 BK3b HBb HB HSZ
  go_upto_region 5 with (go_at_call 109; refine (moveTop_walk w w3 _ g c1 ss f t HF.out HTT.out HP0.out HLF0.out HLT.out HB2.out HS2.out).mono ?_; rintro e w4 ⟨rfl, hs, hb, hk⟩; have HSE := Aside0.mk hs; have HBE := Aside0.mk hb; have BK7E := Aside0.mk (blk_kept BK7.out hk (fun h => h.1.2 rfl)); have BK6E := Aside0.mk (blk_kept BK6.out hk (fun h => h.2 rfl)); clear hs hb hk hx7)
  have hx7 : w4.cell? ⟨n7, 0, none⟩ = some (.slice (some ⟨g, 0, none⟩) ss.length c1) := (blk_cell BK7E.out 0).trans rfl
  have hx6 : w4.cell? ⟨w.heap.size + 1, 0, none⟩ = some (.slice none 0 0) := (blk_cell BK6E.out 0).trans rfl
  have hf6 := blk_frozen BK6E.out 0
  go_wp2
  refine bodyPost_ret (results_ctt rfl _ _ (w.heap.size + 1) 42 #[.slice (some ⟨g, 0, none⟩) ss.length c1] (0, 0) _ rfl (blk_put (cs := #[.slice none 0 0]) BK6E.out 0 _ rfl) Try.underlying42 rfl (by kernel_rfl)) rfl ?_
  exact ⟨_, rfl, Kd.S_mono (Kd.S_far (p := ⟨w.heap.size + 1, 0, none⟩) (Kd.S_types HSE.out BK6E.out (by decide)) (fun _ hk => hk.2) _) (fun _ _ => trivial), HBE.out.setCell (p := ⟨w.heap.size + 1, 0, none⟩) (Nat.le_succ _) _⟩
set_option maxHeartbeats 8000000 in
set_option maxRecDepth 100000 in
theorem implMove_bad0 (k : Nat) (A0 : Option Addr) (c0 : Nat) (l0 : List (List Int)) (a1 a2 : Int) (w : World) (hr0 : Kd.C (Kd.slice 3 (Kd.int .i64)) w A0 l0.length l0) (hc0 : l0.length ≤ c0)
    (hh : impl_hasStack.f k l0 [a1, a2] = some false) :
    Calls Try.prog 31 #[.agg #[.slice A0 l0.length c0], .int .i64 a1, .int .i64 a2] w fun e w' => ∃ v0_ : Value, e = .returned (.tuple #[.agg #[v0_], .int .i64 0, .bool false]) ∧ Kd.S (Kd.slice 3 (Kd.int .i64)) 24 w' w.heap.size (fun _ => True) v0_ [] ∧ Below w.heap.size w w' := by
  have HR0 := Aside0.mk hr0
  have HC0 := Aside0.mk hc0
  have HH := Aside0.mk hh
  clear hr0 hc0 hh
  go_enter Try.func31, Try.ntmps31
  go_upto_region 1 with (fail)
  generalize hwa : (w.alloc (Obj.cells #[Value.slice A0 l0.length c0] 42)).alloc (Obj.cells #[Value.slice none 0 0] 42) = wa
  have hba : Below w.heap.size w wa := by rw [← hwa]; exact below_alloc (below_alloc (Below.refl _ _) _) _
  have hk3 : wa.heap[w.heap.size]? = some (.cells #[.slice A0 l0.length c0] 42 (0, 0)) := by rw [← hwa]; exact blk_alloc (blk_new _ _) _
  have hk6 : wa.heap[w.heap.size + 1]? = some (.cells #[.slice none 0 0] 42 (0, 0)) := by rw [← hwa]; have h := blk_new (w.alloc (Obj.cells #[Value.slice A0 l0.length c0] 42)) (Obj.cells #[Value.slice none 0 0] 42); simpa using h
  have hx3 : wa.cell? ⟨w.heap.size, 0, none⟩ = some (.slice A0 l0.length c0) := (blk_cell hk3 0).trans rfl
  have BK6 := Aside0.mk hk6
  have HB := Aside0.mk hba
  clear hwa hba hk3 hk6
  go_upto_region 2 with (go_at_call 107; refine (impl_hasStack.calls k A0 c0 l0 _ _ [a1, a2] false _ (Kd.C_alloc (Kd.C_below HR0.out HB.out) _) HC0.out (lit2_C (blk_new _ _)) (Nat.le_refl _) HH.out).mono ?_; rintro e w1 ⟨rfl, hb⟩; have hb := below_then (below_alloc (Below.refl wa.heap.size wa) _) (by simp) hb; replace hx3 := cell_below hx3 hb; have BK6E := Aside0.mk (blk_below BK6.out hb); have HBE := Aside0.mk (below_then HB.out HB.out.size hb); clear hb)
  have hx6 : w1.cell? ⟨w.heap.size + 1, 0, none⟩ = some (.slice none 0 0) := (blk_cell BK6E.out 0).trans rfl
  have hf6 := blk_frozen BK6E.out 0
  go_wp2
  refine bodyPost_ret (results_ctt rfl _ _ (w.heap.size + 1) 42 #[.slice none 0 0] (0, 0) _ rfl (blk_put (cs := #[.slice none 0 0]) BK6E.out 0 _ rfl) Try.underlying42 rfl (by kernel_rfl)) rfl ?_
  exact ⟨_, rfl, Kd.S_nil _ _ _ _ _, HBE.out.setCell (p := ⟨w.heap.size + 1, 0, none⟩) (Nat.le_succ _) _⟩
set_option maxHeartbeats 8000000 in
set_option maxRecDepth 100000 in
theorem implMove_bad1 (k : Nat) (A0 : Option Addr) (c0 : Nat) (l0 : List (List Int)) (a1 a2 : Int) (w : World) (hr0 : Kd.C (Kd.slice 3 (Kd.int .i64)) w A0 l0.length l0) (hc0 : l0.length ≤ c0)
    (hh : impl_hasStack.f k l0 [a1, a2] = some true) (he : a1 = a2) :
    Calls Try.prog 31 #[.agg #[.slice A0 l0.length c0], .int .i64 a1, .int .i64 a2] w fun e w' => ∃ v0_ : Value, e = .returned (.tuple #[.agg #[v0_], .int .i64 0, .bool false]) ∧ Kd.S (Kd.slice 3 (Kd.int .i64)) 24 w' w.heap.size (fun _ => True) v0_ [] ∧ Below w.heap.size w w' := by
  have b3 : (a1 == a2) = true := beq_iff_eq.mpr he
  have n3 : (a1 = a2) = True := eq_true he
  clear he
  have HR0 := Aside0.mk hr0
  have HC0 := Aside0.mk hc0
  have HH := Aside0.mk hh
  clear hr0 hc0 hh
  go_enter Try.func31, Try.ntmps31
  go_upto_region 1 with (fail)
  generalize hwa : (w.alloc (Obj.cells #[Value.slice A0 l0.length c0] 42)).alloc (Obj.cells #[Value.slice none 0 0] 42) = wa
  have hba : Below w.heap.size w wa := by rw [← hwa]; exact below_alloc (below_alloc (Below.refl _ _) _) _
  have hk3 : wa.heap[w.heap.size]? = some (.cells #[.slice A0 l0.length c0] 42 (0, 0)) := by rw [← hwa]; exact blk_alloc (blk_new _ _) _
  have hk6 : wa.heap[w.heap.size + 1]? = some (.cells #[.slice none 0 0] 42 (0, 0)) := by rw [← hwa]; have h := blk_new (w.alloc (Obj.cells #[Value.slice A0 l0.length c0] 42)) (Obj.cells #[Value.slice none 0 0] 42); simpa using h
  have hx3 : wa.cell? ⟨w.heap.size, 0, none⟩ = some (.slice A0 l0.length c0) := (blk_cell hk3 0).trans rfl
  have BK6 := Aside0.mk hk6
  have HB := Aside0.mk hba
  clear hwa hba hk3 hk6
  go_upto_region 2 with (go_at_call 107; refine (impl_hasStack.calls k A0 c0 l0 _ _ [a1, a2] true _ (Kd.C_alloc (Kd.C_below HR0.out HB.out) _) HC0.out (lit2_C (blk_new _ _)) (Nat.le_refl _) HH.out).mono ?_; rintro e w1 ⟨rfl, hb⟩; have hb := below_then (below_alloc (Below.refl wa.heap.size wa) _) (by simp) hb; replace hx3 := cell_below hx3 hb; have BK6E := Aside0.mk (blk_below BK6.out hb); have HBE := Aside0.mk (below_then HB.out HB.out.size hb); clear hb)
  have hx6 : w1.cell? ⟨w.heap.size + 1, 0, none⟩ = some (.slice none 0 0) := (blk_cell BK6E.out 0).trans rfl
  have hf6 := blk_frozen BK6E.out 0
  go_wp2
  refine bodyPost_ret (results_ctt rfl _ _ (w.heap.size + 1) 42 #[.slice none 0 0] (0, 0) _ rfl (blk_put (cs := #[.slice none 0 0]) BK6E.out 0 _ rfl) Try.underlying42 rfl (by kernel_rfl)) rfl ?_
  exact ⟨_, rfl, Kd.S_nil _ _ _ _ _, HBE.out.setCell (p := ⟨w.heap.size + 1, 0, none⟩) (Nat.le_succ _) _⟩
set_option maxHeartbeats 8000000 in
set_option maxRecDepth 100000 in
theorem implMove_bad2 (k : Nat) (A0 : Option Addr) (c0 : Nat) (l0 : List (List Int)) (a1 a2 : Int) (w : World) (hr0 : Kd.C (Kd.slice 3 (Kd.int .i64)) w A0 l0.length l0) (hc0 : l0.length ≤ c0)
    (hh : impl_hasStack.f k l0 [a1, a2] = some true) (hne : a1 ≠ a2) (h1 : 0 ≤ a1) (h2 : a1 < l0.length) (he : (l0.getD a1.toNat []).length = 0) :
    Calls Try.prog 31 #[.agg #[.slice A0 l0.length c0], .int .i64 a1, .int .i64 a2] w fun e w' => ∃ v0_ : Value, e = .returned (.tuple #[.agg #[v0_], .int .i64 0, .bool false]) ∧ Kd.S (Kd.slice 3 (Kd.int .i64)) 24 w' w.heap.size (fun _ => True) v0_ [] ∧ Below w.heap.size w w' := by
  obtain ⟨ad, Af, cf, rfl, hcf, _, _⟩ := at_L2 hr0 a1 h1 h2
  rw [show (rd_L2 l0 a1).length = 0 from he] at hcf
  have n3 : (a1 = a2) = False := eq_false hne
  have b3 : (a1 == a2) = false := beq_eq_false_iff_ne.mpr hne
  have p1 : (0 ≤ a1) = True := eq_true h1
  have p2 : (a1 < (l0.length : Int)) = True := eq_true h2
  have HCF := Aside0.mk hcf
  clear hne h1 h2 he hcf
  have HR0 := Aside0.mk hr0
  have HC0 := Aside0.mk hc0
  have HH := Aside0.mk hh
  clear hr0 hc0 hh
  go_enter Try.func31, Try.ntmps31
  go_upto_region 1 with (fail)
  generalize hwa : (w.alloc (Obj.cells #[Value.slice (some ad) l0.length c0] 42)).alloc (Obj.cells #[Value.slice none 0 0] 42) = wa
  have hba : Below w.heap.size w wa := by rw [← hwa]; exact below_alloc (below_alloc (Below.refl _ _) _) _
  have hk3 : wa.heap[w.heap.size]? = some (.cells #[.slice (some ad) l0.length c0] 42 (0, 0)) := by rw [← hwa]; exact blk_alloc (blk_new _ _) _
  have hk6 : wa.heap[w.heap.size + 1]? = some (.cells #[.slice none 0 0] 42 (0, 0)) := by rw [← hwa]; have h := blk_new (w.alloc (Obj.cells #[Value.slice (some ad) l0.length c0] 42)) (Obj.cells #[Value.slice none 0 0] 42); simpa using h
  have hx3 : wa.cell? ⟨w.heap.size, 0, none⟩ = some (.slice (some ad) l0.length c0) := (blk_cell hk3 0).trans rfl
  have BK6 := Aside0.mk hk6
  have HB := Aside0.mk hba
  clear hwa hba hk3 hk6
  go_upto_region 2 with (go_at_call 107; refine (impl_hasStack.calls k (some ad) c0 l0 _ _ [a1, a2] true _ (Kd.C_alloc (Kd.C_below HR0.out HB.out) _) HC0.out (lit2_C (blk_new _ _)) (Nat.le_refl _) HH.out).mono ?_; rintro e w1 ⟨rfl, hb⟩; have hb := below_then (below_alloc (Below.refl wa.heap.size wa) _) (by simp) hb; replace hx3 := cell_below hx3 hb; have BK6E := Aside0.mk (blk_below BK6.out hb); have HBE := Aside0.mk (below_then HB.out HB.out.size hb); have hcf := cell_below HCF.out HBE.out; clear hb)
  have hx6 : w1.cell? ⟨w.heap.size + 1, 0, none⟩ = some (.slice none 0 0) := (blk_cell BK6E.out 0).trans rfl
  have hf6 := blk_frozen BK6E.out 0
  go_wp2
  refine bodyPost_ret (results_ctt rfl _ _ (w.heap.size + 1) 42 #[.slice none 0 0] (0, 0) _ rfl (blk_put (cs := #[.slice none 0 0]) BK6E.out 0 _ rfl) Try.underlying42 rfl (by kernel_rfl)) rfl ?_
  exact ⟨_, rfl, Kd.S_nil _ _ _ _ _, HBE.out.setCell (p := ⟨w.heap.size + 1, 0, none⟩) (Nat.le_succ _) _⟩
set_option maxHeartbeats 8000000 in
set_option maxRecDepth 100000 in
theorem implMove_bad3 (k : Nat) (A0 : Option Addr) (c0 : Nat) (l0 : List (List Int)) (a1 a2 : Int) (w : World) (hr0 : Kd.C (Kd.slice 3 (Kd.int .i64)) w A0 l0.length l0) (hc0 : l0.length ≤ c0)
    (hh : impl_hasStack.f k l0 [a1, a2] = some true) (hne : a1 ≠ a2) (h1 : 0 ≤ a1) (h2 : a1 < l0.length) (h3 : 0 ≤ a2) (h4 : a2 < l0.length) (hn : (l0.getD a1.toNat []).length ≠ 0) (he : (l0.getD a2.toNat []).length = 4) :
    Calls Try.prog 31 #[.agg #[.slice A0 l0.length c0], .int .i64 a1, .int .i64 a2] w fun e w' => ∃ v0_ : Value, e = .returned (.tuple #[.agg #[v0_], .int .i64 0, .bool false]) ∧ Kd.S (Kd.slice 3 (Kd.int .i64)) 24 w' w.heap.size (fun _ => True) v0_ [] ∧ Below w.heap.size w w' := by
  obtain ⟨ad, Af, cf, rfl, hcf, _, _⟩ := at_L2 hr0 a1 h1 h2
  obtain ⟨ad', At, ct, ea, hct, _, _⟩ := at_L2 hr0 a2 h3 h4
  cases ea
  have hn' : (rd_L2 l0 a1).length ≠ 0 := hn
  generalize (rd_L2 l0 a1).length = nf at hcf hn'
  rw [show (rd_L2 l0 a2).length = 4 from he] at hct
  have n3 : (a1 = a2) = False := eq_false hne
  have b3 : (a1 == a2) = false := beq_eq_false_iff_ne.mpr hne
  have p1 : (0 ≤ a1) = True := eq_true h1
  have p2 : (a1 < (l0.length : Int)) = True := eq_true h2
  have p3 : (0 ≤ a2) = True := eq_true h3
  have p4 : (a2 < (l0.length : Int)) = True := eq_true h4
  have n1 : ((nf : Int) = 0) = False := eq_false (by omega)
  have n4 : (nf = 0) = False := eq_false hn'
  have b1 : ((nf : Int) == 0) = false := beq_eq_false_iff_ne.mpr (by omega)
  have HCF := Aside0.mk hcf
  have HCT := Aside0.mk hct
  clear hne h1 h2 h3 h4 he hn hn' hcf hct
  have HR0 := Aside0.mk hr0
  have HC0 := Aside0.mk hc0
  have HH := Aside0.mk hh
  clear hr0 hc0 hh
  go_enter Try.func31, Try.ntmps31
  go_upto_region 1 with (fail)
  generalize hwa : (w.alloc (Obj.cells #[Value.slice (some ad) l0.length c0] 42)).alloc (Obj.cells #[Value.slice none 0 0] 42) = wa
  have hba : Below w.heap.size w wa := by rw [← hwa]; exact below_alloc (below_alloc (Below.refl _ _) _) _
  have hk3 : wa.heap[w.heap.size]? = some (.cells #[.slice (some ad) l0.length c0] 42 (0, 0)) := by rw [← hwa]; exact blk_alloc (blk_new _ _) _
  have hk6 : wa.heap[w.heap.size + 1]? = some (.cells #[.slice none 0 0] 42 (0, 0)) := by rw [← hwa]; have h := blk_new (w.alloc (Obj.cells #[Value.slice (some ad) l0.length c0] 42)) (Obj.cells #[Value.slice none 0 0] 42); simpa using h
  have hx3 : wa.cell? ⟨w.heap.size, 0, none⟩ = some (.slice (some ad) l0.length c0) := (blk_cell hk3 0).trans rfl
  have BK6 := Aside0.mk hk6
  have HB := Aside0.mk hba
  clear hwa hba hk3 hk6
  go_upto_region 2 with (go_at_call 107; refine (impl_hasStack.calls k (some ad) c0 l0 _ _ [a1, a2] true _ (Kd.C_alloc (Kd.C_below HR0.out HB.out) _) HC0.out (lit2_C (blk_new _ _)) (Nat.le_refl _) HH.out).mono ?_; rintro e w1 ⟨rfl, hb⟩; have hb := below_then (below_alloc (Below.refl wa.heap.size wa) _) (by simp) hb; replace hx3 := cell_below hx3 hb; have BK6E := Aside0.mk (blk_below BK6.out hb); have HBE := Aside0.mk (below_then HB.out HB.out.size hb); have hcf := cell_below HCF.out HBE.out; have hct := cell_below HCT.out HBE.out; clear hb)
  have hx6 : w1.cell? ⟨w.heap.size + 1, 0, none⟩ = some (.slice none 0 0) := (blk_cell BK6E.out 0).trans rfl
  have hf6 := blk_frozen BK6E.out 0
  go_wp2
  refine bodyPost_ret (results_ctt rfl _ _ (w.heap.size + 1) 42 #[.slice none 0 0] (0, 0) _ rfl (blk_put (cs := #[.slice none 0 0]) BK6E.out 0 _ rfl) Try.underlying42 rfl (by kernel_rfl)) rfl ?_
  exact ⟨_, rfl, Kd.S_nil _ _ _ _ _, HBE.out.setCell (p := ⟨w.heap.size + 1, 0, none⟩) (Nat.le_succ _) _⟩
def impl_MoveTop.f (k : Nat) (l0_0 : List (List Int)) (a1 : Int) (a2 : Int) : Option ((List (List Int)) × Int × Bool) :=
  (impl_hasStack.f k l0_0 [a1, a2]).bind fun b => if b = false then some ([], 0, false) else if a1 = a2 then some ([], 0, false) else
    if 0 ≤ a1 ∧ a1 < l0_0.length then (if (l0_0.getD a1.toNat []).length = 0 then some ([], 0, false) else
      if 0 ≤ a2 ∧ a2 < l0_0.length then (if (l0_0.getD a2.toNat []).length = 4 then some ([], 0, false) else
        (impl_ownYard.f k l0_0).bind fun ss => (moveO ss a1 a2).bind fun r => some (r, topY (ss.getD a1.toNat []), true)) else none) else none
theorem impl_MoveTop.mono : ∀ a0 a1 a2 k, LeO (impl_MoveTop.f k a0 a1 a2) (impl_MoveTop.f (k + 1) a0 a1 a2) := by
  intro a0 a1 a2 k
  unfold impl_MoveTop.f
  refine LeO.bind (impl_hasStack.mono _ _ _) (fun _ => ?_)
  repeat' first
    | exact LeO.refl _
    | refine LeO.ite ?_ ?_
    | refine LeO.bind (impl_ownYard.mono _ _) (fun _ => LeO.refl _)
theorem impl_MoveTop.calls (k : Nat) (A0_0 : Option Addr) (c0_0 : Nat) (l0_0 : List (List Int)) (a1 : Int) (a2 : Int) (r1 : List (List Int)) (r2 : Int) (r3 : Bool) (w : World) (hr0_0 : Kd.C (Kd.slice 3 (Kd.int .i64)) w A0_0 l0_0.length l0_0) (hc0_0 : l0_0.length ≤ c0_0) (h : impl_MoveTop.f k l0_0 a1 a2 = some (r1, r2, r3)) :
    Calls Try.prog 31 #[.agg #[.slice A0_0 l0_0.length c0_0], .int .i64 a1, .int .i64 a2] w fun e w' => ∃ v0_ : Value, e = .returned (.tuple #[.agg #[v0_], .int .i64 r2, .bool r3]) ∧ Kd.S (Kd.slice 3 (Kd.int .i64)) 24 w' w.heap.size (fun _ => True) v0_ r1 ∧ Below w.heap.size w w' := by
  obtain ⟨b, hh, h⟩ := Option.bind_eq_some_iff.mp h
  cases b with
  | false =>
    rw [if_pos rfl] at h
    cases h
    exact implMove_bad0 k A0_0 c0_0 l0_0 a1 a2 w hr0_0 hc0_0 hh
  | true =>
    rw [if_neg (by decide)] at h
    by_cases he : a1 = a2
    · rw [if_pos he] at h
      cases h
      exact implMove_bad1 k A0_0 c0_0 l0_0 a1 a2 w hr0_0 hc0_0 hh he
    · rw [if_neg he] at h
      by_cases g1 : 0 ≤ a1 ∧ a1 < l0_0.length
      · rw [if_pos g1] at h
        by_cases e1 : (l0_0.getD a1.toNat []).length = 0
        · rw [if_pos e1] at h
          cases h
          exact implMove_bad2 k A0_0 c0_0 l0_0 a1 a2 w hr0_0 hc0_0 hh he g1.1 g1.2 e1
        · rw [if_neg e1] at h
          by_cases g2 : 0 ≤ a2 ∧ a2 < l0_0.length
          · rw [if_pos g2] at h
            by_cases e2 : (l0_0.getD a2.toNat []).length = 4
            · rw [if_pos e2] at h
              cases h
              exact implMove_bad3 k A0_0 c0_0 l0_0 a1 a2 w hr0_0 hc0_0 hh he g1.1 g1.2 g2.1 g2.2 e1 e2
            · rw [if_neg e2] at h
              obtain ⟨ss, ho, h⟩ := Option.bind_eq_some_iff.mp h
              obtain ⟨r, hm, h⟩ := Option.bind_eq_some_iff.mp h
              cases h
              unfold moveO at hm
              split at hm
              · rename_i hc
                obtain ⟨h0, h1, h2, h3, h4, h5, h6⟩ := hc
                obtain ⟨f, rfl⟩ := Int.eq_ofNat_of_zero_le h0
                obtain ⟨t, rfl⟩ := Int.eq_ofNat_of_zero_le h2
                simp only [Int.toNat_natCast, Option.some.injEq] at hm h4 h5 h6 e1 e2 ⊢
                subst hm
                exact implMove_walk k A0_0 c0_0 l0_0 ss f t w hr0_0 hc0_0 hh (by omega) (by omega) (by omega) e1 e2 ho (by omega) (by omega) h4 h5 h6
              · exact absurd hm (by simp)
          · rw [if_neg g2] at h
            exact absurd h (by simp)
      · rw [if_neg g1] at h
        exact absurd h (by simp)
end Go.Proofs.Ytlldonokjgoajaa.X
