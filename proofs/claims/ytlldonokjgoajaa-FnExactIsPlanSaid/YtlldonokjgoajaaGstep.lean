/- The program's step, walked: a step of a plan is made in a yard of the caller's own. -/
import Derived.Test.YtlldonokjgoajaaMYardD
import Derived.Test.YtlldonokjgoajaaMOwn
import Derived.Test.YtlldonokjgoajaaMFindR
namespace Go.Proofs.Ytlldonokjgoajaa.X
open Go.RowKit Go.Lib Go.Proofs.YtlldonokjgoajaaW.PrintWords Go.Proofs.YtlldonokjgoajaaW.PrintLast Go.Proofs.YtlldonokjgoajaaW.PrintMore
set_option linter.unusedVariables false
set_option linter.unusedSimpArgs false
/-- A step of a plan: what the yard is then, and whether it could be made. -/
def stepA (ss : List (List Int)) (box tg : Int) : List (List Int) × Bool :=
  if (findY box ss 0).1 < 0 then (ss, false) else
  if (findY box ss 0).2 ≠ ((ss.getD (findY box ss 0).1.toNat []).length : Int) - 1 then (ss, false) else
  if tg = -1 then (cutL ss (findY box ss 0).1.toNat, true) else
  if inB tg 0 ((ss.length : Int) - 1) = false ∨ tg = (findY box ss 0).1 ∨ (ss.getD tg.toNat []).length = 4 then (ss, false) else
  (moveL ss (findY box ss 0).1.toNat tg.toNat, true)
theorem S_row {W : World} {base : Nat} {ok : Nat → Prop} {g c : Nat} {ss : List (List Int)} (hS : Kd.S (Kd.slice 3 (Kd.int .i64)) 24 W base ok (.slice (some ⟨g, 0, none⟩) ss.length c) ss) (f : Nat) (hf : f < ss.length) :
    ∃ Af cf, W.cell? ⟨g, f, none⟩ = some (.slice Af (ss.getD f []).length cf) ∧ W.frozen? ⟨g, f, none⟩ = false ∧ (ss.getD f []).length ≤ cf := by
  obtain ⟨okf, cef, hclf, hMf, hccf, hfrf, hokf, hHf⟩ := Kd.S_elem hS ([] : List Int) (f : Int) (by omega) (by omega)
  obtain ⟨vf, rfl, hRf⟩ := hMf
  have hcf := hccf 0 _ rfl
  have hff := hfrf 0
  simp only [show (Kd.slice 3 (Kd.int .i64)).sz = 1 from rfl, Nat.mul_one, Nat.add_zero, Int.toNat_natCast] at hcf hff hRf
  obtain ⟨Af, cf, rfl⟩ := Kd.R_slice hRf
  exact ⟨Af, cf, hcf, hff, (Kd.R_reads' hRf).2.1⟩
theorem S_rowC {W : World} {base : Nat} {ok : Nat → Prop} {g c n : Nat} {ss : List (List Int)} (hS : Kd.S (Kd.slice 3 (Kd.int .i64)) 24 W base ok (.slice (some ⟨g, 0, none⟩) n c) ss) (hn : ss.length = n) (f : Nat) (hf : f < ss.length) :
    ∃ Af cf, W.cell? ⟨g, f, none⟩ = some (.slice Af (ss.getD f []).length cf) ∧ (ss.getD f []).length ≤ cf ∧ Kd.C (Kd.int .i64) W Af (ss.getD f []).length (ss.getD f []) := by
  subst hn
  obtain ⟨okf, cef, hclf, hMf, hccf, hfrf, hokf, hHf⟩ := Kd.S_elem hS ([] : List Int) (f : Int) (by omega) (by omega)
  obtain ⟨vf, rfl, hRf⟩ := hMf
  have hcf := hccf 0 _ rfl
  simp only [show (Kd.slice 3 (Kd.int .i64)).sz = 1 from rfl, Nat.mul_one, Nat.add_zero, Int.toNat_natCast] at hcf hRf
  obtain ⟨Af, cf, rfl⟩ := Kd.R_slice hRf
  exact ⟨Af, cf, hcf, (Kd.R_reads' hRf).2⟩
theorem S_readsn {W : World} {base : Nat} {ok : Nat → Prop} {g c n : Nat} {ss : List (List Int)} (hS : Kd.S (Kd.slice 3 (Kd.int .i64)) 24 W base ok (.slice (some ⟨g, 0, none⟩) n c) ss) (hn : ss.length = n) :
    ss.length ≤ c ∧ Kd.C (Kd.slice 3 (Kd.int .i64)) W (some ⟨g, 0, none⟩) ss.length ss := by
  subst hn
  exact (Kd.S_reads' hS).2
set_option maxHeartbeats 8000000 in
set_option maxRecDepth 100000 in
theorem step_none (w0 w : World) (P : Nat → Prop) (g c : Nat) (ss : List (List Int)) (box tg : Int) (hg : goodY ss = true) (hB : Below w0.heap.size w0 w) (hS : Kd.S (Kd.slice 3 (Kd.int .i64)) 24 w w0.heap.size P (.slice (some ⟨g, 0, none⟩) ss.length c) ss) (he : findY box ss 0 = (-1, -1)) :
    Calls Try.prog 127 #[.agg #[.slice (some ⟨g, 0, none⟩) ss.length c], .agg #[.int .i64 box, .int .i64 tg]] w fun e w' => e = .returned (.bool false) ∧ Kd.S (Kd.slice 3 (Kd.int .i64)) 24 w' w0.heap.size (fun k => P k ∨ w.heap.size ≤ k) (.slice (some ⟨g, 0, none⟩) ss.length c) (ss) ∧ Below w0.heap.size w0 w' ∧ Kept w w' P := by
  have HPL := Aside0.mk (placeOf_ends ss box (by have := goodY_len hg; omega) (by have := goodY_tot hg; omega) 2097160 (by omega))
  rw [he] at HPL
  have hlen := goodY_len hg
  have HRD := Aside0.mk (Kd.S_reads' hS).2
  have HS0 := Aside0.mk hS
  have HB0 := Aside0.mk hB
  have HG := Aside0.mk hg
  have d1 : decide ((-1 : Int) < 0) = true := by decide
  clear hg hB hS he hlen
  go_enter Try.func127, Try.ntmps127
  go_upto_region 1 with (fail)
  generalize hwa : (w.alloc (Obj.cells #[Value.slice (some ⟨g, 0, none⟩) ss.length c] 42)).alloc (Obj.cells #[Value.int .i64 box, Value.int .i64 tg] 138) = wa
  have hba : Below w.heap.size w wa := by rw [← hwa]; exact below_alloc (below_alloc (Below.refl _ _) _) _
  have hk2 : wa.heap[w.heap.size]? = some (.cells #[.slice (some ⟨g, 0, none⟩) ss.length c] 42 (0, 0)) := by rw [← hwa]; exact blk_alloc (blk_new _ _) _
  have hk3 : wa.heap[w.heap.size + 1]? = some (.cells #[.int .i64 box, .int .i64 tg] 138 (0, 0)) := by rw [← hwa]; have h := blk_new (w.alloc (Obj.cells #[Value.slice (some ⟨g, 0, none⟩) ss.length c] 42)) (Obj.cells #[Value.int .i64 box, Value.int .i64 tg] 138); simpa using h
  have hx2 : wa.cell? ⟨w.heap.size, 0, none⟩ = some (.slice (some ⟨g, 0, none⟩) ss.length c) := (blk_cell hk2 0).trans rfl
  have hx3 : wa.cell? ⟨w.heap.size + 1, 0, none⟩ = some (.int .i64 box) := (blk_cell hk3 0).trans rfl
  have hx4 : wa.cell? ⟨w.heap.size + 1, 1, none⟩ = some (.int .i64 tg) := (blk_cell hk3 1).trans rfl
  have HBA := Aside0.mk hba
  have BK2 := Aside0.mk hk2
  clear hwa hba hk2 hk3
  go_upto_region 2 with (go_at_call 120; refine (impl_placeOf.calls 2097160 (some ⟨g, 0, none⟩) c ss box (-1) (-1) _ (Kd.C_below HRD.out.2 HBA.out) HRD.out.1 HPL.out).mono ?_; rintro e w1 ⟨rfl, hb⟩; replace hx2 := cell_below hx2 hb; replace hx3 := cell_below hx3 hb; replace hx4 := cell_below hx4 hb; have BK2b := Aside0.mk (blk_below BK2.out hb); have HBb := Aside0.mk (below_then HBA.out HBA.out.size hb); clear hb)
  clear BK2 HBA
  go_wp2
  go_ret
  exact ⟨rfl, Kd.S_mono (Kd.S_below HS0.out HBb.out) (fun _ hk => .inl hk), below_then HB0.out HB0.out.size HBb.out, Kept.of_below HBb.out _⟩
set_option maxHeartbeats 8000000 in
set_option maxRecDepth 100000 in
theorem step_under (w0 w : World) (P : Nat → Prop) (g c : Nat) (ss : List (List Int)) (box tg : Int) (hg : goodY ss = true) (hB : Below w0.heap.size w0 w) (hS : Kd.S (Kd.slice 3 (Kd.int .i64)) 24 w w0.heap.size P (.slice (some ⟨g, 0, none⟩) ss.length c) ss) (n t : Nat) (hn : n < ss.length) (ht : t < (ss.getD n []).length) (he : findY box ss 0 = ((n : Int), (t : Int))) (hne : t + 1 ≠ (ss.getD n []).length) :
    Calls Try.prog 127 #[.agg #[.slice (some ⟨g, 0, none⟩) ss.length c], .agg #[.int .i64 box, .int .i64 tg]] w fun e w' => e = .returned (.bool false) ∧ Kd.S (Kd.slice 3 (Kd.int .i64)) 24 w' w0.heap.size (fun k => P k ∨ w.heap.size ≤ k) (.slice (some ⟨g, 0, none⟩) ss.length c) (ss) ∧ Below w0.heap.size w0 w' ∧ Kept w w' P := by
  have HPL := Aside0.mk (placeOf_ends ss box (by have := goodY_len hg; omega) (by have := goodY_tot hg; omega) 2097160 (by omega))
  rw [he] at HPL
  have hlen := goodY_len hg
  have HRD := Aside0.mk (Kd.S_reads' hS).2
  have HS0 := Aside0.mk hS
  have HB0 := Aside0.mk hB
  have HG := Aside0.mk hg
  have d1 : decide ((n : Int) < 0) = false := decide_eq_false (by omega)
  have p1 : (0 ≤ (n : Int)) = True := eq_true (by omega)
  have p2 : ((n : Int) < (ss.length : Int)) = True := eq_true (by omega)
  have h4 := goodY_row hg n
  obtain ⟨Af, cf, hcf, hff, hcc⟩ := S_row hS n hn
  obtain ⟨lf, hlf⟩ : ∃ lf, ss.getD n [] = lf := ⟨_, rfl⟩
  rw [hlf] at hcf hcc h4 ht hne
  have HLF := Aside0.mk hlf
  have HN := Aside0.mk hn
  have HCF := Aside0.mk hcf
  have HFF := Aside0.mk hff
  have p5 : wrap64 ((lf.length : Int) - 1) = (lf.length : Int) - 1 := w64 (by omega) (by omega)
  have d2 : ((t : Int) != ((lf.length : Int) - 1)) = true := bne_iff_ne.2 (by omega)
  clear hcf hff hlf hn ht hne h4
  clear hg hB hS he hlen
  go_enter Try.func127, Try.ntmps127
  go_upto_region 1 with (fail)
  generalize hwa : (w.alloc (Obj.cells #[Value.slice (some ⟨g, 0, none⟩) ss.length c] 42)).alloc (Obj.cells #[Value.int .i64 box, Value.int .i64 tg] 138) = wa
  have hba : Below w.heap.size w wa := by rw [← hwa]; exact below_alloc (below_alloc (Below.refl _ _) _) _
  have hk2 : wa.heap[w.heap.size]? = some (.cells #[.slice (some ⟨g, 0, none⟩) ss.length c] 42 (0, 0)) := by rw [← hwa]; exact blk_alloc (blk_new _ _) _
  have hk3 : wa.heap[w.heap.size + 1]? = some (.cells #[.int .i64 box, .int .i64 tg] 138 (0, 0)) := by rw [← hwa]; have h := blk_new (w.alloc (Obj.cells #[Value.slice (some ⟨g, 0, none⟩) ss.length c] 42)) (Obj.cells #[Value.int .i64 box, Value.int .i64 tg] 138); simpa using h
  have hx2 : wa.cell? ⟨w.heap.size, 0, none⟩ = some (.slice (some ⟨g, 0, none⟩) ss.length c) := (blk_cell hk2 0).trans rfl
  have hx3 : wa.cell? ⟨w.heap.size + 1, 0, none⟩ = some (.int .i64 box) := (blk_cell hk3 0).trans rfl
  have hx4 : wa.cell? ⟨w.heap.size + 1, 1, none⟩ = some (.int .i64 tg) := (blk_cell hk3 1).trans rfl
  have HBA := Aside0.mk hba
  have BK2 := Aside0.mk hk2
  clear hwa hba hk2 hk3
  go_upto_region 2 with (go_at_call 120; refine (impl_placeOf.calls 2097160 (some ⟨g, 0, none⟩) c ss box ((n : Int)) ((t : Int)) _ (Kd.C_below HRD.out.2 HBA.out) HRD.out.1 HPL.out).mono ?_; rintro e w1 ⟨rfl, hb⟩; replace hx2 := cell_below hx2 hb; replace hx3 := cell_below hx3 hb; replace hx4 := cell_below hx4 hb; have BK2b := Aside0.mk (blk_below BK2.out hb); have HBb := Aside0.mk (below_then HBA.out HBA.out.size hb); clear hb)
  clear BK2 HBA
  have hcf := cell_below HCF.out HBb.out
  go_wp2
  go_ret
  exact ⟨rfl, Kd.S_mono (Kd.S_below HS0.out HBb.out) (fun _ hk => .inl hk), below_then HB0.out HB0.out.size HBb.out, Kept.of_below HBb.out _⟩
set_option maxHeartbeats 8000000 in
set_option maxRecDepth 100000 in
theorem step_off (w0 w : World) (P : Nat → Prop) (g c : Nat) (ss : List (List Int)) (box tg : Int) (hg : goodY ss = true) (hB : Below w0.heap.size w0 w) (hS : Kd.S (Kd.slice 3 (Kd.int .i64)) 24 w w0.heap.size P (.slice (some ⟨g, 0, none⟩) ss.length c) ss) (n : Nat) (hn : n < ss.length) (hp : 0 < (ss.getD n []).length) (he : findY box ss 0 = ((n : Int), (((ss.getD n []).length - 1 : Nat) : Int))) (hto : tg ≠ -1) (hin : inB tg 0 ((ss.length : Int) - 1) = false) :
    Calls Try.prog 127 #[.agg #[.slice (some ⟨g, 0, none⟩) ss.length c], .agg #[.int .i64 box, .int .i64 tg]] w fun e w' => e = .returned (.bool false) ∧ Kd.S (Kd.slice 3 (Kd.int .i64)) 24 w' w0.heap.size (fun k => P k ∨ w.heap.size ≤ k) (.slice (some ⟨g, 0, none⟩) ss.length c) (ss) ∧ Below w0.heap.size w0 w' ∧ Kept w w' P := by
  have HPL := Aside0.mk (placeOf_ends ss box (by have := goodY_len hg; omega) (by have := goodY_tot hg; omega) 2097160 (by omega))
  rw [he] at HPL
  have hlen := goodY_len hg
  have HRD := Aside0.mk (Kd.S_reads' hS).2
  have HS0 := Aside0.mk hS
  have HB0 := Aside0.mk hB
  have HG := Aside0.mk hg
  have d1 : decide ((n : Int) < 0) = false := decide_eq_false (by omega)
  have p1 : (0 ≤ (n : Int)) = True := eq_true (by omega)
  have p2 : ((n : Int) < (ss.length : Int)) = True := eq_true (by omega)
  have h4 := goodY_row hg n
  obtain ⟨Af, cf, hcf, hff, hcc⟩ := S_row hS n hn
  obtain ⟨lf, hlf⟩ : ∃ lf, ss.getD n [] = lf := ⟨_, rfl⟩
  rw [hlf] at hcf hcc h4 hp
  have HLF := Aside0.mk hlf
  have HN := Aside0.mk hn
  have HCF := Aside0.mk hcf
  have HFF := Aside0.mk hff
  have p5 : wrap64 ((lf.length : Int) - 1) = (lf.length : Int) - 1 := w64 (by omega) (by omega)
  have ec : ((lf.length - 1 : Nat) : Int) = (lf.length : Int) - 1 := by omega
  have d2 : ((lf.length : Int) - 1 != ((lf.length : Int) - 1)) = false := bne_self_eq_false _
  rw [hlf, ec] at HPL
  have HIN := Aside0.mk (show impl_within.f tg 0 ((ss.length : Int) - 1) = some false by rw [within_ends, hin])
  have p6 : wrap64 ((ss.length : Int) - 1) = (ss.length : Int) - 1 := w64 (by omega) (by omega)
  have d3 : (tg == -1) = false := beq_eq_false_iff_ne.2 hto
  clear hcf hff hlf hn h4 hp hto hin
  clear hg hB hS he hlen
  go_enter Try.func127, Try.ntmps127
  go_upto_region 1 with (fail)
  generalize hwa : (w.alloc (Obj.cells #[Value.slice (some ⟨g, 0, none⟩) ss.length c] 42)).alloc (Obj.cells #[Value.int .i64 box, Value.int .i64 tg] 138) = wa
  have hba : Below w.heap.size w wa := by rw [← hwa]; exact below_alloc (below_alloc (Below.refl _ _) _) _
  have hk2 : wa.heap[w.heap.size]? = some (.cells #[.slice (some ⟨g, 0, none⟩) ss.length c] 42 (0, 0)) := by rw [← hwa]; exact blk_alloc (blk_new _ _) _
  have hk3 : wa.heap[w.heap.size + 1]? = some (.cells #[.int .i64 box, .int .i64 tg] 138 (0, 0)) := by rw [← hwa]; have h := blk_new (w.alloc (Obj.cells #[Value.slice (some ⟨g, 0, none⟩) ss.length c] 42)) (Obj.cells #[Value.int .i64 box, Value.int .i64 tg] 138); simpa using h
  have hx2 : wa.cell? ⟨w.heap.size, 0, none⟩ = some (.slice (some ⟨g, 0, none⟩) ss.length c) := (blk_cell hk2 0).trans rfl
  have hx3 : wa.cell? ⟨w.heap.size + 1, 0, none⟩ = some (.int .i64 box) := (blk_cell hk3 0).trans rfl
  have hx4 : wa.cell? ⟨w.heap.size + 1, 1, none⟩ = some (.int .i64 tg) := (blk_cell hk3 1).trans rfl
  have HBA := Aside0.mk hba
  have BK2 := Aside0.mk hk2
  clear hwa hba hk2 hk3
  go_upto_region 2 with (go_at_call 120; refine (impl_placeOf.calls 2097160 (some ⟨g, 0, none⟩) c ss box ((n : Int)) ((lf.length : Int) - 1) _ (Kd.C_below HRD.out.2 HBA.out) HRD.out.1 HPL.out).mono ?_; rintro e w1 ⟨rfl, hb⟩; replace hx2 := cell_below hx2 hb; replace hx3 := cell_below hx3 hb; replace hx4 := cell_below hx4 hb; have BK2b := Aside0.mk (blk_below BK2.out hb); have HBb := Aside0.mk (below_then HBA.out HBA.out.size hb); clear hb)
  clear BK2 HBA
  have hcf := cell_below HCF.out HBb.out
  go_wp2_with (go_at_call 118; refine (impl_within.calls _ _ _ false _ HIN.out).mono ?_; rintro e w2 ⟨rfl, ⟨⟨q1, rfl⟩⟩⟩)
  go_ret
  exact ⟨rfl, Kd.S_mono (Kd.S_below HS0.out (pw_below_drewN HBb.out q1)) (fun _ hk => .inl hk), below_then HB0.out HB0.out.size (pw_below_drewN HBb.out q1), Kept.of_below (pw_below_drewN HBb.out q1) _⟩
set_option maxHeartbeats 8000000 in
set_option maxRecDepth 100000 in
theorem step_same (w0 w : World) (P : Nat → Prop) (g c : Nat) (ss : List (List Int)) (box tg : Int) (hg : goodY ss = true) (hB : Below w0.heap.size w0 w) (hS : Kd.S (Kd.slice 3 (Kd.int .i64)) 24 w w0.heap.size P (.slice (some ⟨g, 0, none⟩) ss.length c) ss) (n : Nat) (hn : n < ss.length) (hp : 0 < (ss.getD n []).length) (he : findY box ss 0 = ((n : Int), (((ss.getD n []).length - 1 : Nat) : Int))) (hto : tg = (n : Int)) :
    Calls Try.prog 127 #[.agg #[.slice (some ⟨g, 0, none⟩) ss.length c], .agg #[.int .i64 box, .int .i64 tg]] w fun e w' => e = .returned (.bool false) ∧ Kd.S (Kd.slice 3 (Kd.int .i64)) 24 w' w0.heap.size (fun k => P k ∨ w.heap.size ≤ k) (.slice (some ⟨g, 0, none⟩) ss.length c) (ss) ∧ Below w0.heap.size w0 w' ∧ Kept w w' P := by
  have HPL := Aside0.mk (placeOf_ends ss box (by have := goodY_len hg; omega) (by have := goodY_tot hg; omega) 2097160 (by omega))
  rw [he] at HPL
  have hlen := goodY_len hg
  have HRD := Aside0.mk (Kd.S_reads' hS).2
  have HS0 := Aside0.mk hS
  have HB0 := Aside0.mk hB
  have HG := Aside0.mk hg
  have d1 : decide ((n : Int) < 0) = false := decide_eq_false (by omega)
  have p1 : (0 ≤ (n : Int)) = True := eq_true (by omega)
  have p2 : ((n : Int) < (ss.length : Int)) = True := eq_true (by omega)
  have h4 := goodY_row hg n
  obtain ⟨Af, cf, hcf, hff, hcc⟩ := S_row hS n hn
  obtain ⟨lf, hlf⟩ : ∃ lf, ss.getD n [] = lf := ⟨_, rfl⟩
  rw [hlf] at hcf hcc h4 hp
  have HLF := Aside0.mk hlf
  have HN := Aside0.mk hn
  have HCF := Aside0.mk hcf
  have HFF := Aside0.mk hff
  have p5 : wrap64 ((lf.length : Int) - 1) = (lf.length : Int) - 1 := w64 (by omega) (by omega)
  have ec : ((lf.length - 1 : Nat) : Int) = (lf.length : Int) - 1 := by omega
  have d2 : ((lf.length : Int) - 1 != ((lf.length : Int) - 1)) = false := bne_self_eq_false _
  rw [hlf, ec] at HPL
  have HIN := Aside0.mk (show impl_within.f tg 0 ((ss.length : Int) - 1) = some true by rw [within_ends, show inB tg 0 ((ss.length : Int) - 1) = true from by rw [inB_iff]; omega])
  have p6 : wrap64 ((ss.length : Int) - 1) = (ss.length : Int) - 1 := w64 (by omega) (by omega)
  have d3 : (tg == -1) = false := beq_eq_false_iff_ne.2 (by omega)
  have d4 : (tg == (n : Int)) = true := beq_iff_eq.2 hto
  clear hcf hff hlf hn h4 hp hto
  clear hg hB hS he hlen
  go_enter Try.func127, Try.ntmps127
  go_upto_region 1 with (fail)
  generalize hwa : (w.alloc (Obj.cells #[Value.slice (some ⟨g, 0, none⟩) ss.length c] 42)).alloc (Obj.cells #[Value.int .i64 box, Value.int .i64 tg] 138) = wa
  have hba : Below w.heap.size w wa := by rw [← hwa]; exact below_alloc (below_alloc (Below.refl _ _) _) _
  have hk2 : wa.heap[w.heap.size]? = some (.cells #[.slice (some ⟨g, 0, none⟩) ss.length c] 42 (0, 0)) := by rw [← hwa]; exact blk_alloc (blk_new _ _) _
  have hk3 : wa.heap[w.heap.size + 1]? = some (.cells #[.int .i64 box, .int .i64 tg] 138 (0, 0)) := by rw [← hwa]; have h := blk_new (w.alloc (Obj.cells #[Value.slice (some ⟨g, 0, none⟩) ss.length c] 42)) (Obj.cells #[Value.int .i64 box, Value.int .i64 tg] 138); simpa using h
  have hx2 : wa.cell? ⟨w.heap.size, 0, none⟩ = some (.slice (some ⟨g, 0, none⟩) ss.length c) := (blk_cell hk2 0).trans rfl
  have hx3 : wa.cell? ⟨w.heap.size + 1, 0, none⟩ = some (.int .i64 box) := (blk_cell hk3 0).trans rfl
  have hx4 : wa.cell? ⟨w.heap.size + 1, 1, none⟩ = some (.int .i64 tg) := (blk_cell hk3 1).trans rfl
  have HBA := Aside0.mk hba
  have BK2 := Aside0.mk hk2
  clear hwa hba hk2 hk3
  go_upto_region 2 with (go_at_call 120; refine (impl_placeOf.calls 2097160 (some ⟨g, 0, none⟩) c ss box ((n : Int)) ((lf.length : Int) - 1) _ (Kd.C_below HRD.out.2 HBA.out) HRD.out.1 HPL.out).mono ?_; rintro e w1 ⟨rfl, hb⟩; replace hx2 := cell_below hx2 hb; replace hx3 := cell_below hx3 hb; replace hx4 := cell_below hx4 hb; have BK2b := Aside0.mk (blk_below BK2.out hb); have HBb := Aside0.mk (below_then HBA.out HBA.out.size hb); clear hb)
  clear BK2 HBA
  have hcf := cell_below HCF.out HBb.out
  go_wp2_with (go_at_call 118; refine (impl_within.calls _ _ _ true _ HIN.out).mono ?_; rintro e w2 ⟨rfl, ⟨⟨q1, rfl⟩⟩⟩)
  go_ret
  exact ⟨rfl, Kd.S_mono (Kd.S_below HS0.out (pw_below_drewN HBb.out q1)) (fun _ hk => .inl hk), below_then HB0.out HB0.out.size (pw_below_drewN HBb.out q1), Kept.of_below (pw_below_drewN HBb.out q1) _⟩
set_option maxHeartbeats 8000000 in
set_option maxRecDepth 100000 in
theorem step_full (w0 w : World) (P : Nat → Prop) (g c : Nat) (ss : List (List Int)) (box : Int) (m : Nat) (hg : goodY ss = true) (hB : Below w0.heap.size w0 w) (hS : Kd.S (Kd.slice 3 (Kd.int .i64)) 24 w w0.heap.size P (.slice (some ⟨g, 0, none⟩) ss.length c) ss) (n : Nat) (hn : n < ss.length) (hp : 0 < (ss.getD n []).length) (he : findY box ss 0 = ((n : Int), (((ss.getD n []).length - 1 : Nat) : Int))) (hm : m < ss.length) (hmn : m ≠ n) (hfl : (ss.getD m []).length = 4) :
    Calls Try.prog 127 #[.agg #[.slice (some ⟨g, 0, none⟩) ss.length c], .agg #[.int .i64 box, .int .i64 (m : Int)]] w fun e w' => e = .returned (.bool false) ∧ Kd.S (Kd.slice 3 (Kd.int .i64)) 24 w' w0.heap.size (fun k => P k ∨ w.heap.size ≤ k) (.slice (some ⟨g, 0, none⟩) ss.length c) (ss) ∧ Below w0.heap.size w0 w' ∧ Kept w w' P := by
  have HPL := Aside0.mk (placeOf_ends ss box (by have := goodY_len hg; omega) (by have := goodY_tot hg; omega) 2097160 (by omega))
  rw [he] at HPL
  have hlen := goodY_len hg
  have HRD := Aside0.mk (Kd.S_reads' hS).2
  have HS0 := Aside0.mk hS
  have HB0 := Aside0.mk hB
  have HG := Aside0.mk hg
  have d1 : decide ((n : Int) < 0) = false := decide_eq_false (by omega)
  have p1 : (0 ≤ (n : Int)) = True := eq_true (by omega)
  have p2 : ((n : Int) < (ss.length : Int)) = True := eq_true (by omega)
  have h4 := goodY_row hg n
  obtain ⟨Af, cf, hcf, hff, hcc⟩ := S_row hS n hn
  obtain ⟨lf, hlf⟩ : ∃ lf, ss.getD n [] = lf := ⟨_, rfl⟩
  rw [hlf] at hcf hcc h4 hp
  have HLF := Aside0.mk hlf
  have HN := Aside0.mk hn
  have HCF := Aside0.mk hcf
  have HFF := Aside0.mk hff
  have p5 : wrap64 ((lf.length : Int) - 1) = (lf.length : Int) - 1 := w64 (by omega) (by omega)
  have ec : ((lf.length - 1 : Nat) : Int) = (lf.length : Int) - 1 := by omega
  have d2 : ((lf.length : Int) - 1 != ((lf.length : Int) - 1)) = false := bne_self_eq_false _
  rw [hlf, ec] at HPL
  have p3 : (0 ≤ (m : Int)) = True := eq_true (by omega)
  have p4 : ((m : Int) < (ss.length : Int)) = True := eq_true (by omega)
  have hm4 := goodY_row hg m
  obtain ⟨Am, cm, hcm, _, _⟩ := S_row hS m hm
  obtain ⟨lm, hlm⟩ : ∃ lm, ss.getD m [] = lm := ⟨_, rfl⟩
  rw [hlm] at hcm hm4 hfl
  have HCM := Aside0.mk hcm
  have HLM := Aside0.mk hlm
  have HM := Aside0.mk hm
  clear hcm hlm
  have HIN := Aside0.mk (show impl_within.f (m : Int) 0 ((ss.length : Int) - 1) = some true by rw [within_ends, show inB (m : Int) 0 ((ss.length : Int) - 1) = true from by rw [inB_iff]; omega])
  have p6 : wrap64 ((ss.length : Int) - 1) = (ss.length : Int) - 1 := w64 (by omega) (by omega)
  have d3 : ((m : Int) == -1) = false := beq_eq_false_iff_ne.2 (by omega)
  have d4 : ((m : Int) == (n : Int)) = false := beq_eq_false_iff_ne.2 (by omega)
  have d5 : ((lm.length : Int) == 4) = true := beq_iff_eq.2 (by omega)
  have d6 : (lm.length == 4) = true := beq_iff_eq.2 hfl
  clear hcf hff hlf hn h4 hp hm hmn hfl hm4
  clear hg hB hS he hlen
  go_enter Try.func127, Try.ntmps127
  go_upto_region 1 with (fail)
  generalize hwa : (w.alloc (Obj.cells #[Value.slice (some ⟨g, 0, none⟩) ss.length c] 42)).alloc (Obj.cells #[Value.int .i64 box, Value.int .i64 (m : Int)] 138) = wa
  have hba : Below w.heap.size w wa := by rw [← hwa]; exact below_alloc (below_alloc (Below.refl _ _) _) _
  have hk2 : wa.heap[w.heap.size]? = some (.cells #[.slice (some ⟨g, 0, none⟩) ss.length c] 42 (0, 0)) := by rw [← hwa]; exact blk_alloc (blk_new _ _) _
  have hk3 : wa.heap[w.heap.size + 1]? = some (.cells #[.int .i64 box, .int .i64 (m : Int)] 138 (0, 0)) := by rw [← hwa]; have h := blk_new (w.alloc (Obj.cells #[Value.slice (some ⟨g, 0, none⟩) ss.length c] 42)) (Obj.cells #[Value.int .i64 box, Value.int .i64 (m : Int)] 138); simpa using h
  have hx2 : wa.cell? ⟨w.heap.size, 0, none⟩ = some (.slice (some ⟨g, 0, none⟩) ss.length c) := (blk_cell hk2 0).trans rfl
  have hx3 : wa.cell? ⟨w.heap.size + 1, 0, none⟩ = some (.int .i64 box) := (blk_cell hk3 0).trans rfl
  have hx4 : wa.cell? ⟨w.heap.size + 1, 1, none⟩ = some (.int .i64 (m : Int)) := (blk_cell hk3 1).trans rfl
  have HBA := Aside0.mk hba
  have BK2 := Aside0.mk hk2
  clear hwa hba hk2 hk3
  go_upto_region 2 with (go_at_call 120; refine (impl_placeOf.calls 2097160 (some ⟨g, 0, none⟩) c ss box ((n : Int)) ((lf.length : Int) - 1) _ (Kd.C_below HRD.out.2 HBA.out) HRD.out.1 HPL.out).mono ?_; rintro e w1 ⟨rfl, hb⟩; replace hx2 := cell_below hx2 hb; replace hx3 := cell_below hx3 hb; replace hx4 := cell_below hx4 hb; have BK2b := Aside0.mk (blk_below BK2.out hb); have HBb := Aside0.mk (below_then HBA.out HBA.out.size hb); clear hb)
  clear BK2 HBA
  have hcf := cell_below HCF.out HBb.out
  have hcm := cell_below HCM.out HBb.out
  go_wp2_with (go_at_call 118; refine (impl_within.calls _ _ _ true _ HIN.out).mono ?_; rintro e w2 ⟨rfl, ⟨⟨q1, rfl⟩⟩⟩)
  go_ret
  exact ⟨rfl, Kd.S_mono (Kd.S_below HS0.out (pw_below_drewN HBb.out q1)) (fun _ hk => .inl hk), below_then HB0.out HB0.out.size (pw_below_drewN HBb.out q1), Kept.of_below (pw_below_drewN HBb.out q1) _⟩
set_option maxHeartbeats 8000000 in
set_option maxRecDepth 100000 in
theorem step_move (w0 w : World) (P : Nat → Prop) (g c : Nat) (ss : List (List Int)) (box : Int) (m : Nat) (hg : goodY ss = true) (hB : Below w0.heap.size w0 w) (hS : Kd.S (Kd.slice 3 (Kd.int .i64)) 24 w w0.heap.size P (.slice (some ⟨g, 0, none⟩) ss.length c) ss) (n : Nat) (hn : n < ss.length) (hp : 0 < (ss.getD n []).length) (he : findY box ss 0 = ((n : Int), (((ss.getD n []).length - 1 : Nat) : Int))) (hm : m < ss.length) (hmn : m ≠ n) (hfl : (ss.getD m []).length ≠ 4) :
    Calls Try.prog 127 #[.agg #[.slice (some ⟨g, 0, none⟩) ss.length c], .agg #[.int .i64 box, .int .i64 (m : Int)]] w fun e w' => e = .returned (.bool true) ∧ Kd.S (Kd.slice 3 (Kd.int .i64)) 24 w' w0.heap.size (fun k => P k ∨ w.heap.size ≤ k) (.slice (some ⟨g, 0, none⟩) ss.length c) (moveL ss n m) ∧ Below w0.heap.size w0 w' ∧ Kept w w' P := by
  have HPL := Aside0.mk (placeOf_ends ss box (by have := goodY_len hg; omega) (by have := goodY_tot hg; omega) 2097160 (by omega))
  rw [he] at HPL
  have hlen := goodY_len hg
  have HRD := Aside0.mk (Kd.S_reads' hS).2
  have HS0 := Aside0.mk hS
  have HB0 := Aside0.mk hB
  have HG := Aside0.mk hg
  have d1 : decide ((n : Int) < 0) = false := decide_eq_false (by omega)
  have p1 : (0 ≤ (n : Int)) = True := eq_true (by omega)
  have p2 : ((n : Int) < (ss.length : Int)) = True := eq_true (by omega)
  have h4 := goodY_row hg n
  obtain ⟨Af, cf, hcf, hff, hcc⟩ := S_row hS n hn
  obtain ⟨lf, hlf⟩ : ∃ lf, ss.getD n [] = lf := ⟨_, rfl⟩
  rw [hlf] at hcf hcc h4 hp
  have HLF := Aside0.mk hlf
  have HN := Aside0.mk hn
  have HCF := Aside0.mk hcf
  have HFF := Aside0.mk hff
  have p5 : wrap64 ((lf.length : Int) - 1) = (lf.length : Int) - 1 := w64 (by omega) (by omega)
  have ec : ((lf.length - 1 : Nat) : Int) = (lf.length : Int) - 1 := by omega
  have d2 : ((lf.length : Int) - 1 != ((lf.length : Int) - 1)) = false := bne_self_eq_false _
  rw [hlf, ec] at HPL
  have p3 : (0 ≤ (m : Int)) = True := eq_true (by omega)
  have p4 : ((m : Int) < (ss.length : Int)) = True := eq_true (by omega)
  have hm4 := goodY_row hg m
  obtain ⟨Am, cm, hcm, _, _⟩ := S_row hS m hm
  obtain ⟨lm, hlm⟩ : ∃ lm, ss.getD m [] = lm := ⟨_, rfl⟩
  rw [hlm] at hcm hm4 hfl
  have HCM := Aside0.mk hcm
  have HLM := Aside0.mk hlm
  have HM := Aside0.mk hm
  clear hcm hlm
  have HIN := Aside0.mk (show impl_within.f (m : Int) 0 ((ss.length : Int) - 1) = some true by rw [within_ends, show inB (m : Int) 0 ((ss.length : Int) - 1) = true from by rw [inB_iff]; omega])
  have p6 : wrap64 ((ss.length : Int) - 1) = (ss.length : Int) - 1 := w64 (by omega) (by omega)
  have d3 : ((m : Int) == -1) = false := beq_eq_false_iff_ne.2 (by omega)
  have d4 : ((m : Int) == (n : Int)) = false := beq_eq_false_iff_ne.2 (by omega)
  have HMV := Aside0.mk (show 0 < (ss.getD n []).length from by rw [hlf]; exact hp)
  have HMV2 := Aside0.mk (show (ss.getD n []).length ≤ 1000000 from by rw [hlf]; omega)
  have HMV3 := Aside0.mk (show ((cutL ss n).getD m []).length ≤ 1000000 from by have := goodY_row (cut_good hg hn (by rw [hlf]; exact hp)) m; omega)
  have d5 : ((lm.length : Int) == 4) = false := beq_eq_false_iff_ne.2 (by omega)
  have d6 : (lm.length == 4) = false := beq_eq_false_iff_ne.2 hfl
  clear hcf hff hlf hn h4 hp hm hmn hfl hm4
  clear hg hB hS he hlen
  go_enter Try.func127, Try.ntmps127
  go_upto_region 1 with (fail)
  generalize hwa : (w.alloc (Obj.cells #[Value.slice (some ⟨g, 0, none⟩) ss.length c] 42)).alloc (Obj.cells #[Value.int .i64 box, Value.int .i64 (m : Int)] 138) = wa
  have hba : Below w.heap.size w wa := by rw [← hwa]; exact below_alloc (below_alloc (Below.refl _ _) _) _
  have hk2 : wa.heap[w.heap.size]? = some (.cells #[.slice (some ⟨g, 0, none⟩) ss.length c] 42 (0, 0)) := by rw [← hwa]; exact blk_alloc (blk_new _ _) _
  have hk3 : wa.heap[w.heap.size + 1]? = some (.cells #[.int .i64 box, .int .i64 (m : Int)] 138 (0, 0)) := by rw [← hwa]; have h := blk_new (w.alloc (Obj.cells #[Value.slice (some ⟨g, 0, none⟩) ss.length c] 42)) (Obj.cells #[Value.int .i64 box, Value.int .i64 (m : Int)] 138); simpa using h
  have hx2 : wa.cell? ⟨w.heap.size, 0, none⟩ = some (.slice (some ⟨g, 0, none⟩) ss.length c) := (blk_cell hk2 0).trans rfl
  have hx3 : wa.cell? ⟨w.heap.size + 1, 0, none⟩ = some (.int .i64 box) := (blk_cell hk3 0).trans rfl
  have hx4 : wa.cell? ⟨w.heap.size + 1, 1, none⟩ = some (.int .i64 (m : Int)) := (blk_cell hk3 1).trans rfl
  have HBA := Aside0.mk hba
  have BK2 := Aside0.mk hk2
  clear hwa hba hk2 hk3
  go_upto_region 2 with (go_at_call 120; refine (impl_placeOf.calls 2097160 (some ⟨g, 0, none⟩) c ss box ((n : Int)) ((lf.length : Int) - 1) _ (Kd.C_below HRD.out.2 HBA.out) HRD.out.1 HPL.out).mono ?_; rintro e w1 ⟨rfl, hb⟩; replace hx2 := cell_below hx2 hb; replace hx3 := cell_below hx3 hb; replace hx4 := cell_below hx4 hb; have BK2b := Aside0.mk (blk_below BK2.out hb); have HBb := Aside0.mk (below_then HBA.out HBA.out.size hb); clear hb)
  clear BK2 HBA
  have hcf := cell_below HCF.out HBb.out
  have hcm := cell_below HCM.out HBb.out
  go_wp2_with (first | (go_at_call 118; refine (impl_within.calls _ _ _ true _ HIN.out).mono ?_; rintro e w2 ⟨rfl, ⟨⟨q1, rfl⟩⟩⟩) | (go_at_call 109; refine (moveTop_walk w0 _ P g c ss n m HN.out HM.out HMV.out HMV2.out HMV3.out (below_then HB0.out HB0.out.size (pw_below_drewN HBb.out q1)) (Kd.S_drewN (Kd.S_below HS0.out HBb.out) q1)).mono ?_; rintro e w4 ⟨rfl, hs, hb, hk⟩; have HSE := Aside0.mk hs; have HBE := Aside0.mk hb; have HKE := Aside0.mk hk; clear hs hb hk))
  go_ret
  exact ⟨rfl, Kd.S_mono HSE.out (fun _ hk => hk.elim .inl (fun h => .inr (Nat.le_trans HBb.out.size h))), HBE.out, (Kept.of_below (pw_below_drewN HBb.out q1) P).then_ HKE.out (fun _ h => .inl h)⟩
set_option maxHeartbeats 8000000 in
set_option maxRecDepth 100000 in
theorem step_take (w0 w : World) (P : Nat → Prop) (g c : Nat) (ss : List (List Int)) (box : Int) (hg : goodY ss = true) (hB : Below w0.heap.size w0 w) (hS : Kd.S (Kd.slice 3 (Kd.int .i64)) 24 w w0.heap.size P (.slice (some ⟨g, 0, none⟩) ss.length c) ss) (n : Nat) (hn : n < ss.length) (hp : 0 < (ss.getD n []).length) (he : findY box ss 0 = ((n : Int), (((ss.getD n []).length - 1 : Nat) : Int))) :
    Calls Try.prog 127 #[.agg #[.slice (some ⟨g, 0, none⟩) ss.length c], .agg #[.int .i64 box, .int .i64 (-1)]] w fun e w' => e = .returned (.bool true) ∧ Kd.S (Kd.slice 3 (Kd.int .i64)) 24 w' w0.heap.size (fun k => P k ∨ w.heap.size ≤ k) (.slice (some ⟨g, 0, none⟩) ss.length c) (cutL ss n) ∧ Below w0.heap.size w0 w' ∧ Kept w w' P := by
  have HPL := Aside0.mk (placeOf_ends ss box (by have := goodY_len hg; omega) (by have := goodY_tot hg; omega) 2097160 (by omega))
  rw [he] at HPL
  have hlen := goodY_len hg
  have HRD := Aside0.mk (Kd.S_reads' hS).2
  have HS0 := Aside0.mk hS
  have HB0 := Aside0.mk hB
  have HG := Aside0.mk hg
  have d1 : decide ((n : Int) < 0) = false := decide_eq_false (by omega)
  have p1 : (0 ≤ (n : Int)) = True := eq_true (by omega)
  have p2 : ((n : Int) < (ss.length : Int)) = True := eq_true (by omega)
  have h4 := goodY_row hg n
  obtain ⟨Af, cf, hcf, hff, hcc⟩ := S_row hS n hn
  obtain ⟨lf, hlf⟩ : ∃ lf, ss.getD n [] = lf := ⟨_, rfl⟩
  rw [hlf] at hcf hcc h4 hp
  have HLF := Aside0.mk hlf
  have HN := Aside0.mk hn
  have HCF := Aside0.mk hcf
  have HFF := Aside0.mk hff
  have p5 : wrap64 ((lf.length : Int) - 1) = (lf.length : Int) - 1 := w64 (by omega) (by omega)
  have ec : ((lf.length - 1 : Nat) : Int) = (lf.length : Int) - 1 := by omega
  have d2 : (((lf.length - 1 : Nat) : Int) != ((lf.length : Int) - 1)) = false := by rw [ec]; exact bne_self_eq_false _
  rw [hlf] at HPL
  have d3 : ((-1 : Int) == -1) = true := by decide
  have p7 : (0 ≤ (lf.length : Int) - 1) = True := eq_true (by omega)
  have p8 : ((lf.length : Int) - 1 ≤ (cf : Int)) = True := eq_true (by omega)
  have HGB0 := Aside0.mk (Kd.S_form hS (by omega))
  clear hcf hff hlf hn h4 hp 
  clear hg hB hS he hlen
  go_enter Try.func127, Try.ntmps127
  go_upto_region 1 with (fail)
  generalize hwa : (w.alloc (Obj.cells #[Value.slice (some ⟨g, 0, none⟩) ss.length c] 42)).alloc (Obj.cells #[Value.int .i64 box, Value.int .i64 (-1)] 138) = wa
  have hba : Below w.heap.size w wa := by rw [← hwa]; exact below_alloc (below_alloc (Below.refl _ _) _) _
  have hk2 : wa.heap[w.heap.size]? = some (.cells #[.slice (some ⟨g, 0, none⟩) ss.length c] 42 (0, 0)) := by rw [← hwa]; exact blk_alloc (blk_new _ _) _
  have hk3 : wa.heap[w.heap.size + 1]? = some (.cells #[.int .i64 box, .int .i64 (-1)] 138 (0, 0)) := by rw [← hwa]; have h := blk_new (w.alloc (Obj.cells #[Value.slice (some ⟨g, 0, none⟩) ss.length c] 42)) (Obj.cells #[Value.int .i64 box, Value.int .i64 (-1)] 138); simpa using h
  have hx2 : wa.cell? ⟨w.heap.size, 0, none⟩ = some (.slice (some ⟨g, 0, none⟩) ss.length c) := (blk_cell hk2 0).trans rfl
  have hx3 : wa.cell? ⟨w.heap.size + 1, 0, none⟩ = some (.int .i64 box) := (blk_cell hk3 0).trans rfl
  have hx4 : wa.cell? ⟨w.heap.size + 1, 1, none⟩ = some (.int .i64 (-1)) := (blk_cell hk3 1).trans rfl
  have HBA := Aside0.mk hba
  have BK2 := Aside0.mk hk2
  clear hwa hba hk2 hk3
  go_upto_region 2 with (go_at_call 120; refine (impl_placeOf.calls 2097160 (some ⟨g, 0, none⟩) c ss box ((n : Int)) (((lf.length - 1 : Nat) : Int)) _ (Kd.C_below HRD.out.2 HBA.out) HRD.out.1 HPL.out).mono ?_; rintro e w1 ⟨rfl, hb⟩; replace hx2 := cell_below hx2 hb; replace hx3 := cell_below hx3 hb; replace hx4 := cell_below hx4 hb; have BK2b := Aside0.mk (blk_below BK2.out hb); have HBb := Aside0.mk (below_then HBA.out HBA.out.size hb); clear hb)
  clear BK2 HBA
  have hcf := cell_below HCF.out HBb.out
  have hff : w1.frozen? ⟨g, n, none⟩ = false := (HBb.out.frozen (p := ⟨g, n, none⟩) (World.block_lt_of_cell? w _ HCF.out)).trans HFF.out
  go_upto_region 5 with (fail)
  refine start_ (n := 12) (S := fun w' => w'.cell? ⟨w.heap.size, 0, none⟩ = some (.slice (some ⟨g, 0, none⟩) ss.length c) ∧ w'.cell? ⟨g, n, none⟩ = some (.slice Af lf.length cf)) (ds := [11]) #[false, false, false, false, false, false, false, false, false, false, false, false] (by kernel_rfl) rfl rfl ⟨hx2, hcf⟩ (fun hHeld => ?_)
  replace hff : (w1.drew).frozen? ⟨g, n, none⟩ = false := hff
  have HS := Aside0.mk (Kd.S_drew (Kd.S_below HS0.out HBb.out))
  have HB := Aside0.mk (below_drew1 HBb.out)
  clear hcf hx2
  generalize w1.drew = w3 at HS HB hff hHeld ⊢
  refine pure_ (i := 0) (N := some 31) (v := ?_) (a' := ?_) #[true, false, false, false, false, false, false, false, false, false, false, false] rfl rfl (by kernel_rfl) (fun _ _ _ h => h) (Or.inl ⟨by rfl, ?_⟩) ?_ ?_
  rotate_left
  · intro w'
    go_simp
    with_reducible rfl
  rotate_left
  · simp only [Act.put, List.setIfInBounds_toArray, List.set_cons_zero, List.set_cons_succ, i64_w, i32_w]
    rfl
  refine take_ (i := 1) (N := some 32) (v := ?_) (a' := ?_) #[true, true, false, false, false, false, false, false, false, false, false, false] rfl rfl (by kernel_rfl) (fun _ _ _ h => h) (Or.inl ⟨by rfl, ?_⟩) hHeld ?_ ?_
  rotate_left
  · rintro w' ⟨s0, s1⟩
    go_simp
    with_reducible rfl
  rotate_left
  · simp only [Act.put, List.setIfInBounds_toArray, List.set_cons_zero, List.set_cons_succ, i64_w, i32_w]
    rfl
  refine pure_ (i := 2) (N := some 33) (v := ?_) (a' := ?_) #[true, true, true, false, false, false, false, false, false, false, false, false] rfl rfl (by kernel_rfl) (fun _ _ _ h => h) (Or.inl ⟨by rfl, ?_⟩) ?_ ?_
  rotate_left
  · intro w'
    go_simp
    with_reducible rfl
  rotate_left
  · simp only [Act.put, List.setIfInBounds_toArray, List.set_cons_zero, List.set_cons_succ, i64_w, i32_w]
    rfl
  refine pure_ (i := 3) (N := some 34) (v := ?_) (a' := ?_) #[true, true, true, true, false, false, false, false, false, false, false, false] rfl rfl (by kernel_rfl) (fun _ _ _ h => h) (Or.inl ⟨by rfl, ?_⟩) ?_ ?_
  rotate_left
  · intro w'
    go_simp
    with_reducible rfl
  rotate_left
  · simp only [Act.put, List.setIfInBounds_toArray, List.set_cons_zero, List.set_cons_succ, i64_w, i32_w]
    rfl
  refine take_ (i := 4) (N := some 35) (v := ?_) (a' := ?_) #[true, true, true, true, true, false, false, false, false, false, false, false] rfl rfl (by kernel_rfl) (fun _ _ _ h => h) (Or.inl ⟨by rfl, ?_⟩) hHeld ?_ ?_
  rotate_left
  · rintro w' ⟨s0, s1⟩
    go_simp
    with_reducible rfl
  rotate_left
  · simp only [Act.put, List.setIfInBounds_toArray, List.set_cons_zero, List.set_cons_succ, i64_w, i32_w]
    rfl
  refine pure_ (i := 5) (N := some 36) (v := ?_) (a' := ?_) #[true, true, true, true, true, true, false, false, false, false, false, false] rfl rfl (by kernel_rfl) (fun _ _ _ h => h) (Or.inl ⟨by rfl, ?_⟩) ?_ ?_
  rotate_left
  · intro w'
    go_simp
    with_reducible rfl
  rotate_left
  · simp only [Act.put, List.setIfInBounds_toArray, List.set_cons_zero, List.set_cons_succ, i64_w, i32_w]
    rfl
  refine pure_ (i := 6) (N := some 37) (v := ?_) (a' := ?_) #[true, true, true, true, true, true, true, false, false, false, false, false] rfl rfl (by kernel_rfl) (fun _ _ _ h => h) (Or.inl ⟨by rfl, ?_⟩) ?_ ?_
  rotate_left
  · intro w'
    go_simp
    with_reducible rfl
  rotate_left
  · simp only [Act.put, List.setIfInBounds_toArray, List.set_cons_zero, List.set_cons_succ, i64_w, i32_w]
    rfl
  refine take_ (i := 7) (N := some 38) (v := ?_) (a' := ?_) #[true, true, true, true, true, true, true, true, false, false, false, false] rfl rfl (by kernel_rfl) (fun _ _ _ h => h) (Or.inl ⟨by rfl, ?_⟩) hHeld ?_ ?_
  rotate_left
  · rintro w' ⟨s0, s1⟩
    go_simp
    with_reducible rfl
  rotate_left
  · simp only [Act.put, List.setIfInBounds_toArray, List.set_cons_zero, List.set_cons_succ, i64_w, i32_w]
    rfl
  refine pure_ (i := 8) (N := some 39) (v := ?_) (a' := ?_) #[true, true, true, true, true, true, true, true, true, false, false, false] rfl rfl (by kernel_rfl) (fun _ _ _ h => h) (Or.inl ⟨by rfl, ?_⟩) ?_ ?_
  rotate_left
  · intro w'
    go_simp
    with_reducible rfl
  rotate_left
  · simp only [Act.put, List.setIfInBounds_toArray, List.set_cons_zero, List.set_cons_succ, i64_w, i32_w]
    rfl
  refine pure_ (i := 9) (N := some 40) (v := ?_) (a' := ?_) #[true, true, true, true, true, true, true, true, true, true, false, false] rfl rfl (by kernel_rfl) (fun _ _ _ h => h) (Or.inl ⟨by rfl, ?_⟩) ?_ ?_
  rotate_left
  · intro w'
    go_simp
    rw [if_pos (by first | omega | (constructor <;> omega))]
  rotate_left
  · simp only [Act.put, List.setIfInBounds_toArray, List.set_cons_zero, List.set_cons_succ, i64_w, i32_w]
    rfl
  refine pure_ (i := 10) (N := some 41) (v := ?_) (a' := ?_) #[true, true, true, true, true, true, true, true, true, true, true, false] rfl rfl (by kernel_rfl) (fun _ _ _ h => h) (Or.inl ⟨by rfl, ?_⟩) ?_ ?_
  rotate_left
  · intro w'
    go_simp
    with_reducible rfl
  rotate_left
  · simp only [Act.put, List.setIfInBounds_toArray, List.set_cons_zero, List.set_cons_succ, i64_w, i32_w]
    rfl
  refine last_ (i := 11) (N := none) #[true, true, true, true, true, true, true, true, true, true, true, true] rfl rfl (by kernel_rfl) (by decide) (fun K hK => ?_)
  refine skip_ (w1 := ?_) (by rfl) rfl ?_ ?_
  rotate_left
  · go_simp
    rfl
  refine hK.out _ _ ?_
  clear hK K
  refine done_ (by kernel_rfl) ?_
  obtain ⟨g', c', eg', hgb, _⟩ := HGB0.out
  cases eg'
  have hP4 := S_cut_row HS.out (n : Int) (by omega) (by have := HN.out; omega) (lf.length - 1) (by show _ ≤ (ss.getD n []).length; rw [HLF.out]; omega) hHeld.2 (lf.take (lf.length - 1)) (by show _ = (ss.getD n []).take _; rw [HLF.out])
  rw [show (lf.take (lf.length - 1)).length = lf.length - 1 by rw [List.length_take]; omega, Int.toNat_natCast, show ss.set n (lf.take (lf.length - 1)) = cutL ss n by unfold cutL; rw [HLF.out]] at hP4
  have HPG := Aside0.mk (show P g from (Kd.S_R HS0.out).1 g rfl)
  have HSE := Aside0.mk hP4
  have HBE := Aside0.mk ((below_then HB0.out HB0.out.size HB.out).setCell (p := ⟨g, n, none⟩) hgb (.slice Af (lf.length - 1) cf))
  have HKE := Aside0.mk ((Kept.of_below HB.out P).setCell (p := ⟨g, n, none⟩) (.inl HPG.out) (.slice Af (lf.length - 1) cf))
  clear HS HB hP4 hHeld hff hgb
  generalize w3.setCell ⟨g, n, none⟩ (.slice Af (lf.length - 1) cf) = w4 at HSE HBE HKE ⊢
  go_wp2
  go_ret
  exact ⟨rfl, Kd.S_mono HSE.out (fun _ hk => .inl hk), HBE.out, HKE.out⟩
set_option maxHeartbeats 8000000 in
set_option maxRecDepth 100000 in
theorem step_walk (w0 w : World) (P : Nat → Prop) (g c : Nat) (ss : List (List Int)) (box tg : Int) (hg : goodY ss = true) (hB : Below w0.heap.size w0 w) (hS : Kd.S (Kd.slice 3 (Kd.int .i64)) 24 w w0.heap.size P (.slice (some ⟨g, 0, none⟩) ss.length c) ss) :
    Calls Try.prog 127 #[.agg #[.slice (some ⟨g, 0, none⟩) ss.length c], .agg #[.int .i64 box, .int .i64 tg]] w fun e w' => e = .returned (.bool (stepA ss box tg).2) ∧ Kd.S (Kd.slice 3 (Kd.int .i64)) 24 w' w0.heap.size (fun k => P k ∨ w.heap.size ≤ k) (.slice (some ⟨g, 0, none⟩) ss.length c) ((stepA ss box tg).1) ∧ Below w0.heap.size w0 w' ∧ Kept w w' P := by
  have key : ∀ (r : List (List Int)) (b : Bool), stepA ss box tg = (r, b) → (Calls Try.prog 127 #[.agg #[.slice (some ⟨g, 0, none⟩) ss.length c], .agg #[.int .i64 box, .int .i64 tg]] w fun e w' => e = .returned (.bool b) ∧ Kd.S (Kd.slice 3 (Kd.int .i64)) 24 w' w0.heap.size (fun k => P k ∨ w.heap.size ≤ k) (.slice (some ⟨g, 0, none⟩) ss.length c) (r) ∧ Below w0.heap.size w0 w' ∧ Kept w w' P) → Calls Try.prog 127 #[.agg #[.slice (some ⟨g, 0, none⟩) ss.length c], .agg #[.int .i64 box, .int .i64 tg]] w fun e w' => e = .returned (.bool (stepA ss box tg).2) ∧ Kd.S (Kd.slice 3 (Kd.int .i64)) 24 w' w0.heap.size (fun k => P k ∨ w.heap.size ≤ k) (.slice (some ⟨g, 0, none⟩) ss.length c) ((stepA ss box tg).1) ∧ Below w0.heap.size w0 w' ∧ Kept w w' P := by
    intro r b e h
    rw [e]
    exact h
  have h6 := goodY_len hg
  rcases findY_rng box ss 0 with e | ⟨n, t, e, hn, ht⟩
  · exact key ss false (by unfold stepA; rw [e]; rfl) (step_none w0 w P g c ss box tg hg hB hS e)
  · rw [Int.zero_add] at e
    have hn0 : ¬ (n : Int) < 0 := by omega
    have hs : stepA ss box tg = if (t : Int) ≠ ((ss.getD n []).length : Int) - 1 then (ss, false) else if tg = -1 then (cutL ss n, true) else if inB tg 0 ((ss.length : Int) - 1) = false ∨ tg = (n : Int) ∨ (ss.getD tg.toNat []).length = 4 then (ss, false) else (moveL ss n tg.toNat, true) := by
      unfold stepA
      rw [e]
      dsimp only
      rw [if_neg hn0, Int.toNat_natCast]
    by_cases h1 : t + 1 = (ss.getD n []).length
    · have e' : findY box ss 0 = ((n : Int), (((ss.getD n []).length - 1 : Nat) : Int)) := by rw [e, show (ss.getD n []).length - 1 = t by omega]
      rw [if_neg (by omega)] at hs
      by_cases h2 : tg = -1
      · subst h2
        rw [if_pos rfl] at hs
        exact key _ _ hs (step_take w0 w P g c ss box hg hB hS n hn (by omega) e')
      · rw [if_neg h2] at hs
        by_cases h3 : inB tg 0 ((ss.length : Int) - 1) = true
        · obtain ⟨m, rfl⟩ : ∃ m : Nat, tg = m := ⟨tg.toNat, by rw [inB_iff] at h3; omega⟩
          have hm : m < ss.length := by rw [inB_iff] at h3; omega
          rw [Int.toNat_natCast] at hs
          by_cases h4 : m = n
          · rw [if_pos (.inr (.inl (by rw [h4])))] at hs
            exact key _ _ hs (step_same w0 w P g c ss box (m : Int) hg hB hS n hn (by omega) e' (by rw [h4]))
          · by_cases h5 : (ss.getD m []).length = 4
            · rw [if_pos (.inr (.inr h5))] at hs
              exact key _ _ hs (step_full w0 w P g c ss box m hg hB hS n hn (by omega) e' hm h4 h5)
            · rw [if_neg (by rw [h3]; intro h; rcases h with h | h | h; (· cases h); (· exact h4 (by omega)); exact h5 h)] at hs
              exact key _ _ hs (step_move w0 w P g c ss box m hg hB hS n hn (by omega) e' hm h4 h5)
        · have h3' : inB tg 0 ((ss.length : Int) - 1) = false := by simpa using h3
          rw [if_pos (.inl h3')] at hs
          exact key _ _ hs (step_off w0 w P g c ss box tg hg hB hS n hn (by omega) e' h2 h3')
    · rw [if_pos (by omega)] at hs
      exact key _ _ hs (step_under w0 w P g c ss box tg hg hB hS n t hn ht e h1)
theorem step_good {ss : List (List Int)} (hg : goodY ss = true) (box tg : Int) : goodY (stepA ss box tg).1 = true ∧ (stepA ss box tg).1.length = ss.length := by
  unfold stepA
  split
  · exact ⟨hg, rfl⟩
  split
  · exact ⟨hg, rfl⟩
  rename_i h1 h2
  rcases findY_rng box ss 0 with e | ⟨n, t, e, hn, ht⟩
  · rw [e] at h1; exact absurd (by decide) h1
  rw [Int.zero_add] at e
  rw [e] at h1 h2 ⊢
  simp only [Int.toNat_natCast] at h1 h2 ⊢
  split
  · exact ⟨cut_good hg hn (by omega), by unfold cutL; simp⟩
  split
  · exact ⟨hg, rfl⟩
  · rename_i h3 h4
    simp only [not_or, Bool.not_eq_false, inB_iff] at h4
    obtain ⟨⟨h5, h6⟩, h7, h8⟩ := h4
    obtain ⟨m, rfl⟩ : ∃ m : Nat, tg = m := ⟨tg.toNat, by omega⟩
    simp only [Int.toNat_natCast] at h8 ⊢
    exact ⟨move_good hg hn (by omega) (by omega) (by omega) h8, by unfold moveL cutL; simp⟩
theorem step_walkn (w0 w : World) (P : Nat → Prop) (g c n : Nat) (ss : List (List Int)) (box tg : Int) (hg : goodY ss = true) (hB : Below w0.heap.size w0 w) (hS : Kd.S (Kd.slice 3 (Kd.int .i64)) 24 w w0.heap.size P (.slice (some ⟨g, 0, none⟩) n c) ss) (hn : ss.length = n) :
    Calls Try.prog 127 #[.agg #[.slice (some ⟨g, 0, none⟩) n c], .agg #[.int .i64 box, .int .i64 tg]] w fun e w' => e = .returned (.bool (stepA ss box tg).2) ∧ Kd.S (Kd.slice 3 (Kd.int .i64)) 24 w' w0.heap.size (fun k => P k ∨ w.heap.size ≤ k) (.slice (some ⟨g, 0, none⟩) n c) ((stepA ss box tg).1) ∧ Below w0.heap.size w0 w' ∧ Kept w w' P := by
  subst hn
  exact step_walk w0 w P g c ss box tg hg hB hS
end Go.Proofs.Ytlldonokjgoajaa.X
