/- The reference's l6Step, walked: what it answers is read only. -/
import Derived.Test.YtlldonokjgoajaaGstep
import Derived.Test.YtlldonokjgoajaaGl5Move
namespace Go.Proofs.Ytlldonokjgoajaa.X
open Go.RowKit Go.Lib Go.Proofs.YtlldonokjgoajaaW.PrintWords Go.Proofs.YtlldonokjgoajaaW.PrintLast Go.Proofs.YtlldonokjgoajaaW.PrintMore
set_option linter.unusedVariables false
set_option linter.unusedSimpArgs false
theorem l5Move_good {ss : List (List Int)} (h : goodY ss = true) (f t : Nat) (hf : f < ss.length) (ht : t < ss.length) (hp : 0 < (ss.getD f []).length) (k : Nat) (hk : 200 ≤ k) : spec_l5Move.f k ss (f : Int) (t : Int) = some (moveL ss f t) := by
  have h1 := goodY_row h f
  have h2 := goodY_row (cut_good h hf hp) t
  unfold spec_l5Move.f
  rw [(own_ends ss h k hk).1, Option.bind_some]
  unfold moveO
  rw [Int.toNat_natCast, Int.toNat_natCast, if_pos ⟨by omega, by omega, by omega, by omega, hp, by omega, by omega⟩]
set_option maxHeartbeats 8000000 in
set_option maxRecDepth 100000 in
theorem sstep_none (A0 : Option Addr) (c0 : Nat) (ss : List (List Int)) (box tg : Int) (w : World) (P : Nat → Prop) (hg : goodY ss = true) (hs0 : Kd.V (Kd.slice 3 (Kd.int .i64)) 24 w w.heap.size (fun k => P k) (.slice A0 ss.length c0) ss) (he : findY box ss 0 = (-1, -1)) :
    Calls Try.prog 169 #[.agg #[.slice A0 ss.length c0], .agg #[.int .i64 box, .int .i64 tg]] w fun e w' => ∃ v0_ : Value, e = .returned (.tuple #[.agg #[v0_], .bool false]) ∧ Kd.V (Kd.slice 3 (Kd.int .i64)) 24 w' w.heap.size (fun k => (P k ∨ w.heap.size ≤ k)) v0_ (ss) ∧ Below w.heap.size w w' := by
  have hr0 := (Kd.V_reads' hs0).2.2
  have hc0 := (Kd.V_reads' hs0).2.1
  have HFI := Aside0.mk (l5Find_ends ss box (by have := goodY_len hg; omega) (by have := goodY_tot hg; omega) 3145800 (by omega))
  rw [he] at HFI
  have hlen := goodY_len hg
  have HR0 := Aside0.mk hr0
  have HC0 := Aside0.mk hc0
  have HG := Aside0.mk hg
  have d1 : decide ((-1 : Int) < 0) = true := by decide
  have HVV := Aside0.mk hs0
  clear hg hr0 hc0 he hlen hs0
  go_enter Try.func169, Try.ntmps169
  go_upto_region 1 with (fail)
  generalize hwa : ((w.alloc (Obj.cells #[Value.slice A0 ss.length c0] 42)).alloc (Obj.cells #[Value.int .i64 box, Value.int .i64 tg] 138)).alloc (Obj.cells #[Value.slice none 0 0] 42) = wa
  have hba : Below w.heap.size w wa := by rw [← hwa]; exact below_alloc (below_alloc (below_alloc (Below.refl _ _) _) _) _
  have hk2 : wa.heap[w.heap.size]? = some (.cells #[.slice A0 ss.length c0] 42 (0, 0)) := by rw [← hwa]; exact blk_alloc (blk_alloc (blk_new _ _) _) _
  have hk3 : wa.heap[w.heap.size + 1]? = some (.cells #[.int .i64 box, .int .i64 tg] 138 (0, 0)) := by rw [← hwa]; have h := blk_new (w.alloc (Obj.cells #[Value.slice A0 ss.length c0] 42)) (Obj.cells #[Value.int .i64 box, Value.int .i64 tg] 138); exact blk_alloc (by simpa using h) _
  have hk4 : wa.heap[w.heap.size + 2]? = some (.cells #[.slice none 0 0] 42 (0, 0)) := by rw [← hwa]; have h := blk_new ((w.alloc (Obj.cells #[Value.slice A0 ss.length c0] 42)).alloc (Obj.cells #[Value.int .i64 box, Value.int .i64 tg] 138)) (Obj.cells #[Value.slice none 0 0] 42); simpa using h
  have hx2 : wa.cell? ⟨w.heap.size, 0, none⟩ = some (.slice A0 ss.length c0) := (blk_cell hk2 0).trans rfl
  have hx3 : wa.cell? ⟨w.heap.size + 1, 0, none⟩ = some (.int .i64 box) := (blk_cell hk3 0).trans rfl
  have hx4 : wa.cell? ⟨w.heap.size + 1, 1, none⟩ = some (.int .i64 tg) := (blk_cell hk3 1).trans rfl
  have HBA := Aside0.mk hba
  have BK4 := Aside0.mk hk4
  clear hwa hba hk2 hk3 hk4
  go_upto_region 2 with (go_at_call 142; refine (spec_l5Find.calls 3145800 A0 c0 ss box (-1) (-1) _ (Kd.C_below HR0.out HBA.out) HC0.out HFI.out).mono ?_; rintro e w1 ⟨rfl, hb⟩; replace hx2 := cell_below hx2 hb; replace hx3 := cell_below hx3 hb; replace hx4 := cell_below hx4 hb; have BK4b := Aside0.mk (blk_below BK4.out hb); have HBb := Aside0.mk (below_then HBA.out HBA.out.size hb); clear hb)
  clear BK4 HBA
  have hx5 : w1.cell? ⟨w.heap.size + 2, 0, none⟩ = some (.slice none 0 0) := (blk_cell BK4b.out 0).trans rfl
  have hf5 := blk_frozen BK4b.out 0
  go_wp2
  refine bodyPost_ret (results_ct rfl _ _ (w.heap.size + 2) 42 #[.slice A0 ss.length c0] (0, 0) _ rfl (blk_put (cs := #[.slice none 0 0]) (BK4b.out) 0 _ rfl) Try.underlying42 rfl (by kernel_rfl)) rfl ?_
  exact ⟨_, rfl, Kd.V_mono (Kd.V_below HVV.out ((HBb.out).setCell (p := ⟨w.heap.size + 2, 0, none⟩) (by show w.heap.size ≤ w.heap.size + 2; omega) _)) (fun _ h => .inl h), (HBb.out).setCell (p := ⟨w.heap.size + 2, 0, none⟩) (by show w.heap.size ≤ w.heap.size + 2; omega) _⟩
set_option maxHeartbeats 8000000 in
set_option maxRecDepth 100000 in
theorem sstep_under (A0 : Option Addr) (c0 : Nat) (ss : List (List Int)) (box tg : Int) (w : World) (P : Nat → Prop) (hg : goodY ss = true) (hs0 : Kd.V (Kd.slice 3 (Kd.int .i64)) 24 w w.heap.size (fun k => P k) (.slice A0 ss.length c0) ss) (n t : Nat) (hn : n < ss.length) (ht : t < (ss.getD n []).length) (he : findY box ss 0 = ((n : Int), (t : Int))) (hne : t + 1 ≠ (ss.getD n []).length) :
    Calls Try.prog 169 #[.agg #[.slice A0 ss.length c0], .agg #[.int .i64 box, .int .i64 tg]] w fun e w' => ∃ v0_ : Value, e = .returned (.tuple #[.agg #[v0_], .bool false]) ∧ Kd.V (Kd.slice 3 (Kd.int .i64)) 24 w' w.heap.size (fun k => (P k ∨ w.heap.size ≤ k)) v0_ (ss) ∧ Below w.heap.size w w' := by
  have hr0 := (Kd.V_reads' hs0).2.2
  have hc0 := (Kd.V_reads' hs0).2.1
  have HFI := Aside0.mk (l5Find_ends ss box (by have := goodY_len hg; omega) (by have := goodY_tot hg; omega) 3145800 (by omega))
  rw [he] at HFI
  have hlen := goodY_len hg
  have HC0 := Aside0.mk hc0
  have HG := Aside0.mk hg
  obtain ⟨ad, Af, cf, rfl, hcf, _, _⟩ := at_L2 hr0 (n : Int) (by omega) (by omega)
  rw [Int.toNat_natCast, rdL_nat] at hcf
  have d1 : decide ((n : Int) < 0) = false := decide_eq_false (by omega)
  have p1 : (0 ≤ (n : Int)) = True := eq_true (by omega)
  have p2 : ((n : Int) < (ss.length : Int)) = True := eq_true (by omega)
  have h4 := goodY_row hg n
  obtain ⟨lf, hlf⟩ : ∃ lf, ss.getD n [] = lf := ⟨_, rfl⟩
  rw [hlf] at hcf h4 ht hne
  have HLF := Aside0.mk hlf
  have HN := Aside0.mk hn
  have HCF := Aside0.mk hcf
  have p5 : wrap64 ((lf.length : Int) - 1) = (lf.length : Int) - 1 := w64 (by omega) (by omega)
  have d2 : ((t : Int) != ((lf.length : Int) - 1)) = true := bne_iff_ne.2 (by omega)
  clear hcf hlf hn ht hne h4
  have HVV := Aside0.mk hs0
  have HR0 := Aside0.mk hr0
  clear hg hr0 hc0 he hlen hs0
  go_enter Try.func169, Try.ntmps169
  go_upto_region 1 with (fail)
  generalize hwa : ((w.alloc (Obj.cells #[Value.slice (some ad) ss.length c0] 42)).alloc (Obj.cells #[Value.int .i64 box, Value.int .i64 tg] 138)).alloc (Obj.cells #[Value.slice none 0 0] 42) = wa
  have hba : Below w.heap.size w wa := by rw [← hwa]; exact below_alloc (below_alloc (below_alloc (Below.refl _ _) _) _) _
  have hk2 : wa.heap[w.heap.size]? = some (.cells #[.slice (some ad) ss.length c0] 42 (0, 0)) := by rw [← hwa]; exact blk_alloc (blk_alloc (blk_new _ _) _) _
  have hk3 : wa.heap[w.heap.size + 1]? = some (.cells #[.int .i64 box, .int .i64 tg] 138 (0, 0)) := by rw [← hwa]; have h := blk_new (w.alloc (Obj.cells #[Value.slice (some ad) ss.length c0] 42)) (Obj.cells #[Value.int .i64 box, Value.int .i64 tg] 138); exact blk_alloc (by simpa using h) _
  have hk4 : wa.heap[w.heap.size + 2]? = some (.cells #[.slice none 0 0] 42 (0, 0)) := by rw [← hwa]; have h := blk_new ((w.alloc (Obj.cells #[Value.slice (some ad) ss.length c0] 42)).alloc (Obj.cells #[Value.int .i64 box, Value.int .i64 tg] 138)) (Obj.cells #[Value.slice none 0 0] 42); simpa using h
  have hx2 : wa.cell? ⟨w.heap.size, 0, none⟩ = some (.slice (some ad) ss.length c0) := (blk_cell hk2 0).trans rfl
  have hx3 : wa.cell? ⟨w.heap.size + 1, 0, none⟩ = some (.int .i64 box) := (blk_cell hk3 0).trans rfl
  have hx4 : wa.cell? ⟨w.heap.size + 1, 1, none⟩ = some (.int .i64 tg) := (blk_cell hk3 1).trans rfl
  have HBA := Aside0.mk hba
  have BK4 := Aside0.mk hk4
  clear hwa hba hk2 hk3 hk4
  go_upto_region 2 with (go_at_call 142; refine (spec_l5Find.calls 3145800 (some ad) c0 ss box ((n : Int)) ((t : Int)) _ (Kd.C_below HR0.out HBA.out) HC0.out HFI.out).mono ?_; rintro e w1 ⟨rfl, hb⟩; replace hx2 := cell_below hx2 hb; replace hx3 := cell_below hx3 hb; replace hx4 := cell_below hx4 hb; have BK4b := Aside0.mk (blk_below BK4.out hb); have HBb := Aside0.mk (below_then HBA.out HBA.out.size hb); clear hb)
  clear BK4 HBA
  have hx5 : w1.cell? ⟨w.heap.size + 2, 0, none⟩ = some (.slice none 0 0) := (blk_cell BK4b.out 0).trans rfl
  have hf5 := blk_frozen BK4b.out 0
  have hcf := cell_below HCF.out HBb.out
  go_wp2
  refine bodyPost_ret (results_ct rfl _ _ (w.heap.size + 2) 42 #[.slice (some ad) ss.length c0] (0, 0) _ rfl (blk_put (cs := #[.slice none 0 0]) (BK4b.out) 0 _ rfl) Try.underlying42 rfl (by kernel_rfl)) rfl ?_
  exact ⟨_, rfl, Kd.V_mono (Kd.V_below HVV.out ((HBb.out).setCell (p := ⟨w.heap.size + 2, 0, none⟩) (by show w.heap.size ≤ w.heap.size + 2; omega) _)) (fun _ h => .inl h), (HBb.out).setCell (p := ⟨w.heap.size + 2, 0, none⟩) (by show w.heap.size ≤ w.heap.size + 2; omega) _⟩
set_option maxHeartbeats 8000000 in
set_option maxRecDepth 100000 in
theorem sstep_off (A0 : Option Addr) (c0 : Nat) (ss : List (List Int)) (box tg : Int) (w : World) (P : Nat → Prop) (hg : goodY ss = true) (hs0 : Kd.V (Kd.slice 3 (Kd.int .i64)) 24 w w.heap.size (fun k => P k) (.slice A0 ss.length c0) ss) (n : Nat) (hn : n < ss.length) (hp : 0 < (ss.getD n []).length) (he : findY box ss 0 = ((n : Int), (((ss.getD n []).length - 1 : Nat) : Int))) (hto : tg ≠ -1) (hin : inB tg 0 ((ss.length : Int) - 1) = false) :
    Calls Try.prog 169 #[.agg #[.slice A0 ss.length c0], .agg #[.int .i64 box, .int .i64 tg]] w fun e w' => ∃ v0_ : Value, e = .returned (.tuple #[.agg #[v0_], .bool false]) ∧ Kd.V (Kd.slice 3 (Kd.int .i64)) 24 w' w.heap.size (fun k => (P k ∨ w.heap.size ≤ k)) v0_ (ss) ∧ Below w.heap.size w w' := by
  have hr0 := (Kd.V_reads' hs0).2.2
  have hc0 := (Kd.V_reads' hs0).2.1
  have HFI := Aside0.mk (l5Find_ends ss box (by have := goodY_len hg; omega) (by have := goodY_tot hg; omega) 3145800 (by omega))
  rw [he] at HFI
  have hlen := goodY_len hg
  have HC0 := Aside0.mk hc0
  have HG := Aside0.mk hg
  obtain ⟨ad, Af, cf, rfl, hcf, _, _⟩ := at_L2 hr0 (n : Int) (by omega) (by omega)
  rw [Int.toNat_natCast, rdL_nat] at hcf
  have d1 : decide ((n : Int) < 0) = false := decide_eq_false (by omega)
  have p1 : (0 ≤ (n : Int)) = True := eq_true (by omega)
  have p2 : ((n : Int) < (ss.length : Int)) = True := eq_true (by omega)
  have h4 := goodY_row hg n
  obtain ⟨lf, hlf⟩ : ∃ lf, ss.getD n [] = lf := ⟨_, rfl⟩
  rw [hlf] at hcf h4 hp
  have HLF := Aside0.mk hlf
  have HN := Aside0.mk hn
  have HCF := Aside0.mk hcf
  have p5 : wrap64 ((lf.length : Int) - 1) = (lf.length : Int) - 1 := w64 (by omega) (by omega)
  have ec : ((lf.length - 1 : Nat) : Int) = (lf.length : Int) - 1 := by omega
  have d2 : ((lf.length : Int) - 1 != ((lf.length : Int) - 1)) = false := bne_self_eq_false _
  rw [hlf, ec] at HFI
  have HIN := Aside0.mk (show spec_l1In.f tg 0 ((ss.length : Int) - 1) = some false by rw [l1In_ends, hin])
  have p6 : wrap64 ((ss.length : Int) - 1) = (ss.length : Int) - 1 := w64 (by omega) (by omega)
  have d3 : (tg == -1) = false := beq_eq_false_iff_ne.2 hto
  clear hcf hlf hn h4 hp hto hin
  have HVV := Aside0.mk hs0
  have HR0 := Aside0.mk hr0
  clear hg hr0 hc0 he hlen hs0
  go_enter Try.func169, Try.ntmps169
  go_upto_region 1 with (fail)
  generalize hwa : ((w.alloc (Obj.cells #[Value.slice (some ad) ss.length c0] 42)).alloc (Obj.cells #[Value.int .i64 box, Value.int .i64 tg] 138)).alloc (Obj.cells #[Value.slice none 0 0] 42) = wa
  have hba : Below w.heap.size w wa := by rw [← hwa]; exact below_alloc (below_alloc (below_alloc (Below.refl _ _) _) _) _
  have hk2 : wa.heap[w.heap.size]? = some (.cells #[.slice (some ad) ss.length c0] 42 (0, 0)) := by rw [← hwa]; exact blk_alloc (blk_alloc (blk_new _ _) _) _
  have hk3 : wa.heap[w.heap.size + 1]? = some (.cells #[.int .i64 box, .int .i64 tg] 138 (0, 0)) := by rw [← hwa]; have h := blk_new (w.alloc (Obj.cells #[Value.slice (some ad) ss.length c0] 42)) (Obj.cells #[Value.int .i64 box, Value.int .i64 tg] 138); exact blk_alloc (by simpa using h) _
  have hk4 : wa.heap[w.heap.size + 2]? = some (.cells #[.slice none 0 0] 42 (0, 0)) := by rw [← hwa]; have h := blk_new ((w.alloc (Obj.cells #[Value.slice (some ad) ss.length c0] 42)).alloc (Obj.cells #[Value.int .i64 box, Value.int .i64 tg] 138)) (Obj.cells #[Value.slice none 0 0] 42); simpa using h
  have hx2 : wa.cell? ⟨w.heap.size, 0, none⟩ = some (.slice (some ad) ss.length c0) := (blk_cell hk2 0).trans rfl
  have hx3 : wa.cell? ⟨w.heap.size + 1, 0, none⟩ = some (.int .i64 box) := (blk_cell hk3 0).trans rfl
  have hx4 : wa.cell? ⟨w.heap.size + 1, 1, none⟩ = some (.int .i64 tg) := (blk_cell hk3 1).trans rfl
  have HBA := Aside0.mk hba
  have BK4 := Aside0.mk hk4
  clear hwa hba hk2 hk3 hk4
  go_upto_region 2 with (go_at_call 142; refine (spec_l5Find.calls 3145800 (some ad) c0 ss box ((n : Int)) ((lf.length : Int) - 1) _ (Kd.C_below HR0.out HBA.out) HC0.out HFI.out).mono ?_; rintro e w1 ⟨rfl, hb⟩; replace hx2 := cell_below hx2 hb; replace hx3 := cell_below hx3 hb; replace hx4 := cell_below hx4 hb; have BK4b := Aside0.mk (blk_below BK4.out hb); have HBb := Aside0.mk (below_then HBA.out HBA.out.size hb); clear hb)
  clear BK4 HBA
  have hx5 : w1.cell? ⟨w.heap.size + 2, 0, none⟩ = some (.slice none 0 0) := (blk_cell BK4b.out 0).trans rfl
  have hf5 := blk_frozen BK4b.out 0
  have hcf := cell_below HCF.out HBb.out
  go_wp2_with (go_at_call 162; refine (spec_l1In.calls _ _ _ false _ HIN.out).mono ?_; rintro e w2 ⟨rfl, ⟨⟨q1, rfl⟩⟩⟩)
  refine bodyPost_ret (results_ct rfl _ _ (w.heap.size + 2) 42 #[.slice (some ad) ss.length c0] (0, 0) _ rfl (blk_put (cs := #[.slice none 0 0]) (blk_drewN BK4b.out q1) 0 _ rfl) Try.underlying42 rfl (by kernel_rfl)) rfl ?_
  exact ⟨_, rfl, Kd.V_mono (Kd.V_below HVV.out ((pw_below_drewN HBb.out q1).setCell (p := ⟨w.heap.size + 2, 0, none⟩) (by show w.heap.size ≤ w.heap.size + 2; omega) _)) (fun _ h => .inl h), (pw_below_drewN HBb.out q1).setCell (p := ⟨w.heap.size + 2, 0, none⟩) (by show w.heap.size ≤ w.heap.size + 2; omega) _⟩
set_option maxHeartbeats 8000000 in
set_option maxRecDepth 100000 in
theorem sstep_same (A0 : Option Addr) (c0 : Nat) (ss : List (List Int)) (box tg : Int) (w : World) (P : Nat → Prop) (hg : goodY ss = true) (hs0 : Kd.V (Kd.slice 3 (Kd.int .i64)) 24 w w.heap.size (fun k => P k) (.slice A0 ss.length c0) ss) (n : Nat) (hn : n < ss.length) (hp : 0 < (ss.getD n []).length) (he : findY box ss 0 = ((n : Int), (((ss.getD n []).length - 1 : Nat) : Int))) (hto : tg = (n : Int)) :
    Calls Try.prog 169 #[.agg #[.slice A0 ss.length c0], .agg #[.int .i64 box, .int .i64 tg]] w fun e w' => ∃ v0_ : Value, e = .returned (.tuple #[.agg #[v0_], .bool false]) ∧ Kd.V (Kd.slice 3 (Kd.int .i64)) 24 w' w.heap.size (fun k => (P k ∨ w.heap.size ≤ k)) v0_ (ss) ∧ Below w.heap.size w w' := by
  have hr0 := (Kd.V_reads' hs0).2.2
  have hc0 := (Kd.V_reads' hs0).2.1
  have HFI := Aside0.mk (l5Find_ends ss box (by have := goodY_len hg; omega) (by have := goodY_tot hg; omega) 3145800 (by omega))
  rw [he] at HFI
  have hlen := goodY_len hg
  have HC0 := Aside0.mk hc0
  have HG := Aside0.mk hg
  obtain ⟨ad, Af, cf, rfl, hcf, _, _⟩ := at_L2 hr0 (n : Int) (by omega) (by omega)
  rw [Int.toNat_natCast, rdL_nat] at hcf
  have d1 : decide ((n : Int) < 0) = false := decide_eq_false (by omega)
  have p1 : (0 ≤ (n : Int)) = True := eq_true (by omega)
  have p2 : ((n : Int) < (ss.length : Int)) = True := eq_true (by omega)
  have h4 := goodY_row hg n
  obtain ⟨lf, hlf⟩ : ∃ lf, ss.getD n [] = lf := ⟨_, rfl⟩
  rw [hlf] at hcf h4 hp
  have HLF := Aside0.mk hlf
  have HN := Aside0.mk hn
  have HCF := Aside0.mk hcf
  have p5 : wrap64 ((lf.length : Int) - 1) = (lf.length : Int) - 1 := w64 (by omega) (by omega)
  have ec : ((lf.length - 1 : Nat) : Int) = (lf.length : Int) - 1 := by omega
  have d2 : ((lf.length : Int) - 1 != ((lf.length : Int) - 1)) = false := bne_self_eq_false _
  rw [hlf, ec] at HFI
  have HIN := Aside0.mk (show spec_l1In.f tg 0 ((ss.length : Int) - 1) = some true by rw [l1In_ends, show inB tg 0 ((ss.length : Int) - 1) = true from by rw [inB_iff]; omega])
  have p6 : wrap64 ((ss.length : Int) - 1) = (ss.length : Int) - 1 := w64 (by omega) (by omega)
  have d3 : (tg == -1) = false := beq_eq_false_iff_ne.2 (by omega)
  have d4 : (tg == (n : Int)) = true := beq_iff_eq.2 hto
  clear hcf hlf hn h4 hp hto
  have HVV := Aside0.mk hs0
  have HR0 := Aside0.mk hr0
  clear hg hr0 hc0 he hlen hs0
  go_enter Try.func169, Try.ntmps169
  go_upto_region 1 with (fail)
  generalize hwa : ((w.alloc (Obj.cells #[Value.slice (some ad) ss.length c0] 42)).alloc (Obj.cells #[Value.int .i64 box, Value.int .i64 tg] 138)).alloc (Obj.cells #[Value.slice none 0 0] 42) = wa
  have hba : Below w.heap.size w wa := by rw [← hwa]; exact below_alloc (below_alloc (below_alloc (Below.refl _ _) _) _) _
  have hk2 : wa.heap[w.heap.size]? = some (.cells #[.slice (some ad) ss.length c0] 42 (0, 0)) := by rw [← hwa]; exact blk_alloc (blk_alloc (blk_new _ _) _) _
  have hk3 : wa.heap[w.heap.size + 1]? = some (.cells #[.int .i64 box, .int .i64 tg] 138 (0, 0)) := by rw [← hwa]; have h := blk_new (w.alloc (Obj.cells #[Value.slice (some ad) ss.length c0] 42)) (Obj.cells #[Value.int .i64 box, Value.int .i64 tg] 138); exact blk_alloc (by simpa using h) _
  have hk4 : wa.heap[w.heap.size + 2]? = some (.cells #[.slice none 0 0] 42 (0, 0)) := by rw [← hwa]; have h := blk_new ((w.alloc (Obj.cells #[Value.slice (some ad) ss.length c0] 42)).alloc (Obj.cells #[Value.int .i64 box, Value.int .i64 tg] 138)) (Obj.cells #[Value.slice none 0 0] 42); simpa using h
  have hx2 : wa.cell? ⟨w.heap.size, 0, none⟩ = some (.slice (some ad) ss.length c0) := (blk_cell hk2 0).trans rfl
  have hx3 : wa.cell? ⟨w.heap.size + 1, 0, none⟩ = some (.int .i64 box) := (blk_cell hk3 0).trans rfl
  have hx4 : wa.cell? ⟨w.heap.size + 1, 1, none⟩ = some (.int .i64 tg) := (blk_cell hk3 1).trans rfl
  have HBA := Aside0.mk hba
  have BK4 := Aside0.mk hk4
  clear hwa hba hk2 hk3 hk4
  go_upto_region 2 with (go_at_call 142; refine (spec_l5Find.calls 3145800 (some ad) c0 ss box ((n : Int)) ((lf.length : Int) - 1) _ (Kd.C_below HR0.out HBA.out) HC0.out HFI.out).mono ?_; rintro e w1 ⟨rfl, hb⟩; replace hx2 := cell_below hx2 hb; replace hx3 := cell_below hx3 hb; replace hx4 := cell_below hx4 hb; have BK4b := Aside0.mk (blk_below BK4.out hb); have HBb := Aside0.mk (below_then HBA.out HBA.out.size hb); clear hb)
  clear BK4 HBA
  have hx5 : w1.cell? ⟨w.heap.size + 2, 0, none⟩ = some (.slice none 0 0) := (blk_cell BK4b.out 0).trans rfl
  have hf5 := blk_frozen BK4b.out 0
  have hcf := cell_below HCF.out HBb.out
  go_wp2_with (go_at_call 162; refine (spec_l1In.calls _ _ _ true _ HIN.out).mono ?_; rintro e w2 ⟨rfl, ⟨⟨q1, rfl⟩⟩⟩)
  refine bodyPost_ret (results_ct rfl _ _ (w.heap.size + 2) 42 #[.slice (some ad) ss.length c0] (0, 0) _ rfl (blk_put (cs := #[.slice none 0 0]) (blk_drewN BK4b.out q1) 0 _ rfl) Try.underlying42 rfl (by kernel_rfl)) rfl ?_
  exact ⟨_, rfl, Kd.V_mono (Kd.V_below HVV.out ((pw_below_drewN HBb.out q1).setCell (p := ⟨w.heap.size + 2, 0, none⟩) (by show w.heap.size ≤ w.heap.size + 2; omega) _)) (fun _ h => .inl h), (pw_below_drewN HBb.out q1).setCell (p := ⟨w.heap.size + 2, 0, none⟩) (by show w.heap.size ≤ w.heap.size + 2; omega) _⟩
set_option maxHeartbeats 8000000 in
set_option maxRecDepth 100000 in
theorem sstep_full (A0 : Option Addr) (c0 : Nat) (ss : List (List Int)) (box : Int) (m : Nat) (w : World) (P : Nat → Prop) (hg : goodY ss = true) (hs0 : Kd.V (Kd.slice 3 (Kd.int .i64)) 24 w w.heap.size (fun k => P k) (.slice A0 ss.length c0) ss) (n : Nat) (hn : n < ss.length) (hp : 0 < (ss.getD n []).length) (he : findY box ss 0 = ((n : Int), (((ss.getD n []).length - 1 : Nat) : Int))) (hm : m < ss.length) (hmn : m ≠ n) (hfl : (ss.getD m []).length = 4) :
    Calls Try.prog 169 #[.agg #[.slice A0 ss.length c0], .agg #[.int .i64 box, .int .i64 (m : Int)]] w fun e w' => ∃ v0_ : Value, e = .returned (.tuple #[.agg #[v0_], .bool false]) ∧ Kd.V (Kd.slice 3 (Kd.int .i64)) 24 w' w.heap.size (fun k => (P k ∨ w.heap.size ≤ k)) v0_ (ss) ∧ Below w.heap.size w w' := by
  have hr0 := (Kd.V_reads' hs0).2.2
  have hc0 := (Kd.V_reads' hs0).2.1
  have HFI := Aside0.mk (l5Find_ends ss box (by have := goodY_len hg; omega) (by have := goodY_tot hg; omega) 3145800 (by omega))
  rw [he] at HFI
  have hlen := goodY_len hg
  have HC0 := Aside0.mk hc0
  have HG := Aside0.mk hg
  obtain ⟨ad, Af, cf, rfl, hcf, _, _⟩ := at_L2 hr0 (n : Int) (by omega) (by omega)
  rw [Int.toNat_natCast, rdL_nat] at hcf
  have d1 : decide ((n : Int) < 0) = false := decide_eq_false (by omega)
  have p1 : (0 ≤ (n : Int)) = True := eq_true (by omega)
  have p2 : ((n : Int) < (ss.length : Int)) = True := eq_true (by omega)
  have h4 := goodY_row hg n
  obtain ⟨lf, hlf⟩ : ∃ lf, ss.getD n [] = lf := ⟨_, rfl⟩
  rw [hlf] at hcf h4 hp
  have HLF := Aside0.mk hlf
  have HN := Aside0.mk hn
  have HCF := Aside0.mk hcf
  have p5 : wrap64 ((lf.length : Int) - 1) = (lf.length : Int) - 1 := w64 (by omega) (by omega)
  have ec : ((lf.length - 1 : Nat) : Int) = (lf.length : Int) - 1 := by omega
  have d2 : ((lf.length : Int) - 1 != ((lf.length : Int) - 1)) = false := bne_self_eq_false _
  rw [hlf, ec] at HFI
  have p3 : (0 ≤ (m : Int)) = True := eq_true (by omega)
  have p4 : ((m : Int) < (ss.length : Int)) = True := eq_true (by omega)
  have hm4 := goodY_row hg m
  obtain ⟨ad', Am, cm, ea, hcm, _, _⟩ := at_L2 hr0 (m : Int) (by omega) (by omega)
  cases ea
  rw [Int.toNat_natCast, rdL_nat] at hcm
  obtain ⟨lm, hlm⟩ : ∃ lm, ss.getD m [] = lm := ⟨_, rfl⟩
  rw [hlm] at hcm hm4 hfl
  have HCM := Aside0.mk hcm
  have HLM := Aside0.mk hlm
  have HM := Aside0.mk hm
  clear hcm hlm
  have HIN := Aside0.mk (show spec_l1In.f (m : Int) 0 ((ss.length : Int) - 1) = some true by rw [l1In_ends, show inB (m : Int) 0 ((ss.length : Int) - 1) = true from by rw [inB_iff]; omega])
  have p6 : wrap64 ((ss.length : Int) - 1) = (ss.length : Int) - 1 := w64 (by omega) (by omega)
  have d3 : ((m : Int) == -1) = false := beq_eq_false_iff_ne.2 (by omega)
  have d4 : ((m : Int) == (n : Int)) = false := beq_eq_false_iff_ne.2 (by omega)
  have d5 : ((lm.length : Int) == 4) = true := beq_iff_eq.2 (by omega)
  have d6 : (lm.length == 4) = true := beq_iff_eq.2 hfl
  clear hcf hlf hn h4 hp hm hmn hfl hm4
  have HVV := Aside0.mk hs0
  have HR0 := Aside0.mk hr0
  clear hg hr0 hc0 he hlen hs0
  go_enter Try.func169, Try.ntmps169
  go_upto_region 1 with (fail)
  generalize hwa : ((w.alloc (Obj.cells #[Value.slice (some ad) ss.length c0] 42)).alloc (Obj.cells #[Value.int .i64 box, Value.int .i64 (m : Int)] 138)).alloc (Obj.cells #[Value.slice none 0 0] 42) = wa
  have hba : Below w.heap.size w wa := by rw [← hwa]; exact below_alloc (below_alloc (below_alloc (Below.refl _ _) _) _) _
  have hk2 : wa.heap[w.heap.size]? = some (.cells #[.slice (some ad) ss.length c0] 42 (0, 0)) := by rw [← hwa]; exact blk_alloc (blk_alloc (blk_new _ _) _) _
  have hk3 : wa.heap[w.heap.size + 1]? = some (.cells #[.int .i64 box, .int .i64 (m : Int)] 138 (0, 0)) := by rw [← hwa]; have h := blk_new (w.alloc (Obj.cells #[Value.slice (some ad) ss.length c0] 42)) (Obj.cells #[Value.int .i64 box, Value.int .i64 (m : Int)] 138); exact blk_alloc (by simpa using h) _
  have hk4 : wa.heap[w.heap.size + 2]? = some (.cells #[.slice none 0 0] 42 (0, 0)) := by rw [← hwa]; have h := blk_new ((w.alloc (Obj.cells #[Value.slice (some ad) ss.length c0] 42)).alloc (Obj.cells #[Value.int .i64 box, Value.int .i64 (m : Int)] 138)) (Obj.cells #[Value.slice none 0 0] 42); simpa using h
  have hx2 : wa.cell? ⟨w.heap.size, 0, none⟩ = some (.slice (some ad) ss.length c0) := (blk_cell hk2 0).trans rfl
  have hx3 : wa.cell? ⟨w.heap.size + 1, 0, none⟩ = some (.int .i64 box) := (blk_cell hk3 0).trans rfl
  have hx4 : wa.cell? ⟨w.heap.size + 1, 1, none⟩ = some (.int .i64 (m : Int)) := (blk_cell hk3 1).trans rfl
  have HBA := Aside0.mk hba
  have BK4 := Aside0.mk hk4
  clear hwa hba hk2 hk3 hk4
  go_upto_region 2 with (go_at_call 142; refine (spec_l5Find.calls 3145800 (some ad) c0 ss box ((n : Int)) ((lf.length : Int) - 1) _ (Kd.C_below HR0.out HBA.out) HC0.out HFI.out).mono ?_; rintro e w1 ⟨rfl, hb⟩; replace hx2 := cell_below hx2 hb; replace hx3 := cell_below hx3 hb; replace hx4 := cell_below hx4 hb; have BK4b := Aside0.mk (blk_below BK4.out hb); have HBb := Aside0.mk (below_then HBA.out HBA.out.size hb); clear hb)
  clear BK4 HBA
  have hx5 : w1.cell? ⟨w.heap.size + 2, 0, none⟩ = some (.slice none 0 0) := (blk_cell BK4b.out 0).trans rfl
  have hf5 := blk_frozen BK4b.out 0
  have hcf := cell_below HCF.out HBb.out
  have hcm := cell_below HCM.out HBb.out
  go_wp2_with (go_at_call 162; refine (spec_l1In.calls _ _ _ true _ HIN.out).mono ?_; rintro e w2 ⟨rfl, ⟨⟨q1, rfl⟩⟩⟩)
  refine bodyPost_ret (results_ct rfl _ _ (w.heap.size + 2) 42 #[.slice (some ad) ss.length c0] (0, 0) _ rfl (blk_put (cs := #[.slice none 0 0]) (blk_drewN BK4b.out q1) 0 _ rfl) Try.underlying42 rfl (by kernel_rfl)) rfl ?_
  exact ⟨_, rfl, Kd.V_mono (Kd.V_below HVV.out ((pw_below_drewN HBb.out q1).setCell (p := ⟨w.heap.size + 2, 0, none⟩) (by show w.heap.size ≤ w.heap.size + 2; omega) _)) (fun _ h => .inl h), (pw_below_drewN HBb.out q1).setCell (p := ⟨w.heap.size + 2, 0, none⟩) (by show w.heap.size ≤ w.heap.size + 2; omega) _⟩
set_option maxHeartbeats 8000000 in
set_option maxRecDepth 100000 in
theorem sstep_move (A0 : Option Addr) (c0 : Nat) (ss : List (List Int)) (box : Int) (m : Nat) (w : World) (P : Nat → Prop) (hg : goodY ss = true) (hs0 : Kd.V (Kd.slice 3 (Kd.int .i64)) 24 w w.heap.size (fun k => P k) (.slice A0 ss.length c0) ss) (n : Nat) (hn : n < ss.length) (hp : 0 < (ss.getD n []).length) (he : findY box ss 0 = ((n : Int), (((ss.getD n []).length - 1 : Nat) : Int))) (hm : m < ss.length) (hmn : m ≠ n) (hfl : (ss.getD m []).length ≠ 4) :
    Calls Try.prog 169 #[.agg #[.slice A0 ss.length c0], .agg #[.int .i64 box, .int .i64 (m : Int)]] w fun e w' => ∃ v0_ : Value, e = .returned (.tuple #[.agg #[v0_], .bool true]) ∧ Kd.V (Kd.slice 3 (Kd.int .i64)) 24 w' w.heap.size (fun k => (P k ∨ w.heap.size ≤ k)) v0_ (moveL ss n m) ∧ Below w.heap.size w w' := by
  have hr0 := (Kd.V_reads' hs0).2.2
  have hc0 := (Kd.V_reads' hs0).2.1
  have HFI := Aside0.mk (l5Find_ends ss box (by have := goodY_len hg; omega) (by have := goodY_tot hg; omega) 3145800 (by omega))
  rw [he] at HFI
  have hlen := goodY_len hg
  have HC0 := Aside0.mk hc0
  have HG := Aside0.mk hg
  obtain ⟨ad, Af, cf, rfl, hcf, _, _⟩ := at_L2 hr0 (n : Int) (by omega) (by omega)
  rw [Int.toNat_natCast, rdL_nat] at hcf
  have d1 : decide ((n : Int) < 0) = false := decide_eq_false (by omega)
  have p1 : (0 ≤ (n : Int)) = True := eq_true (by omega)
  have p2 : ((n : Int) < (ss.length : Int)) = True := eq_true (by omega)
  have h4 := goodY_row hg n
  obtain ⟨lf, hlf⟩ : ∃ lf, ss.getD n [] = lf := ⟨_, rfl⟩
  rw [hlf] at hcf h4 hp
  have HLF := Aside0.mk hlf
  have HN := Aside0.mk hn
  have HCF := Aside0.mk hcf
  have p5 : wrap64 ((lf.length : Int) - 1) = (lf.length : Int) - 1 := w64 (by omega) (by omega)
  have ec : ((lf.length - 1 : Nat) : Int) = (lf.length : Int) - 1 := by omega
  have d2 : ((lf.length : Int) - 1 != ((lf.length : Int) - 1)) = false := bne_self_eq_false _
  rw [hlf, ec] at HFI
  have p3 : (0 ≤ (m : Int)) = True := eq_true (by omega)
  have p4 : ((m : Int) < (ss.length : Int)) = True := eq_true (by omega)
  have hm4 := goodY_row hg m
  obtain ⟨ad', Am, cm, ea, hcm, _, _⟩ := at_L2 hr0 (m : Int) (by omega) (by omega)
  cases ea
  rw [Int.toNat_natCast, rdL_nat] at hcm
  obtain ⟨lm, hlm⟩ : ∃ lm, ss.getD m [] = lm := ⟨_, rfl⟩
  rw [hlm] at hcm hm4 hfl
  have HCM := Aside0.mk hcm
  have HLM := Aside0.mk hlm
  have HM := Aside0.mk hm
  clear hcm hlm
  have HIN := Aside0.mk (show spec_l1In.f (m : Int) 0 ((ss.length : Int) - 1) = some true by rw [l1In_ends, show inB (m : Int) 0 ((ss.length : Int) - 1) = true from by rw [inB_iff]; omega])
  have p6 : wrap64 ((ss.length : Int) - 1) = (ss.length : Int) - 1 := w64 (by omega) (by omega)
  have d3 : ((m : Int) == -1) = false := beq_eq_false_iff_ne.2 (by omega)
  have d4 : ((m : Int) == (n : Int)) = false := beq_eq_false_iff_ne.2 (by omega)
  have HMV := Aside0.mk (l5Move_good hg n m hn hm (by rw [hlf]; exact hp) 200 (by omega))
  have d5 : ((lm.length : Int) == 4) = false := beq_eq_false_iff_ne.2 (by omega)
  have d6 : (lm.length == 4) = false := beq_eq_false_iff_ne.2 hfl
  clear hcf hlf hn h4 hp hm hmn hfl hm4
  have HVV := Aside0.mk hs0
  have HR0 := Aside0.mk hr0
  clear hg hr0 hc0 he hlen hs0
  go_enter Try.func169, Try.ntmps169
  go_upto_region 1 with (fail)
  generalize hwa : ((w.alloc (Obj.cells #[Value.slice (some ad) ss.length c0] 42)).alloc (Obj.cells #[Value.int .i64 box, Value.int .i64 (m : Int)] 138)).alloc (Obj.cells #[Value.slice none 0 0] 42) = wa
  have hba : Below w.heap.size w wa := by rw [← hwa]; exact below_alloc (below_alloc (below_alloc (Below.refl _ _) _) _) _
  have hk2 : wa.heap[w.heap.size]? = some (.cells #[.slice (some ad) ss.length c0] 42 (0, 0)) := by rw [← hwa]; exact blk_alloc (blk_alloc (blk_new _ _) _) _
  have hk3 : wa.heap[w.heap.size + 1]? = some (.cells #[.int .i64 box, .int .i64 (m : Int)] 138 (0, 0)) := by rw [← hwa]; have h := blk_new (w.alloc (Obj.cells #[Value.slice (some ad) ss.length c0] 42)) (Obj.cells #[Value.int .i64 box, Value.int .i64 (m : Int)] 138); exact blk_alloc (by simpa using h) _
  have hk4 : wa.heap[w.heap.size + 2]? = some (.cells #[.slice none 0 0] 42 (0, 0)) := by rw [← hwa]; have h := blk_new ((w.alloc (Obj.cells #[Value.slice (some ad) ss.length c0] 42)).alloc (Obj.cells #[Value.int .i64 box, Value.int .i64 (m : Int)] 138)) (Obj.cells #[Value.slice none 0 0] 42); simpa using h
  have hx2 : wa.cell? ⟨w.heap.size, 0, none⟩ = some (.slice (some ad) ss.length c0) := (blk_cell hk2 0).trans rfl
  have hx3 : wa.cell? ⟨w.heap.size + 1, 0, none⟩ = some (.int .i64 box) := (blk_cell hk3 0).trans rfl
  have hx4 : wa.cell? ⟨w.heap.size + 1, 1, none⟩ = some (.int .i64 (m : Int)) := (blk_cell hk3 1).trans rfl
  have HBA := Aside0.mk hba
  have BK4 := Aside0.mk hk4
  clear hwa hba hk2 hk3 hk4
  go_upto_region 2 with (go_at_call 142; refine (spec_l5Find.calls 3145800 (some ad) c0 ss box ((n : Int)) ((lf.length : Int) - 1) _ (Kd.C_below HR0.out HBA.out) HC0.out HFI.out).mono ?_; rintro e w1 ⟨rfl, hb⟩; replace hx2 := cell_below hx2 hb; replace hx3 := cell_below hx3 hb; replace hx4 := cell_below hx4 hb; have BK4b := Aside0.mk (blk_below BK4.out hb); have HBb := Aside0.mk (below_then HBA.out HBA.out.size hb); clear hb)
  clear BK4 HBA
  have hx5 : w1.cell? ⟨w.heap.size + 2, 0, none⟩ = some (.slice none 0 0) := (blk_cell BK4b.out 0).trans rfl
  have hf5 := blk_frozen BK4b.out 0
  have hcf := cell_below HCF.out HBb.out
  have hcm := cell_below HCM.out HBb.out
  go_wp2_with (first | (go_at_call 162; refine (spec_l1In.calls _ _ _ true _ HIN.out).mono ?_; rintro e w2 ⟨rfl, ⟨⟨q1, rfl⟩⟩⟩) | (go_at_call 105; refine (spec_l5Move.calls 200 (some ad) c0 ss (n : Int) (m : Int) (moveL ss n m) _ (Kd.C_below HR0.out (pw_below_drewN HBb.out q1)) HC0.out HMV.out).mono ?_; rintro e w4 ⟨v4, rfl, hs, hb⟩; have HBE := Aside0.mk (below_then (pw_below_drewN HBb.out q1) (pw_below_drewN HBb.out q1).size hb); have BKE := Aside0.mk (blk_below (blk_drewN BK4b.out q1) hb); have HSE := Aside0.mk (Kd.S_types (Kd.S_lower hs (pw_below_drewN HBb.out q1).size) BKE.out (by decide)); clear hs hb; obtain ⟨A4, c4, rfl⟩ := Kd.S_slice HSE.out; have hx5e : w4.cell? ⟨w.heap.size + 2, 0, none⟩ = some (.slice none 0 0) := (blk_cell BKE.out 0).trans rfl; have hf5e := blk_frozen BKE.out 0))
  refine bodyPost_ret (results_ct rfl _ _ (w.heap.size + 2) 42 #[.slice A4 (moveL ss n m).length c4] (0, 0) _ rfl (blk_put (cs := #[.slice none 0 0]) BKE.out 0 _ rfl) Try.underlying42 rfl (by kernel_rfl)) rfl ?_
  have hS := Kd.S_far (p := ⟨w.heap.size + 2, 0, none⟩) HSE.out (fun _ hk => hk.2) (.slice A4 (moveL ss n m).length c4)
  exact ⟨_, rfl, Kd.V_mono (Kd.S_V (Kd.S_bound hS)) (fun _ h => .inr h.2.1), HBE.out.setCell (p := ⟨w.heap.size + 2, 0, none⟩) (by show w.heap.size ≤ w.heap.size + 2; omega) _⟩
set_option maxHeartbeats 8000000 in
set_option maxRecDepth 100000 in
theorem sstep_take (A0 : Option Addr) (c0 : Nat) (ss : List (List Int)) (box : Int) (w : World) (P : Nat → Prop) (hg : goodY ss = true) (hs0 : Kd.V (Kd.slice 3 (Kd.int .i64)) 24 w w.heap.size (fun k => P k) (.slice A0 ss.length c0) ss) (n : Nat) (hn : n < ss.length) (hp : 0 < (ss.getD n []).length) (he : findY box ss 0 = ((n : Int), (((ss.getD n []).length - 1 : Nat) : Int))) :
    Calls Try.prog 169 #[.agg #[.slice A0 ss.length c0], .agg #[.int .i64 box, .int .i64 (-1)]] w fun e w' => ∃ v0_ : Value, e = .returned (.tuple #[.agg #[v0_], .bool true]) ∧ Kd.V (Kd.slice 3 (Kd.int .i64)) 24 w' w.heap.size (fun k => (P k ∨ w.heap.size ≤ k)) v0_ (cutL ss n) ∧ Below w.heap.size w w' := by
  have hr0 := (Kd.V_reads' hs0).2.2
  have hc0 := (Kd.V_reads' hs0).2.1
  have HFI := Aside0.mk (l5Find_ends ss box (by have := goodY_len hg; omega) (by have := goodY_tot hg; omega) 3145800 (by omega))
  rw [he] at HFI
  have hlen := goodY_len hg
  have HC0 := Aside0.mk hc0
  have HG := Aside0.mk hg
  obtain ⟨ad, Af, cf, rfl, hcf, _, _⟩ := at_L2 hr0 (n : Int) (by omega) (by omega)
  rw [Int.toNat_natCast, rdL_nat] at hcf
  have d1 : decide ((n : Int) < 0) = false := decide_eq_false (by omega)
  have p1 : (0 ≤ (n : Int)) = True := eq_true (by omega)
  have p2 : ((n : Int) < (ss.length : Int)) = True := eq_true (by omega)
  have h4 := goodY_row hg n
  obtain ⟨lf, hlf⟩ : ∃ lf, ss.getD n [] = lf := ⟨_, rfl⟩
  rw [hlf] at hcf h4 hp
  have HLF := Aside0.mk hlf
  have HN := Aside0.mk hn
  have HCF := Aside0.mk hcf
  have p5 : wrap64 ((lf.length : Int) - 1) = (lf.length : Int) - 1 := w64 (by omega) (by omega)
  have ec : ((lf.length - 1 : Nat) : Int) = (lf.length : Int) - 1 := by omega
  have d2 : (((lf.length - 1 : Nat) : Int) != ((lf.length : Int) - 1)) = false := by rw [ec]; exact bne_self_eq_false _
  rw [hlf] at HFI
  have d3 : ((-1 : Int) == -1) = true := by decide
  have p7 : (0 ≤ (lf.length : Int) - 1) = True := eq_true (by omega)
  have HOW := Aside0.mk (own_ends ss hg 200 (by omega)).1
  clear hcf hlf hn h4 hp 
  have HVV := Aside0.mk hs0
  have HR0 := Aside0.mk hr0
  clear hg hr0 hc0 he hlen hs0
  go_enter Try.func169, Try.ntmps169
  go_upto_region 1 with (fail)
  generalize hwa : ((w.alloc (Obj.cells #[Value.slice (some ad) ss.length c0] 42)).alloc (Obj.cells #[Value.int .i64 box, Value.int .i64 (-1)] 138)).alloc (Obj.cells #[Value.slice none 0 0] 42) = wa
  have hba : Below w.heap.size w wa := by rw [← hwa]; exact below_alloc (below_alloc (below_alloc (Below.refl _ _) _) _) _
  have hk2 : wa.heap[w.heap.size]? = some (.cells #[.slice (some ad) ss.length c0] 42 (0, 0)) := by rw [← hwa]; exact blk_alloc (blk_alloc (blk_new _ _) _) _
  have hk3 : wa.heap[w.heap.size + 1]? = some (.cells #[.int .i64 box, .int .i64 (-1)] 138 (0, 0)) := by rw [← hwa]; have h := blk_new (w.alloc (Obj.cells #[Value.slice (some ad) ss.length c0] 42)) (Obj.cells #[Value.int .i64 box, Value.int .i64 (-1)] 138); exact blk_alloc (by simpa using h) _
  have hk4 : wa.heap[w.heap.size + 2]? = some (.cells #[.slice none 0 0] 42 (0, 0)) := by rw [← hwa]; have h := blk_new ((w.alloc (Obj.cells #[Value.slice (some ad) ss.length c0] 42)).alloc (Obj.cells #[Value.int .i64 box, Value.int .i64 (-1)] 138)) (Obj.cells #[Value.slice none 0 0] 42); simpa using h
  have hx2 : wa.cell? ⟨w.heap.size, 0, none⟩ = some (.slice (some ad) ss.length c0) := (blk_cell hk2 0).trans rfl
  have hx3 : wa.cell? ⟨w.heap.size + 1, 0, none⟩ = some (.int .i64 box) := (blk_cell hk3 0).trans rfl
  have hx4 : wa.cell? ⟨w.heap.size + 1, 1, none⟩ = some (.int .i64 (-1)) := (blk_cell hk3 1).trans rfl
  have HBA := Aside0.mk hba
  have BK4 := Aside0.mk hk4
  clear hwa hba hk2 hk3 hk4
  go_upto_region 2 with (go_at_call 142; refine (spec_l5Find.calls 3145800 (some ad) c0 ss box ((n : Int)) (((lf.length - 1 : Nat) : Int)) _ (Kd.C_below HR0.out HBA.out) HC0.out HFI.out).mono ?_; rintro e w1 ⟨rfl, hb⟩; replace hx2 := cell_below hx2 hb; replace hx3 := cell_below hx3 hb; replace hx4 := cell_below hx4 hb; have BK4b := Aside0.mk (blk_below BK4.out hb); have HBb := Aside0.mk (below_then HBA.out HBA.out.size hb); clear hb)
  clear BK4 HBA
  have hx5 : w1.cell? ⟨w.heap.size + 2, 0, none⟩ = some (.slice none 0 0) := (blk_cell BK4b.out 0).trans rfl
  have hf5 := blk_frozen BK4b.out 0
  have hcf := cell_below HCF.out HBb.out
  go_upto_region 6 with (go_at_call 115; refine (spec_l5Own.calls 200 (some ad) c0 ss ss _ (Kd.C_below HR0.out HBb.out) HC0.out HOW.out).mono ?_; rintro e w2 ⟨v1, rfl, hs, hb⟩; have HS2 := Aside0.mk (Kd.S_lower hs HBb.out.size); have BK4c := Aside0.mk (blk_below BK4b.out hb); have HB2 := Aside0.mk (below_then HBb.out HBb.out.size hb); clear hs hb; obtain ⟨g, c1, rfl, hgb, _, _⟩ := Kd.S_form HS2.out (by have := HN.out; omega); have HGB := Aside0.mk hgb; clear hgb)
  clear hx2 hx3 hx4 hx5 hf5 hcf
  have hk8 := blk_new w2 (Obj.cells #[Value.slice (some ⟨g, 0, none⟩) ss.length c1] 42)
  have hs8 := Kd.S_types (Kd.S_types (Kd.S_alloc HS2.out (Obj.cells #[Value.slice (some ⟨g, 0, none⟩) ss.length c1] 42)) hk8 (by decide)) (blk_alloc BK4c.out (Obj.cells #[Value.slice (some ⟨g, 0, none⟩) ss.length c1] 42)) (by decide)
  have hk4 := blk_alloc BK4c.out (Obj.cells #[Value.slice (some ⟨g, 0, none⟩) ss.length c1] 42)
  have hb8 := below_alloc HB2.out (Obj.cells #[Value.slice (some ⟨g, 0, none⟩) ss.length c1] 42)
  clear HS2 BK4c HB2 BK4b
  generalize w2.heap.size = n8 at hk8 hs8 ⊢
  generalize w2.alloc (Obj.cells #[Value.slice (some ⟨g, 0, none⟩) ss.length c1] 42) = w6 at hk8 hs8 hk4 hb8 ⊢
  have HS6 := Aside0.mk hs8
  have BK8 := Aside0.mk hk8
  have BK4c := Aside0.mk hk4
  have HB6 := Aside0.mk hb8
  have hx8 : w6.cell? ⟨n8, 0, none⟩ = some (.slice (some ⟨g, 0, none⟩) ss.length c1) := (blk_cell hk8 0).trans rfl
  obtain ⟨Ag, cg, hcg, hff, hgc⟩ := S_row hs8 n HN.out
  rw [HLF.out] at hcg hgc
  have p8 : ((lf.length : Int) - 1 ≤ (cg : Int)) = True := eq_true (by omega)
  clear hs8 hk8 hk4 hb8
  refine start_ (n := 12) (S := fun w' => w'.cell? ⟨n8, 0, none⟩ = some (.slice (some ⟨g, 0, none⟩) ss.length c1) ∧ w'.cell? ⟨g, n, none⟩ = some (.slice Ag lf.length cg)) (ds := [11]) #[false, false, false, false, false, false, false, false, false, false, false, false] (by kernel_rfl) rfl rfl ⟨hx8, hcg⟩ (fun hHeld => ?_)
  replace hff : (w6.drew).frozen? ⟨g, n, none⟩ = false := hff
  replace HS6 := Aside0.mk (Kd.S_drew HS6.out)
  replace HB6 := Aside0.mk (below_drew1 HB6.out)
  replace BK8 := Aside0.mk (blk_drew BK8.out)
  replace BK4c := Aside0.mk (blk_drew BK4c.out)
  clear hcg hx8
  generalize w6.drew = w7 at HS6 HB6 BK8 BK4c hff hHeld ⊢
  refine pure_ (i := 0) (N := some 35) (v := ?_) (a' := ?_) #[true, false, false, false, false, false, false, false, false, false, false, false] rfl rfl (by kernel_rfl) (fun _ _ _ h => h) (Or.inl ⟨by rfl, ?_⟩) ?_ ?_
  rotate_left
  · intro w'
    go_simp
    with_reducible rfl
  rotate_left
  · simp only [Act.put, List.setIfInBounds_toArray, List.set_cons_zero, List.set_cons_succ, i64_w, i32_w]
    rfl
  refine take_ (i := 1) (N := some 36) (v := ?_) (a' := ?_) #[true, true, false, false, false, false, false, false, false, false, false, false] rfl rfl (by kernel_rfl) (fun _ _ _ h => h) (Or.inl ⟨by rfl, ?_⟩) hHeld ?_ ?_
  rotate_left
  · rintro w' ⟨s0, s1⟩
    go_simp
    with_reducible rfl
  rotate_left
  · simp only [Act.put, List.setIfInBounds_toArray, List.set_cons_zero, List.set_cons_succ, i64_w, i32_w]
    rfl
  refine pure_ (i := 2) (N := some 37) (v := ?_) (a' := ?_) #[true, true, true, false, false, false, false, false, false, false, false, false] rfl rfl (by kernel_rfl) (fun _ _ _ h => h) (Or.inl ⟨by rfl, ?_⟩) ?_ ?_
  rotate_left
  · intro w'
    go_simp
    with_reducible rfl
  rotate_left
  · simp only [Act.put, List.setIfInBounds_toArray, List.set_cons_zero, List.set_cons_succ, i64_w, i32_w]
    rfl
  refine pure_ (i := 3) (N := some 38) (v := ?_) (a' := ?_) #[true, true, true, true, false, false, false, false, false, false, false, false] rfl rfl (by kernel_rfl) (fun _ _ _ h => h) (Or.inl ⟨by rfl, ?_⟩) ?_ ?_
  rotate_left
  · intro w'
    go_simp
    with_reducible rfl
  rotate_left
  · simp only [Act.put, List.setIfInBounds_toArray, List.set_cons_zero, List.set_cons_succ, i64_w, i32_w]
    rfl
  refine take_ (i := 4) (N := some 39) (v := ?_) (a' := ?_) #[true, true, true, true, true, false, false, false, false, false, false, false] rfl rfl (by kernel_rfl) (fun _ _ _ h => h) (Or.inl ⟨by rfl, ?_⟩) hHeld ?_ ?_
  rotate_left
  · rintro w' ⟨s0, s1⟩
    go_simp
    with_reducible rfl
  rotate_left
  · simp only [Act.put, List.setIfInBounds_toArray, List.set_cons_zero, List.set_cons_succ, i64_w, i32_w]
    rfl
  refine pure_ (i := 5) (N := some 40) (v := ?_) (a' := ?_) #[true, true, true, true, true, true, false, false, false, false, false, false] rfl rfl (by kernel_rfl) (fun _ _ _ h => h) (Or.inl ⟨by rfl, ?_⟩) ?_ ?_
  rotate_left
  · intro w'
    go_simp
    with_reducible rfl
  rotate_left
  · simp only [Act.put, List.setIfInBounds_toArray, List.set_cons_zero, List.set_cons_succ, i64_w, i32_w]
    rfl
  refine pure_ (i := 6) (N := some 41) (v := ?_) (a' := ?_) #[true, true, true, true, true, true, true, false, false, false, false, false] rfl rfl (by kernel_rfl) (fun _ _ _ h => h) (Or.inl ⟨by rfl, ?_⟩) ?_ ?_
  rotate_left
  · intro w'
    go_simp
    with_reducible rfl
  rotate_left
  · simp only [Act.put, List.setIfInBounds_toArray, List.set_cons_zero, List.set_cons_succ, i64_w, i32_w]
    rfl
  refine take_ (i := 7) (N := some 42) (v := ?_) (a' := ?_) #[true, true, true, true, true, true, true, true, false, false, false, false] rfl rfl (by kernel_rfl) (fun _ _ _ h => h) (Or.inl ⟨by rfl, ?_⟩) hHeld ?_ ?_
  rotate_left
  · rintro w' ⟨s0, s1⟩
    go_simp
    with_reducible rfl
  rotate_left
  · simp only [Act.put, List.setIfInBounds_toArray, List.set_cons_zero, List.set_cons_succ, i64_w, i32_w]
    rfl
  refine pure_ (i := 8) (N := some 43) (v := ?_) (a' := ?_) #[true, true, true, true, true, true, true, true, true, false, false, false] rfl rfl (by kernel_rfl) (fun _ _ _ h => h) (Or.inl ⟨by rfl, ?_⟩) ?_ ?_
  rotate_left
  · intro w'
    go_simp
    with_reducible rfl
  rotate_left
  · simp only [Act.put, List.setIfInBounds_toArray, List.set_cons_zero, List.set_cons_succ, i64_w, i32_w]
    rfl
  refine pure_ (i := 9) (N := some 44) (v := ?_) (a' := ?_) #[true, true, true, true, true, true, true, true, true, true, false, false] rfl rfl (by kernel_rfl) (fun _ _ _ h => h) (Or.inl ⟨by rfl, ?_⟩) ?_ ?_
  rotate_left
  · intro w'
    go_simp
    rw [if_pos (by first | omega | (constructor <;> omega))]
  rotate_left
  · simp only [Act.put, List.setIfInBounds_toArray, List.set_cons_zero, List.set_cons_succ, i64_w, i32_w]
    rfl
  refine pure_ (i := 10) (N := some 45) (v := ?_) (a' := ?_) #[true, true, true, true, true, true, true, true, true, true, true, false] rfl rfl (by kernel_rfl) (fun _ _ _ h => h) (Or.inl ⟨by rfl, ?_⟩) ?_ ?_
  rotate_left
  · intro w'
    go_simp
    with_reducible rfl
  rotate_left
  · simp only [Act.put, List.setIfInBounds_toArray, List.set_cons_zero, List.set_cons_succ, i64_w, i32_w]
    rfl
  refine last_ (i := 11) (N := none) #[true, true, true, true, true, true, true, true, true, true, true, true] rfl rfl (by kernel_rfl) (by decide) (fun K hK => ?_)
  refine skip_ (w1 := ?_) (by rfl) rfl ?_ ?_
  rotate_left
  · go_simp
    rfl
  refine hK.out _ _ ?_
  clear hK K
  refine done_ (by kernel_rfl) ?_
  have hP4 := S_cut_row HS6.out (n : Int) (by omega) (by have := HN.out; omega) (lf.length - 1) (by show _ ≤ (ss.getD n []).length; rw [HLF.out]; omega) hHeld.2 (lf.take (lf.length - 1)) (by show _ = (ss.getD n []).take _; rw [HLF.out])
  rw [show (lf.take (lf.length - 1)).length = lf.length - 1 by rw [List.length_take]; omega, Int.toNat_natCast, show ss.set n (lf.take (lf.length - 1)) = cutL ss n by unfold cutL; rw [HLF.out]] at hP4
  have HN8 := Aside0.mk (show n8 ≠ g from fun e => Kd.R_ne (Kd.S_R HS6.out) BK8.out (by decide) (by rw [e]; rfl))
  have HN4 := Aside0.mk (show w.heap.size + 2 ≠ g from fun e => Kd.R_ne (Kd.S_R HS6.out) BK4c.out (by decide) (by rw [e]; rfl))
  have BK8E := Aside0.mk (blk_far BK8.out (p := ⟨g, n, none⟩) HN8.out (.slice Ag (lf.length - 1) cg))
  have BKE := Aside0.mk (blk_far BK4c.out (p := ⟨g, n, none⟩) HN4.out (.slice Ag (lf.length - 1) cg))
  have HBE := Aside0.mk (HB6.out.setCell (p := ⟨g, n, none⟩) HGB.out (.slice Ag (lf.length - 1) cg))
  have HSE := Aside0.mk (Kd.S_types hP4 BKE.out (by decide))
  clear HS6 HB6 hP4 hHeld hff BK8 BK4c
  generalize w7.setCell ⟨g, n, none⟩ (.slice Ag (lf.length - 1) cg) = w8 at HSE HBE BK8E BKE ⊢
  have hx8 : w8.cell? ⟨n8, 0, none⟩ = some (.slice (some ⟨g, 0, none⟩) ss.length c1) := (blk_cell BK8E.out 0).trans rfl
  have hx5e : w8.cell? ⟨w.heap.size + 2, 0, none⟩ = some (.slice none 0 0) := (blk_cell BKE.out 0).trans rfl
  have hf5e := blk_frozen BKE.out 0
  have HCL := Aside0.mk (show (cutL ss n).length = ss.length by unfold cutL; rw [List.length_set])
  go_wp2
  refine bodyPost_ret (results_ct rfl _ _ (w.heap.size + 2) 42 #[.slice (some ⟨g, 0, none⟩) ss.length c1] (0, 0) _ rfl (blk_put (cs := #[.slice none 0 0]) BKE.out 0 _ rfl) Try.underlying42 rfl (by kernel_rfl)) rfl ?_
  have hS := Kd.S_far (p := ⟨w.heap.size + 2, 0, none⟩) HSE.out (fun _ hk => hk.2) (.slice (some ⟨g, 0, none⟩) ss.length c1)
  exact ⟨_, rfl, Kd.V_mono (Kd.S_V (Kd.S_bound hS)) (fun _ h => .inr h.2.1), HBE.out.setCell (p := ⟨w.heap.size + 2, 0, none⟩) (by show w.heap.size ≤ w.heap.size + 2; omega) _⟩
set_option maxHeartbeats 8000000 in
set_option maxRecDepth 100000 in
theorem sstep_walk (A0 : Option Addr) (c0 : Nat) (ss : List (List Int)) (box tg : Int) (w : World) (P : Nat → Prop) (hg : goodY ss = true) (hs0 : Kd.V (Kd.slice 3 (Kd.int .i64)) 24 w w.heap.size (fun k => P k) (.slice A0 ss.length c0) ss) :
    Calls Try.prog 169 #[.agg #[.slice A0 ss.length c0], .agg #[.int .i64 box, .int .i64 tg]] w fun e w' => ∃ v0_ : Value, e = .returned (.tuple #[.agg #[v0_], .bool (stepA ss box tg).2]) ∧ Kd.V (Kd.slice 3 (Kd.int .i64)) 24 w' w.heap.size (fun k => (P k ∨ w.heap.size ≤ k)) v0_ ((stepA ss box tg).1) ∧ Below w.heap.size w w' := by
  have key : ∀ (r : List (List Int)) (b : Bool), stepA ss box tg = (r, b) → (Calls Try.prog 169 #[.agg #[.slice A0 ss.length c0], .agg #[.int .i64 box, .int .i64 tg]] w fun e w' => ∃ v0_ : Value, e = .returned (.tuple #[.agg #[v0_], .bool b]) ∧ Kd.V (Kd.slice 3 (Kd.int .i64)) 24 w' w.heap.size (fun k => (P k ∨ w.heap.size ≤ k)) v0_ (r) ∧ Below w.heap.size w w') → Calls Try.prog 169 #[.agg #[.slice A0 ss.length c0], .agg #[.int .i64 box, .int .i64 tg]] w fun e w' => ∃ v0_ : Value, e = .returned (.tuple #[.agg #[v0_], .bool (stepA ss box tg).2]) ∧ Kd.V (Kd.slice 3 (Kd.int .i64)) 24 w' w.heap.size (fun k => (P k ∨ w.heap.size ≤ k)) v0_ ((stepA ss box tg).1) ∧ Below w.heap.size w w' := by
    intro r b e h
    rw [e]
    exact h
  have h6 := goodY_len hg
  rcases findY_rng box ss 0 with e | ⟨n, t, e, hn, ht⟩
  · exact key ss false (by unfold stepA; rw [e]; rfl) (sstep_none A0 c0 ss box tg w P hg hs0 e)
  · rw [Int.zero_add] at e
    have hn0 : ¬ (n : Int) < 0 := by omega
    have hs : stepA ss box tg = if (t : Int) ≠ ((ss.getD n []).length : Int) - 1 then (ss, false) else if tg = -1 then (cutL ss n, true) else if inB tg 0 ((ss.length : Int) - 1) = false ∨ tg = (n : Int) ∨ (ss.getD tg.toNat []).length = 4 then (ss, false) else (moveL ss n tg.toNat, true) := by
      unfold stepA
      rw [e]
      dsimp only
      rw [if_neg hn0, Int.toNat_natCast]
    by_cases h1 : t + 1 = (ss.getD n []).length
    · have e' : findY box ss 0 = ((n : Int), (((ss.getD n []).length - 1 : Nat) : Int)) := by rw [e, show (ss.getD n []).length - 1 = t by omega]
      rw [if_neg (by omega)] at hs
      by_cases h2 : tg = -1
      · subst h2
        rw [if_pos rfl] at hs
        exact key _ _ hs (sstep_take A0 c0 ss box w P hg hs0 n hn (by omega) e')
      · rw [if_neg h2] at hs
        by_cases h3 : inB tg 0 ((ss.length : Int) - 1) = true
        · obtain ⟨m, rfl⟩ : ∃ m : Nat, tg = m := ⟨tg.toNat, by rw [inB_iff] at h3; omega⟩
          have hm : m < ss.length := by rw [inB_iff] at h3; omega
          rw [Int.toNat_natCast] at hs
          by_cases h4 : m = n
          · rw [if_pos (.inr (.inl (by rw [h4])))] at hs
            exact key _ _ hs (sstep_same A0 c0 ss box (m : Int) w P hg hs0 n hn (by omega) e' (by rw [h4]))
          · by_cases h5 : (ss.getD m []).length = 4
            · rw [if_pos (.inr (.inr h5))] at hs
              exact key _ _ hs (sstep_full A0 c0 ss box m w P hg hs0 n hn (by omega) e' hm h4 h5)
            · rw [if_neg (by rw [h3]; intro h; rcases h with h | h | h; (· cases h); (· exact h4 (by omega)); exact h5 h)] at hs
              exact key _ _ hs (sstep_move A0 c0 ss box m w P hg hs0 n hn (by omega) e' hm h4 h5)
        · have h3' : inB tg 0 ((ss.length : Int) - 1) = false := by simpa using h3
          rw [if_pos (.inl h3')] at hs
          exact key _ _ hs (sstep_off A0 c0 ss box tg w P hg hs0 n hn (by omega) e' h2 h3')
    · rw [if_pos (by omega)] at hs
      exact key _ _ hs (sstep_under A0 c0 ss box tg w P hg hs0 n t hn ht e h1)
def spec_l6Step.f (k : Nat) (l0_0 : List (List Int)) (a1_0 : Int) (a1_1 : Int) : Option ((List (List Int)) × Bool) := if goodY l0_0 = true then some (stepA l0_0 a1_0 a1_1) else none
theorem spec_l6Step.mono : ∀ a0 a1 a2 k, LeO (spec_l6Step.f k a0 a1 a2) (spec_l6Step.f (k + 1) a0 a1 a2) := fun _ _ _ _ => LeO.refl _
theorem spec_l6Step.calls (k : Nat) (P0_0_ : Nat → Prop) (A0_0 : Option Addr) (c0_0 : Nat) (l0_0 : List (List Int)) (a1_0 : Int) (a1_1 : Int) (r1 : List (List Int)) (r2 : Bool) (w : World) (hs0_0 : Kd.V (Kd.slice 3 (Kd.int .i64)) 24 w w.heap.size (fun k_ => P0_0_ k_) (.slice A0_0 l0_0.length c0_0) l0_0) (h : spec_l6Step.f k l0_0 a1_0 a1_1 = some (r1, r2)) :
    Calls Try.prog 169 #[.agg #[.slice A0_0 l0_0.length c0_0], .agg #[.int .i64 a1_0, .int .i64 a1_1]] w fun e w' => ∃ v0_ : Value, e = .returned (.tuple #[.agg #[v0_], .bool r2]) ∧ Kd.V (Kd.slice 3 (Kd.int .i64)) 24 w' w.heap.size (fun k_ => (P0_0_ k_ ∨ w.heap.size ≤ k_)) v0_ r1 ∧ Below w.heap.size w w' := by
  unfold spec_l6Step.f at h
  split at h
  · rename_i hg
    have h2 := sstep_walk A0_0 c0_0 l0_0 a1_0 a1_1 w P0_0_ hg hs0_0
    rw [Option.some.inj h] at h2
    exact h2
  · cases h
end Go.Proofs.Ytlldonokjgoajaa.X
