/- The spec's l5Move, walked: a copy of the yard, the top of a row put onto another row. -/
import Derived.Test.YtlldonokjgoajaaGmoveTop
import Derived.Test.YtlldonokjgoajaaFbYard
import Derived.Test.YtlldonokjgoajaaFspecl1Own
namespace Go.Proofs.Ytlldonokjgoajaa.X
open Go.RowKit Go.Lib Go.Proofs.YtlldonokjgoajaaW.PrintWords Go.Proofs.YtlldonokjgoajaaW.PrintLast Go.Proofs.YtlldonokjgoajaaW.PrintMore
set_option linter.unusedVariables false
set_option linter.unusedSimpArgs false
set_option maxHeartbeats 8000000 in
set_option maxRecDepth 100000 in
theorem l5Move_walk (k : Nat) (A0 : Option Addr) (c0 : Nat) (l0 ss : List (List Int)) (f t : Nat) (w : World) (hr0 : Kd.C (Kd.slice 3 (Kd.int .i64)) w A0 l0.length l0) (hc0 : l0.length ≤ c0) (ho : spec_l5Own.f k l0 = some ss)
    (hf : f < ss.length) (ht : t < ss.length) (hp : 0 < (ss.getD f []).length) (hlf : (ss.getD f []).length ≤ 1000000) (hlt : ((cutL ss f).getD t []).length ≤ 1000000) :
    Calls Try.prog 105 #[.agg #[.slice A0 l0.length c0], .int .i64 f, .int .i64 t] w fun e w' => ∃ v0_ : Value, e = .returned (.agg #[v0_]) ∧ Kd.S (Kd.slice 3 (Kd.int .i64)) 24 w' w.heap.size (fun _ => True) v0_ (moveL ss f t) ∧ Below w.heap.size w w' := by
  have HR0 := Aside0.mk hr0
  have HC0 := Aside0.mk hc0
  have HOW := Aside0.mk ho
  have HF := Aside0.mk hf
  have HTT := Aside0.mk ht
  have HP0 := Aside0.mk hp
  have HLF0 := Aside0.mk hlf
  have HLT := Aside0.mk hlt
  clear hr0 hc0 ho hf ht hp hlf hlt
  go_enter Try.func105, Try.ntmps105
  go_upto_region 1 with (fail)
  generalize hwa : (w.alloc (Obj.cells #[Value.slice A0 l0.length c0] 42)).alloc (Obj.cells #[Value.slice none 0 0] 42) = wa
  have hsz : wa.heap.size = w.heap.size + 2 := by rw [← hwa]; simp
  have hba : Below w.heap.size w wa := by rw [← hwa]; exact below_alloc (below_alloc (Below.refl _ _) _) _
  have hk3 : wa.heap[w.heap.size]? = some (.cells #[.slice A0 l0.length c0] 42 (0, 0)) := by rw [← hwa]; exact blk_alloc (blk_new _ _) _
  have hk6 : wa.heap[w.heap.size + 1]? = some (.cells #[.slice none 0 0] 42 (0, 0)) := by rw [← hwa]; have h := blk_new (w.alloc (Obj.cells #[Value.slice A0 l0.length c0] 42)) (Obj.cells #[Value.slice none 0 0] 42); simpa using h
  have hx3 : wa.cell? ⟨w.heap.size, 0, none⟩ = some (.slice A0 l0.length c0) := (blk_cell hk3 0).trans rfl
  have BK6 := Aside0.mk hk6
  have HRA := Aside0.mk (Kd.C_below HR0.out hba)
  have HB := Aside0.mk hba
  have HSZ := Aside0.mk hsz
  clear hwa hsz hba hk3 hk6
  go_upto_region 2 with (go_at_call 115; refine (spec_l5Own.calls k A0 c0 l0 ss _ HRA.out HC0.out HOW.out).mono ?_; rintro e w1 ⟨v1, rfl, hs, hb⟩; have HS := Aside0.mk (Kd.S_lower hs HB.out.size); have BK6b := Aside0.mk (blk_below BK6.out hb); replace HB := Aside0.mk (below_then HB.out HB.out.size hb); have HSZ1 := Aside0.mk hb.size; clear hs hb hx3 BK6 HRA; obtain ⟨g, c1, rfl, hgb, hgl, _⟩ := Kd.S_form HS.out (by have := HF.out; omega); have HGB := Aside0.mk hgb; have HGL := Aside0.mk hgl; clear hgb hgl)
  have hk7 := blk_new w1 (Obj.cells #[Value.slice (some ⟨g, 0, none⟩) ss.length c1] 42)
  have hs2 := Kd.S_types (Kd.S_alloc HS.out (Obj.cells #[Value.slice (some ⟨g, 0, none⟩) ss.length c1] 42)) hk7 (by decide)
  have hk6 := blk_alloc BK6b.out (Obj.cells #[Value.slice (some ⟨g, 0, none⟩) ss.length c1] 42)
  have hb2 := below_alloc HB.out (Obj.cells #[Value.slice (some ⟨g, 0, none⟩) ss.length c1] 42)
  have h27 : w.heap.size + 2 ≤ w1.heap.size := by have := HSZ.out; have := HSZ1.out; omega
  generalize hN7 : w1.heap.size = n7 at hs2 hk7 hk6 hb2 HGL h27 ⊢
  generalize w1.alloc (Obj.cells #[Value.slice (some ⟨g, 0, none⟩) ss.length c1] 42) = w2 at hs2 hk7 hk6 hb2 ⊢
  have HS2 := Aside0.mk hs2
  have BK7 := Aside0.mk hk7
  have BK6 := Aside0.mk hk6
  have HB2 := Aside0.mk hb2
  have H27 := Aside0.mk h27
  clear hs2 hk7 hk6 hb2 h27 HS BK6b HB HSZ1 HSZ hN7
  have hbx : w2.cell? ⟨n7, 0, none⟩ = some (.slice (some ⟨g, 0, none⟩) ss.length c1) := (blk_cell BK7.out 0).trans rfl
  have hf := HF.out
  have ht := HTT.out
  obtain ⟨okf, cef, hclf, hMf, hccf, hfrf, hokf, hHf⟩ := Kd.S_elem HS2.out ([] : List Int) (f : Int) (by omega) (by omega)
  obtain ⟨vf, rfl, hRf⟩ := hMf
  have hcf := hccf 0 _ rfl
  have hff := hfrf 0
  simp only [show (Kd.slice 3 (Kd.int .i64)).sz = 1 from rfl, Nat.mul_one, Nat.add_zero, Int.toNat_natCast] at hcf hff hRf
  obtain ⟨lf, hlfe⟩ : ∃ lf, ss.getD f [] = lf := ⟨_, rfl⟩
  have hp := HP0.out
  have hlf := HLF0.out
  rw [hlfe] at hRf hp hlf
  obtain ⟨Af, cf, rfl⟩ := Kd.R_slice hRf
  have hRd := Kd.R_reads' hRf
  have hcap : lf.length ≤ cf := hRd.2.1
  obtain ⟨m, hm⟩ : ∃ m : Nat, lf.length = m + 1 := ⟨lf.length - 1, by omega⟩
  obtain ⟨ad, rfl, hxe⟩ := Kd.at_int hRd.2.2 (m : Int) (by omega) (by omega)
  have het : rd lf (m : Int) = topY lf := by unfold topY; rw [if_neg (by omega), show lf.length - 1 = m by omega]; rfl
  rw [het, Int.toNat_natCast, show m = lf.length - 1 by omega] at hxe
  have HM := Aside0.mk hm
  have HLF := Aside0.mk hlfe
  have HP := Aside0.mk hp
  have p1 : (0 ≤ (f : Int)) = True := eq_true (by omega)
  have p2 : ((f : Int) < (ss.length : Int)) = True := eq_true (by omega)
  have p3 : (0 ≤ (t : Int)) = True := eq_true (by omega)
  have p4 : ((t : Int) < (ss.length : Int)) = True := eq_true (by omega)
  have p5 : wrap64 ((lf.length : Int) - 1) = (lf.length : Int) - 1 := w64 (by omega) (by omega)
  have HW5 := Aside0.mk p5
  have p6 : (0 ≤ (lf.length : Int) - 1) = True := eq_true (by omega)
  have p7 : ((lf.length : Int) - 1 < (lf.length : Int)) = True := eq_true (by omega)
  have p8 : ((lf.length : Int) - 1 ≤ (cf : Int)) = True := eq_true (by omega)
  have p9 : ((lf.length : Int) - 1).toNat = lf.length - 1 := by omega
  have q1 : (1 ≤ (lf.length : Int)) = True := eq_true (by omega)
  have HG6 := Aside0.mk (show w.heap.size + 1 ≠ g from fun e => Kd.R_ne (Kd.S_R HS2.out) BK6.out (by decide) (by rw [e]; rfl))
  clear hm hclf hccf hfrf hokf hHf hRf hRd hlfe hp het hf ht
  go_upto_region 3 with (fail)
  go_upto_region 4 with (fail)
  clear hbx hxe
  refine start_ (n := 12) (S := fun w' => w'.cell? ⟨n7, 0, none⟩ = some (.slice (some ⟨g, 0, none⟩) ss.length c1) ∧ w'.cell? ⟨g, f, none⟩ = some (.slice (some ad) lf.length cf)) (ds := [11]) #[false, false, false, false, false, false, false, false, false, false, false, false] (by kernel_rfl) rfl rfl ⟨(blk_cell BK7.out 0).trans rfl, hcf⟩ (fun hHeld => ?_)
  replace hff : (w2.drew).frozen? ⟨g, f, none⟩ = false := hff
  have HS := Aside0.mk (Kd.S_drew HS2.out)
  have HB := Aside0.mk (below_drew1 HB2.out)
  replace BK6 := Aside0.mk (blk_drew BK6.out)
  replace BK7 := Aside0.mk (blk_drew BK7.out)
  clear hcf HS2 HB2
  generalize w2.drew = w3 at HB HS BK6 BK7 hff hHeld ⊢
  refine pure_ (i := 0) (N := some 27) (v := ?_) (a' := ?_) #[true, false, false, false, false, false, false, false, false, false, false, false] rfl rfl (by kernel_rfl) (fun _ _ _ h => h) (Or.inl ⟨by rfl, ?_⟩) ?_ ?_
  rotate_left
  · intro w'
    go_simp
    with_reducible rfl
  rotate_left
  · simp only [Act.put, List.setIfInBounds_toArray, List.set_cons_zero, List.set_cons_succ, i64_w, i32_w]
    rfl
  refine take_ (i := 1) (N := some 28) (v := ?_) (a' := ?_) #[true, true, false, false, false, false, false, false, false, false, false, false] rfl rfl (by kernel_rfl) (fun _ _ _ h => h) (Or.inl ⟨by rfl, ?_⟩) hHeld ?_ ?_
  rotate_left
  · rintro w' ⟨s0, s1⟩
    go_simp
    with_reducible rfl
  rotate_left
  · simp only [Act.put, List.setIfInBounds_toArray, List.set_cons_zero, List.set_cons_succ, i64_w, i32_w]
    rfl
  refine pure_ (i := 2) (N := some 29) (v := ?_) (a' := ?_) #[true, true, true, false, false, false, false, false, false, false, false, false] rfl rfl (by kernel_rfl) (fun _ _ _ h => h) (Or.inl ⟨by rfl, ?_⟩) ?_ ?_
  rotate_left
  · intro w'
    go_simp
    with_reducible rfl
  rotate_left
  · simp only [Act.put, List.setIfInBounds_toArray, List.set_cons_zero, List.set_cons_succ, i64_w, i32_w]
    rfl
  refine pure_ (i := 3) (N := some 30) (v := ?_) (a' := ?_) #[true, true, true, true, false, false, false, false, false, false, false, false] rfl rfl (by kernel_rfl) (fun _ _ _ h => h) (Or.inl ⟨by rfl, ?_⟩) ?_ ?_
  rotate_left
  · intro w'
    go_simp
    with_reducible rfl
  rotate_left
  · simp only [Act.put, List.setIfInBounds_toArray, List.set_cons_zero, List.set_cons_succ, i64_w, i32_w]
    rfl
  refine take_ (i := 4) (N := some 31) (v := ?_) (a' := ?_) #[true, true, true, true, true, false, false, false, false, false, false, false] rfl rfl (by kernel_rfl) (fun _ _ _ h => h) (Or.inl ⟨by rfl, ?_⟩) hHeld ?_ ?_
  rotate_left
  · rintro w' ⟨s0, s1⟩
    go_simp
    with_reducible rfl
  rotate_left
  · simp only [Act.put, List.setIfInBounds_toArray, List.set_cons_zero, List.set_cons_succ, i64_w, i32_w]
    rfl
  refine pure_ (i := 5) (N := some 32) (v := ?_) (a' := ?_) #[true, true, true, true, true, true, false, false, false, false, false, false] rfl rfl (by kernel_rfl) (fun _ _ _ h => h) (Or.inl ⟨by rfl, ?_⟩) ?_ ?_
  rotate_left
  · intro w'
    go_simp
    with_reducible rfl
  rotate_left
  · simp only [Act.put, List.setIfInBounds_toArray, List.set_cons_zero, List.set_cons_succ, i64_w, i32_w]
    rfl
  refine pure_ (i := 6) (N := some 33) (v := ?_) (a' := ?_) #[true, true, true, true, true, true, true, false, false, false, false, false] rfl rfl (by kernel_rfl) (fun _ _ _ h => h) (Or.inl ⟨by rfl, ?_⟩) ?_ ?_
  rotate_left
  · intro w'
    go_simp
    with_reducible rfl
  rotate_left
  · simp only [Act.put, List.setIfInBounds_toArray, List.set_cons_zero, List.set_cons_succ, i64_w, i32_w]
    rfl
  refine take_ (i := 7) (N := some 34) (v := ?_) (a' := ?_) #[true, true, true, true, true, true, true, true, false, false, false, false] rfl rfl (by kernel_rfl) (fun _ _ _ h => h) (Or.inl ⟨by rfl, ?_⟩) hHeld ?_ ?_
  rotate_left
  · rintro w' ⟨s0, s1⟩
    go_simp
    with_reducible rfl
  rotate_left
  · simp only [Act.put, List.setIfInBounds_toArray, List.set_cons_zero, List.set_cons_succ, i64_w, i32_w]
    rfl
  refine pure_ (i := 8) (N := some 35) (v := ?_) (a' := ?_) #[true, true, true, true, true, true, true, true, true, false, false, false] rfl rfl (by kernel_rfl) (fun _ _ _ h => h) (Or.inl ⟨by rfl, ?_⟩) ?_ ?_
  rotate_left
  · intro w'
    go_simp
    with_reducible rfl
  rotate_left
  · simp only [Act.put, List.setIfInBounds_toArray, List.set_cons_zero, List.set_cons_succ, i64_w, i32_w]
    rfl
  refine pure_ (i := 9) (N := some 36) (v := ?_) (a' := ?_) #[true, true, true, true, true, true, true, true, true, true, false, false] rfl rfl (by kernel_rfl) (fun _ _ _ h => h) (Or.inl ⟨by rfl, ?_⟩) ?_ ?_
  rotate_left
  · intro w'
    go_simp
    with_reducible rfl
  rotate_left
  · simp only [Act.put, List.setIfInBounds_toArray, List.set_cons_zero, List.set_cons_succ, i64_w, i32_w]
    rfl
  refine pure_ (i := 10) (N := some 37) (v := ?_) (a' := ?_) #[true, true, true, true, true, true, true, true, true, true, true, false] rfl rfl (by kernel_rfl) (fun _ _ _ h => h) (Or.inl ⟨by rfl, ?_⟩) ?_ ?_
  rotate_left
  · intro w'
    go_simp
    with_reducible rfl
  rotate_left
  · simp only [Act.put, List.setIfInBounds_toArray, List.set_cons_zero, List.set_cons_succ, i64_w, i32_w]
    rfl
  refine last_ (i := 11) (N := none) #[true, true, true, true, true, true, true, true, true, true, true, true] rfl rfl (by kernel_rfl) (by decide) (fun K hK => ?_)
  refine skip_ (w1 := ?_) (by rfl) rfl ?_ ?_
  rotate_left
  · go_simp
    rfl
  refine hK.out _ _ ?_
  clear hK K
  refine done_ (by kernel_rfl) ?_
  have hP4 := S_cut_row HS.out (f : Int) (by omega) (by have := HF.out; omega) (lf.length - 1) (by show _ ≤ (ss.getD f []).length; rw [HLF.out]; omega) hHeld.2 (lf.take (lf.length - 1)) (by show _ = (ss.getD f []).take _; rw [HLF.out])
  rw [show (lf.take (lf.length - 1)).length = lf.length - 1 by rw [List.length_take]; omega, Int.toNat_natCast, show ss.set f (lf.take (lf.length - 1)) = cutL ss f by unfold cutL; rw [HLF.out]] at hP4
  have HS4 := Aside0.mk (Kd.S_mono (ok' := fun _ => True) hP4 (fun k hk => trivial))
  have HB4 := Aside0.mk (HB.out.setCell (p := ⟨g, f, none⟩) HGB.out (.slice (some ad) (lf.length - 1) cf))
  have HN7 := Aside0.mk (show n7 ≠ g from fun e => by have := HGL.out; omega)
  have HN6 := Aside0.mk (show w.heap.size + 1 ≠ g from fun e => by have h := (HG6.out); exact h e)
  have BK74 := Aside0.mk (blk_far BK7.out (p := ⟨g, f, none⟩) HN7.out (.slice (some ad) (lf.length - 1) cf))
  have BK64 := Aside0.mk (blk_far BK6.out (p := ⟨g, f, none⟩) HN6.out (.slice (some ad) (lf.length - 1) cf))
  clear HB HS BK7 BK6 hP4 hHeld hff
  generalize w3.setCell ⟨g, f, none⟩ (.slice (some ad) (lf.length - 1) cf) = w4 at HS4 HB4 BK74 BK64 ⊢
  have HS := Aside0.mk (Kd.S_mono (ok' := fun k => (fun _ => True) k ∧ ¬ (fun k => w4.heap.size ≤ k) k) (Kd.S_bound HS4.out) (fun k hk => ⟨trivial, Nat.not_le.2 hk.2.2.1⟩))
  have HGL4 := Aside0.mk (Kd.S_lt HS4.out g rfl)
  obtain ⟨okt, cet, hclt, hMt, hcct, _, hokt, hHt⟩ := Kd.S_elem HS.out ([] : List Int) (t : Int) (by omega) (by have := HTT.out; omega)
  obtain ⟨vt, rfl, hRt⟩ := hMt
  have hct := hcct 0 _ rfl
  simp only [show (Kd.slice 3 (Kd.int .i64)).sz = 1 from rfl, Nat.mul_one, Nat.add_zero, Int.toNat_natCast] at hct hRt
  obtain ⟨lt, hlte⟩ : ∃ lt, (cutL ss f).getD t [] = lt := ⟨_, rfl⟩
  replace HLT := HLT.out
  rw [hlte] at hRt HLT
  replace HLT := Aside0.mk HLT
  obtain ⟨At, ct, rfl⟩ := Kd.R_slice hRt
  have UU := Aside0.mk hRt
  have HH := Aside0.mk hHt
  have HLE := Aside0.mk hlte
  have HB := HB4
  have BK7 := BK74
  have BK6 := BK64
  have HL1 := Aside0.mk (show spec_l1Own.f lt = some lt from by
    have := HLT.out
    unfold spec_l1Own.f
    simp only [Option.bind_some]
    rw [if_pos (by simp; omega)]
    rfl)
  clear hRt hHt hokt hlte hclt hcct HS4 HB4 BK74 BK64
  go_upto_region 5 with (fail)
  refine start_ (n := 14) (S := fun w' => w'.cell? ⟨n7, 0, none⟩ = some (.slice (some ⟨g, 0, none⟩) ss.length c1) ∧ w'.cell? ⟨g, t, none⟩ = some (.slice At lt.length ct)) (ds := [13]) #[false, false, false, false, false, false, false, false, false, false, false, false, false, false] (by kernel_rfl) rfl rfl ⟨(blk_cell BK7.out 0).trans rfl, hct⟩ (fun hHeld => ?_)
  replace HB := Aside0.mk (below_drew1 HB.out)
  replace BK6 := Aside0.mk (blk_drew BK6.out)
  replace BK7 := Aside0.mk (blk_drew BK7.out)
  replace HH := Aside0.mk (show Kd.H (Kd.slice 3 (Kd.int .i64)) 24 (w4.drew) w.heap.size (fun k => (fun _ => True) k ∧ ¬ (fun k => w4.drew.heap.size ≤ k) k) _ _ _ _ _ from Kd.H_drew HH.out)
  replace UU := Aside0.mk (Kd.R_drew UU.out)
  have HGL5 := Aside0.mk (show g < w4.drew.heap.size from HGL4.out)
  clear hct HS
  generalize w4.drew = w5 at HB BK6 BK7 HH UU HGL5 hHeld ⊢
  refine pure_ (i := 0) (N := some 38) (v := ?_) (a' := ?_) #[true, false, false, false, false, false, false, false, false, false, false, false, false, false] rfl rfl (by kernel_rfl) (fun _ _ _ h => h) (Or.inl ⟨by rfl, ?_⟩) ?_ ?_
  rotate_left
  · intro w'
    go_simp
    with_reducible rfl
  rotate_left
  · simp only [Act.put, List.setIfInBounds_toArray, List.set_cons_zero, List.set_cons_succ, i64_w, i32_w]
    rfl
  refine take_ (i := 1) (N := some 39) (v := ?_) (a' := ?_) #[true, true, false, false, false, false, false, false, false, false, false, false, false, false] rfl rfl (by kernel_rfl) (fun _ _ _ h => h) (Or.inl ⟨by rfl, ?_⟩) hHeld ?_ ?_
  rotate_left
  · rintro w' ⟨s0, s1⟩
    go_simp
    with_reducible rfl
  rotate_left
  · simp only [Act.put, List.setIfInBounds_toArray, List.set_cons_zero, List.set_cons_succ, i64_w, i32_w]
    rfl
  refine pure_ (i := 2) (N := some 40) (v := ?_) (a' := ?_) #[true, true, true, false, false, false, false, false, false, false, false, false, false, false] rfl rfl (by kernel_rfl) (fun _ _ _ h => h) (Or.inl ⟨by rfl, ?_⟩) ?_ ?_
  rotate_left
  · intro w'
    go_simp
    with_reducible rfl
  rotate_left
  · simp only [Act.put, List.setIfInBounds_toArray, List.set_cons_zero, List.set_cons_succ, i64_w, i32_w]
    rfl
  refine pure_ (i := 3) (N := some 41) (v := ?_) (a' := ?_) #[true, true, true, true, false, false, false, false, false, false, false, false, false, false] rfl rfl (by kernel_rfl) (fun _ _ _ h => h) (Or.inl ⟨by rfl, ?_⟩) ?_ ?_
  rotate_left
  · intro w'
    go_simp
    with_reducible rfl
  rotate_left
  · simp only [Act.put, List.setIfInBounds_toArray, List.set_cons_zero, List.set_cons_succ, i64_w, i32_w]
    rfl
  refine take_ (i := 4) (N := some 42) (v := ?_) (a' := ?_) #[true, true, true, true, true, false, false, false, false, false, false, false, false, false] rfl rfl (by kernel_rfl) (fun _ _ _ h => h) (Or.inl ⟨by rfl, ?_⟩) hHeld ?_ ?_
  rotate_left
  · rintro w' ⟨s0, s1⟩
    go_simp
    with_reducible rfl
  rotate_left
  · simp only [Act.put, List.setIfInBounds_toArray, List.set_cons_zero, List.set_cons_succ, i64_w, i32_w]
    rfl
  refine pure_ (i := 5) (N := some 43) (v := ?_) (a' := ?_) #[true, true, true, true, true, true, false, false, false, false, false, false, false, false] rfl rfl (by kernel_rfl) (fun _ _ _ h => h) (Or.inl ⟨by rfl, ?_⟩) ?_ ?_
  rotate_left
  · intro w'
    go_simp
    with_reducible rfl
  rotate_left
  · simp only [Act.put, List.setIfInBounds_toArray, List.set_cons_zero, List.set_cons_succ, i64_w, i32_w]
    rfl
  refine pure_ (i := 6) (N := some 44) (v := ?_) (a' := ?_) #[true, true, true, true, true, true, true, false, false, false, false, false, false, false] rfl rfl (by kernel_rfl) (fun _ _ _ h => h) (Or.inl ⟨by rfl, ?_⟩) ?_ ?_
  rotate_left
  · intro w'
    go_simp
    with_reducible rfl
  rotate_left
  · simp only [Act.put, List.setIfInBounds_toArray, List.set_cons_zero, List.set_cons_succ, i64_w, i32_w]
    rfl
  refine take_ (i := 7) (N := some 45) (v := ?_) (a' := ?_) #[true, true, true, true, true, true, true, true, false, false, false, false, false, false] rfl rfl (by kernel_rfl) (fun _ _ _ h => h) (Or.inl ⟨by rfl, ?_⟩) hHeld ?_ ?_
  rotate_left
  · rintro w' ⟨s0, s1⟩
    go_simp
    with_reducible rfl
  rotate_left
  · simp only [Act.put, List.setIfInBounds_toArray, List.set_cons_zero, List.set_cons_succ, i64_w, i32_w]
    rfl
  refine pure_ (i := 9) (N := some 47) (v := ?_) (a' := ?_) #[true, true, true, true, true, true, true, true, false, true, false, false, false, false] rfl rfl (by kernel_rfl) (fun _ _ _ h => h) (Or.inl ⟨by rfl, ?_⟩) ?_ ?_
  rotate_left
  · intro w'
    go_simp
    with_reducible rfl
  rotate_left
  · simp only [Act.put, List.setIfInBounds_toArray, List.set_cons_zero, List.set_cons_succ, i64_w, i32_w]
    rfl
  refine join_ (σ := Value × Nat) 3 #[true, true, true, true, true, true, true, true, true, true, true, false, false, false] (fun s_ => [(46, s_.1), (48, .slice (some ⟨s_.2, 0, none⟩) 1 1)]) (fun s_ w' => Kd.R (Kd.int .i64) 3 w' w.heap.size (fun k => w5.heap.size ≤ k) s_.1 lt ∧ w'.heap[s_.2]? = some (.cells #[.int .i64 (topY lf)] 3 (0, 0)) ∧ Below w5.heap.size w5 w') ?_ ?_
  rotate_left
  · intro hCont
    refine two_ (i := 8) (j := 10) (Ni := some 46) (Nj := some 48) #[true, true, true, true, true, true, true, true, true, true, false, false, false, false] #[true, true, true, true, true, true, true, true, false, true, true, false, false, false] rfl rfl rfl rfl (by kernel_rfl) (by decide) (by decide) (fun K hK => ?_) (fun K hK => ?_)
    · refine goes_ Try.func157 (by kernel_rfl) rfl #[.slice At lt.length ct] (by rfl) rfl rfl (by (try simp only [List.map_toArray, List.map_cons, List.map_nil]); first | done | rfl) ?_
      refine (spec_l1Own.calls At ct lt lt _ (Kd.R_reads' UU.out).2.2 (Kd.R_reads' UU.out).2.1 HL1.out).mono ?_
      rintro e w6 ⟨vo, rfl, ho0, hb⟩
      refine ⟨_, rfl, ?_⟩
      have ho1 := Kd.R_lower (Kd.R_mono (ok' := fun k => w5.heap.size ≤ k) (Kd.R_bound ho0) (fun k hk => hk.2.1)) HB.out.size
      refine hK.out _ _ ⟨(blk_cell (blk_below BK7.out hb) 0).trans rfl, cell_below hHeld.2 hb⟩ (fun hHeld => ?_)
      clear hK K
      refine norm_ (a' := ?_) ?_ ?_
      rotate_left
      · show Act.put _ (some 46) _ = _
        simp only [Act.put, List.setIfInBounds_toArray, List.set_cons_zero, List.set_cons_succ, i64_w, i32_w]
        rfl
      refine one_ (i := 10) (N := some 48) #[true, true, true, true, true, true, true, true, true, true, true, false, false, false] rfl rfl (by kernel_rfl) (by decide) (fun K hK => ?_)
      refine value_ (w1 := ?_) (v := ?_) (by rfl) rfl ?_ ?_
      rotate_left 2
      · go_simp
        constructor
        · rfl
        · rfl
      refine hK.out _ _ ⟨(blk_cell (blk_alloc (blk_below BK7.out hb) _) 0).trans rfl, (World.cell?_alloc_lt _ _ _ (World.block_lt_of_cell? _ _ (hHeld.2))).trans (hHeld.2)⟩ (fun hHeld => ?_)
      clear hK K
      refine norm_ (a' := ?_) ?_ ?_
      rotate_left
      · show Act.put _ (some 48) _ = _
        simp only [Act.put, List.setIfInBounds_toArray, List.set_cons_zero, List.set_cons_succ, i64_w, i32_w]
        rfl
      exact norm_ (by simp only [putAll, Act.put, List.setIfInBounds_toArray, List.set_cons_zero, List.set_cons_succ]) (hCont (vo, w6.heap.size) _ ⟨Kd.R_alloc ho1 _, blk_new _ _, below_alloc hb _⟩)
    · refine value_ (w1 := ?_) (v := ?_) (by rfl) rfl ?_ ?_
      rotate_left 2
      · go_simp
        constructor
        · rfl
        · rfl
      refine hK.out _ _ ⟨(blk_cell (blk_alloc BK7.out _) 0).trans rfl, (World.cell?_alloc_lt _ _ _ (World.block_lt_of_cell? _ _ (hHeld.2))).trans (hHeld.2)⟩ (fun hHeld => ?_)
      clear hK K
      refine norm_ (a' := ?_) ?_ ?_
      rotate_left
      · show Act.put _ (some 48) _ = _
        simp only [Act.put, List.setIfInBounds_toArray, List.set_cons_zero, List.set_cons_succ, i64_w, i32_w]
        rfl
      refine one_ (i := 8) (N := some 46) #[true, true, true, true, true, true, true, true, true, true, true, false, false, false] rfl rfl (by kernel_rfl) (by decide) (fun K hK => ?_)
      refine goes_ Try.func157 (by kernel_rfl) rfl #[.slice At lt.length ct] (by rfl) rfl rfl (by (try simp only [List.map_toArray, List.map_cons, List.map_nil]); first | done | rfl) ?_
      refine (spec_l1Own.calls At ct lt lt _ (Kd.C_alloc (Kd.R_reads' UU.out).2.2 _) (Kd.R_reads' UU.out).2.1 HL1.out).mono ?_
      rintro e w6 ⟨vo, rfl, ho0, hb⟩
      refine ⟨_, rfl, ?_⟩
      have hb6 := below_then (below_alloc (Below.refl w5.heap.size w5) (.cells #[.int .i64 (topY lf)] 3 (0, 0))) (by simp) hb
      have ho1 := Kd.R_lower (Kd.R_mono (ok' := fun k => w5.heap.size ≤ k) (Kd.R_bound ho0) (fun k hk => Nat.le_trans (by simp) hk.2.1)) (Nat.le_trans HB.out.size (by simp : w5.heap.size ≤ (w5.alloc (.cells #[.int .i64 (topY lf)] 3 (0, 0))).heap.size))
      refine hK.out _ _ ⟨(blk_cell (blk_below (blk_alloc BK7.out _) hb) 0).trans rfl, cell_below hHeld.2 hb⟩ (fun hHeld => ?_)
      clear hK K
      refine norm_ (a' := ?_) ?_ ?_
      rotate_left
      · show Act.put _ (some 46) _ = _
        simp only [Act.put, List.setIfInBounds_toArray, List.set_cons_zero, List.set_cons_succ, i64_w, i32_w]
        rfl
      exact norm_ (by simp only [putAll, Act.put, List.setIfInBounds_toArray, List.set_cons_zero, List.set_cons_succ]) (hCont (vo, w5.heap.size) _ ⟨ho1, blk_below (blk_new w5 _) hb, hb6⟩)
  rintro ⟨vo, lb⟩ w6 ⟨ho1, hlit, hb⟩
  dsimp only at ho1 hlit
  have HO6 := Aside0.mk ho1
  have HLIT := Aside0.mk hlit
  have HB6 := Aside0.mk (below_then HB.out HB.out.size hb)
  have HH6 := Aside0.mk (Kd.H_below HH.out hb)
  have BK76 := Aside0.mk (blk_below BK7.out hb)
  have BK66 := Aside0.mk (blk_below BK6.out hb)
  have HZ6 := Aside0.mk hb.size
  have hc6 := cell_below hHeld.2 hb
  obtain ⟨Ao, co, rfl⟩ := Kd.R_slice HO6.out
  clear ho1 hlit hb UU HH HB BK7 BK6
  refine norm_ (a' := ?_) ?_ ?_
  rotate_left
  · simp only [putAll, Act.put, List.setIfInBounds_toArray, List.set_cons_zero, List.set_cons_succ]
    rfl
  refine one_ (i := 11) (N := some 49) #[true, true, true, true, true, true, true, true, true, true, true, true, false, false] rfl rfl (by kernel_rfl) (by decide) (fun K hK => ?_)
  refine Kd.R_append_rows_step (Kd.int .i64) (Rr := fun (x : Int) cs => cs = [Value.int .i64 x]) (w0 := w) w.heap.size (by rfl) (.tmp 46) (.tmp 48) 24 3 (.int .i64 0) 8 rfl Try.underlying24 info3 rfl (by decide) (by omega) (.slice Ao lt.length co) lt [topY lf] (some ⟨lb, 0, none⟩) 1 1 (fun k => w5.heap.size ≤ k) (fun _ => False) rfl rfl ?aO ?aR (fun _ _ h => h) (fun _ hk => hk.elim) ?aF ?aB ?aS ?aL ?_
  case aR =>
    refine ⟨rfl, by decide, fun _ => ⟨_, rfl, fun j p hj => ⟨[.int .i64 p], rfl, rfl, fun i u hu => ?_⟩⟩⟩
    rcases j with _ | j
    · rcases i with _ | i
      · simp only [List.getElem?_cons_zero, Option.some.injEq] at hj hu
        subst hj
        subst hu
        exact (blk_cell HLIT.out 0).trans rfl
      · simp at hu
    · simp at hj
  case aB => exact HB6.out
  case aF => exact fun k hk => Nat.le_trans HZ6.out hk
  case aO => exact HO6.out
  case aS => exact HB6.out.size
  case aL => have := HLT.out; omega
  intro v7 w7 ho hb hg hat
  have hrow : ∀ k, (Value.slice Ao lt.length co).ownBlock = some k → w5.heap.size ≤ k := fun k e => HO6.out.1 k e
  have hbk7 := blk_grown BK76.out hg (Kd.R_ne HO6.out BK76.out (by decide))
  have hbk6 := blk_grown BK66.out hg (Kd.R_ne HO6.out BK66.out (by decide))
  obtain ⟨A7, c7, rfl⟩ := Kd.R_slice ho
  have hH7 := Kd.H_step HH6.out (fun k hk _ hlt => hg.block k hlt (fun e => hk.2 (hrow k e.symm)))
  obtain ⟨_, hfr7⟩ := Kd.H_at hH7 (by omega) (by have := HTT.out; omega)
  have hf7 := hfr7 0
  simp only [show (Kd.slice 3 (Kd.int .i64)).sz = 1 from rfl, Nat.mul_one, Nat.add_zero, Int.toNat_natCast] at hf7
  have hP7 := (Kd.S_seg (okg := fun k => w5.heap.size ≤ k) hH7 (by omega) (by have := HTT.out; omega) (seg := [.slice A7 (lt ++ [topY lf]).length c7]) (j := 0) (show 1 ≤ 1 from by decide) (x' := lt ++ [topY lf]) (Kd.M_row ho) (fun k hk => .inr hk) (fun k hk => ⟨trivial, fun e => by have := HGL5.out; omega⟩)).1
  simp only [show (Kd.slice 3 (Kd.int .i64)).sz = 1 from rfl, Nat.mul_one, Nat.add_zero, Int.toNat_natCast] at hP7
  have HP7 := Aside0.mk hP7
  have HB7 := Aside0.mk hb
  have hc7 := cell_grown hg hc6 (fun e => by have := hrow g e.symm; have := HGL5.out; omega)
  have BK77 := Aside0.mk hbk7
  have BK67 := Aside0.mk hbk6
  clear hP7 hb hfr7 hH7 hg hat hbk7 hbk6 ho hrow HO6 HB6 HH6 BK76 BK66 hc6
  refine hK.out _ _ ⟨(blk_cell BK77.out 0).trans rfl, hc7⟩ (fun hHeld => ?_)
  clear hK K
  refine norm_ (a' := ?_) ?_ ?_
  rotate_left
  · show Act.put _ (some 49) _ = _
    simp only [Act.put, List.setIfInBounds_toArray, List.set_cons_zero, List.set_cons_succ, i64_w, i32_w]
    rfl
  refine pure_ (i := 12) (N := some 50) (v := ?_) (a' := ?_) #[true, true, true, true, true, true, true, true, true, true, true, true, true, false] rfl rfl (by kernel_rfl) (fun _ _ _ h => h) (Or.inl ⟨by rfl, ?_⟩) ?_ ?_
  rotate_left
  · intro w'
    go_simp
    with_reducible rfl
  rotate_left
  · simp only [Act.put, List.setIfInBounds_toArray, List.set_cons_zero, List.set_cons_succ, i64_w, i32_w]
    rfl
  refine last_ (i := 13) (N := none) #[true, true, true, true, true, true, true, true, true, true, true, true, true, true] rfl rfl (by kernel_rfl) (by decide) (fun K hK => ?_)
  refine skip_ (w1 := ?_) (by rfl) rfl ?_ ?_
  rotate_left
  · go_simp
    rfl
  refine hK.out _ _ ?_
  clear hK K
  refine done_ (by kernel_rfl) ?_
  have HSE := Aside0.mk (show Kd.S (Kd.slice 3 (Kd.int .i64)) 24 (w7.setCell ⟨g, t, none⟩ (.slice A7 (lt ++ [topY lf]).length c7)) w.heap.size (fun _ => True) (.slice (some ⟨g, 0, none⟩) ss.length c1) (moveL ss f t) from by unfold moveL; rw [HLE.out, HLF.out]; exact HP7.out)
  have HBE := Aside0.mk (HB7.out.setCell (p := ⟨g, t, none⟩) HGB.out (.slice A7 (lt ++ [topY lf]).length c7))
  have BK7E := Aside0.mk (blk_far BK77.out (p := ⟨g, t, none⟩) HN7.out (.slice A7 (lt ++ [topY lf]).length c7))
  have BK6E := Aside0.mk (blk_far BK67.out (p := ⟨g, t, none⟩) HN6.out (.slice A7 (lt ++ [topY lf]).length c7))
  clear HP7 HB7 hc7 BK77 BK67 hHeld hf7
  have hlen : (lt ++ [topY lf]).length = lt.length + 1 := by simp
  rw [hlen] at HSE HBE BK7E BK6E
  clear hlen
  generalize w7.setCell ⟨g, t, none⟩ (.slice A7 (lt.length + 1) c7) = w8 at HSE HBE BK7E BK6E ⊢
  have hx7 : w8.cell? ⟨n7, 0, none⟩ = some (.slice (some ⟨g, 0, none⟩) ss.length c1) := (blk_cell BK7E.out 0).trans rfl
  have hx6 : w8.cell? ⟨w.heap.size + 1, 0, none⟩ = some (.slice none 0 0) := (blk_cell BK6E.out 0).trans rfl
  have hf6 := blk_frozen BK6E.out 0
  go_wp2
  refine bodyPost_ret (results_cell_row rfl _ _ (w.heap.size + 1) 42 #[.slice (some ⟨g, 0, none⟩) ss.length c1] (0, 0) _ rfl (blk_put (cs := #[.slice none 0 0]) BK6E.out 0 _ rfl) Try.underlying42 rfl (by kernel_rfl)) rfl ?_
  exact ⟨_, rfl, Kd.S_mono (Kd.S_far (p := ⟨w.heap.size + 1, 0, none⟩) (Kd.S_types HSE.out BK6E.out (by decide)) (fun _ hk => hk.2) _) (fun _ _ => trivial), HBE.out.setCell (p := ⟨w.heap.size + 1, 0, none⟩) (Nat.le_succ _) _⟩
/-- The top of row a1 put onto row a2, where that can be done. -/
def moveO (ss : List (List Int)) (a1 a2 : Int) : Option (List (List Int)) :=
  if 0 ≤ a1 ∧ a1 < ss.length ∧ 0 ≤ a2 ∧ a2 < ss.length ∧ 0 < (ss.getD a1.toNat []).length ∧ (ss.getD a1.toNat []).length ≤ 1000000 ∧ ((cutL ss a1.toNat).getD a2.toNat []).length ≤ 1000000 then some (moveL ss a1.toNat a2.toNat) else none
def spec_l5Move.f (k : Nat) (l0_0 : List (List Int)) (a1 : Int) (a2 : Int) : Option (List (List Int)) := (spec_l5Own.f k l0_0).bind fun ss => moveO ss a1 a2
theorem spec_l5Move.mono : ∀ a0 a1 a2 k, LeO (spec_l5Move.f k a0 a1 a2) (spec_l5Move.f (k + 1) a0 a1 a2) := by
  intro a0 a1 a2 k
  unfold spec_l5Move.f
  exact LeO.bind (spec_l5Own.mono _ _) (fun _ => LeO.refl _)
theorem spec_l5Move.calls (k : Nat) (A0_0 : Option Addr) (c0_0 : Nat) (l0_0 : List (List Int)) (a1 : Int) (a2 : Int) (r : List (List Int)) (w : World) (hr0_0 : Kd.C (Kd.slice 3 (Kd.int .i64)) w A0_0 l0_0.length l0_0) (hc0_0 : l0_0.length ≤ c0_0) (h : spec_l5Move.f k l0_0 a1 a2 = some r) :
    Calls Try.prog 105 #[.agg #[.slice A0_0 l0_0.length c0_0], .int .i64 a1, .int .i64 a2] w fun e w' => ∃ v0_ : Value, e = .returned (.agg #[v0_]) ∧ Kd.S (Kd.slice 3 (Kd.int .i64)) 24 w' w.heap.size (fun _ => True) v0_ r ∧ Below w.heap.size w w' := by
  obtain ⟨ss, ho, h⟩ := Option.bind_eq_some_iff.mp h
  unfold moveO at h
  split at h
  · rename_i hc
    obtain ⟨h0, h1, h2, h3, h4, h5, h6⟩ := hc
    obtain ⟨f, rfl⟩ := Int.eq_ofNat_of_zero_le h0
    obtain ⟨t, rfl⟩ := Int.eq_ofNat_of_zero_le h2
    simp only [Int.toNat_natCast, Option.some.injEq] at h h4 h5 h6
    subst h
    exact l5Move_walk k A0_0 c0_0 l0_0 ss f t w hr0_0 hc0_0 ho (by omega) (by omega) h4 h5 h6
  · exact absurd h (by simp)
end Go.Proofs.Ytlldonokjgoajaa.X
