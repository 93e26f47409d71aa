/- The program's moveTop, walked: the top of a row goes to another row, in memory of the caller's own. -/
import Derived.Test.YtlldonokjgoajaaMYardQ
import Derived.Test.YtlldonokjgoajaaMCutS
import Derived.Test.YtlldonokjgoajaaMYardG
namespace Go.Proofs.Ytlldonokjgoajaa.X
open Go.RowKit Go.Lib Go.Proofs.YtlldonokjgoajaaW.PrintWords Go.Proofs.YtlldonokjgoajaaW.PrintLast Go.Proofs.YtlldonokjgoajaaW.PrintMore
set_option linter.unusedVariables false
set_option linter.unusedSimpArgs false
/-- The rows when the top of row f is taken. -/
def cutL (ss : List (List Int)) (f : Nat) : List (List Int) := ss.set f ((ss.getD f []).take ((ss.getD f []).length - 1))
def moveL (ss : List (List Int)) (f t : Nat) : List (List Int) := (cutL ss f).set t ((cutL ss f).getD t [] ++ [topY (ss.getD f [])])
set_option maxHeartbeats 8000000 in
set_option maxRecDepth 100000 in
theorem moveTop_walk (w0 w : World) (P : Nat → Prop) (g c : Nat) (ss : List (List Int)) (f t : Nat) (hf : f < ss.length) (ht : t < ss.length) (hp : 0 < (ss.getD f []).length) (hlf : (ss.getD f []).length ≤ 1000000)
    (hlt : ((cutL ss f).getD t []).length ≤ 1000000) (hB : Below w0.heap.size w0 w) (hS : Kd.S (Kd.slice 3 (Kd.int .i64)) 24 w w0.heap.size P (.slice (some ⟨g, 0, none⟩) ss.length c) ss) :
    Calls Try.prog 109 #[.agg #[.slice (some ⟨g, 0, none⟩) ss.length c], .int .i64 f, .int .i64 t] w fun e w' => e = .returned (.int .i64 (topY (ss.getD f []))) ∧
      Kd.S (Kd.slice 3 (Kd.int .i64)) 24 w' w0.heap.size (fun k => P k ∨ w.heap.size ≤ k) (.slice (some ⟨g, 0, none⟩) ss.length c) (moveL ss f t) ∧ Below w0.heap.size w0 w' ∧ Kept w w' P := by
  obtain ⟨okf, cef, hclf, hMf, hccf, hfrf, hokf, hHf⟩ := Kd.S_elem hS ([] : List Int) (f : Int) (by omega) (by omega)
  obtain ⟨vf, rfl, hRf⟩ := hMf
  have hcf := hccf 0 _ rfl
  have hff := hfrf 0
  simp only [show (Kd.slice 3 (Kd.int .i64)).sz = 1 from rfl, Nat.mul_one, Nat.add_zero, Int.toNat_natCast] at hcf hff hRf
  obtain ⟨lf, hlfe⟩ : ∃ lf, ss.getD f [] = lf := ⟨_, rfl⟩
  rw [hlfe] at hRf hp hlf
  obtain ⟨Af, cf, rfl⟩ := Kd.R_slice hRf
  have hRd := Kd.R_reads' hRf
  have HCF := Aside0.mk hRd.2.2
  have hcap : lf.length ≤ cf := hRd.2.1
  have HLF := Aside0.mk hlfe
  have HP := Aside0.mk hp
  clear hRd hccf hfrf hokf hHf hclf hRf
  have HT := Aside0.mk (topOf_ends lf (by omega))
  have HSW := Aside0.mk hS
  have HLT := Aside0.mk hlt
  have p1 : (0 ≤ (f : Int)) = True := eq_true (by omega)
  have p2 : ((f : Int) < (ss.length : Int)) = True := eq_true (by omega)
  have p3 : (0 ≤ (t : Int)) = True := eq_true (by omega)
  have p4 : ((t : Int) < (ss.length : Int)) = True := eq_true (by omega)
  have p5 : wrap64 ((lf.length : Int) - 1) = ((lf.length - 1 : Nat) : Int) := by rw [w64 (by omega) (by omega)]; omega
  have HW5 := Aside0.mk p5
  have p6 : (0 ≤ (lf.length : Int) - 1) = True := eq_true (by omega)
  have p7 : ((lf.length : Int) - 1 ≤ (cf : Int)) = True := eq_true (by omega)
  have hsz := Kd.S_lt hS g rfl
  have HN := Aside0.mk (show g < w.heap.size from hsz)
  have HPG := Aside0.mk (show P g from (Kd.S_R hS).1 g rfl)
  obtain ⟨g', c', eg', hgb, _⟩ := Kd.S_form hS (by omega)
  cases eg'
  have HGB := Aside0.mk hgb
  clear hgb
  have HB0 := Aside0.mk hB
  have HF := Aside0.mk hf
  have HTT := Aside0.mk ht
  clear hS hlt hB hsz p5 hlfe hp hf ht
  go_enter Try.func109, Try.ntmps109
  go_upto_region 1 with (fail)
  generalize hwb : w.alloc (Obj.cells #[Value.slice (some ⟨g, 0, none⟩) ss.length c] 42) = wb
  have hb : Below w.heap.size w wb := by rw [← hwb]; exact (Below.refl _ _).alloc (Nat.le_refl _) _
  have hbk : wb.heap[w.heap.size]? = some (.cells #[.slice (some ⟨g, 0, none⟩) ss.length c] 42 (0, 0)) := by rw [← hwb]; exact blk_new _ _
  have hbx : wb.cell? ⟨w.heap.size, 0, none⟩ = some (.slice (some ⟨g, 0, none⟩) ss.length c) := (blk_cell hbk 0).trans rfl
  have BK := Aside0.mk hbk
  have HB := Aside0.mk (below_then HB0.out HB0.out.size hb)
  replace hcf := cell_below hcf hb
  replace hff : wb.frozen? ⟨g, f, none⟩ = false := (hb.frozen (p := ⟨g, f, none⟩) HN.out).trans hff
  have HS := Aside0.mk (Kd.S_below HSW.out hb)
  have HCB := Aside0.mk (Kd.C_below HCF.out hb)
  have HK := Aside0.mk (show Kept w wb P from Kept.of_below hb _)
  clear hb hwb hbk
  go_upto_region 2 with (go_at_call 119; refine (impl_topOf.calls Af cf lf (topY lf) _ HCB.out hcap HT.out).mono ?_; rintro e w1 ⟨rfl, ⟨⟨q1, rfl⟩⟩⟩)
  refine start_ (n := 18) (S := fun w' => w'.cell? ⟨w.heap.size, 0, none⟩ = some (.slice (some ⟨g, 0, none⟩) ss.length c) ∧ w'.cell? ⟨g, f, none⟩ = some (.slice Af lf.length cf)) (ds := [17]) #[false, false, false, false, false, false, false, false, false, false, false, false, false, false, false, false, false, false] (by kernel_rfl) rfl rfl ⟨hbx, hcf⟩ (fun hHeld => ?_)
  replace hff : ((wb.drewN q1).drew).frozen? ⟨g, f, none⟩ = false := hff
  replace HS := Aside0.mk (Kd.S_drew (Kd.S_drewN HS.out q1))
  replace HB := Aside0.mk (below_drew1 (pw_below_drewN HB.out q1))
  replace HK := Aside0.mk ((HK.out.drewN q1).drew)
  replace BK := Aside0.mk (blk_drew (blk_drewN BK.out q1))
  clear hbx hcf HCB
  generalize (wb.drewN q1).drew = w3 at HB HS HK BK hff hHeld ⊢
  refine pure_ (i := 0) (N := some 14) (v := ?_) (a' := ?_) #[true, false, false, false, false, false, false, false, false, false, false, false, false, false, false, false, false, false] rfl rfl (by kernel_rfl) (fun _ _ _ h => h) (Or.inl ⟨by rfl, ?_⟩) ?_ ?_
  rotate_left
  · intro w'
    go_simp
    with_reducible rfl
  rotate_left
  · simp only [Act.put, List.setIfInBounds_toArray, List.set_cons_zero, List.set_cons_succ, i64_w, i32_w]
    rfl
  refine take_ (i := 1) (N := some 15) (v := ?_) (a' := ?_) #[true, true, false, false, false, false, false, false, false, false, false, false, false, false, false, false, false, false] rfl rfl (by kernel_rfl) (fun _ _ _ h => h) (Or.inl ⟨by rfl, ?_⟩) hHeld ?_ ?_
  rotate_left
  · rintro w' ⟨s0, s1⟩
    go_simp
    with_reducible rfl
  rotate_left
  · simp only [Act.put, List.setIfInBounds_toArray, List.set_cons_zero, List.set_cons_succ, i64_w, i32_w]
    rfl
  refine pure_ (i := 2) (N := some 16) (v := ?_) (a' := ?_) #[true, true, true, false, false, false, false, false, false, false, false, false, false, false, false, false, false, false] rfl rfl (by kernel_rfl) (fun _ _ _ h => h) (Or.inl ⟨by rfl, ?_⟩) ?_ ?_
  rotate_left
  · intro w'
    go_simp
    with_reducible rfl
  rotate_left
  · simp only [Act.put, List.setIfInBounds_toArray, List.set_cons_zero, List.set_cons_succ, i64_w, i32_w]
    rfl
  refine pure_ (i := 3) (N := some 17) (v := ?_) (a' := ?_) #[true, true, true, true, false, false, false, false, false, false, false, false, false, false, false, false, false, false] rfl rfl (by kernel_rfl) (fun _ _ _ h => h) (Or.inl ⟨by rfl, ?_⟩) ?_ ?_
  rotate_left
  · intro w'
    go_simp
    with_reducible rfl
  rotate_left
  · simp only [Act.put, List.setIfInBounds_toArray, List.set_cons_zero, List.set_cons_succ, i64_w, i32_w]
    rfl
  refine take_ (i := 4) (N := some 18) (v := ?_) (a' := ?_) #[true, true, true, true, true, false, false, false, false, false, false, false, false, false, false, false, false, false] rfl rfl (by kernel_rfl) (fun _ _ _ h => h) (Or.inl ⟨by rfl, ?_⟩) hHeld ?_ ?_
  rotate_left
  · rintro w' ⟨s0, s1⟩
    go_simp
    with_reducible rfl
  rotate_left
  · simp only [Act.put, List.setIfInBounds_toArray, List.set_cons_zero, List.set_cons_succ, i64_w, i32_w]
    rfl
  refine pure_ (i := 5) (N := some 19) (v := ?_) (a' := ?_) #[true, true, true, true, true, true, false, false, false, false, false, false, false, false, false, false, false, false] rfl rfl (by kernel_rfl) (fun _ _ _ h => h) (Or.inl ⟨by rfl, ?_⟩) ?_ ?_
  rotate_left
  · intro w'
    go_simp
    with_reducible rfl
  rotate_left
  · simp only [Act.put, List.setIfInBounds_toArray, List.set_cons_zero, List.set_cons_succ, i64_w, i32_w]
    rfl
  refine pure_ (i := 6) (N := some 20) (v := ?_) (a' := ?_) #[true, true, true, true, true, true, true, false, false, false, false, false, false, false, false, false, false, false] rfl rfl (by kernel_rfl) (fun _ _ _ h => h) (Or.inl ⟨by rfl, ?_⟩) ?_ ?_
  rotate_left
  · intro w'
    go_simp
    with_reducible rfl
  rotate_left
  · simp only [Act.put, List.setIfInBounds_toArray, List.set_cons_zero, List.set_cons_succ, i64_w, i32_w]
    rfl
  refine take_ (i := 7) (N := some 21) (v := ?_) (a' := ?_) #[true, true, true, true, true, true, true, true, false, false, false, false, false, false, false, false, false, false] rfl rfl (by kernel_rfl) (fun _ _ _ h => h) (Or.inl ⟨by rfl, ?_⟩) hHeld ?_ ?_
  rotate_left
  · rintro w' ⟨s0, s1⟩
    go_simp
    with_reducible rfl
  rotate_left
  · simp only [Act.put, List.setIfInBounds_toArray, List.set_cons_zero, List.set_cons_succ, i64_w, i32_w]
    rfl
  refine pure_ (i := 8) (N := some 22) (v := ?_) (a' := ?_) #[true, true, true, true, true, true, true, true, true, false, false, false, false, false, false, false, false, false] rfl rfl (by kernel_rfl) (fun _ _ _ h => h) (Or.inl ⟨by rfl, ?_⟩) ?_ ?_
  rotate_left
  · intro w'
    go_simp
    with_reducible rfl
  rotate_left
  · simp only [Act.put, List.setIfInBounds_toArray, List.set_cons_zero, List.set_cons_succ, i64_w, i32_w]
    rfl
  refine take_ (i := 9) (N := some 23) (v := ?_) (a' := ?_) #[true, true, true, true, true, true, true, true, true, true, false, false, false, false, false, false, false, false] rfl rfl (by kernel_rfl) (fun _ _ _ h => h) (Or.inl ⟨by rfl, ?_⟩) hHeld ?_ ?_
  rotate_left
  · rintro w' ⟨s0, s1⟩
    go_simp
    with_reducible rfl
  rotate_left
  · simp only [Act.put, List.setIfInBounds_toArray, List.set_cons_zero, List.set_cons_succ, i64_w, i32_w]
    rfl
  refine pure_ (i := 10) (N := some 24) (v := ?_) (a' := ?_) #[true, true, true, true, true, true, true, true, true, true, true, false, false, false, false, false, false, false] rfl rfl (by kernel_rfl) (fun _ _ _ h => h) (Or.inl ⟨by rfl, ?_⟩) ?_ ?_
  rotate_left
  · intro w'
    go_simp
    with_reducible rfl
  rotate_left
  · simp only [Act.put, List.setIfInBounds_toArray, List.set_cons_zero, List.set_cons_succ, i64_w, i32_w]
    rfl
  refine pure_ (i := 11) (N := some 25) (v := ?_) (a' := ?_) #[true, true, true, true, true, true, true, true, true, true, true, true, false, false, false, false, false, false] rfl rfl (by kernel_rfl) (fun _ _ _ h => h) (Or.inl ⟨by rfl, ?_⟩) ?_ ?_
  rotate_left
  · intro w'
    go_simp
    with_reducible rfl
  rotate_left
  · simp only [Act.put, List.setIfInBounds_toArray, List.set_cons_zero, List.set_cons_succ, i64_w, i32_w]
    rfl
  refine take_ (i := 12) (N := some 26) (v := ?_) (a' := ?_) #[true, true, true, true, true, true, true, true, true, true, true, true, true, false, false, false, false, false] rfl rfl (by kernel_rfl) (fun _ _ _ h => h) (Or.inl ⟨by rfl, ?_⟩) hHeld ?_ ?_
  rotate_left
  · rintro w' ⟨s0, s1⟩
    go_simp
    with_reducible rfl
  rotate_left
  · simp only [Act.put, List.setIfInBounds_toArray, List.set_cons_zero, List.set_cons_succ, i64_w, i32_w]
    rfl
  refine pure_ (i := 13) (N := some 27) (v := ?_) (a' := ?_) #[true, true, true, true, true, true, true, true, true, true, true, true, true, true, false, false, false, false] rfl rfl (by kernel_rfl) (fun _ _ _ h => h) (Or.inl ⟨by rfl, ?_⟩) ?_ ?_
  rotate_left
  · intro w'
    go_simp
    with_reducible rfl
  rotate_left
  · simp only [Act.put, List.setIfInBounds_toArray, List.set_cons_zero, List.set_cons_succ, i64_w, i32_w]
    rfl
  refine pure_ (i := 14) (N := some 28) (v := ?_) (a' := ?_) #[true, true, true, true, true, true, true, true, true, true, true, true, true, true, true, false, false, false] rfl rfl (by kernel_rfl) (fun _ _ _ h => h) (Or.inl ⟨by rfl, ?_⟩) ?_ ?_
  rotate_left
  · intro w'
    go_simp
    simp only [i64_w]
    rw [HW5.out]
  rotate_left
  · simp only [Act.put, List.setIfInBounds_toArray, List.set_cons_zero, List.set_cons_succ, i64_w, i32_w]
    rfl
  refine pure_ (i := 15) (N := some 29) (v := ?_) (a' := ?_) #[true, true, true, true, true, true, true, true, true, true, true, true, true, true, true, true, false, false] rfl rfl (by kernel_rfl) (fun _ _ _ h => h) (Or.inl ⟨by rfl, ?_⟩) ?_ ?_
  rotate_left
  · intro w'
    go_simp
    rw [if_pos (by constructor <;> omega)]
  rotate_left
  · simp only [Act.put, List.setIfInBounds_toArray, List.set_cons_zero, List.set_cons_succ, i64_w, i32_w]
    rfl
  refine pure_ (i := 16) (N := some 30) (v := ?_) (a' := ?_) #[true, true, true, true, true, true, true, true, true, true, true, true, true, true, true, true, true, false] rfl rfl (by kernel_rfl) (fun _ _ _ h => h) (Or.inl ⟨by rfl, ?_⟩) ?_ ?_
  rotate_left
  · intro w'
    go_simp
    with_reducible rfl
  rotate_left
  · simp only [Act.put, List.setIfInBounds_toArray, List.set_cons_zero, List.set_cons_succ, i64_w, i32_w]
    rfl
  refine last_ (i := 17) (N := none) #[true, true, true, true, true, true, true, true, true, true, true, true, true, true, true, true, true, true] rfl rfl (by kernel_rfl) (by decide) (fun K hK => ?_)
  refine skip_ (w1 := ?_) (by rfl) rfl ?_ ?_
  rotate_left
  · go_simp
    rfl
  refine hK.out _ _ ?_
  clear hK K
  refine done_ (by kernel_rfl) ?_
  have hP4 := S_cut_row HS.out (f : Int) (by omega) (by have := HF.out; omega) (lf.length - 1) (by show _ ≤ (ss.getD f []).length; rw [HLF.out]; omega) hHeld.2 (lf.take (lf.length - 1)) (by show _ = (ss.getD f []).take _; rw [HLF.out])
  rw [show (lf.take (lf.length - 1)).length = lf.length - 1 by rw [List.length_take]; omega, Int.toNat_natCast, show ss.set f (lf.take (lf.length - 1)) = cutL ss f by unfold cutL; rw [HLF.out]] at hP4
  have HS4 := Aside0.mk (Kd.S_mono (ok' := fun k => P k ∨ w.heap.size ≤ k) hP4 (fun k hk => .inl hk))
  have HB4 := Aside0.mk (HB.out.setCell (p := ⟨g, f, none⟩) HGB.out (.slice Af (lf.length - 1) cf))
  have HK4 := Aside0.mk (HK.out.setCell (p := ⟨g, f, none⟩) (.inl HPG.out) (.slice Af (lf.length - 1) cf))
  have BK4 := Aside0.mk (blk_far BK.out (p := ⟨g, f, none⟩) (show w.heap.size ≠ g from fun e => by have := HN.out; omega) (.slice Af (lf.length - 1) cf))
  clear HB HS HK BK hP4 hHeld hff
  generalize w3.setCell ⟨g, f, none⟩ (.slice Af (lf.length - 1) cf) = w4 at HS4 HB4 HK4 BK4 ⊢
  obtain ⟨okt, cet, hclt, hMt, hcct, _, hokt, hHt⟩ := Kd.S_elem HS4.out ([] : List Int) (t : Int) (by omega) (by have := HTT.out; omega)
  obtain ⟨vt, rfl, hRt⟩ := hMt
  have hct := hcct 0 _ rfl
  simp only [show (Kd.slice 3 (Kd.int .i64)).sz = 1 from rfl, Nat.mul_one, Nat.add_zero, Int.toNat_natCast] at hct hRt
  obtain ⟨lt, hlte⟩ : ∃ lt, (cutL ss f).getD t [] = lt := ⟨_, rfl⟩
  replace HLT := HLT.out
  rw [hlte] at hRt HLT
  replace HLT := Aside0.mk HLT
  obtain ⟨At, ct, rfl⟩ := Kd.R_slice hRt
  have UU := Aside0.mk hRt
  have HH := Aside0.mk hHt
  have HO := Aside0.mk hokt
  have HLE := Aside0.mk hlte
  have HS := HS4
  have HB := HB4
  have HK := HK4
  have BK := BK4
  clear hRt hHt hokt hlte hclt hcct HS4 HB4 HK4 BK4
  go_upto_region 3 with (fail)
  refine start_ (n := 13) (S := fun w' => w'.cell? ⟨w.heap.size, 0, none⟩ = some (.slice (some ⟨g, 0, none⟩) ss.length c) ∧ w'.cell? ⟨g, t, none⟩ = some (.slice At lt.length ct)) (ds := [12]) #[false, false, false, false, false, false, false, false, false, false, false, false, false] (by kernel_rfl) rfl rfl ⟨(blk_cell BK.out 0).trans rfl, hct⟩ (fun hHeld => ?_)
  replace HS := Aside0.mk (Kd.S_drew HS.out)
  replace HB := Aside0.mk (below_drew1 HB.out)
  replace HK := Aside0.mk HK.out.drew
  replace BK := Aside0.mk (blk_drew BK.out)
  replace HH := Aside0.mk (Kd.H_drew HH.out)
  replace UU := Aside0.mk (Kd.R_drew UU.out)
  clear hct
  generalize w4.drew = w5 at HB HS HK BK HH UU hHeld ⊢
  refine pure_ (i := 0) (N := some 31) (v := ?_) (a' := ?_) #[true, false, false, false, false, false, false, false, false, false, false, false, false] rfl rfl (by kernel_rfl) (fun _ _ _ h => h) (Or.inl ⟨by rfl, ?_⟩) ?_ ?_
  rotate_left
  · intro w'
    go_simp
    with_reducible rfl
  rotate_left
  · simp only [Act.put, List.setIfInBounds_toArray, List.set_cons_zero, List.set_cons_succ, i64_w, i32_w]
    rfl
  refine take_ (i := 1) (N := some 32) (v := ?_) (a' := ?_) #[true, true, false, false, false, false, false, false, false, false, false, false, false] rfl rfl (by kernel_rfl) (fun _ _ _ h => h) (Or.inl ⟨by rfl, ?_⟩) hHeld ?_ ?_
  rotate_left
  · rintro w' ⟨s0, s1⟩
    go_simp
    with_reducible rfl
  rotate_left
  · simp only [Act.put, List.setIfInBounds_toArray, List.set_cons_zero, List.set_cons_succ, i64_w, i32_w]
    rfl
  refine pure_ (i := 2) (N := some 33) (v := ?_) (a' := ?_) #[true, true, true, false, false, false, false, false, false, false, false, false, false] rfl rfl (by kernel_rfl) (fun _ _ _ h => h) (Or.inl ⟨by rfl, ?_⟩) ?_ ?_
  rotate_left
  · intro w'
    go_simp
    with_reducible rfl
  rotate_left
  · simp only [Act.put, List.setIfInBounds_toArray, List.set_cons_zero, List.set_cons_succ, i64_w, i32_w]
    rfl
  refine pure_ (i := 3) (N := some 34) (v := ?_) (a' := ?_) #[true, true, true, true, false, false, false, false, false, false, false, false, false] rfl rfl (by kernel_rfl) (fun _ _ _ h => h) (Or.inl ⟨by rfl, ?_⟩) ?_ ?_
  rotate_left
  · intro w'
    go_simp
    with_reducible rfl
  rotate_left
  · simp only [Act.put, List.setIfInBounds_toArray, List.set_cons_zero, List.set_cons_succ, i64_w, i32_w]
    rfl
  refine take_ (i := 4) (N := some 35) (v := ?_) (a' := ?_) #[true, true, true, true, true, false, false, false, false, false, false, false, false] rfl rfl (by kernel_rfl) (fun _ _ _ h => h) (Or.inl ⟨by rfl, ?_⟩) hHeld ?_ ?_
  rotate_left
  · rintro w' ⟨s0, s1⟩
    go_simp
    with_reducible rfl
  rotate_left
  · simp only [Act.put, List.setIfInBounds_toArray, List.set_cons_zero, List.set_cons_succ, i64_w, i32_w]
    rfl
  refine pure_ (i := 5) (N := some 36) (v := ?_) (a' := ?_) #[true, true, true, true, true, true, false, false, false, false, false, false, false] rfl rfl (by kernel_rfl) (fun _ _ _ h => h) (Or.inl ⟨by rfl, ?_⟩) ?_ ?_
  rotate_left
  · intro w'
    go_simp
    with_reducible rfl
  rotate_left
  · simp only [Act.put, List.setIfInBounds_toArray, List.set_cons_zero, List.set_cons_succ, i64_w, i32_w]
    rfl
  refine pure_ (i := 6) (N := some 37) (v := ?_) (a' := ?_) #[true, true, true, true, true, true, true, false, false, false, false, false, false] rfl rfl (by kernel_rfl) (fun _ _ _ h => h) (Or.inl ⟨by rfl, ?_⟩) ?_ ?_
  rotate_left
  · intro w'
    go_simp
    with_reducible rfl
  rotate_left
  · simp only [Act.put, List.setIfInBounds_toArray, List.set_cons_zero, List.set_cons_succ, i64_w, i32_w]
    rfl
  refine take_ (i := 7) (N := some 38) (v := ?_) (a' := ?_) #[true, true, true, true, true, true, true, true, false, false, false, false, false] rfl rfl (by kernel_rfl) (fun _ _ _ h => h) (Or.inl ⟨by rfl, ?_⟩) hHeld ?_ ?_
  rotate_left
  · rintro w' ⟨s0, s1⟩
    go_simp
    with_reducible rfl
  rotate_left
  · simp only [Act.put, List.setIfInBounds_toArray, List.set_cons_zero, List.set_cons_succ, i64_w, i32_w]
    rfl
  refine pure_ (i := 8) (N := some 39) (v := ?_) (a' := ?_) #[true, true, true, true, true, true, true, true, true, false, false, false, false] rfl rfl (by kernel_rfl) (fun _ _ _ h => h) (Or.inl ⟨by rfl, ?_⟩) ?_ ?_
  rotate_left
  · intro w'
    go_simp
    with_reducible rfl
  rotate_left
  · simp only [Act.put, List.setIfInBounds_toArray, List.set_cons_zero, List.set_cons_succ, i64_w, i32_w]
    rfl
  refine one_ (i := 9) (N := some 40) #[true, true, true, true, true, true, true, true, true, true, false, false, false] rfl rfl (by kernel_rfl) (by decide) (fun K hK => ?_)
  refine value_ (w1 := ?_) (v := ?_) (by rfl) rfl ?_ ?_
  rotate_left 2
  · go_simp
    constructor
    · rfl
    · rfl
  refine hK.out _ _ ⟨(blk_cell (blk_alloc BK.out _) 0).trans rfl, (World.cell?_alloc_lt _ _ _ (World.block_lt_of_cell? _ _ (hHeld.2))).trans (hHeld.2)⟩ (fun hHeld => ?_)
  clear hK K
  refine norm_ (a' := ?_) ?_ ?_
  rotate_left
  · show Act.put _ (some 40) _ = _
    simp only [Act.put, List.setIfInBounds_toArray, List.set_cons_zero, List.set_cons_succ, i64_w, i32_w]
    rfl
  refine one_ (i := 10) (N := some 41) #[true, true, true, true, true, true, true, true, true, true, true, false, false] rfl rfl (by kernel_rfl) (by decide) (fun K hK => ?_)
  refine Kd.R_append_step (Kd.int .i64) (w0 := w0) w0.heap.size (by rfl) (.tmp 38) (.tmp 40) 24 3 (.int .i64 0) 8 rfl Try.underlying24 info3 rfl (by decide) (by omega) (.slice At lt.length ct) lt (topY lf) [.int .i64 (topY lf)] (fun k_ => okt k_ ∨ (P k_ ∨ w.heap.size ≤ k_) ∧ w5.heap.size ≤ k_) (fun _ => False) rfl rfl ?aP (fun _ hk => hk.elim) ?aF ?aO ?aB ?aS ?aL ?_
  case aP => exact rfl
  case aB => exact HB.out
  case aF => exact fun k_ hk => .inr ⟨.inr (Nat.le_trans HK.out.1 hk), hk⟩
  case aO => exact Kd.R_mono UU.out (fun _ hk => .inl hk)
  case aS => exact HB.out.size
  case aL => have := HLT.out; omega
  intro v6 w6 ho hb hg hat
  have hne : (Value.slice At lt.length ct).ownBlock ≠ some g := fun e_ => (HO.out _ (UU.out.1 _ e_)).2 rfl
  have hbk6 := blk_grown BK.out hg (Kd.R_ne UU.out BK.out (by decide))
  obtain ⟨A6, c6, rfl⟩ := Kd.R_slice ho
  have hH6 := Kd.H_grown (Kd.H_widen HH.out) hg (fun k_ e_ => .inl (UU.out.1 k_ e_))
  obtain ⟨_, hfr6⟩ := Kd.H_at hH6 (by omega) (by have := HTT.out; omega)
  have hf6 := hfr6 0
  simp only [show (Kd.slice 3 (Kd.int .i64)).sz = 1 from rfl, Nat.mul_one, Nat.add_zero, Int.toNat_natCast] at hf6
  have hP6 := (Kd.S_seg0 hH6 (by omega) (by have := HTT.out; omega) (seg := [.slice A6 (lt ++ [topY lf]).length c6]) (j := 0) (show 1 ≤ 1 from by decide) (x' := lt ++ [topY lf]) (Kd.M_row ho) (fun _ hk => hk)).1
  simp only [show (Kd.slice 3 (Kd.int .i64)).sz = 1 from rfl, Nat.mul_one, Nat.add_zero, Int.toNat_natCast] at hP6
  have HP6 := Aside0.mk hP6
  have HB6 := Aside0.mk hb
  have HK6 := Aside0.mk (Kept.of_grown hg HK.out (fun k_ e_ => (HO.out k_ (UU.out.1 k_ e_)).1))
  have hc6 := cell_grown hg (cell_unalloc hHeld.2 (Nat.lt_of_lt_of_le HN.out HK.out.1)) (fun e_ => hne e_.symm)
  have BK6 := Aside0.mk hbk6
  clear hP6 hb hfr6 hH6 hne hg hat hbk6 ho
  refine hK.out _ _ ⟨(blk_cell BK6.out 0).trans rfl, hc6⟩ (fun hHeld => ?_)
  clear hK K
  refine norm_ (a' := ?_) ?_ ?_
  rotate_left
  · show Act.put _ (some 41) _ = _
    simp only [Act.put, List.setIfInBounds_toArray, List.set_cons_zero, List.set_cons_succ, i64_w, i32_w]
    rfl
  refine pure_ (i := 11) (N := some 42) (v := ?_) (a' := ?_) #[true, true, true, true, true, true, true, true, true, true, true, true, false] rfl rfl (by kernel_rfl) (fun _ _ _ h => h) (Or.inl ⟨by rfl, ?_⟩) ?_ ?_
  rotate_left
  · intro w'
    go_simp
    with_reducible rfl
  rotate_left
  · simp only [Act.put, List.setIfInBounds_toArray, List.set_cons_zero, List.set_cons_succ, i64_w, i32_w]
    rfl
  refine last_ (i := 12) (N := none) #[true, true, true, true, true, true, true, true, true, true, true, true, true] rfl rfl (by kernel_rfl) (by decide) (fun K hK => ?_)
  refine skip_ (w1 := ?_) (by rfl) rfl ?_ ?_
  rotate_left
  · go_simp
    rfl
  refine hK.out _ _ ?_
  clear hK K
  refine done_ (by kernel_rfl) ?_
  have HSE := Aside0.mk (show Kd.S (Kd.slice 3 (Kd.int .i64)) 24 (w6.setCell ⟨g, t, none⟩ (.slice A6 (lt ++ [topY lf]).length c6)) w0.heap.size (fun k => P k ∨ w.heap.size ≤ k) (.slice (some ⟨g, 0, none⟩) ss.length c) (moveL ss f t) from by unfold moveL; rw [HLE.out, HLF.out]; exact HP6.out)
  have HBE := Aside0.mk (HB6.out.setCell (p := ⟨g, t, none⟩) HGB.out (.slice A6 (lt ++ [topY lf]).length c6))
  have HKE := Aside0.mk (HK6.out.setCell (p := ⟨g, t, none⟩) (.inl HPG.out) (.slice A6 (lt ++ [topY lf]).length c6))
  clear HP6 HB6 HK6 hc6 BK6 hHeld hf6
  have hlen : (lt ++ [topY lf]).length = lt.length + 1 := by simp
  rw [hlen] at HSE HBE HKE
  clear hlen
  generalize w6.setCell ⟨g, t, none⟩ (.slice A6 (lt.length + 1) c6) = w7 at HSE HBE HKE ⊢
  go_wp2
  go_ret
  exact ⟨by rw [HLF.out]; rfl, HSE.out, HBE.out, HKE.out⟩
end Go.Proofs.Ytlldonokjgoajaa.X
