/- The laws' functions on pairs of numbers ([2]int) and on lists of such, walked by hand: are two alike; the marks; are the marks held. -/
import Derived.Test.YtlldonokjgoajaaX0
import Derived.Lib.Walk
import Derived.Deep.LoopGhost
import Derived.Deep.QuietTactic
import Derived.BigQuiet
namespace Go.Proofs.Ytlldonokjgoajaa.X
open Go.RowKit Go.Lib Go.Proofs.YtlldonokjgoajaaW.PrintWords Go.Proofs.YtlldonokjgoajaaW.PrintLast Go.Proofs.YtlldonokjgoajaaW.PrintMore
set_option linter.unusedVariables false
set_option linter.unusedSimpArgs false
def laws_eqIntA2.f (a0_0 a0_1 a1_0 a1_1 : Int) : Option Bool := some (a0_0 == a1_0 && a0_1 == a1_1)
set_option maxHeartbeats 4000000 in
set_option maxRecDepth 100000 in
theorem eqA2_walk (x0 x1 y0 y1 : Int) (r : Bool) (w : World) (hr : (x0 == y0 && x1 == y1) = r) :
    Calls Try.prog 132 #[.agg #[.int .i64 x0, .int .i64 x1], .agg #[.int .i64 y0, .int .i64 y1]] w fun e w' => e = .returned (.bool r) ∧ Below w.heap.size w w' := by
  have HR := Aside0.mk hr
  clear hr
  go_enter Try.func132, Try.ntmps132
  go_upto_region 1 with (fail)
  generalize hwa : (w.alloc (Obj.cells #[Value.int .i64 x0, Value.int .i64 x1] 104)).alloc (Obj.cells #[Value.int .i64 y0, Value.int .i64 y1] 104) = wa
  have hba : Below w.heap.size w wa := by rw [← hwa]; exact below_alloc (below_alloc (Below.refl _ _) _) _
  have hk2 : wa.heap[w.heap.size]? = some (.cells #[.int .i64 x0, .int .i64 x1] 104 (0, 0)) := by rw [← hwa]; exact blk_alloc (blk_new _ _) _
  have hk3 : wa.heap[w.heap.size + 1]? = some (.cells #[.int .i64 y0, .int .i64 y1] 104 (0, 0)) := by rw [← hwa]; have h := blk_new (w.alloc (Obj.cells #[Value.int .i64 x0, Value.int .i64 x1] 104)) (Obj.cells #[Value.int .i64 y0, Value.int .i64 y1] 104); simpa using h
  have hx0 : wa.cell? ⟨w.heap.size, 0, none⟩ = some (.int .i64 x0) := (blk_cell hk2 0).trans rfl
  have hx1 : wa.cell? ⟨w.heap.size, 1, none⟩ = some (.int .i64 x1) := (blk_cell hk2 1).trans rfl
  have hy0 : wa.cell? ⟨w.heap.size + 1, 0, none⟩ = some (.int .i64 y0) := (blk_cell hk3 0).trans rfl
  have hy1 : wa.cell? ⟨w.heap.size + 1, 1, none⟩ = some (.int .i64 y1) := (blk_cell hk3 1).trans rfl
  have HBA := Aside0.mk hba
  clear hwa hba hk2 hk3
  go_wp2
  go_loopg [5] 2 (fun kq v5 w' => ∃ (i : Int) (q : Nat), v5 = .int .i64 i ∧ Aside0 (w' = wa.drewN q) ∧ Aside0 (i = 0 ∧ kq = 2 ∨ i = 1 ∧ kq = 1 ∧ x0 = y0 ∨ i = 2 ∧ x0 = y0 ∧ x1 = y1))
  case atStart => exact ⟨0, 0, rfl, ⟨rfl⟩, ⟨.inl ⟨rfl, rfl⟩⟩⟩
  case round =>
    obtain ⟨i, q, rfl, HW, HI⟩ := hrel
    have hw := HW.out
    subst hw
    clear HW
    rcases HI.out with ⟨rfl, rfl⟩ | ⟨rfl, rfl, e0⟩ | ⟨rfl, e0, e1⟩
    · clear HI
      by_cases e0 : x0 = y0
      · have b0 : (x0 == y0) = true := by simpa using e0
        have b1 : (x0 != y0) = false := by simpa using e0
        have E0 := Aside0.mk e0
        clear e0
        go_wp2
        go_quiet (fail)
        go_wp2
        go_roundg 1
        case measure => decide
        case rel => exact ⟨1, _, rfl, ⟨rfl⟩, ⟨.inr (.inl ⟨rfl, rfl, E0.out⟩)⟩⟩
      · have b0 : (x0 == y0) = false := by simpa using e0
        have b1 : (x0 != y0) = true := by simpa using e0
        have HR1 := Aside0.mk (show r = false by rw [← HR.out, b0]; rfl)
        clear e0 HR
        go_wp2
        go_quiet (fail)
        go_wp2
        go_ret
        exact ⟨by rw [HR1.out]; rfl, pw_below_drewN (pw_below_drewN HBA.out _) _⟩
    · clear HI
      have E0 := Aside0.mk e0
      clear e0
      by_cases e1 : x1 = y1
      · have b0 : (x1 == y1) = true := by simpa using e1
        have b1 : (x1 != y1) = false := by simpa using e1
        have E1 := Aside0.mk e1
        clear e1
        go_wp2
        go_quiet (fail)
        go_wp2
        go_roundg 0
        case measure => decide
        case rel => exact ⟨2, _, rfl, ⟨rfl⟩, ⟨.inr (.inr ⟨rfl, E0.out, E1.out⟩)⟩⟩
      · have b0 : (x1 == y1) = false := by simpa using e1
        have b1 : (x1 != y1) = true := by simpa using e1
        have HR1 := Aside0.mk (show r = false by rw [← HR.out, b0, Bool.and_false])
        clear e1 HR
        go_wp2
        go_quiet (fail)
        go_wp2
        go_ret
        exact ⟨by rw [HR1.out]; rfl, pw_below_drewN (pw_below_drewN HBA.out _) _⟩
    · have HR1 := Aside0.mk (show r = true by rw [← HR.out, e0, e1]; simp)
      clear e0 e1 HI HR
      go_wp2
      go_ret
      exact ⟨by rw [HR1.out]; rfl, pw_below_drewN HBA.out _⟩
theorem laws_eqIntA2.calls (a0_0 a0_1 a1_0 a1_1 : Int) (r : Bool) (w : World) (h : laws_eqIntA2.f a0_0 a0_1 a1_0 a1_1 = some r) :
    Calls Try.prog 132 #[.agg #[.int .i64 a0_0, .int .i64 a0_1], .agg #[.int .i64 a1_0, .int .i64 a1_1]] w fun e w' => e = .returned (.bool r) ∧ Below w.heap.size w w' :=
  eqA2_walk a0_0 a0_1 a1_0 a1_1 r w (Option.some.inj h)
def markA : List S104 → Int → List S104
  | [], _ => []
  | _ :: r, a => ⟨a, a + 1⟩ :: markA r (a + 2)
theorem markA_length : ∀ (l : List S104) (a : Int), (markA l a).length = l.length
  | [], _ => rfl
  | _ :: r, a => by simp only [markA, List.length_cons, markA_length r]
theorem markA_append : ∀ (l m : List S104) (a : Int), markA (l ++ m) a = markA l a ++ markA m (a + 2 * l.length)
  | [], m, a => by simp [markA]
  | _ :: r, m, a => by
    simp only [List.cons_append, markA, markA_append r, List.length_cons]
    rw [show a + 2 + 2 * (r.length : Int) = a + 2 * ((r.length + 1 : Nat) : Int) by omega]
/-- The list when i pairs have been marked. -/
def midA (a : Int) (l : List S104) (i : Nat) : List S104 := markA (l.take i) a ++ l.drop i
theorem midA_length (a : Int) (l : List S104) (i : Nat) (h : i ≤ l.length) : (midA a l i).length = l.length := by
  unfold midA
  rw [List.length_append, markA_length, List.length_take, List.length_drop]
  omega
theorem midA_step (a : Int) (l : List S104) (i : Nat) (h : i < l.length) : (midA a l i).set i ⟨a + 2 * i, a + 2 * i + 1⟩ = midA a l (i + 1) := by
  unfold midA
  have hl : (markA (l.take i) a).length = i := by rw [markA_length, List.length_take]; omega
  have hd : l.drop i = l.getD i z104 :: l.drop (i + 1) := by
    rw [List.drop_eq_getElem_cons h, List.getD_eq_getElem?_getD, List.getElem?_eq_getElem h]; rfl
  have ht : l.take (i + 1) = l.take i ++ [l.getD i z104] := by
    rw [List.take_succ_eq_append_getElem h, List.getD_eq_getElem?_getD, List.getElem?_eq_getElem h]; rfl
  rw [List.set_append_right _ _ (by omega), hl, Nat.sub_self, hd, List.set_cons_zero, ht, markA_append]
  simp only [markA, List.append_assoc, List.singleton_append, List.length_take]
  rw [Nat.min_eq_left (Nat.le_of_lt h)]
theorem putA2 {W : World} {base : Nat} {ok : Nat → Prop} {g n cap : Nat} {xs : List S104} (h : Kd.R k104 104 W base ok (.slice (some ⟨g, 0, none⟩) n cap) xs) (i : Nat) (h1 : i < n) (v : Int) :
    (W.frozen? ⟨g, i * 2, none⟩ = false ∧ Kd.R k104 104 (W.setCell ⟨g, i * 2, none⟩ (.int .i64 v)) base ok (.slice (some ⟨g, 0, none⟩) n cap) (xs.set i ⟨v, (xs.getD i z104).f1⟩) ∧ W.grownBy (W.setCell ⟨g, i * 2, none⟩ (.int .i64 v)) (some g)) ∧
    (W.frozen? ⟨g, i * 2 + 1, none⟩ = false ∧ Kd.R k104 104 (W.setCell ⟨g, i * 2 + 1, none⟩ (.int .i64 v)) base ok (.slice (some ⟨g, 0, none⟩) n cap) (xs.set i ⟨(xs.getD i z104).f0, v⟩) ∧ W.grownBy (W.setCell ⟨g, i * 2 + 1, none⟩ (.int .i64 v)) (some g)) ∧
    W.cell? ⟨g, i * 2, none⟩ = some (.int .i64 (xs.getD i z104).f0) ∧ W.cell? ⟨g, i * 2 + 1, none⟩ = some (.int .i64 (xs.getD i z104).f1) := by
  obtain ⟨c, hcl, hM, hcc, hfr⟩ := Kd.R_elem h z104 (i : Int) (by omega) (by omega)
  rw [Int.toNat_natCast] at hM hcc hfr
  have hc := k104_openM hM
  subst hc
  have p0 := Kd.R_seg h (i : Int) (by omega) (by omega) (seg := [.int .i64 v]) (j := 0) hcl (by rw [Int.toNat_natCast]; exact hcc) (show 1 ≤ 2 from by decide) (x' := ⟨v, (xs.getD i z104).f1⟩) (okp := fun k => ok k ∧ k ≠ g) (k104_mkM _ _ _ _) (fun _ hk => hk)
  have p1 := Kd.R_seg h (i : Int) (by omega) (by omega) (seg := [.int .i64 v]) (j := 1) hcl (by rw [Int.toNat_natCast]; exact hcc) (show 2 ≤ 2 from by decide) (x' := ⟨(xs.getD i z104).f0, v⟩) (okp := fun k => ok k ∧ k ≠ g) (k104_mkM _ _ _ _) (fun _ hk => hk)
  rw [Int.toNat_natCast] at p0 p1
  exact ⟨⟨hfr 0, p0⟩, ⟨hfr 1, p1⟩, hcc 0 _ rfl, hcc 1 _ rfl⟩
theorem setA2 {M L N : List S104} {i n : Nat} {b m : Int} (hn : M.length = n) (hi : i < n) (hs : M.set i ⟨b, b + 1⟩ = N) (hL : L = M.set i ⟨b, (M.getD i z104).f1⟩) (hm : m = b + 1) : L.set i ⟨(L.getD i z104).f0, m⟩ = N := by
  have e : (L.getD i z104).f0 = b := by
    rw [hL, List.getD_eq_getElem?_getD, List.getElem?_set_self (by omega)]
    rfl
  rw [e, hm, hL, List.set_set, hs]
set_option maxHeartbeats 4000000 in
set_option maxRecDepth 100000 in
theorem markA_walk (w0 w : World) (P : Nat → Prop) (u : Value) (l : List S104) (a : Int) (h0 : 0 ≤ a) (h1 : a + 2 * l.length ≤ 1000000000) (hl : l.length ≤ 1048576) (hB : Below w0.heap.size w0 w)
    (hR : Kd.R k104 104 w w0.heap.size P u l) :
    Calls Try.prog 62 #[u, .int .i64 a] w fun e w' => e = .returned (.int .i64 (a + 2 * l.length)) ∧ Kd.R k104 104 w' w0.heap.size (fun k => P k ∨ w.heap.size ≤ k) u (markA l a) ∧ Below w0.heap.size w0 w' ∧ Kept w w' P := by
  obtain ⟨A, c, rfl⟩ := Kd.R_slice hR
  have HR := Aside0.mk (Kd.R_mono (ok' := fun k => P k ∨ w.heap.size ≤ k) hR (fun k hk => .inl hk))
  have HB := Aside0.mk hB
  have HZ := Aside0.mk h0
  have H1 := Aside0.mk h1
  have HL := Aside0.mk hl
  have HMZ := Aside0.mk (show midA a l 0 = l by simp [midA, markA])
  have HME := Aside0.mk (show midA a l l.length = markA l a by simp [midA])
  clear hR hB h0 h1 hl
  go_enter Try.func62, Try.ntmps62
  go_wp2
  go_loopg [1, 5] l.length (fun kq v1 v5 w' => ∃ i : Nat, v1 = .int .i64 (a + 2 * (i : Int)) ∧ v5 = .int .i64 (i : Int) ∧ Aside0 (i ≤ l.length ∧ l.length - i ≤ kq) ∧ Aside0 (Kd.R k104 104 w' w0.heap.size (fun k => P k ∨ w.heap.size ≤ k) (.slice A l.length c) (midA a l i)) ∧ Aside0 (Below w0.heap.size w0 w') ∧ Aside0 (Kept w w' P))
  case atStart => exact ⟨0, by simp, rfl, ⟨Nat.zero_le _, by omega⟩, ⟨by rw [HMZ.out]; exact HR.out⟩, HB, ⟨Kept.refl _ _⟩⟩
  case round =>
    clear HR HB
    obtain ⟨i, rfl, rfl, HN, HR, HB, HK⟩ := hrel
    by_cases hlt : i < l.length
    · have c3b0 : decide ((i : Int) < (l.length : Int)) = true := decide_eq_true (by omega)
      have c3b1 : decide (i < l.length) = true := decide_eq_true hlt
      have HLT := Aside0.mk hlt
      have HML := Aside0.mk (midA_length a l i (by omega))
      have HMS := Aside0.mk (midA_step a l i hlt)
      obtain ⟨g, c', e, hg1, hg2, hg3⟩ := Kd.R_form HR.out (by have := HML.out; omega)
      rw [HML.out] at e
      cases e
      have HG1 := Aside0.mk hg1
      have hw1 : wrap64 ((i : Int) + 1) = ((i + 1 : Nat) : Int) := by have := HL.out; unfold wrap64; omega
      have HW1 := Aside0.mk hw1
      clear hw1 hlt hg1 hg2 hg3
      go_wp2
      go_loopg [1, 6] 2 (fun kq v1 v6 w' => ∃ (j m : Int) (L : List S104), v1 = .int .i64 m ∧ v6 = .int .i64 j ∧ Aside0 (j = 0 ∧ kq = 2 ∧ m = a + 2 * i ∧ L = midA a l i ∨ j = 1 ∧ kq = 1 ∧ m = a + 2 * i + 1 ∧ L = (midA a l i).set i ⟨a + 2 * i, ((midA a l i).getD i z104).f1⟩ ∨ j = 2 ∧ kq = 0 ∧ m = a + 2 * i + 2 ∧ L = midA a l (i + 1)) ∧ Aside0 (Kd.R k104 104 w' w0.heap.size (fun k => P k ∨ w.heap.size ≤ k) (.slice (some ⟨g, 0, none⟩) l.length c) L) ∧ Aside0 (Below w0.heap.size w0 w') ∧ Aside0 (Kept w w' P))
      case atStart => exact ⟨0, a + 2 * i, midA a l i, rfl, rfl, ⟨.inl ⟨rfl, rfl, rfl, rfl⟩⟩, HR, HB, HK⟩
      case round =>
        clear HR HB HK
        obtain ⟨j, m, L, rfl, rfl, HJ, HR, HB, HK⟩ := hrel
        rcases HJ.out with ⟨rfl, rfl, hm, hL⟩ | ⟨rfl, rfl, hm, hL⟩ | ⟨rfl, rfl, hm, hL⟩
        · clear HJ
          have HM := Aside0.mk hm
          have HLL := Aside0.mk hL
          have m0 : 0 ≤ m := by have := HZ.out; omega
          have m1 : m ≤ 1000000000 := by have := H1.out; have := HLT.out; omega
          clear hm hL
          obtain ⟨⟨hf, hp⟩, _, _⟩ := putA2 HR.out i HLT.out m
          have HP := Aside0.mk hp
          have i0 : 0 ≤ (i : Int) := by omega
          have i1 : (i : Int) < (l.length : Int) := by have := HLT.out; omega
          clear hp
          go_wp2
          go_roundg 1
          case measure => decide
          case rel => exact ⟨1, m + 1, _, rfl, rfl, ⟨.inr (.inl ⟨rfl, rfl, by rw [HM.out], by rw [HLL.out, HM.out]⟩)⟩, ⟨HP.out.1⟩, ⟨below_set HB.out HG1.out⟩, ⟨Kept.of_grown (S := P) HP.out.2 HK.out (fun k e => HR.out.1 k e)⟩⟩
        · clear HJ
          have HM := Aside0.mk hm
          have HLL := Aside0.mk hL
          have m0 : 0 ≤ m := by have := HZ.out; omega
          have m1 : m ≤ 1000000000 := by have := H1.out; have := HLT.out; omega
          clear hm hL
          obtain ⟨_, ⟨hf, hp⟩, _⟩ := putA2 HR.out i HLT.out m
          have HP := Aside0.mk hp
          have i0 : 0 ≤ (i : Int) := by omega
          have i1 : (i : Int) < (l.length : Int) := by have := HLT.out; omega
          clear hp
          go_wp2
          go_roundg 0
          case measure => decide
          case rel => exact ⟨2, m + 1, _, rfl, rfl, ⟨.inr (.inr ⟨rfl, rfl, by rw [HM.out]; omega, setA2 HML.out HLT.out HMS.out HLL.out HM.out⟩)⟩, ⟨HP.out.1⟩, ⟨below_set HB.out HG1.out⟩, ⟨Kept.of_grown (S := P) HP.out.2 HK.out (fun k e => HR.out.1 k e)⟩⟩
        · clear HJ
          have HM := Aside0.mk hm
          have HLL := Aside0.mk hL
          have m0 : 0 ≤ m := by have := HZ.out; omega
          have m1 : m ≤ 1000000000 := by have := H1.out; have := HLT.out; omega
          have n1 : (i : Int) ≤ 1048576 := by have := HL.out; have := HLT.out; omega
          clear hm hL
          go_wp2
          go_roundg (l.length - (i + 1))
          case measure => have := HN.out; have := HLT.out; omega
          case rel => exact ⟨i + 1, by rw [HM.out]; congr 1; omega, rfl, ⟨by have := HLT.out; omega, Nat.le_refl _⟩, ⟨by rw [← HLL.out]; exact HR.out⟩, HB, HK⟩
    · have c3b0 : decide ((i : Int) < (l.length : Int)) = false := decide_eq_false (by omega)
      have c3b1 : decide (i < l.length) = false := decide_eq_false hlt
      have hi : i = l.length := by have := HN.out; omega
      subst hi
      clear hlt
      go_wp2
      go_ret
      exact ⟨rfl, by rw [← HME.out]; exact HR.out, HB.out, HK.out⟩
def laws_markIntA2S.f (l : List S104) (a : Int) : Option (Int × List S104) := if 0 ≤ a ∧ a + 2 * l.length ≤ 1000000000 ∧ l.length ≤ 1048576 then some (a + 2 * l.length, markA l a) else none
theorem laws_markIntA2S.calls (P0_ : Nat → Prop) (u9000_ : Value) (l0 : List S104) (a1 : Int) (r1 : Int) (r2 : List S104) (w0 w : World) (hB : Below w0.heap.size w0 w) (ho0 : Kd.R k104 104 w w0.heap.size P0_ u9000_ l0) (h : laws_markIntA2S.f l0 a1 = some (r1, r2)) :
    Calls Try.prog 62 #[u9000_, .int .i64 a1] w fun e w' => e = .returned (.int .i64 r1) ∧ Kd.R k104 104 w' w0.heap.size (fun k_ => (P0_ k_ ∨ w.heap.size ≤ k_)) u9000_ r2 ∧ Below w0.heap.size w0 w' ∧ Kept w w' (fun k_ => P0_ k_) := by
  unfold laws_markIntA2S.f at h
  split at h
  · rename_i hb
    cases h
    exact markA_walk w0 w P0_ u9000_ l0 a1 hb.1 hb.2.1 hb.2.2 hB ho0
  · cases h
def heldA : List S104 → Int → Int
  | [], a => a
  | x :: r, a => if x.f0 = a then (if x.f1 = a + 1 then heldA r (a + 2) else -1) else -1
set_option maxHeartbeats 4000000 in
set_option maxRecDepth 100000 in
theorem heldA_walk (A : Option Addr) (c : Nat) (l : List S104) (a r : Int) (w : World) (h0 : 0 ≤ a) (h1 : a + 2 * l.length ≤ 1000000000) (hl : l.length ≤ 1048576) (hC : Kd.C k104 w A l.length l) (hc : l.length ≤ c) (hr : heldA l a = r) :
    Calls Try.prog 63 #[.slice A l.length c, .int .i64 a] w fun e w' => e = .returned (.int .i64 r) ∧ Drawn0 w w' := by
  have HC := Aside0.mk hC
  have HZ := Aside0.mk h0
  have H1 := Aside0.mk h1
  have HL := Aside0.mk hl
  have HR := Aside0.mk hr
  clear hC h0 h1 hl hr hc
  go_enter Try.func63, Try.ntmps63
  go_wp2
  go_loopg [1, 5] l.length (fun kq v1 v5 w' => ∃ (i : Nat) (m : Int), v1 = .int .i64 m ∧ v5 = .int .i64 (i : Int) ∧ Aside0 (w' = w) ∧ Aside0 (m = a + 2 * (i : Int)) ∧ Aside0 (i ≤ l.length ∧ l.length - i ≤ kq) ∧ Aside0 (heldA (l.drop i) m = r))
  case atStart => exact ⟨0, a, rfl, rfl, ⟨rfl⟩, ⟨by simp⟩, ⟨Nat.zero_le _, by omega⟩, ⟨by simpa using HR.out⟩⟩
  case round =>
    clear HR
    obtain ⟨i, m, rfl, rfl, HW, HM, HN, HR⟩ := hrel
    have hw := HW.out.symm
    subst hw
    clear HW
    by_cases hlt : i < l.length
    · have c3b0 : decide ((i : Int) < (l.length : Int)) = true := decide_eq_true (by omega)
      have c3b1 : decide (i < l.length) = true := decide_eq_true hlt
      have HLT := Aside0.mk hlt
      obtain ⟨ad, rfl, hx0, hx1⟩ := at_T104 HC.out (i : Int) (by omega) (by omega)
      have hd : l.drop i = rd_T104 l (i : Int) :: l.drop (i + 1) := by
        rw [List.drop_eq_getElem_cons hlt]
        unfold rd_T104
        rw [Int.toNat_natCast, List.getD_eq_getElem?_getD, List.getElem?_eq_getElem hlt]; rfl
      rw [Int.toNat_natCast] at hx0 hx1
      have hR := HR.out
      rw [hd, heldA] at hR
      have i0 : 0 ≤ (i : Int) := by omega
      have i1 : (i : Int) < (l.length : Int) := by omega
      have m0 : 0 ≤ m := by have := HZ.out; have := HM.out; omega
      have m1 : m ≤ 1000000000 := by have := H1.out; have := HM.out; omega
      generalize rd_T104 l (i : Int) = x at hR hx0 hx1
      clear hlt hd HR
      have HR := Aside0.mk hR
      clear hR
      go_wp2
      go_loopg [1, 6] 2 (fun kq v1 v6 w'' => ∃ (j p : Int), v1 = .int .i64 p ∧ v6 = .int .i64 j ∧ Aside0 (w'' = w) ∧ Aside0 (j = 0 ∧ kq = 2 ∧ p = m ∨ j = 1 ∧ kq = 1 ∧ p = m + 1 ∧ x.f0 = m ∨ j = 2 ∧ kq = 0 ∧ p = m + 2 ∧ x.f0 = m ∧ x.f1 = m + 1))
      case atStart => exact ⟨0, m, rfl, rfl, ⟨rfl⟩, ⟨.inl ⟨rfl, rfl, rfl⟩⟩⟩
      case round =>
        obtain ⟨j, p, rfl, rfl, HW, HJ⟩ := hrel
        have hw := HW.out.symm
        subst hw
        clear HW
        rcases HJ.out with ⟨rfl, rfl, hp⟩ | ⟨rfl, rfl, hp, he⟩ | ⟨rfl, rfl, hp, he, hf⟩
        · clear HJ
          have HP := Aside0.mk hp
          have p0 : 0 ≤ p := by omega
          have p1 : p ≤ 1000000002 := by omega
          clear hp
          by_cases e : x.f0 = p
          · have b0 : (x.f0 == p) = true := by simpa using e
            have b1 : (x.f0 != p) = false := by simpa using e
            have E := Aside0.mk e
            clear e
            go_wp2
            go_roundg 1
            case measure => decide
            case rel => exact ⟨1, p + 1, rfl, rfl, ⟨rfl⟩, ⟨.inr (.inl ⟨rfl, rfl, by rw [HP.out], by rw [E.out, HP.out]⟩)⟩⟩
          · have b0 : (x.f0 == p) = false := by simpa using e
            have b1 : (x.f0 != p) = true := by simpa using e
            have HRR := Aside0.mk (show r = -1 by rw [← HR.out, if_neg (fun z => e (z.trans HP.out.symm))])
            clear e
            go_wp2
            go_ret
            exact ⟨by rw [HRR.out]; rfl, Drawn0.refl _⟩
        · clear HJ
          have HP := Aside0.mk hp
          have HE := Aside0.mk he
          have p0 : 0 ≤ p := by omega
          have p1 : p ≤ 1000000002 := by omega
          clear hp he
          by_cases e : x.f1 = p
          · have b0 : (x.f1 == p) = true := by simpa using e
            have b1 : (x.f1 != p) = false := by simpa using e
            have E := Aside0.mk e
            clear e
            go_wp2
            go_roundg 0
            case measure => decide
            case rel => exact ⟨2, p + 1, rfl, rfl, ⟨rfl⟩, ⟨.inr (.inr ⟨rfl, rfl, by rw [HP.out]; omega, HE.out, by rw [E.out, HP.out]⟩)⟩⟩
          · have b0 : (x.f1 == p) = false := by simpa using e
            have b1 : (x.f1 != p) = true := by simpa using e
            have HRR := Aside0.mk (show r = -1 by rw [← HR.out, if_pos HE.out, if_neg (fun z => e (z.trans HP.out.symm))])
            clear e
            go_wp2
            go_ret
            exact ⟨by rw [HRR.out]; rfl, Drawn0.refl _⟩
        · clear HJ
          have HR2 := Aside0.mk (show heldA (l.drop (i + 1)) p = r by rw [← HR.out, if_pos he, if_pos hf, hp])
          have HP := Aside0.mk hp
          have p0 : 0 ≤ p := by omega
          have p1 : p ≤ 1000000002 := by omega
          have n1 : (i : Int) ≤ 1048576 := by have := HL.out; have := HLT.out; omega
          clear hp he hf
          go_wp2
          go_roundg (l.length - (i + 1))
          case measure => have := HN.out; have := HLT.out; omega
          case rel => exact ⟨i + 1, p, rfl, rfl, ⟨rfl⟩, ⟨by rw [HP.out, HM.out]; omega⟩, ⟨by have := HLT.out; omega, Nat.le_refl _⟩, HR2⟩
    · have c3b0 : decide ((i : Int) < (l.length : Int)) = false := decide_eq_false (by omega)
      have c3b1 : decide (i < l.length) = false := decide_eq_false hlt
      have hR := HR.out
      rw [List.drop_of_length_le (by omega), heldA] at hR
      subst hR
      clear hlt HR
      go_wp2
      go_ret
      exact ⟨rfl, Drawn0.refl _⟩
def laws_heldIntA2S.f (l : List S104) (a : Int) : Option Int := if 0 ≤ a ∧ a + 2 * l.length ≤ 1000000000 ∧ l.length ≤ 1048576 then some (heldA l a) else none
theorem laws_heldIntA2S.calls (A0 : Option Addr) (c0 : Nat) (l0 : List S104) (a1 : Int) (r : Int) (w : World) (hr0 : Kd.C k104 w A0 l0.length l0) (hc0 : l0.length ≤ c0) (h : laws_heldIntA2S.f l0 a1 = some r) :
    Calls Try.prog 63 #[.slice A0 l0.length c0, .int .i64 a1] w fun e w' => e = .returned (.int .i64 r) ∧ Drawn0 w w' := by
  unfold laws_heldIntA2S.f at h
  split at h
  · rename_i hb
    exact heldA_walk A0 c0 l0 a1 r w hb.1 hb.2.1 hb.2.2 hr0 hc0 (Option.some.inj h)
  · cases h
theorem heldA_mark : ∀ (l : List S104) (a : Int), 0 ≤ a → heldA (markA l a) a = a + 2 * l.length
  | [], a, _ => by simp [heldA, markA]
  | x :: r, a, h => by
    simp only [markA, heldA, if_true, List.length_cons]
    rw [heldA_mark r (a + 2) (by omega)]
    omega
end Go.Proofs.Ytlldonokjgoajaa.X
