/- The laws' marks on a yard, walked by hand: every number of every stack gets a number of its own; the rows lie apart. -/
import Derived.Test.YtlldonokjgoajaaMYard
import Derived.Test.YtlldonokjgoajaaFbHelpR
import Derived.Lib.Walk
import Derived.Deep.LoopGhost
namespace Go.Proofs.Ytlldonokjgoajaa.X
open Go.RowKit Go.Lib Go.Proofs.YtlldonokjgoajaaW.PrintWords Go.Proofs.YtlldonokjgoajaaW.PrintLast Go.Proofs.YtlldonokjgoajaaW.PrintMore
set_option linter.unusedVariables false
set_option linter.unusedSimpArgs false

/-- The rows, each filled with numbers going up from a. -/
def markR (a : Int) : List (List Int) → List (List Int)
  | [] => []
  | s :: r => upFrom a s.length :: markR (a + s.length) r
theorem markR_length (ss : List (List Int)) : ∀ a, (markR a ss).length = ss.length := by
  induction ss with
  | nil => intro a; rfl
  | cons s r ih => intro a; simp only [markR, List.length_cons, ih]
theorem tot_append (l m : List (List Int)) : tot (l ++ m) = tot l + tot m := by
  induction l with
  | nil => simp [tot]
  | cons s r ih => simp only [List.cons_append, tot, ih]; omega
theorem markR_append (l m : List (List Int)) : ∀ a, markR a (l ++ m) = markR a l ++ markR (a + tot l) m := by
  induction l with
  | nil => intro a; simp [markR, tot]
  | cons s r ih =>
    intro a
    simp only [List.cons_append, markR, tot, ih]
    rw [show a + ((s.length + tot r : Nat) : Int) = a + (s.length : Int) + (tot r : Int) by omega]
/-- The rows when i of them have been marked. -/
def midR (a : Int) (ss : List (List Int)) (i : Nat) : List (List Int) := markR a (ss.take i) ++ ss.drop i
theorem midR_length (a : Int) (ss : List (List Int)) (i : Nat) (h : i ≤ ss.length) : (midR a ss i).length = ss.length := by
  unfold midR
  rw [List.length_append, markR_length, List.length_take, List.length_drop]
  omega
theorem midR_get (a : Int) (ss : List (List Int)) (i : Nat) (h : i < ss.length) : (midR a ss i).getD i [] = ss.getD i [] := by
  unfold midR
  have hl : (markR a (ss.take i)).length = i := by rw [markR_length, List.length_take]; omega
  rw [List.getD_eq_getElem?_getD, List.getElem?_append_right (by omega), hl, List.getElem?_drop, List.getD_eq_getElem?_getD]
  simp
theorem midR_step (a : Int) (ss : List (List Int)) (i : Nat) (h : i < ss.length) : (midR a ss i).set i (upFrom (a + tot (ss.take i)) (ss.getD i []).length) = midR a ss (i + 1) := by
  unfold midR
  have hl : (markR a (ss.take i)).length = i := by rw [markR_length, List.length_take]; omega
  rw [List.set_append_right _ _ (by omega), hl, Nat.sub_self, getD_cons (z := ([] : List Int)) h, List.set_cons_zero, take_succ_getD (z := ([] : List Int)) h, markR_append]
  simp only [markR, List.append_assoc, List.singleton_append]
theorem tot_take_succ (ss : List (List Int)) (i : Nat) (h : i < ss.length) : tot (ss.take (i + 1)) = tot (ss.take i) + (ss.getD i []).length := by
  rw [take_succ_getD (z := ([] : List Int)) h, tot_append]
  simp [tot]
theorem tot_take_le (ss : List (List Int)) (i : Nat) : tot (ss.take i) ≤ tot ss := by
  have : tot ss = tot (ss.take i) + tot (ss.drop i) := by rw [← tot_append, List.take_append_drop]
  omega

set_option maxHeartbeats 4000000 in
set_option maxRecDepth 100000 in
theorem markIntSS_walk (w0 w : World) (P : Nat → Prop) (u : Value) (ss : List (List Int)) (a : Int) (h0 : 0 ≤ a) (h1 : a + tot ss ≤ 1000000000) (hl : ss.length ≤ 1048576) (hB : Below w0.heap.size w0 w)
    (hS : Kd.S (Kd.slice 3 (Kd.int .i64)) 24 w w0.heap.size P u ss) :
    Calls Try.prog 111 #[u, .int .i64 a] w fun e w' => e = .returned (.int .i64 (a + tot ss)) ∧ Kd.S (Kd.slice 3 (Kd.int .i64)) 24 w' w0.heap.size (fun k => P k ∨ w.heap.size ≤ k) u (markR a ss) ∧ Below w0.heap.size w0 w' ∧ Kept w w' P := by
  obtain ⟨A, c, rfl⟩ := Kd.S_slice hS
  have hS' := Kd.S_mono (ok' := fun k => P k ∨ w.heap.size ≤ k) hS (fun k hk => .inl hk)
  have HS := Aside0.mk hS'
  have HB := Aside0.mk hB
  have HZ := Aside0.mk h0
  have H1 := Aside0.mk h1
  have HL := Aside0.mk hl
  have HMZ := Aside0.mk (show midR a ss 0 = ss by simp [midR, markR])
  have HME := Aside0.mk (show midR a ss ss.length = markR a ss by simp [midR])
  clear hS hS' hB h0 h1 hl
  go_enter Try.func111, Try.ntmps111
  go_wp2
  go_loopg [1, 5] ss.length (fun kq v1 v5 w' => ∃ i : Nat, v1 = .int .i64 (a + tot (ss.take i)) ∧ v5 = .int .i64 (i : Int) ∧ Aside0 (i ≤ ss.length ∧ ss.length - i ≤ kq) ∧ Aside0 (Kd.S (Kd.slice 3 (Kd.int .i64)) 24 w' w0.heap.size (fun k => P k ∨ w.heap.size ≤ k) (.slice A ss.length c) (midR a ss i)) ∧ Aside0 (Below w0.heap.size w0 w') ∧ Aside0 (Kept w w' P))
  case atStart => exact ⟨0, by simp [tot], rfl, ⟨Nat.zero_le _, by omega⟩, ⟨by rw [HMZ.out]; exact HS.out⟩, HB, ⟨Kept.refl _ _⟩⟩
  case round =>
    clear HS HB
    obtain ⟨i, rfl, rfl, HN, HS, HB, HK⟩ := hrel
    by_cases hlt : i < ss.length
    · have c3b0 : decide ((i : Int) < (ss.length : Int)) = true := decide_eq_true (by omega)
      have c3b1 : decide (i < ss.length) = true := decide_eq_true hlt
      have HLT := Aside0.mk hlt
      have hml := midR_length a ss i (by omega)
      obtain ⟨g, c', e, hg1, hg2, hg3⟩ := Kd.S_form HS.out (by omega)
      rw [hml] at e
      cases e
      obtain ⟨oki, ce, hcl, hM, hcc, hfr, hoki, hH⟩ := Kd.S_elem HS.out ([] : List Int) (i : Int) (by omega) (by omega)
      obtain ⟨ve, rfl, hR⟩ := hM
      rw [Int.toNat_natCast, midR_get a ss i hlt] at hR
      have hc := hcc 0 _ rfl
      have hf := hfr 0
      simp only [show (Kd.slice 3 (Kd.int .i64)).sz = 1 from rfl, Nat.mul_one, Nat.add_zero, Int.toNat_natCast] at hc hf
      have hw1 : wrap64 ((i : Int) + 1) = ((i + 1 : Nat) : Int) := wnext hlt (by have := HL.out; omega)
      have q0 : ((i : Int) < (ss.length : Int)) = True := eq_true (by omega)
      have q3 : (0 ≤ (i : Int)) = True := eq_true (by omega)
      have HR := Aside0.mk hR
      have HH := Aside0.mk hH
      have HO := Aside0.mk hoki
      have HT := Aside0.mk (tot_take_succ ss i hlt)
      have HT2 := Aside0.mk (tot_take_le ss (i + 1))
      have HC := Aside0.mk (markIntS_ends (ss.getD i []) (a + tot (ss.take i)) (by have := HZ.out; omega) (by have := H1.out; have := HT.out; have := HT2.out; omega) ((ss.getD i []).length + 1) (by omega))
      clear hR hH hoki hlt hcl hcc hfr hg1 hg2 hg3 hml
      go_wp2_with (go_at_call 66; refine (laws_markIntS.calls _ oki ve (ss.getD i []) _ _ _ w0 _ HB.out HR.out HC.out).mono ?_; rintro e w2 ⟨rfl, hR2, hB2, hK2⟩; have HR2 := Aside0.mk hR2; have HB2 := Aside0.mk hB2; have HK2 := Aside0.mk hK2; clear hR2 hB2 hK2)
      go_roundg (ss.length - (i + 1))
      case measure => have := HN.out; have := HLT.out; omega
      case rel =>
        have hH2 := Kd.H_step (w1 := w2) (Kd.H_widen HH.out) (fun k _ hn hlt => HK2.out.2 k hlt (fun h => hn (.inl h)))
        have hS2 := Kd.H_back hH2 (Kd.M_row HR2.out) (fun k hk => hk.imp_right (fun h => ⟨.inr (Nat.le_trans HK.out.1 h), h⟩))
        rw [Int.toNat_natCast, midR_step _ _ _ HLT.out] at hS2
        refine ⟨i + 1, ?_, by rw [hw1], ⟨by have := HLT.out; omega, Nat.le_refl _⟩, ⟨hS2⟩, HB2, ⟨HK.out.then_ HK2.out (fun k hk => (HO.out k hk).1)⟩⟩
        show Value.int .i64 (a + tot (ss.take i) + ((ss.getD i []).length : Int)) = _
        rw [HT.out]
        congr 1
        omega
    · have c3b0 : decide ((i : Int) < (ss.length : Int)) = false := decide_eq_false (by omega)
      have c3b1 : decide (i < ss.length) = false := decide_eq_false hlt
      have hi : i = ss.length := by have := HN.out; omega
      subst hi
      clear hlt
      go_wp2
      go_ret
      exact ⟨by rw [List.take_length]; rfl, by rw [← HME.out]; exact HS.out, HB.out, HK.out⟩

set_option maxHeartbeats 4000000 in
set_option maxRecDepth 100000 in
theorem markYard_walk (w0 w : World) (P : Nat → Prop) (u : Value) (ss : List (List Int)) (a : Int) (h0 : 0 ≤ a) (h1 : a + tot ss ≤ 1000000000) (hl : ss.length ≤ 1048576) (hB : Below w0.heap.size w0 w)
    (hS : Kd.S (Kd.slice 3 (Kd.int .i64)) 24 w w0.heap.size P u ss) :
    Calls Try.prog 33 #[.agg #[u], .int .i64 a] w fun e w' => e = .returned (.int .i64 (a + tot ss)) ∧ Kd.S (Kd.slice 3 (Kd.int .i64)) 24 w' w0.heap.size (fun k => P k ∨ w.heap.size ≤ k) u (markR a ss) ∧ Below w0.heap.size w0 w' ∧ Kept w w' P := by
  obtain ⟨A, c, rfl⟩ := Kd.S_slice hS
  have HS := Aside0.mk hS
  have HB := Aside0.mk hB
  have HZ := Aside0.mk h0
  have H1 := Aside0.mk h1
  have HL := Aside0.mk hl
  clear hS hB h0 h1 hl
  go_enter Try.func33, Try.ntmps33
  go_wp2_with (go_at_call 111; refine (markIntSS_walk w0 _ P _ ss a HZ.out H1.out HL.out (below_alloc HB.out _) (Kd.S_alloc HS.out _)).mono ?_; rintro e w2 ⟨rfl, hS2, hB2, hK2⟩; have HS2 := Aside0.mk hS2; have HB2 := Aside0.mk hB2; have HK2 := Aside0.mk hK2; clear hS2 hB2 hK2)
  go_ret
  refine ⟨rfl, Kd.S_mono HS2.out (fun k hk => hk.imp_right (fun h => Nat.le_trans (by simp) h)), HB2.out, ?_⟩
  exact (Kept.alloc (Kept.refl _ _) _).then_ HK2.out (fun k hk => .inl hk)
end Go.Proofs.Ytlldonokjgoajaa.X
