/- The law FnStacks answers true for every code. No condition beyond the form's own. -/
import Derived.Test.YtlldonokjgoajaaSFnStacks
import Derived.Test.YtlldonokjgoajaaMYardD
import Derived.Test.YtlldonokjgoajaaMDrawY
import Derived.Test.YtlldonokjgoajaaMVY
namespace Go.Proofs.Ytlldonokjgoajaa.Pure
open Go.RowKit Go.Proofs.Ytlldonokjgoajaa.X Go.Proofs.YtlldonokjgoajaaW.PrintWords Go.Proofs.YtlldonokjgoajaaW.PrintLast
set_option linter.unusedVariables false
set_option linter.unusedSimpArgs false
def putL (ss : List (List Int)) (i : Nat) (n : Int) : List (List Int) := ss.set i (ss.getD i [] ++ [n])
def putA (ss : List (List Int)) (s n : Int) : List (List Int) × Bool := if stackB ss s = true ∧ goodY (putL ss s.toNat n) = true then (putL ss s.toNat n, true) else ([], false)
theorem put_both (ss : List (List Int)) (s n : Int) (k : Nat) (hk : 200 ≤ k) : spec_PutBox.f k ss s n = some (putA ss s n) ∧ impl_PutBox.f k ss s n = some (putA ss s n) := by
  unfold spec_PutBox.f impl_PutBox.f putA
  rw [l5Stack_ends _ _ _ hk, hasStack_one]
  simp only [Option.bind_some]
  by_cases h : stackB ss s = true
  · obtain ⟨hg, i, rfl, hi⟩ := stackB_nat h
    have h4 := goodY_row hg i
    obtain ⟨o1, o2⟩ := own_ends ss hg k hk
    have p1 : 0 ≤ (i : Int) := by omega
    have p2 : (i : Int) < (ss.length : Int) := by omega
    have p3 : (rd_L2 ss (i : Int)).length < 17592186044416 := by rw [rdL_nat]; omega
    have e : ss.set i (rd_L2 ss (i : Int) ++ [n]) = putL ss i n := rfl
    simp only [if_pos h, o1, o2, Option.bind_some, if_pos p1, if_pos p2, if_pos p3, impl_IsValidYard.f, Int.toNat_natCast, e]
    rw [spec_goodY _ _ hk]
    simp only [Option.bind_some]
    by_cases h2 : goodY (putL ss i n) = true
    · rw [if_pos h2, if_pos ⟨h, h2⟩]
      exact ⟨rfl, rfl⟩
    · rw [if_neg h2, if_neg (fun z => h2 z.2)]
      exact ⟨rfl, rfl⟩
  · rw [if_neg h, if_neg h, if_neg (fun z => h z.1)]
    exact ⟨rfl, rfl⟩
theorem top_impl (m : List (List Int)) (i : Nat) (hg : goodY m = true) (hi : i < m.length) (k : Nat) : impl_TopOf.f k m (i : Int) = some (topY (m.getD i []), true) := by
  unfold impl_TopOf.f
  have h4 := goodY_row hg i
  have hs : stackB m (i : Int) = true := by unfold stackB; rw [hg]; simp only [Bool.true_and, inB_iff]; omega
  rw [hasStack_one, hs, Option.bind_some, if_pos rfl, if_pos (by omega), if_pos (by omega), rdL_nat, topOf_ends _ (by omega)]
  rfl
theorem place_impl (m : List (List Int)) (x : Int) (i t : Nat) (hg : goodY m = true) (e : findY x m 0 = ((i : Int), (t : Int))) (k : Nat) (hk : 2097160 ≤ k) : impl_PlaceOf.f k m x = some ((i : Int), (t : Int), true) := by
  unfold impl_PlaceOf.f
  have := goodY_len hg
  have := goodY_tot hg
  rw [placeOf_ends _ _ (by omega) (by omega) _ hk, e]
  simp only [Option.bind_some, impl_IsValidYard.f]
  rw [if_pos hg, if_neg (by omega)]
theorem take_impl (m : List (List Int)) (x : Int) (i : Nat) (hg : goodY m = true) (hi : i < m.length) (hp : 0 < (m.getD i []).length) (e : findY x m 0 = ((i : Int), (((m.getD i []).length - 1 : Nat) : Int))) (k : Nat) (hk : 2097160 ≤ k) : impl_TakeBox.f k m x = some (cutL m i, true) := by
  unfold impl_TakeBox.f
  have := goodY_len hg
  have := goodY_tot hg
  have h4 := goodY_row hg i
  have p1 : 0 ≤ (i : Int) := by omega
  have p2 : (i : Int) < (m.length : Int) := by omega
  have p3 : ¬ (i : Int) < 0 := by omega
  have p4 : (((m.getD i []).length - 1 : Nat) : Int) = wrap64 (((rd_L2 m (i : Int)).length : Int) - 1) := by rw [rdL_nat, w64 (by omega) (by omega)]; omega
  have p5 : 0 ≤ (((m.getD i []).length - 1 : Nat) : Int) := by omega
  have p6 : (((m.getD i []).length - 1 : Nat) : Int) ≤ ((rd_L2 m (i : Int)).length : Int) := by rw [rdL_nat]; omega
  simp only [impl_IsValidYard.f, Option.bind_some]
  rw [if_pos hg, placeOf_ends _ _ (by omega) (by omega) _ hk, e]
  simp only [Option.bind_some]
  rw [if_neg p3, if_pos p1, if_pos p2, if_pos p4, (own_ends m hg k (by omega)).2]
  simp only [Option.bind_some]
  rw [if_pos p2, if_pos p5, if_pos p6]
  rfl
theorem above_impl (m : List (List Int)) (x : Int) (i : Nat) (hg : goodY m = true) (hi : i < m.length) (hp : 0 < (m.getD i []).length) (e : findY x m 0 = ((i : Int), (((m.getD i []).length - 1 : Nat) : Int))) (k : Nat) (hk : 2097160 ≤ k) : impl_BlockersOf.f k m x = some ([], true) := by
  unfold impl_BlockersOf.f
  have := goodY_len hg
  have := goodY_tot hg
  have h4 := goodY_row hg i
  have p0 : ¬ ((i : Int) < 0) := by omega
  have p1 : 0 ≤ (i : Int) := by omega
  have p2 : (i : Int) < (m.length : Int) := by omega
  have hw : wrap64 ((((m.getD i []).length - 1 : Nat) : Int) + 1) = ((m.getD i []).length : Int) := by rw [w64 (by omega) (by omega)]; omega
  obtain ⟨k, rfl⟩ : ∃ j, k = j + 2 := ⟨k - 2, by omega⟩
  simp only [impl_IsValidYard.f, Option.bind_some]
  rw [placeOf_ends _ _ (by omega) (by omega) _ hk, e]
  simp only [Option.bind_some]
  rw [if_pos hg, decide_eq_false p0]
  simp only [impl_BlockersOf.j0, Bool.false_eq_true, if_false, if_pos p1, if_pos p2, hw]
  rw [if_pos (by omega), if_pos (by rw [rdL_nat]; omega), Int.toNat_natCast, rdL_nat, List.drop_of_length_le (Nat.le_refl _)]
  unfold slices_Clone_int_int.f slices_Reverse_int_int.f
  rw [if_pos (by simp), Option.bind_some]
  simp only [slices_Reverse_int_int.l0]
  rw [if_neg (by rw [show (([] : List Int).length : Int) - 1 = -1 from rfl, w64 (by omega) (by omega)]; omega)]
  rfl
theorem free_loop (ss : List (List Int)) (h6 : ss.length ≤ 6) (h4 : ∀ n, (ss.getD n []).length ≤ 4) (d : Nat) : ∀ (k i : Nat) (a : Int), i + d = ss.length → d < k → -100 ≤ a → a ≤ 24 * i →
    impl_FreePlaces.l0 k a ss (ss.length : Int) (i : Int) = some (a + 4 * d - tot (ss.drop i), true) := by
  induction d with
  | zero =>
    intro k i a hi hk ha ha2
    obtain ⟨k, rfl⟩ := kpos hk
    have ht : tot (ss.drop i) = 0 := by rw [List.drop_of_length_le (by omega)]; rfl
    simp only [impl_FreePlaces.l0]
    rw [if_neg (by omega), ht]
    simp
  | succ d ih =>
    intro k i a hi hk ha ha2
    obtain ⟨k, rfl⟩ := kpos hk
    have hlt : i < ss.length := by omega
    have ht : tot (ss.drop i) = (ss.getD i []).length + tot (ss.drop (i + 1)) := by rw [getD_cons (z := ([] : List Int)) hlt]; rfl
    have hr := h4 i
    have i2 := ih k (i + 1) (a + 4 - (ss.getD i []).length) (by omega) (by omega) (by omega) (by omega)
    simp only [impl_FreePlaces.l0]
    rw [if_pos (by omega), if_pos (by omega), if_pos (by omega), rdL_nat, wnext hlt (by omega),
      w64 (x := 4 - ((ss.getD i []).length : Int)) (by omega) (by omega), w64 (x := a + (4 - ((ss.getD i []).length : Int))) (by omega) (by omega), show a + (4 - ((ss.getD i []).length : Int)) = a + 4 - ((ss.getD i []).length : Int) by omega, i2, ht]
    congr 2
    omega
theorem free_impl (m : List (List Int)) (hg : goodY m = true) (k : Nat) (hk : 200 ≤ k) : impl_FreePlaces.f k m = some (4 * (m.length : Int) - tot m, true) := by
  unfold impl_FreePlaces.f
  have := goodY_len hg
  have e := free_loop m (by omega) (goodY_row hg) m.length k 0 0 (by omega) (by omega) (by omega) (by omega)
  rw [show ((0 : Nat) : Int) = 0 from rfl, List.drop_zero] at e
  simp only [impl_IsValidYard.f, Option.bind_some]
  rw [if_pos hg, e]
  congr 2
  omega
theorem heights_loop (ss : List (List Int)) (h6 : ss.length ≤ 6) (d : Nat) : ∀ (k i : Nat) (t : List Int), i + d = ss.length → d < k → t.length = i →
    impl_StackHeights.l0 k t ss (ss.length : Int) (i : Int) = some (t ++ (ss.drop i).map (fun s => (s.length : Int)), true) := by
  induction d with
  | zero =>
    intro k i t hi hk ht
    obtain ⟨k, rfl⟩ := kpos hk
    simp only [impl_StackHeights.l0]
    rw [if_neg (by omega), List.drop_of_length_le (by omega)]
    simp
  | succ d ih =>
    intro k i t hi hk ht
    obtain ⟨k, rfl⟩ := kpos hk
    have hlt : i < ss.length := by omega
    have i2 := ih k (i + 1) (t ++ [((ss.getD i []).length : Int)]) (by omega) (by omega) (by simp [ht])
    have p1 : (i : Int) < (ss.length : Int) := by omega
    have p2 : 0 ≤ (i : Int) := by omega
    have p3 : t.length < 17592186044416 := by omega
    simp only [impl_StackHeights.l0, if_pos p1, if_pos p2, if_pos p3, rdL_nat, wnext hlt (show ss.length ≤ 9223372036854775807 by omega), i2]
    rw [getD_cons (z := ([] : List Int)) hlt]
    simp
theorem heights_impl (m : List (List Int)) (hg : goodY m = true) (k : Nat) (hk : 200 ≤ k) : impl_StackHeights.f k m = some (m.map (fun s => (s.length : Int)), true) := by
  unfold impl_StackHeights.f
  have := goodY_len hg
  have e := heights_loop m (by omega) m.length k 0 [] (by omega) (by omega) rfl
  rw [show ((0 : Nat) : Int) = 0 from rfl, List.drop_zero, List.nil_append] at e
  simp only [impl_IsValidYard.f, Option.bind_some]
  rw [if_pos hg, e]
theorem tot_flat : ∀ (ss : List (List Int)), tot ss = ss.flatten.length
  | [] => rfl
  | s :: r => by rw [List.flatten_cons, List.length_append, ← tot_flat r]; rfl
theorem put_facts {ss : List (List Int)} {i : Nat} {n : Int} (hi : i < ss.length) : (putL ss i n).getD i [] = ss.getD i [] ++ [n] ∧ (putL ss i n).length = ss.length ∧ tot (putL ss i n) = tot ss + 1 ∧ cutL (putL ss i n) i = ss := by
  have e1 : (putL ss i n).getD i [] = ss.getD i [] ++ [n] := by unfold putL; exact getD_set_same _ _ _ _ hi
  refine ⟨e1, by unfold putL; simp, ?_, ?_⟩
  · have h1 := (flat_set ss i (ss.getD i [] ++ [n]) hi).length_eq
    have h2 := (flat_split ss i hi).length_eq
    rw [tot_flat, tot_flat]
    unfold putL
    simp only [List.length_append, List.length_singleton] at h1 h2
    omega
  · unfold cutL
    rw [e1, show (ss.getD i [] ++ [n]).take ((ss.getD i [] ++ [n]).length - 1) = ss.getD i [] by simp]
    unfold putL
    rw [List.set_set, set_self]
theorem drawPut {l : List Int} (hl : Byt l) (k : Nat) (hk : 300 ≤ k) : ∃ ss s n, spec_DrawPutBox.f k l = some (ss, s, n) ∧ AnY ss := by
  unfold spec_DrawPutBox.f
  obtain ⟨ss, a1, s1, e1, hs, ha1⟩ := anyYard_ok hl (show At 0 0 from ⟨by decide, by decide⟩) (by decide) 0 k hk
  obtain ⟨x, a2, s2, e2, hx, ha2⟩ := pick_ok hl ha1 (by omega) s1 5
  obtain ⟨y, a3, s3, e3, hy, ha3⟩ := pick_ok hl ha2 (by omega) s2 9
  obtain ⟨z, a4, s4, e4, hz, ha4⟩ := among_ok hl ha3 (by omega) s3 ([10, 11, 99, 1, 3, 0, 100] : List Int) (by decide) (fun _ => True) (fun _ _ => trivial)
  rw [e1, Option.bind_some]
  dsimp only
  rw [e2, Option.bind_some]
  dsimp only
  rw [e3, Option.bind_some]
  dsimp only
  rw [e4, Option.bind_some]
  exact ⟨_, _, _, rfl, hs⟩
theorem j0_true (ss : List (List Int)) (s n : Int) (h1 : stackB ss s = true) (h2 : goodY (putL ss s.toNat n) = true) (k : Nat) (hk : 2097170 ≤ k) : lw.j0 (k + 1) s n true false ss (putL ss s.toNat n) = some true := by
  obtain ⟨hg, i, rfl, hi⟩ := stackB_nat h1
  rw [Int.toNat_natCast] at h2 ⊢
  obtain ⟨e1, e2, e3, e4⟩ := put_facts (n := n) hi
  have hl := goodY_len h2
  have h4 := goodY_row h2 i
  have ht2 := goodY_tot hg
  have hl2 := goodY_len hg
  have hR := h2
  rw [goodY_iff] at hR
  have hrow : ((putL ss i n).getD i []).length = (ss.getD i []).length + 1 := by rw [e1]; simp
  have hfind : findY n (putL ss i n) 0 = ((i : Int), ((((putL ss i n).getD i []).length - 1 : Nat) : Int)) := by
    have := findY_at n (putL ss i n) 0 i (((putL ss i n).getD i []).length - 1) hR.2.2.2 (by omega) (by rw [hrow, e1]; simp [List.getD_eq_getElem?_getD])
    rw [this]
    simp
  have htop : topY ((putL ss i n).getD i []) = n := by
    rw [e1]
    unfold topY
    rw [if_neg (by simp)]
    simp [List.getD_eq_getElem?_getD]
  simp only [lw.j0, Bool.false_eq_true, if_false, if_true]
  rw [top_impl _ i h2 (by omega) k, Option.bind_some, place_impl _ n i _ h2 hfind k (by omega), Option.bind_some, take_impl _ n i h2 (by omega) (by omega) hfind k (by omega), Option.bind_some, above_impl _ n i h2 (by omega) (by omega) hfind k (by omega), Option.bind_some,
    free_impl ss hg k (by omega), Option.bind_some, free_impl _ h2 k (by omega), Option.bind_some, heights_impl _ h2 k (by omega), Option.bind_some]
  simp only [htop, e4, if_true]
  rw [vYard_refl ss (by omega) (by omega) k (by omega), Option.bind_some, if_pos rfl]
  have g1 : (([] : List Int).length : Int) = 0 := rfl
  have g2 : 4 * ((putL ss i n).length : Int) - (tot (putL ss i n) : Int) = wrap64 (4 * (ss.length : Int) - (tot ss : Int) - 1) := by rw [w64 (by omega) (by omega), e2, e3]; omega
  have g3 : (((putL ss i n).map fun s => (s.length : Int)).length : Int) > (i : Int) := by rw [List.length_map]; omega
  have g4 : 0 ≤ (i : Int) := by omega
  have g5 : (i : Int) < (((putL ss i n).map fun s => (s.length : Int)).length : Int) := g3
  rw [if_pos g1, if_pos g2, if_pos g3, if_pos g4, if_pos g5, rd_nat]
  have g6 : ((putL ss i n).map fun s => (s.length : Int)).getD i 0 = (((putL ss i n).getD i []).length : Int) := by
    rw [List.getD_eq_getElem?_getD, List.getElem?_map, List.getD_eq_getElem?_getD, List.getElem?_eq_getElem (by omega)]
    rfl
  rw [g6, w64 (by omega) (by omega)]
  congr 1
  rw [beq_iff_eq]
  omega
theorem FnStacks : lw.Pure := by
  intro l hl
  refine ⟨2097172 + 1, ?_⟩
  unfold lw.f laws_vBig.f
  rw [Option.bind_some]
  by_cases h : (l.length : Int) > 65536
  · rw [if_pos (decide_eq_true h)]
  · rw [if_neg (by simpa using h)]
    have hb : Byt l := ⟨by omega, hl.2⟩
    obtain ⟨ss, s, n, ed, hs⟩ := drawPut hb (2097172 + 1) (by omega)
    obtain ⟨e1, e2⟩ := put_both ss s n (2097172 + 1) (by omega)
    rw [ed, Option.bind_some]
    dsimp only
    rw [e1, e2, Option.bind_some, Option.bind_some, bne_self_eq_false, if_neg (by decide)]
    have hv : laws_vYard.f (2097172 + 1) (putA ss s n).1 (putA ss s n).1 = some true := by
      refine vYard_refl _ ?_ ?_ _ (by omega)
      · unfold putA
        split
        · rename_i hh
          have := goodY_len hh.2
          show (putL ss s.toNat n).length ≤ _
          omega
        · simp
      · unfold putA
        split
        · rename_i hh
          have := goodY_tot hh.2
          show tot (putL ss s.toNat n) ≤ _
          omega
        · simp [tot]
    rw [hv, Option.bind_some, if_pos rfl]
    unfold impl_IsValidYard.f spec_IsValidYard.f
    rw [spec_goodY _ _ (by omega), Option.bind_some, Option.bind_some, Option.bind_some, bne_self_eq_false]
    unfold putA
    by_cases hh : stackB ss s = true ∧ goodY (putL ss s.toNat n) = true
    · rw [if_pos hh]
      exact j0_true ss s n hh.1 hh.2 2097172 (by omega)
    · rw [if_neg hh]
      simp only [lw.j0, Bool.false_eq_true, if_false]
      rfl
end Go.Proofs.Ytlldonokjgoajaa.Pure
