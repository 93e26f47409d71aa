/- The law FnExactPortCounts answers true for every list of containers. No condition beyond the form's own reach. -/
import Derived.Test.YtlldonokjgoajaaSFnExactPortCounts
import Derived.Test.YtlldonokjgoajaaMCounts
import Derived.Test.YtlldonokjgoajaaMContM
namespace Go.Proofs.Ytlldonokjgoajaa.Pure
open Go.RowKit Go.Proofs.Ytlldonokjgoajaa.X Go.Proofs.YtlldonokjgoajaaW.PrintWords Go.Proofs.YtlldonokjgoajaaW.PrintLast
set_option linter.unusedVariables false
set_option linter.unusedSimpArgs false
theorem eqA2S_loop (l : List S104) (hx : l.length ≤ 1000) (d : Nat) : ∀ (k n : Nat), n + d = l.length → d < k → laws_eqIntA2S.l0 k l l (n : Int) = some true := by
  induction d with
  | zero =>
    intro k n hn hk
    obtain ⟨k, rfl⟩ := kpos hk
    rw [laws_eqIntA2S.l0, if_neg (by omega)]
  | succ d ih =>
    intro k n hn hk
    obtain ⟨k, rfl⟩ := kpos hk
    rw [laws_eqIntA2S.l0, if_pos (by omega), if_pos (by omega), if_pos (by omega)]
    unfold laws_eqIntA2.f
    rw [beq_self_eq_true, beq_self_eq_true, Bool.and_self, Option.bind_some, if_pos rfl, wnext (n := n) (m := l.length) (by omega) (by omega)]
    exact ih k (n + 1) (by omega) (by omega)
theorem eqA2S_refl (l : List S104) (hx : l.length ≤ 1000) (k : Nat) (hk : 1001 ≤ k) : laws_eqIntA2S.f k l l = some true := by
  unfold laws_eqIntA2S.f
  rw [if_pos rfl]
  have := eqA2S_loop l hx l.length k 0 (by omega) (by omega)
  rw [show ((0 : Nat) : Int) = 0 from rfl] at this
  exact this
theorem law_ends (a : List S144) (hl : (a.map c67).length ≤ 1048576) (hal : a.length ≤ 1048576) (r : List S104) (b : Bool) (hr : r.length ≤ 100) (he : ∀ k, 1048700 ≤ k → impl_PortCounts.f k (a.map c67) = some (r, b)) (k : Nat) (hk : 1048700 ≤ k) :
    laws_FnExactPortCounts.j0 (k + 3) a r b (a.map c67) r b false = some true := by
  obtain ⟨t, ht⟩ := marks
  have s1 : ¬ (1 + 5 * ((a.map c67).length : Int) < 0) := by omega
  have s2 : ¬ (1 + 2 * (r.length : Int) < 0) := by omega
  have m1 : laws_markIntA2S.f r 1 = some (1 + 2 * (r.length : Int), markA r 1) := if_pos ⟨by omega, by omega, by omega⟩
  have m2 : laws_heldIntA2S.f (markA r 1) 1 = some (1 + 2 * (r.length : Int)) := by
    unfold laws_heldIntA2S.f
    rw [markA_length, if_pos ⟨by omega, by omega, by omega⟩, heldA_mark _ _ (by omega)]
  simp only [laws_FnExactPortCounts.j0, Bool.false_eq_true, if_false]
  rw [toContainerS_ends a hal _ (by omega)]
  simp only [Option.bind_some]
  rw [eqContainerS_refl _ hl _ (by omega)]
  simp only [Option.bind_some, if_true]
  rw [markContainerS_ends t ht (a.map c67) 1 (by omega) (by omega) _ (by omega)]
  simp only [Option.bind_some]
  rw [if_neg s1, eqA2S_refl r (by omega) _ (by omega)]
  simp only [Option.bind_some, if_true, bne_self_eq_false, laws_FnExactPortCounts.j1, Bool.false_eq_true, if_false]
  rw [m1]
  simp only [Option.bind_some]
  rw [m2]
  simp only [Option.bind_some]
  rw [if_neg s2, if_true, toContainerS_ends a hal _ (by omega)]
  simp only [Option.bind_some]
  rw [he _ (by omega)]
  simp only [Option.bind_some]
  rw [eqA2S_refl r (by omega) _ (by omega)]
  simp only [Option.bind_some, if_true, bne_self_eq_false, laws_FnExactPortCounts.j2, Bool.false_eq_true, if_false]
  rw [m2]
  simp only [Option.bind_some]
  rw [if_neg s2, if_true]
theorem FnExactPortCounts : laws_FnExactPortCounts.Pure := by
  intro a ha
  have ha1 := ha.1
  by_cases h : (1048576 : Int) - a.length - totC a < 0
  · refine ⟨1048800, ?_⟩
    unfold laws_FnExactPortCounts.f
    rw [szContainerS_ends a ha1 (fun s hs => (ha.2 s hs).1) _ (by omega)]
    simp only [Option.bind_some]
    rw [if_pos h, if_pos (by omega)]
  · have hl : (a.map c67).length ≤ 1048576 := by rw [List.length_map]; omega
    have hal : a.length ≤ 1048576 := by omega
    refine ⟨1048800 + 3, ?_⟩
    have hlen := countsA_len (a.map c67)
    have hlaw := law_ends a hl hal (countsA (a.map c67)).1 (countsA (a.map c67)).2 (by omega) (fun k hk => (counts_both _ hl k hk).2) 1048800 (by omega)
    obtain ⟨e1, e2⟩ := counts_both (a.map c67) hl (1048800 + 3) (by omega)
    unfold laws_FnExactPortCounts.f
    rw [szContainerS_ends a ha1 (fun s hs => (ha.2 s hs).1) _ (by omega)]
    simp only [Option.bind_some]
    rw [if_neg h, if_neg h, toContainerS_ends a hal _ (by omega)]
    simp only [Option.bind_some]
    rw [e1, e2]
    simp only [Option.bind_some]
    rw [eqA2S_refl _ (by omega) _ (by omega)]
    simp only [Option.bind_some, if_true, bne_self_eq_false]
    exact hlaw
end Go.Proofs.Ytlldonokjgoajaa.Pure
