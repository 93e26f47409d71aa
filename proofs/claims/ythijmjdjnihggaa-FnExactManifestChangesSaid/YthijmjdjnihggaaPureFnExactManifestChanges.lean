/- The law FnExactManifestChanges answers true for every two lists of containers. No condition beyond the form's own reach. -/
import Derived.Test.YthijmjdjnihggaaSFnExactManifestChanges
import Derived.Test.YthijmjdjnihggaaMContM
import Derived.Test.YthijmjdjnihggaaMStrM
import Derived.Test.YthijmjdjnihggaaMChanges
namespace Go.Proofs.Ythijmjdjnihggaa.Pure
open Go.RowKit Go.Proofs.Ythijmjdjnihggaa.X Go.Proofs.YthijmjdjnihggaaW.PrintWords Go.Proofs.YthijmjdjnihggaaW.PrintLast
set_option linter.unusedSimpArgs false
theorem sz_from (ss : List S67) (hx : ss.length ≤ 9223372036854775807) (hs : ∀ s ∈ ss, s.f0.size ≤ 9223372036854775807) (a : Int) (h0 : 0 ≤ a) (h1 : a ≤ 1048576) (k : Nat) (hk : 1048577 ≤ k) :
    laws_szContainerS.f k ss a = some (if a - ss.length - totC ss < 0 then -1 else a - ss.length - totC ss) := by
  unfold laws_szContainerS.f
  rw [w64 (by omega) (by omega)]
  by_cases h : a - ss.length < 0
  · rw [if_pos h, if_pos (by omega)]
  · rw [if_neg h]
    have := szContainerS_loop ss hx hs ss.length k 0 (a - ss.length) (by omega) (by omega) (by omega) (by omega)
    rw [show ((0 : Nat) : Int) = 0 from rfl, List.drop_zero] at this
    exact this
/-- The law behind the four answers. -/
theorem law_ends (a b : List S67) (hl : (a.map c67).length ≤ 1048576) (hal : a.length ≤ 1048576) (hm : (b.map c67).length ≤ 1048576) (hbl : b.length ≤ 1048576) (U V W : List ByteArray) (c : Bool) (hU : U.length ≤ 100) (hV : V.length ≤ 100) (hW : W.length ≤ 100)
    (he : ∀ k, 1048900 ≤ k → impl_ManifestChanges.f k (a.map c67) (b.map c67) = some (U, V, W, c)) (k : Nat) (hk : 1048900 ≤ k) :
    laws_FnExactManifestChanges.j0 (k + 3) a b U V W c (a.map c67) (b.map c67) U V W c false = some true := by
  obtain ⟨t, ht⟩ := marks
  have s1 : ¬ (1 + 5 * ((a.map c67).length : Int) + 5 * ((b.map c67).length : Int) < 0) := by omega
  have s2 : ¬ (1 + (U.length : Int) < 0) := by omega
  have s3 : ¬ (1 + (U.length : Int) + (V.length : Int) < 0) := by omega
  have s4 : ¬ (1 + (U.length : Int) + (V.length : Int) + (W.length : Int) < 0) := by omega
  simp only [laws_FnExactManifestChanges.j0, Bool.false_eq_true, if_false]
  rw [toContainerS_ends a hal _ (by omega)]
  simp only [Option.bind_some]
  rw [eqContainerS_refl _ hl _ (by omega)]
  simp only [Option.bind_some, if_true]
  rw [toContainerS_ends b hbl _ (by omega)]
  simp only [Option.bind_some]
  rw [eqContainerS_refl _ hm _ (by omega)]
  simp only [Option.bind_some, if_true]
  rw [markContainerS_ends t ht (a.map c67) 1 (by omega) (by omega) _ (by omega)]
  simp only [Option.bind_some]
  rw [markContainerS_ends t ht (b.map c67) (1 + 5 * ((a.map c67).length : Int)) (by omega) (by omega) _ (by omega)]
  simp only [Option.bind_some]
  rw [if_neg s1, eqStringS_refl U (by omega) _ (by omega)]
  simp only [Option.bind_some, if_true]
  rw [eqStringS_refl V (by omega) _ (by omega)]
  simp only [Option.bind_some, if_true]
  rw [eqStringS_refl W (by omega) _ (by omega)]
  simp only [Option.bind_some, if_true, bne_self_eq_false, laws_FnExactManifestChanges.j1, Bool.false_eq_true, if_false]
  rw [markStringS_ends t ht U 1 (by omega) (by omega) _ (by omega)]
  simp only [Option.bind_some]
  rw [markStringS_ends t ht V (1 + (U.length : Int)) (by omega) (by omega) _ (by omega)]
  simp only [Option.bind_some]
  rw [markStringS_ends t ht W (1 + (U.length : Int) + (V.length : Int)) (by omega) (by omega) _ (by omega)]
  simp only [Option.bind_some]
  rw [heldStringS_ends t ht U.length 1 (by omega) (by omega) _ (by omega)]
  simp only [Option.bind_some]
  rw [if_neg s2, heldStringS_ends t ht V.length (1 + (U.length : Int)) (by omega) (by omega) _ (by omega)]
  simp only [Option.bind_some]
  rw [if_neg s3, heldStringS_ends t ht W.length (1 + (U.length : Int) + (V.length : Int)) (by omega) (by omega) _ (by omega)]
  simp only [Option.bind_some]
  rw [if_neg s4, if_true, toContainerS_ends a hal _ (by omega)]
  simp only [Option.bind_some]
  rw [toContainerS_ends b hbl _ (by omega)]
  simp only [Option.bind_some]
  rw [he _ (by omega)]
  simp only [Option.bind_some]
  rw [eqStringS_refl U (by omega) _ (by omega)]
  simp only [Option.bind_some, if_true]
  rw [eqStringS_refl V (by omega) _ (by omega)]
  simp only [Option.bind_some, if_true]
  rw [eqStringS_refl W (by omega) _ (by omega)]
  simp only [Option.bind_some, if_true, bne_self_eq_false, laws_FnExactManifestChanges.j2, Bool.false_eq_true, if_false]
  rw [heldStringS_ends t ht U.length 1 (by omega) (by omega) _ (by omega)]
  simp only [Option.bind_some]
  rw [if_neg s2, heldStringS_ends t ht V.length (1 + (U.length : Int)) (by omega) (by omega) _ (by omega)]
  simp only [Option.bind_some]
  rw [if_neg s3, heldStringS_ends t ht W.length (1 + (U.length : Int) + (V.length : Int)) (by omega) (by omega) _ (by omega)]
  simp only [Option.bind_some]
  rw [if_neg s4, if_true]
theorem FnExactManifestChanges : laws_FnExactManifestChanges.Pure := by
  intro a b ha hb
  have ha1 := ha.1
  have hb1 := hb.1
  by_cases h : (1048576 : Int) - a.length - totC a < 0
  · refine ⟨1048800, ?_⟩
    unfold laws_FnExactManifestChanges.f
    rw [szContainerS_ends a ha1 (fun s hs => (ha.2 s hs).1) _ (by omega)]
    simp only [Option.bind_some]
    rw [if_pos h, if_pos (by omega)]
  by_cases h2 : (1048576 : Int) - a.length - totC a - b.length - totC b < 0
  · refine ⟨1048800, ?_⟩
    unfold laws_FnExactManifestChanges.f
    rw [szContainerS_ends a ha1 (fun s hs => (ha.2 s hs).1) _ (by omega)]
    simp only [Option.bind_some]
    rw [if_neg h, if_neg h, sz_from b hb1 (fun s hs => (hb.2 s hs).1) _ (by omega) (by omega) _ (by omega)]
    simp only [Option.bind_some]
    rw [if_pos h2, if_pos (by omega)]
  · have hl : (a.map c67).length ≤ 1048576 := by rw [List.length_map]; omega
    have hal : a.length ≤ 1048576 := by omega
    have hm : (b.map c67).length ≤ 1048576 := by rw [List.length_map]; omega
    have hbl : b.length ≤ 1048576 := by omega
    obtain ⟨U, V, W, c, ⟨hU, hV, hW⟩, he⟩ := changes_both (a.map c67) (b.map c67) hl hm
    refine ⟨1049000 + 3, ?_⟩
    have hlaw := law_ends a b hl hal hm hbl U V W c hU hV hW (fun k hk => (he k hk).2) 1049000 (by omega)
    obtain ⟨e1, e2⟩ := he (1049000 + 3) (by omega)
    unfold laws_FnExactManifestChanges.f
    rw [szContainerS_ends a ha1 (fun s hs => (ha.2 s hs).1) _ (by omega)]
    simp only [Option.bind_some]
    rw [if_neg h, if_neg h, sz_from b hb1 (fun s hs => (hb.2 s hs).1) _ (by omega) (by omega) _ (by omega)]
    simp only [Option.bind_some]
    rw [if_neg h2, if_neg h2, toContainerS_ends a hal _ (by omega)]
    simp only [Option.bind_some]
    rw [toContainerS_ends b hbl _ (by omega)]
    simp only [Option.bind_some]
    rw [e1, e2]
    simp only [Option.bind_some]
    rw [eqStringS_refl U (by omega) _ (by omega)]
    simp only [Option.bind_some, if_true]
    rw [eqStringS_refl V (by omega) _ (by omega)]
    simp only [Option.bind_some, if_true]
    rw [eqStringS_refl W (by omega) _ (by omega)]
    simp only [Option.bind_some, if_true, bne_self_eq_false]
    exact hlaw
end Go.Proofs.Ythijmjdjnihggaa.Pure
