-- Written by a program of ours (wip/bin/rows.py). Not trusted: Lean checks it.
import Derived.Test.YtlldonokjgoajaaRows
import Derived.Test.YtlldonokjgoajaaSFnExactSameYard
import Derived.Test.YtlldonokjgoajaaPureFnExactSameYard
import Derived.WalkKit
import Derived.ProofKit
import Derived.OpenShut
import Derived.ShutString
import Derived.ChangeOld
import Derived.Below
import Derived.SizedLaws
import Derived.Carry
namespace Go.Proofs.Ytlldonokjgoajaa.fnExactSameYard
open Go.ChangeShapes Go.WideShapes Go.ChangeAt Go.RowKit Go.Proofs.Ytlldonokjgoajaa.X Go.Proofs.YtlldonokjgoajaaW.PrintWords Go.Proofs.YtlldonokjgoajaaW.PrintLast
open Go.ChangeMaps (open_string shut_string)
set_option linter.unusedVariables false
theorem own : ownKnob Try.prog.godebug = none := by kernel_rfl
theorem laidOut : laidOutB Try.prog = true := by kernel_rfl
set_option maxRecDepth 100000 in
theorem lifted (os : Os) (started : os.Started) (H : Type) (enc : TypeId × Value → H) :
    ReturnsInHanded {} Try.checked os 9 .any (Rows.fnExactSameYardSpec.pre6 enc Try.prog Try.f9 Rows.fnExactSameYardRow.domain false) (Rows.fnExactSameYardSpec.post enc Try.prog Try.f9 false true false false) := by
  refine returnsInHanded_of_change_sized (C := Try.checked) own started (by kernel_rfl) Try.func9
    (ChangeSpec.witness6 (enc := enc) (C := Try.checked) false ⟨#[], #[.agg #[.slice none 0 0], .agg #[.slice none 0 0]], []⟩ 8 (by kernel_rfl) (by kernel_rfl) (by kernel_rfl) (by kernel_rfl)) ?_
  intro W base args ds gs before hval0 hW hcnd hsz0 _
  have hval : ∀ (j : Nat) t v, Try.f9.params[j]? = some t → args[j]? = some v → Value.okWide Try.prog W .any base t v := hval0
  have hW' := hW
  obtain ⟨p, q, hA0, hV, rfl, hfz, hnd⟩ := hW
  have hA : DataW.TrodAll enc Try.prog W 0 (fun _ => true) true Try.f9.params.toList args.toList ds p := hA0
  rw [Try.params9] at hA hval
  obtain ⟨v0, vs0, d0, ds0, p0, q0, hargs, rfl, rfl, h0, r0⟩ := trodAll_cons hA
  obtain ⟨v1, vs1, d1, ds1, p1, q1, rfl, rfl, rfl, h1, r1⟩ := trodAll_cons r0
  obtain ⟨rfl, rfl, rfl⟩ := trodAll_nil r1
  obtain rfl : args = #[v0, v1] := by cases args; simp_all
  obtain ⟨rfl, rfl⟩ := trodVars_none hV
  have k0 := h0
  have lt0 : ∀ x ∈ p0, x.block < W.heap.size := by obtain ⟨m, hm⟩ := k0; exact DataW.trod_lt m _ _ _ hm
  obtain ⟨cs0, rfl, hs0⟩ := okWide_struct Try.underlying40 (hval 0 40 v0 rfl rfl)
  obtain ⟨fu0, hf0⟩ := h0
  obtain ⟨hl0, hf0⟩ := fields_of Try.underlying40 (by kernel_rfl) (by kernel_rfl) hf0
  obtain ⟨v0_0, n0_0, x0_0, hv0_0, hx0_0⟩ := hf0 0 _ rfl
  obtain ⟨l0_0, hk0_0, w0_0⟩ := (opn_slice Try.underlying38 (by kernel_rfl) (opn_slice Try.underlying24 (by kernel_rfl) (opn_i64 Try.underlying3))) _ _ _ _ _ hx0_0
  obtain rfl : cs0 = #[v0_0] := agg_1 hl0 hv0_0
  obtain ⟨A0_0, c0_0, rfl, hc0_0, hr0_0⟩ := field_slice hk0_0
  have k1 := h1
  have lt1 : ∀ x ∈ p1, x.block < W.heap.size := by obtain ⟨m, hm⟩ := k1; exact DataW.trod_lt m _ _ _ hm
  obtain ⟨cs1, rfl, hs1⟩ := okWide_struct Try.underlying40 (hval 1 40 v1 rfl rfl)
  obtain ⟨fu1, hf1⟩ := h1
  obtain ⟨hl1, hf1⟩ := fields_of Try.underlying40 (by kernel_rfl) (by kernel_rfl) hf1
  obtain ⟨v1_0, n1_0, x1_0, hv1_0, hx1_0⟩ := hf1 0 _ rfl
  obtain ⟨l1_0, hk1_0, w1_0⟩ := (opn_slice Try.underlying38 (by kernel_rfl) (opn_slice Try.underlying24 (by kernel_rfl) (opn_i64 Try.underlying3))) _ _ _ _ _ hx1_0
  obtain rfl : cs1 = #[v1_0] := agg_1 hl1 hv1_0
  obtain ⟨A1_0, c1_0, rfl, hc1_0, hr1_0⟩ := field_slice hk1_0
  clear hA0 hval0 hsz0
  obtain ⟨k, hP⟩ := Pure.FnExactSameYard l0_0 l1_0 w0_0 w1_0
  refine (laws_FnExactSameYard.calls k A0_0 c0_0 l0_0 A1_0 c1_0 l1_0 true W hr0_0 hc0_0 hr1_0 hc1_0 hP).mono fun e W' ⟨he, bel0⟩ => ?_
  have bel : Below W.heap.size W W' := bel0
  subst he
  exact ⟨_, rfl, _, _, _, [], _, [], hW', trodAll_mk1 (shut_bool Try.underlying4 _), (trodAll_cons_mk (Below.trod laidOut (by kernel_rfl) (of_decide_eq_true (by kernel_rfl)) k0 bel lt0) (trodAll_cons_mk (Below.trod laidOut (by kernel_rfl) (of_decide_eq_true (by kernel_rfl)) k1 bel lt1) trodAll_mk0)), rfl, bel.frame _, fun h => by cases h⟩
theorem over : Rows.fnExactSameYardRow.holds Try.pinned (OpenSpec.ofChange Rows.fnExactSameYardSpec) :=
  OpenClaim.holds_of_wide 9 Try.f9 rfl rfl rfl rfl rfl rfl rfl ⟨rfl, rfl, rfl, rfl, rfl⟩ rfl rfl rfl rfl rfl (by kernel_rfl) Try.func9 (by kernel_rfl)
    (of_decide_eq_true (by kernel_rfl)) (by unfold Func.isWrapper; first | (rw [if_pos (by decide +kernel)]; kernel_rfl) | (rw [if_neg (by decide +kernel)]; exact ⟨rfl, rfl⟩))
    (fun os started H enc _ => lifted os started H enc)
theorem proved : Rows.FnExactSameYardSaid := over
#print axioms proved
end Go.Proofs.Ytlldonokjgoajaa.fnExactSameYard
namespace Go.Proofs.Ytlldonokjgoajaa
/-- The row, under a short name, for the claim. -/
theorem fnExactSameYard_holds : Rows.FnExactSameYardSaid := fnExactSameYard.proved
end Go.Proofs.Ytlldonokjgoajaa
