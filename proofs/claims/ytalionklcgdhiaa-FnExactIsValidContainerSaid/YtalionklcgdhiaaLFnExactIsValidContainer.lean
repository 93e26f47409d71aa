-- Written by a program of ours (wip/bin/rows.py). Not trusted: Lean checks it.
import Derived.Test.YtalionklcgdhiaaRows
import Derived.Test.YtalionklcgdhiaaSFnExactIsValidContainer
import Derived.Test.YtalionklcgdhiaaPureFnExactIsValidContainer
import Derived.WalkKit
import Derived.ProofKit
import Derived.OpenShut
import Derived.ShutString
import Derived.ChangeOld
import Derived.Below
import Derived.SizedLaws
import Derived.Carry
namespace Go.Proofs.Ytalionklcgdhiaa.fnExactIsValidContainer
open Go.ChangeShapes Go.WideShapes Go.ChangeAt Go.RowKit Go.Proofs.Ytalionklcgdhiaa.X Go.Proofs.YtalionklcgdhiaaW.PrintWords Go.Proofs.YtalionklcgdhiaaW.PrintLast
open Go.ChangeMaps (open_string shut_string)
set_option linter.unusedVariables false
theorem own : ownKnob Try.prog.godebug = none := by kernel_rfl
theorem laidOut : laidOutB Try.prog = true := by kernel_rfl
set_option maxRecDepth 100000 in
theorem lifted (os : Os) (started : os.Started) (H : Type) (enc : TypeId × Value → H) :
    ReturnsInHanded {} Try.checked os 9 .any (Rows.fnExactIsValidContainerSpec.pre6 enc Try.prog Try.f9 Rows.fnExactIsValidContainerRow.domain false) (Rows.fnExactIsValidContainerSpec.post enc Try.prog Try.f9 false true false false) := by
  refine returnsInHanded_of_change_sized (C := Try.checked) own started (by kernel_rfl) Try.func9
    (ChangeSpec.witness6 (enc := enc) (C := Try.checked) false ⟨#[], #[.agg #[.string ByteArray.empty, .int .i64 0, .int .i64 0, .int .i64 0, .int .i64 0]], []⟩ 8 (by kernel_rfl) (by kernel_rfl) (by kernel_rfl) (by kernel_rfl)) ?_
  intro W base args ds gs before hval0 hW hcnd hsz0 _
  have hval : ∀ (j : Nat) t v, Try.f9.params[j]? = some t → args[j]? = some v → Value.okWide Try.prog W .any base t v := hval0
  have hW' := hW
  obtain ⟨p, q, hA0, hV, rfl, hfz, hnd⟩ := hW
  have hA : DataW.TrodAll enc Try.prog W 0 (fun _ => true) true Try.f9.params.toList args.toList ds p := hA0
  rw [Try.params9] at hA hval
  obtain ⟨v0, vs0, d0, ds0, p0, q0, hargs, rfl, rfl, h0, r0⟩ := trodAll_cons hA
  obtain ⟨rfl, rfl, rfl⟩ := trodAll_nil r0
  obtain rfl : args = #[v0] := by cases args; simp_all
  obtain ⟨rfl, rfl⟩ := trodVars_none hV
  have k0 := h0
  have lt0 : ∀ x ∈ p0, x.block < W.heap.size := by obtain ⟨m, hm⟩ := k0; exact DataW.trod_lt m _ _ _ hm
  obtain ⟨cs0, rfl, hs0⟩ := okWide_struct Try.underlying37 (hval 0 37 v0 rfl rfl)
  obtain ⟨fu0, hf0⟩ := h0
  obtain ⟨hl0, hf0⟩ := fields_of Try.underlying37 (by kernel_rfl) (by kernel_rfl) hf0
  obtain ⟨v0_0, n0_0, x0_0, hv0_0, hx0_0⟩ := hf0 0 _ rfl
  obtain ⟨a0_0, hk0_0, w0_0⟩ := (opn_str Try.underlying9) _ _ _ _ _ hx0_0
  obtain ⟨v0_1, n0_1, x0_1, hv0_1, hx0_1⟩ := hf0 1 _ rfl
  obtain ⟨a0_1, hk0_1, w0_1⟩ := (opn_i64 Try.underlying3) _ _ _ _ _ hx0_1
  obtain ⟨v0_2, n0_2, x0_2, hv0_2, hx0_2⟩ := hf0 2 _ rfl
  obtain ⟨a0_2, hk0_2, w0_2⟩ := (opn_i64 Try.underlying3) _ _ _ _ _ hx0_2
  obtain ⟨v0_3, n0_3, x0_3, hv0_3, hx0_3⟩ := hf0 3 _ rfl
  obtain ⟨a0_3, hk0_3, w0_3⟩ := (opn_i64 Try.underlying3) _ _ _ _ _ hx0_3
  obtain ⟨v0_4, n0_4, x0_4, hv0_4, hx0_4⟩ := hf0 4 _ rfl
  obtain ⟨a0_4, hk0_4, w0_4⟩ := (opn_i64 Try.underlying3) _ _ _ _ _ hx0_4
  obtain rfl : cs0 = #[v0_0, v0_1, v0_2, v0_3, v0_4] := agg_5 hl0 hv0_0 hv0_1 hv0_2 hv0_3 hv0_4
  obtain rfl : v0_0 = .string a0_0 := k_str hk0_0
  obtain rfl : v0_1 = .int .i64 a0_1 := k_int hk0_1
  obtain rfl : v0_2 = .int .i64 a0_2 := k_int hk0_2
  obtain rfl : v0_3 = .int .i64 a0_3 := k_int hk0_3
  obtain rfl : v0_4 = .int .i64 a0_4 := k_int hk0_4
  clear hA0 hval0 hsz0
  obtain ⟨k, hP⟩ := Pure.FnExactIsValidContainer a0_0 a0_1 a0_2 a0_3 a0_4 w0_0 w0_1 w0_2 w0_3 w0_4
  refine (laws_FnExactIsValidContainer.calls k a0_0 a0_1 a0_2 a0_3 a0_4 true W  hP).mono fun e W' ⟨he, bel0⟩ => ?_
  have bel : Below W.heap.size W W' := bel0
  subst he
  exact ⟨_, rfl, _, _, _, [], _, [], hW', trodAll_mk1 (shut_bool Try.underlying4 _), (trodAll_cons_mk (Below.trod laidOut (by kernel_rfl) (of_decide_eq_true (by kernel_rfl)) k0 bel lt0) trodAll_mk0), rfl, bel.frame _, fun h => by cases h⟩
theorem over : Rows.fnExactIsValidContainerRow.holds Try.pinned (OpenSpec.ofChange Rows.fnExactIsValidContainerSpec) :=
  OpenClaim.holds_of_wide 9 Try.f9 rfl rfl rfl rfl rfl rfl rfl ⟨rfl, rfl, rfl, rfl, rfl⟩ rfl rfl rfl rfl rfl (by kernel_rfl) Try.func9 (by kernel_rfl)
    (of_decide_eq_true (by kernel_rfl)) (by unfold Func.isWrapper; first | (rw [if_pos (by decide +kernel)]; kernel_rfl) | (rw [if_neg (by decide +kernel)]; exact ⟨rfl, rfl⟩))
    (fun os started H enc _ => lifted os started H enc)
theorem proved : Rows.FnExactIsValidContainerSaid := over
#print axioms proved
end Go.Proofs.Ytalionklcgdhiaa.fnExactIsValidContainer
namespace Go.Proofs.Ytalionklcgdhiaa
/-- The row, under a short name, for the claim. -/
theorem fnExactIsValidContainer_holds : Rows.FnExactIsValidContainerSaid := fnExactIsValidContainer.proved
end Go.Proofs.Ytalionklcgdhiaa
