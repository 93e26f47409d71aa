-- Written by a program of ours (wip/bin/rows.py). Not trusted: Lean checks it.
import Derived.Test.YtfindomajbjacaaDoorRows
import Derived.Test.YtfindomajbjacaaDoorSFnExactContainerText
import Derived.Test.YtfindomajbjacaaDoorPureFnExactContainerText
import Derived.Test.YtfindomajbjacaaDoorTie
import Derived.Test.YtfindomajbjacaaDoorCards
import Derived.Test.YtfindomajbjacaaDoorLaid
import Derived.LaidMore
import Derived.Stop.Joined
import Derived.SevenTiedAt
import Derived.Lib.LaidTab
import Derived.WalkKit
import Derived.ProofKit
import Derived.OpenShut
import Derived.ShutString
import Derived.ChangeOld
import Derived.Below
import Derived.SizedLaws
import Derived.Carry
namespace Go.Proofs.YtfindomajbjacaaDoor.fnExactContainerText
open Go.ChangeShapes Go.WideShapes Go.ChangeAt Go.RowKit Go.Proofs.YtfindomajbjacaaDoor.X Go.Proofs.YtfindomajbjacaaDoorW.PrintWords Go.Proofs.YtfindomajbjacaaDoorW.PrintLast
open Go.ChangeMaps (open_string shut_string)
set_option linter.unusedVariables false
theorem own : ownKnob Tryd.prog.godebug = none := by kernel_rfl
theorem laidOut : laidOutB Tryd.prog = true := by kernel_rfl
/-- The door's own heap meets the condition. -/
theorem door_met (os : Os) (args : Array Value) : laidMetH Tryd.prog Rows.fnExactContainerTextRow.laid ((World.doorLaid Tryd.prog 72 os).forCall (fun _ _ => 0) ⟨#[], args, []⟩).memory :=
  laidMetH_of_parts3 (fuel := 8) (laidMet_of_run' 8 (by kernel_rfl) (by kernel_rfl)) (by kernel_rfl) (by kernel_rfl)
set_option maxRecDepth 100000 in
theorem lifted (os : Os) (started : os.Started) (H : Type) (enc : TypeId × Value → H) :
    ReturnsInHanded {} Tryd.checked os 3 .any (fun w args => (Rows.fnExactContainerTextSpec.pre enc Tryd.prog Tryd.f3 [] false w args ∧ laidMetH Tryd.prog Rows.fnExactContainerTextRow.laid w) ∧ sizedMet enc Tryd.prog Tryd.f3 (OpenSpec.ofChange Rows.fnExactContainerTextSpec) false w args) (Rows.fnExactContainerTextSpec.post enc Tryd.prog Tryd.f3 false true false false) := by
  refine returnsInHanded_of_change_and (C := Tryd.checked) (X := fun w _ => laidMetH Tryd.prog Rows.fnExactContainerTextRow.laid w) (fun _ _ _ hh h => h.of_heap hh) own started (by kernel_rfl) Tryd.func3
    (ChangeSpec.witness_shaped (enc := enc) (C := Tryd.checked) (os := os) (X := fun w _ => laidMetH Tryd.prog Rows.fnExactContainerTextRow.laid w) false (World.doorLaid Tryd.prog 72 os) #[.agg #[.string ByteArray.empty, .int .i64 0, .int .i64 0, .int .i64 0, .int .i64 0]] 8 rfl (World.shaped_of_RefB (by kernel_rfl) (by kernel_rfl)) (by kernel_rfl) (by kernel_rfl) (by kernel_rfl) (door_met os _)) ?_
  intro W base args ds gs before hval0 hW hcnd hsz0 hL _
  have hval : ∀ (j : Nat) t v, Tryd.f3.params[j]? = some t → args[j]? = some v → Value.okWide Tryd.prog W .any base t v := hval0
  have hW' := hW
  obtain ⟨p, q, hA0, hV, rfl, hfz, hnd⟩ := hW
  have hA : DataW.TrodAll enc Tryd.prog W 0 (fun _ => true) true Tryd.f3.params.toList args.toList ds p := hA0
  rw [Tryd.params3] at hA hval
  obtain ⟨v0, vs0, d0, ds0, p0, q0, hargs, rfl, rfl, h0, r0⟩ := trodAll_cons hA
  obtain ⟨rfl, rfl, rfl⟩ := trodAll_nil r0
  obtain rfl : args = #[v0] := by cases args; simp_all
  obtain ⟨rfl, rfl⟩ := trodVars_none hV
  have k0 := h0
  have lt0 : ∀ x ∈ p0, x.block < W.heap.size := by obtain ⟨m, hm⟩ := k0; exact DataW.trod_lt m _ _ _ hm
  obtain ⟨cs0, rfl, hs0⟩ := okWide_struct Tryd.underlying23 (hval 0 23 v0 rfl rfl)
  obtain ⟨fu0, hf0⟩ := h0
  obtain ⟨hl0, hf0⟩ := fields_of Tryd.underlying23 (by kernel_rfl) (by kernel_rfl) hf0
  obtain ⟨v0_0, n0_0, x0_0, hv0_0, hx0_0⟩ := hf0 0 _ rfl
  obtain ⟨a0_0, hk0_0, w0_0⟩ := (opn_str Tryd.underlying9) _ _ _ _ _ hx0_0
  obtain ⟨v0_1, n0_1, x0_1, hv0_1, hx0_1⟩ := hf0 1 _ rfl
  obtain ⟨a0_1, hk0_1, w0_1⟩ := (opn_i64 Tryd.underlying3) _ _ _ _ _ hx0_1
  obtain ⟨v0_2, n0_2, x0_2, hv0_2, hx0_2⟩ := hf0 2 _ rfl
  obtain ⟨a0_2, hk0_2, w0_2⟩ := (opn_i64 Tryd.underlying3) _ _ _ _ _ hx0_2
  obtain ⟨v0_3, n0_3, x0_3, hv0_3, hx0_3⟩ := hf0 3 _ rfl
  obtain ⟨a0_3, hk0_3, w0_3⟩ := (opn_i64 Tryd.underlying3) _ _ _ _ _ hx0_3
  obtain ⟨v0_4, n0_4, x0_4, hv0_4, hx0_4⟩ := hf0 4 _ rfl
  obtain ⟨a0_4, hk0_4, w0_4⟩ := (opn_i64 Tryd.underlying3) _ _ _ _ _ hx0_4
  obtain rfl : cs0 = #[v0_0, v0_1, v0_2, v0_3, v0_4] := agg_5 hl0 hv0_0 hv0_1 hv0_2 hv0_3 hv0_4
  obtain rfl : v0_0 = .string a0_0 := k_str hk0_0
  obtain rfl : v0_1 = .int .i64 a0_1 := k_int hk0_1
  obtain rfl : v0_2 = .int .i64 a0_2 := k_int hk0_2
  obtain rfl : v0_3 = .int .i64 a0_3 := k_int hk0_3
  obtain rfl : v0_4 = .int .i64 a0_4 := k_int hk0_4
  clear hA0 hval0 hsz0
  obtain ⟨k, hP⟩ := Pure.FnExactContainerText a0_0 a0_1 a0_2 a0_3 a0_4 w0_0 w0_1 w0_2 w0_3 w0_4
  refine (laws_FnExactContainerText.calls k a0_0 a0_1 a0_2 a0_3 a0_4 true W  (laid_fnExactContainerText hL) hP).mono fun e W' ⟨he, bel0⟩ => ?_
  have bel : Below W.heap.size W W' := bel0
  subst he
  exact ⟨_, rfl, _, _, _, [], _, [], hW', trodAll_mk1 (shut_bool Tryd.underlying4 _), (trodAll_cons_mk (Below.trod laidOut (by kernel_rfl) (of_decide_eq_true (by kernel_rfl)) k0 bel lt0) trodAll_mk0), rfl, bel.frame _, fun h => by cases h⟩
theorem over : Rows.fnExactContainerTextRow.holds Tryd.pinned (OpenSpec.ofChange Rows.fnExactContainerTextSpec) :=
  OpenClaim.holds_of_wide 3 Tryd.f3 rfl rfl rfl rfl rfl rfl rfl ⟨rfl, rfl, rfl, rfl, rfl⟩ rfl rfl rfl rfl rfl (by kernel_rfl) Tryd.func3 (by kernel_rfl)
    (of_decide_eq_true (by kernel_rfl)) (by unfold Func.isWrapper; first | (rw [if_pos (by decide +kernel)]; kernel_rfl) | (rw [if_neg (by decide +kernel)]; exact ⟨rfl, rfl⟩))
    (fun os started H enc _ => lifted os started H enc)
theorem proved : Rows.FnExactContainerTextSaid := over
#print axioms proved
end Go.Proofs.YtfindomajbjacaaDoor.fnExactContainerText
namespace Go.Proofs.YtfindomajbjacaaDoor
/-- The tied card, under a short name, for the claim. -/
theorem fnExactContainerTextCard_holds : Rows.FnExactContainerTextCardSaid :=
  Claim7.holds_tied_plain_at .later [] [.data, .data, .data] true (true, "776dc0867e43b4c8be12587878f0ef7e2a2a23c26dcb8af149b1f4f2f5f28fc5") true
    fnExactContainerText.proved (fun _ h => by cases h) (by kernel_rfl) (fun _ h => by cases h) fnExactContainerText_row_tie rfl ⟨rfl, rfl⟩ (by kernel_rfl) rfl
    (fun f fn hf hfn => by
      obtain rfl : f = 3 := Option.some.inj ((show Tryd.prog.funcNamed "loop.example/g00906/laws.FnExactContainerText" = some 3 by kernel_rfl).symm.trans hf) |>.symm
      obtain rfl : fn = Tryd.f3 := (Option.some.inj (Tryd.func3.symm.trans hfn)).symm
      exact ⟨by kernel_rfl, fun j t ht => by
        rw [Tryd.params3] at ht
        have hm : t ∈ [23] := by simpa using Array.mem_of_getElem? ht
        have hall : ([23].all fun u => !Tryd.prog.wantsStandIn u) = true := by kernel_rfl
        exact (show Tryd.prog.wantsStandIn t = false by simpa using List.all_eq_true.1 hall t hm)⟩)
    (by kernel_rfl)
#print axioms fnExactContainerTextCard_holds
end Go.Proofs.YtfindomajbjacaaDoor
