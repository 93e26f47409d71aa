-- Written by a program of ours (wip/bin/xprint.py, over the kit's print.py) out of the translation. Not trusted: Lean checks it.
import Derived.Test.YtnifjoobkojgiaaDoorX0
import Derived.Test.YtnifjoobkojgiaaDoorFspecl1Num
import Derived.Test.YtnifjoobkojgiaaDoorFspecl1Sum
namespace Go.Proofs.YtnifjoobkojgiaaDoor.X
open Go.RowKit Go.Proofs.YtnifjoobkojgiaaDoorW.PrintWords Go.Proofs.YtnifjoobkojgiaaDoorW.PrintLast Go.Proofs.YtnifjoobkojgiaaDoorW.PrintMore
attribute [local go_sem] max2_int min2_int max_two min_two max_three min_three max_four min_four   -- for this text's walks alone
set_option linter.unusedVariables false
set_option linter.unusedSimpArgs false

/-! ### spec_l1Seal: function 53 -/
def spec_l1Seal.f (k : Nat) (a0 : ByteArray) : Option (ByteArray) := if a0.size + 1 ≤ 9223372036854775807 then ((spec_l1Sum.f k a0).bind fun t217 => ((spec_l1Num.f k t217).bind fun t218 => (if (a0 ++ (⟨#[35]⟩ : ByteArray)).size + t218.size ≤ 9223372036854775807 then (some ((a0 ++ (⟨#[35]⟩ : ByteArray)) ++ t218)) else (none)))) else (none)
theorem spec_l1Seal.mono : ∀ a0 k, LeO (spec_l1Seal.f k a0) (spec_l1Seal.f (k + 1) a0) := by
 intro a0 k
 unfold spec_l1Seal.f
 repeat' first
   | (with_reducible exact spec_l1Num.mono _ _)
   | (with_reducible exact spec_l1Sum.mono _ _)
   | (with_reducible exact LeO.refl _)
   | (with_reducible exact LeO.none _)
   | (with_reducible refine LeO.ite ?_ ?_)
   | (with_reducible refine LeO.bind ?_ (fun _ => ?_))
   | exact spec_l1Num.mono _ _
   | exact spec_l1Sum.mono _ _
   | exact LeO.none _
   | refine LeO.ite ?_ ?_
   | refine LeO.bind ?_ (fun _ => ?_)
set_option maxHeartbeats 8000000 in
set_option maxRecDepth 100000 in
theorem spec_l1Seal.calls (k : Nat) (a0 : ByteArray) (r : ByteArray) (w : World) (h : spec_l1Seal.f k a0 = some r) :
  Calls Tryd.prog 53 #[.string a0] w fun e w' => e = .returned (.string r) ∧ Below w.heap.size w w' := by
 have HB := Aside0.mk (Below.refl w.heap.size w)
 have H : (if a0.size + 1 ≤ 9223372036854775807 then ((spec_l1Sum.f k a0).bind fun t217 => ((spec_l1Num.f k t217).bind fun t218 => (if (a0 ++ (⟨#[35]⟩ : ByteArray)).size + t218.size ≤ 9223372036854775807 then (some ((a0 ++ (⟨#[35]⟩ : ByteArray)) ++ t218)) else (none)))) else (none)) = some r := h
 clear h
 by_cases c2 : a0.size + 1 ≤ 9223372036854775807
 ·rw [if_pos c2] at H
  have c2b0 := eq_true c2
  have c2b1 : decide (a0.size + 1 ≤ 9223372036854775807) = true := decide_eq_true c2
  try have c2b2 : (9223372036854775807 < a0.size + 1) = False := eq_false (Nat.not_lt.2 c2)
  replace H := Option.bind_eq_some_iff.mp H
  obtain ⟨t217, A30, H⟩ := H
  replace H : ((spec_l1Num.f k t217).bind fun t218 => (if (a0 ++ (⟨#[35]⟩ : ByteArray)).size + t218.size ≤ 9223372036854775807 then (some ((a0 ++ (⟨#[35]⟩ : ByteArray)) ++ t218)) else (none))) = some r := H
  have A3 := Aside0.mk A30
  clear A30
  replace H := Option.bind_eq_some_iff.mp H
  obtain ⟨t218, A40, H⟩ := H
  replace H : (if (a0 ++ (⟨#[35]⟩ : ByteArray)).size + t218.size ≤ 9223372036854775807 then (some ((a0 ++ (⟨#[35]⟩ : ByteArray)) ++ t218)) else (none)) = some r := H
  have A4 := Aside0.mk A40
  clear A40
  by_cases c5 : (a0 ++ (⟨#[35]⟩ : ByteArray)).size + t218.size ≤ 9223372036854775807
  ·rw [if_pos c5] at H
   have c5b0 := eq_true c5
   have c5b1 : decide ((a0 ++ (⟨#[35]⟩ : ByteArray)).size + t218.size ≤ 9223372036854775807) = true := decide_eq_true c5
   try have c5b2 : (9223372036854775807 < (a0 ++ (⟨#[35]⟩ : ByteArray)).size + t218.size) = False := eq_false (Nat.not_lt.2 c5)
   try have c5b9 : (9223372036854775807 < a0.size + 1 + t218.size) = False := eq_false (by have h_ := c5; simp only [ByteArray.size_append] at h_; exact Nat.not_lt.2 h_)
   try have c5b4 : (9223372036854775807 < a0.size + 1 + t218.size) = False := eq_false (by have h_ := c5; rw [ByteArray.size_append] at h_; exact Nat.not_lt.2 h_)
   obtain rfl := Option.some.inj H
   go_enter Tryd.func53, Tryd.ntmps53
   go_wp2_with (first | ((with_reducible refine gate_callee (f := 76) rfl ?_); refine goesL_ (some 6) rfl rfl Tryd.func76 (by kernel_rfl) rfl #[.string a0] rfl (by (try simp only [List.map_toArray, List.map_cons, List.map_nil]); first | done | rfl | (simp only [List.length_drop, List.length_take]; rfl)) ?_; (with_reducible refine (spec_l1Sum.calls k a0 t217 _ A3.out).mono ?_); rintro e w' ⟨rfl, ⟨nd, rfl⟩⟩; refine ⟨_, rfl, ?_⟩) | ((with_reducible refine gate_callee (f := 46) rfl ?_); refine goesL_ (some 7) rfl rfl Tryd.func46 (by kernel_rfl) rfl #[.int .i64 t217] rfl (by (try simp only [List.map_toArray, List.map_cons, List.map_nil]); first | done | rfl | (simp only [List.length_drop, List.length_take]; rfl)) ?_; (with_reducible refine (spec_l1Num.calls k t217 t218 _ A4.out).mono ?_); rintro e w6 ⟨rfl, hb⟩; refine ⟨_, rfl, ?_⟩; have n0_ := Aside0.mk (below_step (by repeat (first | (with_reducible first | exact HB.out | apply below_alloc | apply pw_below_drewN | apply below_drew1) | exact HB.out)) hb); clear HB; have HB := n0_; clear n0_; (try clear hb); (try clear hb2); (try clear hk); (try clear hi)))
   go_ret
   exact ⟨by first | rfl | (simp [errW_none, errW_some] <;> rfl) | (simp [*, errW_none, errW_some] <;> rfl), by repeat (first | (with_reducible first | exact HB.out | apply below_alloc | apply pw_below_drewN | apply below_drew1) | exact HB.out)⟩
  ·rw [if_neg c5] at H
   exact absurd H (by simp)
 ·rw [if_neg c2] at H
  exact absurd H (by simp)

end Go.Proofs.YtnifjoobkojgiaaDoor.X
