/- What CycleDays comes to: the sum of the days of a valid rotation. -/
import Derived.Test.YtagbfaacklilbaaMRotLaw
import Derived.Test.YtagbfaacklilbaaFspecCycleDays
import Derived.Test.YtagbfaacklilbaaFimplCycleDays
namespace Go.Proofs.Ytagbfaacklilbaa.X
open Go.RowKit Go.Proofs.YtagbfaacklilbaaW.PrintWords Go.Proofs.YtagbfaacklilbaaW.PrintLast
set_option linter.unusedVariables false
set_option linter.unusedSimpArgs false
/-- The sum of a list. -/
def sumI : List Int → Int
  | [] => 0
  | x :: l => x + sumI l
theorem cycle_loop (ps ds : List Int) (h12 : ds.length ≤ 12) (hr : ∀ i, i < ds.length → 1 ≤ ds.getD i 0 ∧ ds.getD i 0 ≤ 40) (d : Nat) : ∀ (k i : Nat) (a : Int), i + d = ds.length → d < k → 0 ≤ a → a ≤ 40 * i →
    spec_CycleDays.l0 k a (i : Int) ps ds = some (a + sumI (ds.drop i), true) ∧ impl_CycleDays.l0 k a ds (ds.length : Int) (i : Int) = some (a + sumI (ds.drop i), true) := by
  induction d with
  | zero =>
    intro k i a hi hk h0 ha
    obtain ⟨k, rfl⟩ := kpos hk
    have c : ¬ (i : Int) < (ds.length : Int) := by omega
    simp only [spec_CycleDays.l0, impl_CycleDays.l0, if_neg c, List.drop_of_length_le (show ds.length ≤ i by omega), sumI, Int.add_zero, and_self]
  | succ d ih =>
    intro k i a hi hk h0 ha
    obtain ⟨k, rfl⟩ := kpos hk
    have hd := hr i (by omega)
    obtain ⟨i1, i2⟩ := ih k (i + 1) (a + ds.getD i 0) (by omega) (by omega) (by omega) (by omega)
    have c : (i : Int) < (ds.length : Int) := by omega
    have c0 : 0 ≤ (i : Int) := by omega
    rw [getD_cons (z := (0 : Int)) (show i < ds.length by omega)]
    simp only [spec_CycleDays.l0, impl_CycleDays.l0, if_pos c, if_pos c0, rd_nat, sumI, ← Int.add_assoc]
    rw [wnext (m := 13) (by omega) (by omega), w64 (x := a + ds.getD i 0) (by omega) (by omega)]
    exact ⟨i1, i2⟩
/-- The days of a round voyage; is the rotation valid? -/
def cycleM (ps ds : List Int) : Int × Bool := if goodR ps ds = true then (sumI ds, true) else (0, false)
theorem spec_cycle (ps ds : List Int) (k : Nat) (hk : 20 ≤ k) : spec_CycleDays.f k ps ds = some (cycleM ps ds) := by
  unfold spec_CycleDays.f cycleM
  rw [spec_goodR _ _ _ (by omega)]
  simp only [Option.bind_some]
  by_cases h : goodR ps ds = true
  · obtain ⟨h1, h2, h3⟩ := goodR_len h
    rw [if_pos h, if_pos h]
    have := (cycle_loop ps ds (by omega) (fun i hi => ⟨(goodR_at h i (by omega)).2.2.1, (goodR_at h i (by omega)).2.2.2⟩) ds.length k 0 0 (by omega) (by omega) (by omega) (by omega)).1
    simpa using this
  · rw [if_neg h, if_neg h]
theorem impl_cycle (ps ds : List Int) (k : Nat) (hk : 20 ≤ k) : impl_CycleDays.f k ps ds = some (cycleM ps ds) := by
  unfold impl_CycleDays.f cycleM
  rw [impl_goodR _ _ _ (by omega)]
  simp only [Option.bind_some]
  by_cases h : goodR ps ds = true
  · obtain ⟨h1, h2, h3⟩ := goodR_len h
    rw [if_pos h, if_pos h]
    have := (cycle_loop ps ds (by omega) (fun i hi => ⟨(goodR_at h i (by omega)).2.2.1, (goodR_at h i (by omega)).2.2.2⟩) ds.length k 0 0 (by omega) (by omega) (by omega) (by omega)).2
    simpa using this
  · rw [if_neg h, if_neg h]
end Go.Proofs.Ytagbfaacklilbaa.X
