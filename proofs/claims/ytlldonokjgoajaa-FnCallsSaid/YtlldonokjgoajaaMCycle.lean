/- What CycleDays comes to: the sum of the days of a valid rotation. -/
import Derived.Test.YtlldonokjgoajaaMRot
import Derived.Test.YtlldonokjgoajaaMInts
import Derived.Test.YtlldonokjgoajaaFimplCycleDays
namespace Go.Proofs.Ytlldonokjgoajaa.X
open Go.RowKit Go.Proofs.YtlldonokjgoajaaW.PrintWords Go.Proofs.YtlldonokjgoajaaW.PrintLast
set_option linter.unusedVariables false
set_option linter.unusedSimpArgs false
/-- The sum of a list. -/
def sumI : List Int → Int
  | [] => 0
  | x :: l => x + sumI l
theorem cycle_loopI (ps ds : List Int) (h12 : ds.length ≤ 12) (hr : ∀ i, i < ds.length → 1 ≤ ds.getD i 0 ∧ ds.getD i 0 ≤ 40) (d : Nat) : ∀ (k i : Nat) (a : Int), i + d = ds.length → d < k → 0 ≤ a → a ≤ 40 * i →
    impl_CycleDays.l0 k a ds (ds.length : Int) (i : Int) = some (a + sumI (ds.drop i), true) := by
  induction d with
  | zero =>
    intro k i a hi hk h0 ha
    obtain ⟨k, rfl⟩ := kpos hk
    have c : ¬ (i : Int) < (ds.length : Int) := by omega
    simp only [impl_CycleDays.l0]
    rw [if_neg c, List.drop_of_length_le (by omega)]
    simp [sumI]
  | succ d ih =>
    intro k i a hi hk h0 ha
    obtain ⟨k, rfl⟩ := kpos hk
    have hd := hr i (by omega)
    have i2 := ih k (i + 1) (a + ds.getD i 0) (by omega) (by omega) (by omega) (by omega)
    have c : (i : Int) < (ds.length : Int) := by omega
    have c0 : 0 ≤ (i : Int) := by omega
    have e1 : ds.drop i = ds.getD i 0 :: ds.drop (i + 1) := getD_cons (z := (0 : Int)) (by omega)
    have e2 : rd ds (i : Int) = ds.getD i 0 := rfl
    have w1 : wrap64 (a + ds.getD i 0) = a + ds.getD i 0 := w64 (by omega) (by omega)
    have w2 : wrap64 ((i : Int) + 1) = ((i + 1 : Nat) : Int) := by rw [w64 (by omega) (by omega)]; omega
    simp only [impl_CycleDays.l0]
    rw [if_pos c, if_pos c0, if_pos c, e2, w1, w2, i2, e1, sumI]
    congr 1
    congr 1
    omega
/-- The days of a round voyage; is the rotation valid? -/
def cycleM (ps ds : List Int) : Int × Bool := if goodR ps ds = true then (sumI ds, true) else (0, false)
theorem impl_cycle (ps ds : List Int) (k : Nat) (hk : 20 ≤ k) : impl_CycleDays.f k ps ds = some (cycleM ps ds) := by
  unfold impl_CycleDays.f cycleM
  rw [impl_goodR _ _ _ (by omega)]
  simp only [Option.bind_some]
  by_cases h : goodR ps ds = true
  · obtain ⟨h1, h2, h3⟩ := goodR_len h
    rw [if_pos h, if_pos h]
    have := (cycle_loopI ps ds (by omega) (fun i hi => ⟨(goodR_at h i (by omega)).2.2.1, (goodR_at h i (by omega)).2.2.2⟩) ds.length k 0 0 (by omega) (by omega) (by omega) (by omega))
    simpa using this
  · rw [if_neg h, if_neg h]
end Go.Proofs.Ytlldonokjgoajaa.X
