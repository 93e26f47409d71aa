/- What PortsAhead comes to: the ports of the calls from a call on, each once, in the order in which they are met. -/
import Derived.Test.YtlldonokjgoajaaMWays
import Derived.Test.YtlldonokjgoajaaFspecPortsAhead
import Derived.Test.YtlldonokjgoajaaFimplPortsAhead
namespace Go.Proofs.Ytlldonokjgoajaa.X
open Go.RowKit Go.Proofs.YtlldonokjgoajaaW.PrintWords Go.Proofs.YtlldonokjgoajaaW.PrintLast
set_option linter.unusedVariables false
set_option linter.unusedSimpArgs false
/-- d calls being left, the j-th behind call i at hand. -/
def aheadFrom (ps : List Int) (i : Nat) : Nat → Nat → List Int → List Int
  | 0, _, acc => acc
  | d + 1, j, acc => if ps.getD ((i + j) % ps.length) 0 ∈ acc then aheadFrom ps i d (j + 1) acc else aheadFrom ps i d (j + 1) (acc ++ [ps.getD ((i + j) % ps.length) 0])
theorem aheadFrom_len (ps : List Int) (i : Nat) (d : Nat) : ∀ j acc, (aheadFrom ps i d j acc).length ≤ acc.length + d := by
  induction d with
  | zero => intro j acc; simp [aheadFrom]
  | succ d ih =>
    intro j acc
    simp only [aheadFrom]
    split
    · have := ih (j + 1) acc; omega
    · have := ih (j + 1) (acc ++ [ps.getD ((i + j) % ps.length) 0])
      simp only [List.length_append, List.length_cons, List.length_nil] at this
      omega
theorem ahead_loop (ps ds : List Int) (h12 : ps.length ≤ 12) (i : Nat) (hi : i < ps.length) (d : Nat) : ∀ (k j : Nat) (acc : List Int), j + d = ps.length → d + 14 < k → acc.length ≤ j →
    spec_PortsAhead.l0 k (i : Int) acc (j : Int) ps ds = some (aheadFrom ps i d j acc, true) ∧ impl_PortsAhead.l0 k (i : Int) acc (ps.length : Int) (j : Int) ps ds = some (aheadFrom ps i d j acc, true) := by
  induction d with
  | zero =>
    intro k j acc hj hk ha
    obtain ⟨k, rfl⟩ := kpos hk
    have c : ¬ (j : Int) < (ps.length : Int) := by omega
    simp only [spec_PortsAhead.l0, impl_PortsAhead.l0, if_neg c, aheadFrom, and_self]
  | succ d ih =>
    intro k j acc hj hk ha
    obtain ⟨k, rfl⟩ := kpos hk
    have c : (j : Int) < (ps.length : Int) := by omega
    have c4 : ¬ (ps.length : Int) = 0 := by omega
    have hm : (i + j) % ps.length < ps.length := Nat.mod_lt _ (by omega)
    have c5 : 0 ≤ (((i + j) % ps.length : Nat) : Int) := by omega
    have c6 : (((i + j) % ps.length : Nat) : Int) < (ps.length : Int) := by omega
    have ew : wrap64 ((i : Int) + (j : Int)) = ((i + j : Nat) : Int) := by rw [w64 (by omega) (by omega)]; omega
    have c7 : acc.length < 17592186044416 := by omega
    simp only [spec_PortsAhead.l0, impl_PortsAhead.l0, if_pos c, if_neg c4, ew, tmod_nat, if_pos c5, if_pos c6, rd_nat, wnext (show j < 13 by omega) (by omega), l1Has_ends acc _ (by omega) k (by omega), Contains_ends acc _ (by omega) k (by omega), Option.bind_some, decide_eq_true_eq, aheadFrom, if_pos c7]
    by_cases h : ps.getD ((i + j) % ps.length) 0 ∈ acc
    · simp only [if_pos h]
      exact ih k (j + 1) acc (by omega) (by omega) (by omega)
    · simp only [if_neg h]
      exact ih k (j + 1) _ (by omega) (by omega) (by simp; omega)
/-- The ports ahead. -/
def aheadW (ps ds : List Int) (i : Int) : List Int × Bool := if callB ps ds i = true then (aheadFrom ps i.toNat ps.length 0 [], true) else ([], false)
theorem ahead_ends (ps ds : List Int) (i : Int) (k : Nat) (hk : 40 ≤ k) : spec_PortsAhead.f k ps ds i = some (aheadW ps ds i) ∧ impl_PortsAhead.f k ps ds i = some (aheadW ps ds i) := by
  unfold spec_PortsAhead.f impl_PortsAhead.f aheadW
  rw [asked_ends _ _ _ _ (by omega), isCall_one _ _ _ _ (by omega)]
  simp only [Option.bind_some]
  by_cases h : callB ps ds i = true
  · obtain ⟨hg, n, rfl, hn⟩ := callB_nat h
    obtain ⟨h1, h2, h3⟩ := goodR_len hg
    have := ahead_loop ps ds h2 n hn ps.length k 0 [] (by omega) (by omega) (by simp)
    simp only [if_pos h, Int.toNat_natCast]
    exact this
  · simp [h]
theorem aheadW_len (ps ds : List Int) (i : Int) : (aheadW ps ds i).1.length ≤ 12 := by
  unfold aheadW
  split
  · rename_i h
    obtain ⟨hg, n, rfl, hn⟩ := callB_nat h
    obtain ⟨h1, h2, h3⟩ := goodR_len hg
    have := aheadFrom_len ps n ps.length 0 []
    simp only [Int.toNat_natCast, List.length_nil] at this ⊢
    omega
  · simp
end Go.Proofs.Ytlldonokjgoajaa.X
