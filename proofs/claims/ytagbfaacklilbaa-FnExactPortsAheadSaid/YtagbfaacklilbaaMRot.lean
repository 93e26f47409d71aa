/- What the printed functions on rotations come to: is a rotation valid, the way between two calls, the next call at a port. -/
import Derived.Test.YtagbfaacklilbaaMRange
import Derived.Test.YtagbfaacklilbaaFspecl3Good
import Derived.Test.YtagbfaacklilbaaFimplIsValidRotation
import Derived.Test.YtagbfaacklilbaaFspecl3Asked
import Derived.Test.YtagbfaacklilbaaGisCall
import Derived.Test.YtagbfaacklilbaaFbWays
namespace Go.Proofs.Ytagbfaacklilbaa.X
open Go.RowKit Go.Proofs.YtagbfaacklilbaaW.PrintWords Go.Proofs.YtagbfaacklilbaaW.PrintLast
set_option linter.unusedVariables false
set_option linter.unusedSimpArgs false

theorem tmod_nat (a b : Nat) : Int.tmod (a : Int) (b : Int) = ((a % b : Nat) : Int) := by
  rw [Int.tmod_eq_emod_of_nonneg (by omega)]
  rfl

/-! ### valid rotations -/
def okCall (ps ds : List Int) (i : Nat) : Bool :=
  inB (ps.getD i 0) 1 9 && inB (ds.getD i 0) 1 40 && !(decide (1 < ps.length) && decide (ps.getD i 0 = ps.getD ((i + 1) % ps.length) 0))
def okFromR (ps ds : List Int) : Nat → Nat → Bool
  | 0, _ => true
  | d + 1, i => okCall ps ds i && okFromR ps ds d (i + 1)
def goodR (ps ds : List Int) : Bool := inB (ps.length : Int) 1 12 && decide (ds.length = ps.length) && okFromR ps ds ps.length 0

theorem good_loop (ps ds : List Int) (hl : ds.length = ps.length) (h12 : ps.length ≤ 12) (d : Nat) : ∀ (k i : Nat), i + d = ps.length → d < k →
    spec_l3Good.l0 k (ps.length : Int) (i : Int) ps ds = some (okFromR ps ds d i) ∧ impl_IsValidRotation.l0 k (ps.length : Int) (ps.length : Int) (i : Int) ps ds = some (okFromR ps ds d i) := by
  induction d with
  | zero =>
    intro k i hi hk
    obtain ⟨k, rfl⟩ := kpos hk
    have c : ¬ (i : Int) < (ps.length : Int) := by omega
    simp only [spec_l3Good.l0, impl_IsValidRotation.l0, if_neg c, okFromR, and_self]
  | succ d ih =>
    intro k i hi hk
    obtain ⟨k, rfl⟩ := kpos hk
    obtain ⟨i1, i2⟩ := ih k (i + 1) (by omega) (by omega)
    have c : (i : Int) < (ps.length : Int) := by omega
    have c0 : 0 ≤ (i : Int) := by omega
    have c2 : (i : Int) < (ds.length : Int) := by omega
    have cz : ¬ (ps.length : Int) = 0 := by omega
    have hw : wrap64 ((i : Int) + 1) = ((i + 1 : Nat) : Int) := wnext (m := 13) (by omega) (by omega)
    have hm : (i + 1) % ps.length < ps.length := Nat.mod_lt _ (by omega)
    have c3 : 0 ≤ (((i + 1) % ps.length : Nat) : Int) := by omega
    have c4 : (((i + 1) % ps.length : Nat) : Int) < (ps.length : Int) := by omega
    simp only [spec_l3Good.l0, impl_IsValidRotation.l0, if_pos c, if_pos c0, if_pos c2, if_neg cz, hw, tmod_nat, if_pos c3, if_pos c4, rd_nat, l1In_ends, within_ends, Option.bind_some, i1, i2, okFromR, okCall]
    generalize inB (ps.getD i 0) 1 9 = b1
    generalize inB (ds.getD i 0) 1 40 = b2
    cases b1
    · simp
    · cases b2
      · simp
      · by_cases h1 : 1 < ps.length
        · have h1' : (ps.length : Int) > 1 := by omega
          simp only [if_pos h1', h1, decide_true, Bool.true_and, if_true]
          by_cases h2 : ps.getD i 0 = ps.getD ((i + 1) % ps.length) 0
          · simp only [h2, if_true, decide_true]; simp
          · simp only [h2, if_false, decide_false]; simp
        · have h1' : ¬ (ps.length : Int) > 1 := by omega
          simp [h1', h1]

theorem spec_goodR (ps ds : List Int) (k : Nat) (hk : 15 ≤ k) : spec_l3Good.f k ps ds = some (goodR ps ds) := by
  obtain ⟨k, rfl⟩ : ∃ m, k = m + 1 := ⟨k - 1, by omega⟩
  unfold spec_l3Good.f goodR
  simp only [l1In_ends, Option.bind_some]
  by_cases h1 : inB (ps.length : Int) 1 12 = true
  · have h1' : ps.length ≤ 12 := by unfold inB at h1; simp at h1; omega
    rw [if_pos h1, h1]
    simp only [spec_l3Good.j0]
    by_cases h2 : ds.length = ps.length
    · rw [if_neg (by simp [h2])]
      have := (good_loop ps ds h2 h1' ps.length k 0 (by omega) (by omega)).1
      rw [show (((0 : Nat) : Int)) = 0 from rfl] at this
      rw [this]
      simp [h2]
    · rw [if_pos (by simp; omega)]
      simp [h2]
  · rw [if_neg h1]
    simp only [Bool.not_eq_true] at h1
    rw [h1]
    simp [spec_l3Good.j0]
theorem impl_goodR (ps ds : List Int) (k : Nat) (hk : 15 ≤ k) : impl_IsValidRotation.f k ps ds = some (goodR ps ds) := by
  obtain ⟨k, rfl⟩ : ∃ m, k = m + 1 := ⟨k - 1, by omega⟩
  unfold impl_IsValidRotation.f goodR
  simp only [within_ends, Option.bind_some]
  by_cases h1 : inB (ps.length : Int) 1 12 = true
  · have h1' : ps.length ≤ 12 := by unfold inB at h1; simp at h1; omega
    rw [if_pos h1, h1]
    simp only [impl_IsValidRotation.j0]
    by_cases h2 : ds.length = ps.length
    · rw [if_neg (by simp [h2])]
      have := (good_loop ps ds h2 h1' ps.length k 0 (by omega) (by omega)).2
      rw [show (((0 : Nat) : Int)) = 0 from rfl] at this
      rw [this]
      simp [h2]
    · rw [if_pos (by simp; omega)]
      simp [h2]
  · rw [if_neg h1]
    simp only [Bool.not_eq_true] at h1
    rw [h1]
    simp [impl_IsValidRotation.j0]

theorem inB_iff {x a b : Int} : inB x a b = true ↔ a ≤ x ∧ x ≤ b := by unfold inB; simp
theorem goodR_len {ps ds : List Int} (h : goodR ps ds = true) : 1 ≤ ps.length ∧ ps.length ≤ 12 ∧ ds.length = ps.length := by
  unfold goodR at h
  simp only [Bool.and_eq_true, inB_iff, decide_eq_true_eq] at h
  omega
theorem okFromR_at {ps ds : List Int} (d : Nat) : ∀ i, okFromR ps ds d i = true → ∀ j, i ≤ j → j < i + d → okCall ps ds j = true := by
  induction d with
  | zero => intro i _ j h1 h2; omega
  | succ d ih =>
    intro i h j h1 h2
    simp only [okFromR, Bool.and_eq_true] at h
    by_cases e : j = i
    · rw [e]; exact h.1
    · exact ih (i + 1) h.2 j (by omega) (by omega)
theorem goodR_call {ps ds : List Int} (h : goodR ps ds = true) (i : Nat) (hi : i < ps.length) : okCall ps ds i = true := by
  unfold goodR at h
  simp only [Bool.and_eq_true] at h
  exact okFromR_at ps.length 0 h.2 i (by omega) (by omega)
theorem goodR_at {ps ds : List Int} (h : goodR ps ds = true) (i : Nat) (hi : i < ps.length) : 1 ≤ ps.getD i 0 ∧ ps.getD i 0 ≤ 9 ∧ 1 ≤ ds.getD i 0 ∧ ds.getD i 0 ≤ 40 := by
  have := goodR_call h i hi
  unfold okCall at this
  simp only [Bool.and_eq_true, inB_iff] at this
  omega
theorem okFromR_mk {ps ds : List Int} (d : Nat) : ∀ i, (∀ j, i ≤ j → j < i + d → okCall ps ds j = true) → okFromR ps ds d i = true := by
  induction d with
  | zero => intro i _; rfl
  | succ d ih =>
    intro i h
    simp only [okFromR, Bool.and_eq_true]
    exact ⟨h i (by omega) (by omega), ih (i + 1) (fun j h1 h2 => h j (by omega) (by omega))⟩

/-- Is a rotation valid, and are the numbers calls of it? -/
def callB (ps ds : List Int) (i : Int) : Bool := goodR ps ds && inB i 0 ((ps.length : Int) - 1)
theorem isCall_ends (ps ds l : List Int) (k : Nat) (hk : 15 ≤ k) : impl_isCall.f k ps ds l = some (goodR ps ds && l.all fun x => inB x 0 ((ps.length : Int) - 1)) := by
  unfold impl_isCall.f
  rw [impl_goodR _ _ _ hk]
  simp only [Option.bind_some]
  cases goodR ps ds with
  | false => rfl
  | true =>
    simp only [if_true, Bool.true_and]
    congr 1
    rw [Bool.eq_iff_iff]
    simp
theorem isCall_one (ps ds : List Int) (i : Int) (k : Nat) (hk : 15 ≤ k) : impl_isCall.f k ps ds [i] = some (callB ps ds i) := by
  rw [isCall_ends _ _ _ _ hk]
  simp [callB]
theorem isCall_two (ps ds : List Int) (i j : Int) (k : Nat) (hk : 15 ≤ k) : impl_isCall.f k ps ds [i, j] = some (callB ps ds i && callB ps ds j) := by
  rw [isCall_ends _ _ _ _ hk]
  simp only [callB, List.all_cons, List.all_nil, Bool.and_true]
  cases goodR ps ds <;> simp
theorem asked_ends (ps ds : List Int) (i : Int) (k : Nat) (hk : 15 ≤ k) : spec_l3Asked.f k ps ds i = some (callB ps ds i) := by
  unfold spec_l3Asked.f callB
  rw [spec_goodR _ _ _ hk]
  simp only [Option.bind_some, l1In_ends]
  cases hg : goodR ps ds with
  | false => rfl
  | true =>
    have := goodR_len hg
    rw [if_pos rfl, w64 (by omega) (by omega)]
    rfl
theorem callB_nat {ps ds : List Int} {i : Int} (h : callB ps ds i = true) : goodR ps ds = true ∧ ∃ n : Nat, i = (n : Int) ∧ n < ps.length := by
  unfold callB at h
  rw [Bool.and_eq_true, inB_iff] at h
  exact ⟨h.1, i.toNat, by omega, by omega⟩
end Go.Proofs.Ytagbfaacklilbaa.X
