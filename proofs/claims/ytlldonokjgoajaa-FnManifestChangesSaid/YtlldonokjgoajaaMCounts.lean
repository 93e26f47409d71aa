/- What PortCounts answers, plainly: for each port from 1 to 9 that occurs, how many containers are for it. -/
import Derived.Test.YtlldonokjgoajaaMCont
import Derived.Test.YtlldonokjgoajaaMContL
import Derived.Test.YtlldonokjgoajaaFspecPortCounts
import Derived.Test.YtlldonokjgoajaaFimplPortCounts
namespace Go.Proofs.Ytlldonokjgoajaa.X
open Go.RowKit Go.Proofs.YtlldonokjgoajaaW.PrintWords Go.Proofs.YtlldonokjgoajaaW.PrintLast
set_option linter.unusedVariables false
set_option linter.unusedSimpArgs false
/-- How many containers are for a port. -/
def cntP (p : Int) : List S89 → Nat
  | [] => 0
  | x :: r => if x.f4 = p then cntP p r + 1 else cntP p r
theorem cntP_le (p : Int) : ∀ cs : List S89, cntP p cs ≤ cs.length
  | [] => Nat.le_refl _
  | x :: r => by
    have := cntP_le p r
    unfold cntP
    split
    · simp only [List.length_cons]; omega
    · simp only [List.length_cons]; omega
def portsA (cs : List S89) : Nat → Int → List S104
  | 0, _ => []
  | d + 1, p => if 0 < cntP p cs then ⟨p, (cntP p cs : Int)⟩ :: portsA cs d (p + 1) else portsA cs d (p + 1)
theorem portsA_len (cs : List S89) : ∀ d p, (portsA cs d p).length ≤ d
  | 0, _ => Nat.le_refl _
  | d + 1, p => by
    have := portsA_len cs d (p + 1)
    unfold portsA
    split
    · simp only [List.length_cons]; omega
    · omega
theorem spec_inner (cs : List S89) (hx : cs.length ≤ 1048576) (p : Int) (hp : 0 ≤ p ∧ p ≤ 9) (out : List S104) (ho : out.length ≤ 100) (d : Nat) : ∀ (m i c : Nat), i + d = cs.length → c ≤ i →
    spec_PortCounts.l1 (m + 1 + d) cs out p (c : Int) (i : Int) = if 0 < c + cntP p (cs.drop i) then spec_PortCounts.l0 m cs (out ++ [⟨p, ((c + cntP p (cs.drop i) : Nat) : Int)⟩]) (p + 1) else spec_PortCounts.l0 m cs out (p + 1) := by
  induction d with
  | zero =>
    intro m i c hi hc
    have hw : wrap64 (p + 1) = p + 1 := w64 (by omega) (by omega)
    have e0 : cntP p (cs.drop i) = 0 := by rw [List.drop_of_length_le (by omega)]; rfl
    rw [e0, Nat.add_zero, spec_PortCounts.l1, if_neg (by omega), hw]
    by_cases h : 0 < c
    · rw [if_pos (by omega), if_pos (by omega), if_pos (by omega)]
      rfl
    · rw [if_neg (by omega), if_neg (by omega)]
  | succ d ih =>
    intro m i c hi hc
    have hlt : i < cs.length := by omega
    have hw : wrap64 ((c : Int) + 1) = ((c + 1 : Nat) : Int) := by rw [w64 (by omega) (by omega)]; omega
    rw [show m + 1 + (d + 1) = (m + 1 + d) + 1 by omega, spec_PortCounts.l1, if_pos (by omega), if_pos (by omega), rdC61_nat, wnext hlt (by omega), hw, getD_cons (z := z89) hlt]
    unfold cntP
    by_cases h : (cs.getD i z89).f4 = p
    · rw [if_pos h, if_pos h, ih m (i + 1) (c + 1) (by omega) (by omega), show c + 1 + cntP p (cs.drop (i + 1)) = c + (cntP p (cs.drop (i + 1)) + 1) by omega]
    · rw [if_neg h, if_neg h, ih m (i + 1) c (by omega) (by omega)]
theorem impl_inner (cs : List S89) (hx : cs.length ≤ 1048576) (p : Int) (hp : 0 ≤ p ∧ p ≤ 9) (out : List S104) (ho : out.length ≤ 100) (d : Nat) : ∀ (m i c : Nat), i + d = cs.length → c ≤ i →
    impl_PortCounts.l1 (m + 1 + d) cs out p (c : Int) cs (cs.length : Int) (i : Int) = if 0 < c + cntP p (cs.drop i) then impl_PortCounts.l0 m cs (out ++ [⟨p, ((c + cntP p (cs.drop i) : Nat) : Int)⟩]) (p + 1) else impl_PortCounts.l0 m cs out (p + 1) := by
  induction d with
  | zero =>
    intro m i c hi hc
    have hw : wrap64 (p + 1) = p + 1 := w64 (by omega) (by omega)
    have e0 : cntP p (cs.drop i) = 0 := by rw [List.drop_of_length_le (by omega)]; rfl
    rw [e0, Nat.add_zero, impl_PortCounts.l1, if_neg (by omega), hw]
    by_cases h : 0 < c
    · rw [if_pos (by omega), if_pos (by omega), if_pos (by omega)]
      rfl
    · rw [if_neg (by omega), if_neg (by omega)]
  | succ d ih =>
    intro m i c hi hc
    have hlt : i < cs.length := by omega
    have hw : wrap64 ((c : Int) + 1) = ((c + 1 : Nat) : Int) := by rw [w64 (by omega) (by omega)]; omega
    rw [show m + 1 + (d + 1) = (m + 1 + d) + 1 by omega, impl_PortCounts.l1, if_pos (by omega), if_pos (by omega), if_pos (by omega), rdC61_nat, wnext hlt (by omega), hw, getD_cons (z := z89) hlt]
    unfold cntP
    by_cases h : (cs.getD i z89).f4 = p
    · rw [if_pos h, if_pos h, ih m (i + 1) (c + 1) (by omega) (by omega), show c + 1 + cntP p (cs.drop (i + 1)) = c + (cntP p (cs.drop (i + 1)) + 1) by omega]
    · rw [if_neg h, if_neg h, ih m (i + 1) c (by omega) (by omega)]
theorem counts_loop (cs : List S89) (hx : cs.length ≤ 1048576) (d : Nat) : ∀ (p : Int) (m : Nat) (out : List S104), p + d = 10 → 0 ≤ p → out.length + d ≤ 50 →
    spec_PortCounts.l0 (d * (cs.length + 2) + 1 + m) cs out p = some (out ++ portsA cs d p, true) ∧ impl_PortCounts.l0 (d * (cs.length + 2) + 1 + m) cs out p = some (out ++ portsA cs d p, true) := by
  induction d with
  | zero =>
    intro p m out hp h0 ho
    rw [show 0 * (cs.length + 2) + 1 + m = m + 1 by omega, spec_PortCounts.l0, impl_PortCounts.l0, if_neg (by omega), if_neg (by omega)]
    simp [portsA]
  | succ d ih =>
    intro p m out hp h0 ho
    have hk : (d + 1) * (cs.length + 2) + 1 + m = ((d * (cs.length + 2) + 1 + m) + 1 + cs.length) + 1 := by rw [Nat.add_mul]; omega
    have e1 := spec_inner cs hx p (by omega) out (by omega) cs.length (d * (cs.length + 2) + 1 + m) 0 0 (by omega) (by omega)
    have e2 := impl_inner cs hx p (by omega) out (by omega) cs.length (d * (cs.length + 2) + 1 + m) 0 0 (by omega) (by omega)
    rw [show ((0 : Nat) : Int) = 0 from rfl, List.drop_zero, Nat.zero_add] at e1 e2
    rw [hk, spec_PortCounts.l0, impl_PortCounts.l0, if_pos (by omega), if_pos (by omega), e1, e2]
    unfold portsA
    by_cases h : 0 < cntP p cs
    · obtain ⟨i1, i2⟩ := ih (p + 1) m (out ++ [⟨p, (cntP p cs : Int)⟩]) (by omega) (by omega) (by simp only [List.length_append, List.length_singleton]; omega)
      rw [if_pos h, if_pos h, if_pos h, i1, i2]
      simp
    · obtain ⟨i1, i2⟩ := ih (p + 1) m out (by omega) (by omega) (by omega)
      rw [if_neg h, if_neg h, if_neg h, i1, i2]
      exact ⟨rfl, rfl⟩
def countsA (cs : List S89) : List S104 × Bool := if validC cs = true then (portsA cs 9 1, true) else ([], false)
theorem validC_len {cs : List S89} (h : validC cs = true) : cs.length ≤ 12 := by
  unfold validC at h
  rw [Bool.and_eq_true, decide_eq_true_eq] at h
  exact h.1
theorem counts_both (cs : List S89) (hl : cs.length ≤ 1048576) (k : Nat) (hk : 1048700 ≤ k) : spec_PortCounts.f k cs = some (countsA cs) ∧ impl_PortCounts.f k cs = some (countsA cs) := by
  unfold spec_PortCounts.f impl_PortCounts.f countsA
  rw [spec_valid _ hl _ hk, impl_valid _ hl _ (by omega), Option.bind_some, Option.bind_some, Option.bind_some]
  by_cases h : validC cs = true
  · have h12 := validC_len h
    obtain ⟨m, rfl⟩ : ∃ m, k = 9 * (cs.length + 2) + 1 + m := ⟨k - (9 * (cs.length + 2) + 1), by omega⟩
    obtain ⟨e1, e2⟩ := counts_loop cs hl 9 1 m [] (by omega) (by omega) (by simp)
    rw [List.nil_append] at e1 e2
    rw [if_pos h, if_pos h, if_pos h, e1, e2]
    exact ⟨rfl, rfl⟩
  · rw [if_neg h, if_neg h, if_neg h]
    exact ⟨rfl, rfl⟩
theorem countsA_len (cs : List S89) : (countsA cs).1.length ≤ 9 := by
  unfold countsA
  split
  · exact portsA_len cs 9 1
  · simp
end Go.Proofs.Ytlldonokjgoajaa.X
