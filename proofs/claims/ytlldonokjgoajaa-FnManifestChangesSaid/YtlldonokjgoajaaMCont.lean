/- What the printed functions on lists of containers come to: the size that is left, the copy, the comparison. -/
import Derived.Test.YtlldonokjgoajaaMContL
import Derived.Test.YtlldonokjgoajaaFbHelpC
namespace Go.Proofs.Ytlldonokjgoajaa.X
open Go.RowKit Go.Proofs.YtlldonokjgoajaaW.PrintWords Go.Proofs.YtlldonokjgoajaaW.PrintLast
set_option linter.unusedVariables false
set_option linter.unusedSimpArgs false

def c67 (x : S144) : S89 := ⟨x.f0, x.f1, x.f2, x.f3, x.f4⟩
def totC : List S144 → Nat
  | [] => 0
  | s :: r => s.f0.size + totC r
theorem rdC67_nat (xs : List S144) (n : Nat) : rd_T144 xs (n : Int) = xs.getD n z144 := rfl
theorem szContainerS_loop (ss : List S144) (hx : ss.length ≤ 9223372036854775807) (hs : ∀ s ∈ ss, s.f0.size ≤ 9223372036854775807) (d : Nat) : ∀ (k n : Nat) (a : Int), n + d = ss.length → d < k → 0 ≤ a → a ≤ 1048576 →
    laws_szContainerS.l0 k ss a (n : Int) = some (if a - (totC (ss.drop n) : Int) < 0 then -1 else a - (totC (ss.drop n) : Int)) := by
  induction d with
  | zero =>
    intro k n a hn hk ha ha2
    obtain ⟨k, rfl⟩ := kpos hk
    simp only [laws_szContainerS.l0]
    have ht : totC (ss.drop n) = 0 := by rw [List.drop_of_length_le (by omega)]; rfl
    rw [if_neg (by omega), ht, if_neg (by omega)]
    simp
  | succ d ih =>
    intro k n a hn hk ha ha2
    obtain ⟨k, rfl⟩ := kpos hk
    have hlt : n < ss.length := by omega
    have hz := hs _ (getD_mem (z := z144) hlt)
    have ht : totC (ss.drop n) = (ss.getD n z144).f0.size + totC (ss.drop (n + 1)) := by rw [getD_cons (z := z144) hlt]; rfl
    simp only [laws_szContainerS.l0]
    rw [if_pos (by omega), if_pos (by omega), rdC67_nat, ht]
    unfold laws_szContainer.f
    rw [w64 (by omega) (by omega)]
    by_cases h : a - ((ss.getD n z144).f0.size : Int) < 0
    · rw [if_pos h]
      simp only [Option.bind_some]
      rw [if_pos (by omega), if_pos (by omega)]
    · rw [if_neg h]
      simp only [Option.bind_some]
      rw [if_neg h, wnext hlt hx, ih k (n + 1) _ (by omega) (by omega) (by omega) (by omega)]
      by_cases h2 : a - ((ss.getD n z144).f0.size : Int) - (totC (ss.drop (n + 1)) : Int) < 0
      · rw [if_pos h2, if_pos (by omega)]
      · rw [if_neg h2, if_neg (by omega)]
        congr 1
        omega
theorem szContainerS_ends (ss : List S144) (hx : ss.length ≤ 9223372036854775807) (hs : ∀ s ∈ ss, s.f0.size ≤ 9223372036854775807) (k : Nat) (hk : 1048577 ≤ k) :
    laws_szContainerS.f k ss 1048576 = some (if (1048576 : Int) - ss.length - totC ss < 0 then -1 else (1048576 : Int) - ss.length - totC ss) := by
  unfold laws_szContainerS.f
  rw [w64 (by omega) (by omega)]
  by_cases h : (1048576 : Int) - ss.length < 0
  · rw [if_pos h, if_pos (by omega)]
  · rw [if_neg h]
    have := szContainerS_loop ss hx hs ss.length k 0 ((1048576 : Int) - ss.length) (by omega) (by omega) (by omega) (by omega)
    rw [show ((0 : Nat) : Int) = 0 from rfl, List.drop_zero] at this
    exact this
theorem toContainerS_loop (ss : List S144) (hx : ss.length ≤ 1048576) (d : Nat) : ∀ (k n : Nat) (ys : List S89), n ≤ ss.length → ss.length - n = d → d < k → ys.length = ss.length → ys.take n = (ss.take n).map c67 →
    laws_toContainerS.l0 k ss ys (n : Int) = some (ss.map c67) := by
  induction d with
  | zero =>
    intro k n ys hn hd hk hl hy
    obtain ⟨k, rfl⟩ := kpos hk
    simp only [laws_toContainerS.l0]
    rw [if_neg (by omega), fill_end c67 hl (by omega) hy]
  | succ d ih =>
    intro k n ys hn hd hk hl hy
    obtain ⟨k, rfl⟩ := kpos hk
    have hlt : n < ss.length := by omega
    obtain ⟨e1, e2⟩ := fill_step (z := z144) c67 hl hlt hy
    have hn1 := ih k (n + 1) _ (by omega) (by omega) (by omega) e2 e1
    simp only [laws_toContainerS.l0, laws_toContainer.f, Option.bind_some]
    rw [if_pos (by omega), if_pos (by omega), if_pos (by omega), wnext hlt (by omega), Int.toNat_natCast]
    exact hn1
theorem toContainerS_ends (ss : List S144) (hx : ss.length ≤ 1048576) (k : Nat) (hk : 1048577 ≤ k) : laws_toContainerS.f k ss = some (ss.map c67) := by
  unfold laws_toContainerS.f
  rw [if_pos (by omega), if_pos (by omega)]
  have := toContainerS_loop ss hx ss.length k 0 (List.replicate (ss.length : Int).toNat z89) (by omega) (by omega) (by omega) (by simp) (by simp)
  exact this
theorem eqContainerS_loop (ss : List S89) (hx : ss.length ≤ 1048576) (d : Nat) : ∀ (k n : Nat), n + d = ss.length → d < k → laws_eqContainerS.l0 k ss ss (n : Int) = some true := by
  induction d with
  | zero =>
    intro k n hn hk
    obtain ⟨k, rfl⟩ := kpos hk
    simp only [laws_eqContainerS.l0]
    rw [if_neg (by omega)]
  | succ d ih =>
    intro k n hn hk
    obtain ⟨k, rfl⟩ := kpos hk
    have hlt : n < ss.length := by omega
    simp only [laws_eqContainerS.l0, laws_eqContainer.f, if_true, Option.bind_some]
    rw [if_pos (by omega), if_pos (by omega), if_pos (by omega), wnext hlt (by omega)]
    exact ih k (n + 1) (by omega) (by omega)
theorem eqContainerS_refl (ss : List S89) (hx : ss.length ≤ 1048576) (k : Nat) (hk : 1048577 ≤ k) : laws_eqContainerS.f k ss ss = some true := by
  unfold laws_eqContainerS.f
  rw [if_pos rfl]
  exact eqContainerS_loop ss hx ss.length k 0 (by omega) (by omega)

/-! ### the search -/
end Go.Proofs.Ytlldonokjgoajaa.X
