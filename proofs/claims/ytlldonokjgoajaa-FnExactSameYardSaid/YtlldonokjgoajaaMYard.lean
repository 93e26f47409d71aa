/- What the printed functions on yards come to: the size that is left, the copy, the comparison. -/
import Derived.Test.YtlldonokjgoajaaMInts
import Derived.Test.YtlldonokjgoajaaMYardG
import Derived.Test.YtlldonokjgoajaaFbHelpY
namespace Go.Proofs.Ytlldonokjgoajaa.X
open Go.RowKit Go.Proofs.YtlldonokjgoajaaW.PrintWords Go.Proofs.YtlldonokjgoajaaW.PrintLast
set_option linter.unusedVariables false
set_option linter.unusedSimpArgs false

theorem szIntSS_loop (ss : List (List Int)) (hx : ss.length ≤ 9223372036854775807) (hs : ∀ s ∈ ss, s.length ≤ 9223372036854775807) (d : Nat) : ∀ (k n : Nat) (a : Int), n + d = ss.length → d < k → 0 ≤ a → a ≤ 1048576 →
    laws_szIntSS.l0 k ss a (n : Int) = some (if a - (tot (ss.drop n) : Int) < 0 then -1 else a - (tot (ss.drop n) : Int)) := by
  induction d with
  | zero =>
    intro k n a hn hk ha ha2
    obtain ⟨k, rfl⟩ := kpos hk
    simp only [laws_szIntSS.l0]
    have ht : tot (ss.drop n) = 0 := by rw [List.drop_of_length_le (by omega)]; rfl
    rw [if_neg (by omega), ht, if_neg (by omega)]
    simp
  | succ d ih =>
    intro k n a hn hk ha ha2
    obtain ⟨k, rfl⟩ := kpos hk
    have hlt : n < ss.length := by omega
    simp only [laws_szIntSS.l0]
    rw [if_pos (by omega), if_pos (by omega), rdL_nat, szIntS_ends _ a (hs _ (getD_mem hlt)) ha ha2]
    have ht : tot (ss.drop n) = (ss.getD n []).length + tot (ss.drop (n + 1)) := by rw [getD_cons (z := ([] : List Int)) hlt]; rfl
    rw [ht]
    simp only [Option.bind_some]
    by_cases h : a - ((ss.getD n []).length : Int) < 0
    · rw [if_pos h, if_pos (by omega), if_pos (by omega)]
    · rw [if_neg h, if_neg h, wnext hlt hx, ih k (n + 1) _ (by omega) (by omega) (by omega) (by omega)]
      by_cases h2 : a - ((ss.getD n []).length : Int) - (tot (ss.drop (n + 1)) : Int) < 0
      · rw [if_pos h2, if_pos (by omega)]
      · rw [if_neg h2, if_neg (by omega)]
        congr 1
        omega
theorem szYard_ends (ss : List (List Int)) (hx : ss.length ≤ 9223372036854775807) (hs : ∀ s ∈ ss, s.length ≤ 9223372036854775807) (k : Nat) (hk : 1048577 ≤ k) :
    laws_szYard.f k ss 1048576 = some (if (1048576 : Int) - ss.length - tot ss < 0 then -1 else (1048576 : Int) - ss.length - tot ss) := by
  unfold laws_szYard.f laws_szIntSS.f
  rw [w64 (by omega) (by omega)]
  by_cases h : (1048576 : Int) - ss.length < 0
  · rw [if_pos h, if_pos (by omega)]; rfl
  · rw [if_neg h]
    have := szIntSS_loop ss hx hs ss.length k 0 ((1048576 : Int) - ss.length) (by omega) (by omega) (by omega) (by omega)
    rw [show ((0 : Nat) : Int) = 0 from rfl] at this
    rw [this]
    simp only [Option.bind_some, List.drop_zero]
    split <;> rename_i h2
    · rfl
    · rfl
theorem toIntSS_loop (ss : List (List Int)) (hx : ss.length ≤ 1048576) (hs : tot ss ≤ 1048576) (d : Nat) : ∀ (k n : Nat) (ys : List (List Int)), n ≤ ss.length → ss.length - n = d → 1048577 + d < k → ys.length = ss.length → ys.take n = (ss.take n).map id →
    laws_toIntSS.l0 k ss ys (n : Int) = some (ss.map id) := by
  induction d with
  | zero =>
    intro k n ys hn hd hk hl hy
    obtain ⟨k, rfl⟩ := kpos hk
    simp only [laws_toIntSS.l0]
    rw [if_neg (by omega), fill_end id hl (by omega) hy]
  | succ d ih =>
    intro k n ys hn hd hk hl hy
    obtain ⟨k, rfl⟩ := kpos hk
    have hlt : n < ss.length := by omega
    obtain ⟨e1, e2⟩ := fill_step (z := ([] : List Int)) id hl hlt hy
    have hn1 := ih k (n + 1) _ (by omega) (by omega) (by omega) e2 e1
    have hg := tot_get ss n hlt
    simp only [laws_toIntSS.l0]
    rw [if_pos (by omega), if_pos (by omega), rdL_nat, toIntS_ends _ (by omega) k (by omega)]
    simp only [Option.bind_some]
    rw [if_pos (by omega), wnext hlt (by omega), Int.toNat_natCast]
    exact hn1
theorem toYard_ends (ss : List (List Int)) (hx : ss.length ≤ 1048576) (hs : tot ss ≤ 1048576) (k : Nat) (hk : 2097160 ≤ k) : laws_toYard.f k ss = some ss := by
  unfold laws_toYard.f laws_toIntSS.f
  rw [if_pos (by omega), if_pos (by omega)]
  have := toIntSS_loop ss hx hs ss.length k 0 (List.replicate (ss.length : Int).toNat []) (by omega) (by omega) (by omega) (by simp) (by simp)
  rw [List.map_id] at this
  rw [show ((0 : Nat) : Int) = 0 from rfl] at this
  rw [this]
  rfl
theorem eqIntSS_loop (ss : List (List Int)) (hx : ss.length ≤ 1048576) (hs : tot ss ≤ 1048576) (d : Nat) : ∀ (k n : Nat), n + d = ss.length → 1048577 + d < k → laws_eqIntSS.l0 k ss ss (n : Int) = some true := by
  induction d with
  | zero =>
    intro k n hn hk
    obtain ⟨k, rfl⟩ := kpos hk
    simp only [laws_eqIntSS.l0]
    rw [if_neg (by omega)]
  | succ d ih =>
    intro k n hn hk
    obtain ⟨k, rfl⟩ := kpos hk
    have hlt : n < ss.length := by omega
    have hg := tot_get ss n hlt
    simp only [laws_eqIntSS.l0]
    rw [if_pos (by omega), if_pos (by omega), if_pos (by omega), rdL_nat, eqIntS_refl _ (by omega) k (by omega)]
    simp only [Option.bind_some, if_true]
    rw [wnext hlt (by omega)]
    exact ih k (n + 1) (by omega) (by omega)
theorem eqYard_refl (ss : List (List Int)) (hx : ss.length ≤ 1048576) (hs : tot ss ≤ 1048576) (k : Nat) (hk : 2097160 ≤ k) : laws_eqYard.f k ss ss = some true := by
  unfold laws_eqYard.f laws_eqIntSS.f
  rw [if_pos rfl]
  have := eqIntSS_loop ss hx hs ss.length k 0 (by omega) (by omega)
  rw [show ((0 : Nat) : Int) = 0 from rfl] at this
  rw [this]
  rfl

end Go.Proofs.Ytlldonokjgoajaa.X
