/- What the laws' helpers on lists of strings come to: the size that is left, the copy, the comparison. -/
import Derived.Test.YtnifjoobkojgiaaMBase
import Derived.Test.YtnifjoobkojgiaaFbHelpT
namespace Go.Proofs.Ytnifjoobkojgiaa.X
open Go.RowKit Go.Proofs.YtnifjoobkojgiaaW.PrintWords Go.Proofs.YtnifjoobkojgiaaW.PrintLast
set_option linter.unusedVariables false
set_option linter.unusedSimpArgs false
theorem rdOf_natS (xs : List ByteArray) (n : Nat) : rdOf ByteArray.empty xs (n : Int) = xs.getD n ByteArray.empty := rfl
def totT : List ByteArray → Nat
  | [] => 0
  | s :: r => s.size + totT r
theorem szStringS_loop (ss : List ByteArray) (hx : ss.length ≤ 9223372036854775807) (hs : ∀ s ∈ ss, s.size ≤ 9223372036854775807) (d : Nat) : ∀ (k n : Nat) (a : Int), n + d = ss.length → d < k → 0 ≤ a → a ≤ 1048576 →
    laws_szStringS.l0 k ss a (n : Int) = some (if a - (totT (ss.drop n) : Int) < 0 then -1 else a - (totT (ss.drop n) : Int)) := by
  induction d with
  | zero =>
    intro k n a hn hk ha ha2
    obtain ⟨k, rfl⟩ := kpos hk
    simp only [laws_szStringS.l0]
    have ht : totT (ss.drop n) = 0 := by rw [List.drop_of_length_le (by omega)]; rfl
    rw [if_neg (by omega), ht, if_neg (by omega)]
    simp
  | succ d ih =>
    intro k n a hn hk ha ha2
    obtain ⟨k, rfl⟩ := kpos hk
    have hlt : n < ss.length := by omega
    have hz := hs _ (getD_mem (z := ByteArray.empty) hlt)
    have ht : totT (ss.drop n) = (ss.getD n ByteArray.empty).size + totT (ss.drop (n + 1)) := by rw [getD_cons (z := ByteArray.empty) hlt]; rfl
    simp only [laws_szStringS.l0]
    rw [if_pos (by omega), if_pos (by omega), rdOf_natS, ht, w64 (by omega) (by omega)]
    by_cases h : a - ((ss.getD n ByteArray.empty).size : Int) < 0
    · rw [if_pos h, if_pos (by omega)]
    · rw [if_neg h, wnext hlt hx, ih k (n + 1) _ (by omega) (by omega) (by omega) (by omega)]
      by_cases h2 : a - ((ss.getD n ByteArray.empty).size : Int) - (totT (ss.drop (n + 1)) : Int) < 0
      · rw [if_pos h2, if_pos (by omega)]
      · rw [if_neg h2, if_neg (by omega)]
        congr 1
        omega
theorem szStringS_ends (ss : List ByteArray) (hx : ss.length ≤ 9223372036854775807) (hs : ∀ s ∈ ss, s.size ≤ 9223372036854775807) (k : Nat) (hk : 1048577 ≤ k) :
    laws_szStringS.f k ss 1048576 = some (if (1048576 : Int) - ss.length - totT ss < 0 then -1 else (1048576 : Int) - ss.length - totT ss) := by
  unfold laws_szStringS.f
  rw [w64 (by omega) (by omega)]
  by_cases h : (1048576 : Int) - ss.length < 0
  · rw [if_pos h, if_pos (by omega)]
  · rw [if_neg h]
    have := szStringS_loop ss hx hs ss.length k 0 ((1048576 : Int) - ss.length) (by omega) (by omega) (by omega) (by omega)
    rw [show ((0 : Nat) : Int) = 0 from rfl, List.drop_zero] at this
    exact this
theorem toStringS_loop (ss : List ByteArray) (hx : ss.length ≤ 1048576) (d : Nat) : ∀ (k n : Nat) (ys : List ByteArray), n ≤ ss.length → ss.length - n = d → d < k → ys.length = ss.length → ys.take n = (ss.take n).map id →
    laws_toStringS.l0 k ss ys (n : Int) = some ss := by
  induction d with
  | zero =>
    intro k n ys hn hd hk hl hy
    obtain ⟨k, rfl⟩ := kpos hk
    simp only [laws_toStringS.l0]
    rw [if_neg (by omega), fill_end id hl (by omega) hy, List.map_id]
  | succ d ih =>
    intro k n ys hn hd hk hl hy
    obtain ⟨k, rfl⟩ := kpos hk
    have hlt : n < ss.length := by omega
    obtain ⟨e1, e2⟩ := fill_step (z := ByteArray.empty) id hl hlt hy
    have hn1 := ih k (n + 1) _ (by omega) (by omega) (by omega) e2 e1
    simp only [laws_toStringS.l0]
    rw [if_pos (by omega), if_pos (by omega), if_pos (by omega), wnext hlt (by omega), Int.toNat_natCast]
    exact hn1
theorem toStringS_ends (ss : List ByteArray) (hx : ss.length ≤ 1048576) (k : Nat) (hk : 1048577 ≤ k) : laws_toStringS.f k ss = some ss := by
  unfold laws_toStringS.f
  rw [if_pos (by omega), if_pos (by omega)]
  exact toStringS_loop ss hx ss.length k 0 (List.replicate (ss.length : Int).toNat ⟨#[]⟩) (by omega) (by omega) (by omega) (by simp) (by simp)
theorem eqStringS_loop' (ss : List ByteArray) (hx : ss.length ≤ 1048576) (d : Nat) : ∀ (k n : Nat), n + d = ss.length → d < k → laws_eqStringS.l0 k ss ss (n : Int) = some true := by
  induction d with
  | zero =>
    intro k n hn hk
    obtain ⟨k, rfl⟩ := kpos hk
    simp only [laws_eqStringS.l0]
    rw [if_neg (by omega)]
  | succ d ih =>
    intro k n hn hk
    obtain ⟨k, rfl⟩ := kpos hk
    have hlt : n < ss.length := by omega
    simp only [laws_eqStringS.l0, if_true, Option.bind_some]
    rw [if_pos (by omega), if_pos (by omega), if_pos (by omega), wnext hlt (by omega)]
    exact ih k (n + 1) (by omega) (by omega)
theorem eqStringS_same (ss : List ByteArray) (hx : ss.length ≤ 1048576) (k : Nat) (hk : 1048577 ≤ k) : laws_eqStringS.f k ss ss = some true := by
  unfold laws_eqStringS.f
  rw [if_pos rfl]
  exact eqStringS_loop' ss hx ss.length k 0 (by omega) (by omega)
end Go.Proofs.Ytnifjoobkojgiaa.X
