/- What the printed functions on lists of steps come to: the size that is left, the copy, the comparison. -/
import Derived.Test.YtlldonokjgoajaaMBase
import Derived.Test.YtlldonokjgoajaaFbHelpS
namespace Go.Proofs.Ytlldonokjgoajaa.X
open Go.RowKit Go.Proofs.YtlldonokjgoajaaW.PrintWords Go.Proofs.YtlldonokjgoajaaW.PrintLast
set_option linter.unusedVariables false
set_option linter.unusedSimpArgs false

def cStep (x : S140) : S138 := ⟨x.f0, x.f1⟩
theorem szStepS_ends (l : List S140) (a : Int) (h : l.length ≤ 9223372036854775807) (ha : 0 ≤ a) (ha2 : a ≤ 1048576) : laws_szStepS.f l a = some (if a - (l.length : Int) < 0 then -1 else a - (l.length : Int)) := by
  unfold laws_szStepS.f
  rw [w64 (by omega) (by omega)]
  split <;> rfl
theorem toStepS_loop (xs : List S140) (hx : xs.length ≤ 9223372036854775807) (d : Nat) : ∀ (k n : Nat) (ys : List S138), n ≤ xs.length → xs.length - n = d → d < k → ys.length = xs.length → ys.take n = (xs.take n).map cStep →
    laws_toStepS.l0 k xs ys (n : Int) = some (xs.map cStep) := by
  induction d with
  | zero =>
    intro k n ys hn hd hk hl hy
    obtain ⟨k, rfl⟩ := kpos hk
    simp only [laws_toStepS.l0]
    rw [if_neg (by omega), fill_end cStep hl (by omega) hy]
  | succ d ih =>
    intro k n ys hn hd hk hl hy
    obtain ⟨k, rfl⟩ := kpos hk
    have hlt : n < xs.length := by omega
    obtain ⟨e1, e2⟩ := fill_step (z := z140) cStep hl hlt hy
    have hn1 := ih k (n + 1) _ (by omega) (by omega) (by omega) e2 e1
    simp only [laws_toStepS.l0]
    rw [if_pos (by omega), if_pos (by omega)]
    simp only [laws_toStep.f, Option.bind_some]
    rw [if_pos (by omega), wnext hlt hx]
    exact hn1
theorem toStepS_ends (xs : List S140) (hx : xs.length ≤ 1048576) (k : Nat) (hk : xs.length < k) : laws_toStepS.f k xs = some (xs.map cStep) := by
  unfold laws_toStepS.f
  rw [if_pos (by omega), if_pos (by omega)]
  exact toStepS_loop xs (by omega) xs.length k 0 _ (by omega) (by omega) hk (by simp) (by simp)
theorem eqStepS_loop (xs : List S138) (hx : xs.length ≤ 9223372036854775807) (d : Nat) : ∀ (k n : Nat), n ≤ xs.length → xs.length - n = d → d < k → laws_eqStepS.l0 k xs xs (n : Int) = some true := by
  induction d with
  | zero =>
    intro k n hn hd hk
    obtain ⟨k, rfl⟩ := kpos hk
    simp only [laws_eqStepS.l0]
    rw [if_neg (by omega)]
  | succ d ih =>
    intro k n hn hd hk
    obtain ⟨k, rfl⟩ := kpos hk
    have hlt : n < xs.length := by omega
    have hn1 := ih k (n + 1) (by omega) (by omega) (by omega)
    simp only [laws_eqStepS.l0]
    rw [if_pos (by omega), if_pos (by omega), if_pos (by omega)]
    simp only [laws_eqStep.f, if_true, Option.bind_some]
    rw [wnext hlt hx]
    exact hn1
theorem eqStepS_ends (xs : List S138) (hx : xs.length ≤ 9223372036854775807) (k : Nat) (hk : xs.length < k) : laws_eqStepS.f k xs xs = some true := by
  unfold laws_eqStepS.f
  rw [if_pos rfl]
  exact eqStepS_loop xs hx xs.length k 0 (by omega) (by omega) hk
end Go.Proofs.Ytlldonokjgoajaa.X
