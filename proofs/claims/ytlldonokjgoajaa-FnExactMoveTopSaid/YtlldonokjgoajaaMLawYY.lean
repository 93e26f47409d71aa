/- The law's held marks on a yard: what was marked reads back. -/
import Derived.Test.YtlldonokjgoajaaMLawY
import Derived.Test.YtlldonokjgoajaaFbHelpY
namespace Go.Proofs.Ytlldonokjgoajaa.X
open Go.RowKit Go.Lib Go.Proofs.YtlldonokjgoajaaW.PrintWords Go.Proofs.YtlldonokjgoajaaW.PrintLast Go.Proofs.YtlldonokjgoajaaW.PrintMore
set_option linter.unusedVariables false
set_option linter.unusedSimpArgs false
theorem markR_get (ss : List (List Int)) : ∀ (a : Int) (n : Nat), n < ss.length → (markR a ss).getD n [] = upFrom (a + tot (ss.take n)) (ss.getD n []).length := by
  induction ss with
  | nil => intro a n h; simp at h
  | cons s r ih =>
    intro a n h
    cases n with
    | zero => simp [markR, tot]
    | succ n =>
      have := ih (a + s.length) n (by simpa using h)
      simp only [markR, List.getD_cons_succ, List.take_succ_cons, tot] at this ⊢
      rw [this]
      congr 1
      omega
theorem heldIntSS_loop (ss : List (List Int)) (hl : ss.length ≤ 1048576) (ht : tot ss ≤ 1048576) (d : Nat) : ∀ (k n : Nat), n + d = ss.length → 1048577 + d < k →
    laws_heldIntSS.l0 k (markR 1 ss) (1 + tot (ss.take n)) (n : Int) = some (1 + (tot ss : Int)) := by
  induction d with
  | zero =>
    intro k n hn hk
    obtain ⟨k, rfl⟩ := kpos hk
    simp only [laws_heldIntSS.l0]
    rw [markR_length, if_neg (by omega), List.take_of_length_le (by omega)]
  | succ d ih =>
    intro k n hn hk
    obtain ⟨k, rfl⟩ := kpos hk
    have hlt : n < ss.length := by omega
    have hg := tot_get ss n hlt
    have h1 := tot_take_le ss n
    have hi := ih k (n + 1) (by omega) (by omega)
    rw [tot_take_succ ss n hlt] at hi
    simp only [laws_heldIntSS.l0]
    rw [markR_length, if_pos (by omega), if_pos (by omega), rdL_nat, markR_get ss 1 n hlt, heldIntS_ends (ss.getD n []).length (1 + tot (ss.take n)) (by omega) (by omega) k (by omega)]
    simp only [Option.bind_some]
    rw [if_neg (by omega), wnext hlt (by omega), show (1 : Int) + tot (ss.take n) + ((ss.getD n []).length : Int) = 1 + ((tot (ss.take n) + (ss.getD n []).length : Nat) : Int) by omega]
    exact hi
theorem heldYard_ends (ss : List (List Int)) (hl : ss.length ≤ 1048576) (ht : tot ss ≤ 1048576) (k : Nat) (hk : 2097160 ≤ k) : laws_heldYard.f k (markR 1 ss) 1 = some (1 + (tot ss : Int)) := by
  unfold laws_heldYard.f laws_heldIntSS.f
  have := heldIntSS_loop ss hl ht ss.length k 0 (by omega) (by omega)
  rw [List.take_zero, show ((0 : Nat) : Int) = 0 from rfl, show (1 : Int) + (tot [] : Nat) = 1 from rfl] at this
  rw [this]
  simp only [Option.bind_some]
  rw [if_neg (by omega)]
theorem heldYard_own (K : Nat) (A : Option Addr) (c b n : Nat) (rr : List (List Int)) (w : World) (h : HldS w b n (.slice A rr.length c) (markR 1 rr)) (hf : laws_heldYard.f K (markR 1 rr) 1 = some (1 + (tot rr : Int))) :
    Calls Try.prog 34 #[.agg #[.slice A rr.length c], .int .i64 1] w fun e w' => e = .returned (.int .i64 (1 + (tot rr : Int))) ∧ Below w.heap.size w w' := by
  have h1 := h.reads
  have := laws_heldYard.calls K A c (markR 1 rr) 1 _ w h1.2 (by rw [markR_length]; exact h1.1) hf
  rw [markR_length] at this
  exact this
end Go.Proofs.Ytlldonokjgoajaa.X
