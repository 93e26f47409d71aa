/- slices.IndexFunc and slices.ContainsFunc over whole numbers, walked at whatever predicate that only reads. -/
import Derived.Test.YtlldonokjgoajaaX0
import Derived.Test.YtlldonokjgoajaaMRange
import Derived.Lib.Walk
import Derived.Shelf.Abstract
import Derived.Deep.LoopGhost
import Derived.Deep.Draws
namespace Go.Proofs.Ytlldonokjgoajaa.X
open Go.RowKit Go.Lib Go.Proofs.YtlldonokjgoajaaW.PrintWords Go.Proofs.YtlldonokjgoajaaW.PrintLast Go.Proofs.YtlldonokjgoajaaW.PrintMore
set_option linter.unusedVariables false
set_option linter.unusedSimpArgs false

/-- The first index, from i on, at which p holds; -1 if there is none. -/
def idxI {α : Type} (p : α → Bool) : List α → Int → Int
  | [], _ => -1
  | x :: l, i => if p x = true then i else idxI p l (i + 1)
theorem idxI_any {α : Type} (p : α → Bool) : ∀ (l : List α) (i : Int), 0 ≤ i → (0 ≤ idxI p l i ↔ l.any p = true)
  | [], i, h => by simp [idxI]
  | x :: l, i, h => by
    simp only [idxI, List.any_cons]
    by_cases hx : p x = true
    · simp [hx, h]
    · rw [if_neg hx, idxI_any p l (i + 1) (by omega)]
      simp [hx]
theorem idxI_geq {α : Type} (p : α → Bool) (l : List α) : decide (0 ≤ idxI p l 0) = l.any p := by
  rw [Bool.eq_iff_iff, decide_eq_true_eq]
  exact idxI_any p l 0 (by omega)

-- slices.IndexFunc over whole numbers, at whatever predicate that only reads
set_option maxHeartbeats 4000000 in
set_option maxRecDepth 100000 in
theorem IndexFunc_int (p : Int → Bool) (g : Nat) (lb : Array Value) (A0 : Option Addr) (c0 : Nat) (l0 : List Int) (w : World) (hr0 : Kd.C (Kd.int .i64) w A0 l0.length l0)
    (eg : ∀ args w, (callFunc g args).run Try.prog w = .ok (.enter g args) w)
    (hp : ∀ (x : Int) (q : Nat), Calls Try.prog g (#[.int .i64 x] ++ lb) (w.drewN q) fun e w' => e = .returned (.bool (p x)) ∧ ∃ q', w' = (w.drewN q).drewN q') :
    Calls Try.prog 185 #[.slice A0 l0.length c0, .func (.func g) #[] lb] w fun e w' => e = .returned (.int .i64 (idxI p l0 0)) ∧ Drawn0 w w' := by
  have HR0 := Aside0.mk hr0
  have HM := Aside0.mk (Kd.C_max hr0)
  clear hr0
  have HP := Aside0.mk hp
  clear hp
  go_enter Try.func185, Try.ntmps185
  go_wp2
  go_loopg [5, 8] l0.length (fun kq _ v8 w' => ∃ n : Nat, v8 = .int .i64 (n : Int) ∧ Aside0 (n ≤ l0.length ∧ l0.length - n ≤ kq) ∧ Aside0 (idxI p l0 0 = idxI p (l0.drop n) (n : Int)) ∧ Drawn0 w w')
  case atStart => exact ⟨0, rfl, ⟨Nat.zero_le _, by omega⟩, ⟨by simp⟩, Drawn0.refl _⟩
  case round =>
    obtain ⟨n, rfl, HN, HA, ⟨m1, rfl⟩⟩ := hrel
    by_cases hlt : n < l0.length
    · have c3b0 : decide ((n : Int) < (l0.length : Int)) = true := decide_eq_true (by omega)
      have c3b1 : decide (n < l0.length) = true := decide_eq_true hlt
      have HD := Aside0.mk (getD_cons (z := (0 : Int)) hlt)
      obtain ⟨ad, e, hx⟩ := Kd.at_int HR0.out (n : Int) (by omega) (by omega)
      cases e
      rw [Int.toNat_natCast] at hx
      have hw : wrap64 ((n : Int) + 1) = ((n + 1 : Nat) : Int) := wnext hlt HM.out
      have HW := Aside0.mk hw
      clear hw
      have HL := Aside0.mk hlt
      have p4 : (0 ≤ (n : Int)) = True := eq_true (by omega)
      have q4 : ((n : Int) < (l0.length : Int)) = True := eq_true (by omega)
      clear hlt
      have hcall := HP.out (rd l0 (n : Int))
      have HC := Aside0.mk hcall
      clear hcall
      cases hq : p (rd l0 (n : Int)) with
      | true =>
        have HQ := Aside0.mk hq
        clear hq
        go_wp2_with (go_at_fn g; refine (HC.out _).mono ?_; rw [HQ.out]; rintro e w' ⟨rfl, q', rfl⟩)
        go_ret
        refine ⟨?_, by repeat (first | exact Drawn0.refl _ | apply Drawn0.step)⟩
        rw [HA.out, HD.out]
        simp only [idxI]
        rw [if_pos (show p (l0.getD n 0) = true from HQ.out)]
        rfl
      | false =>
        have HQ := Aside0.mk hq
        clear hq
        go_wp2_with (go_at_fn g; refine (HC.out _).mono ?_; rw [HQ.out]; rintro e w' ⟨rfl, q', rfl⟩)
        go_roundg (l0.length - (n + 1))
        case measure => have := HN.out; have := HL.out; omega
        case rel =>
          refine ⟨n + 1, by rw [HW.out], ⟨by have := HL.out; omega, by omega⟩, ⟨?_⟩, by repeat (first | exact Drawn0.refl _ | apply Drawn0.step)⟩
          rw [HA.out, HD.out]
          simp only [idxI]
          rw [if_neg (by rw [show p (l0.getD n 0) = false from HQ.out]; decide)]
          rfl
    · have c3b0 : decide ((n : Int) < (l0.length : Int)) = false := decide_eq_false (by omega)
      have c3b1 : decide (n < l0.length) = false := decide_eq_false hlt
      have HE := Aside0.mk (show l0.drop n = [] from List.drop_of_length_le (by omega))
      clear hlt
      go_wp2
      go_ret
      refine ⟨?_, by repeat (first | exact Drawn0.refl _ | apply Drawn0.step)⟩
      rw [HA.out, HE.out]
      rfl

-- slices.ContainsFunc over whole numbers
set_option maxHeartbeats 4000000 in
set_option maxRecDepth 100000 in
theorem ContainsFunc_int (p : Int → Bool) (g : Nat) (lb : Array Value) (A0 : Option Addr) (c0 : Nat) (l0 : List Int) (w : World) (hr0 : Kd.C (Kd.int .i64) w A0 l0.length l0)
    (eg : ∀ args w, (callFunc g args).run Try.prog w = .ok (.enter g args) w)
    (hp : ∀ (x : Int) (q : Nat), Calls Try.prog g (#[.int .i64 x] ++ lb) (w.drewN q) fun e w' => e = .returned (.bool (p x)) ∧ ∃ q', w' = (w.drewN q).drewN q') :
    Calls Try.prog 160 #[.slice A0 l0.length c0, .func (.func g) #[] lb] w fun e w' => e = .returned (.bool (l0.any p)) ∧ Drawn0 w w' := by
  have HG := Aside0.mk (idxI_geq p l0)
  have HP := Aside0.mk hp
  have HR0 := Aside0.mk hr0
  clear hp hr0
  go_enter Try.func160, Try.ntmps160
  go_wp2_with (go_at_call 185; refine (IndexFunc_int p g lb _ _ l0 _ HR0.out eg HP.out).mono ?_; rintro e w' ⟨rfl, ⟨q, rfl⟩⟩)
  go_ret
  exact ⟨by rw [← HG.out]; rfl, by repeat (first | exact Drawn0.refl _ | apply Drawn0.step)⟩

end Go.Proofs.Ytlldonokjgoajaa.X
