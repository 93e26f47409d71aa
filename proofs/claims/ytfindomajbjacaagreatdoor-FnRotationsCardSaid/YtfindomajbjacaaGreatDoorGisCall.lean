/- The program's isCall, walked: is the rotation valid, and is each of the numbers a call of it? The search of slices.ContainsFunc and the literal that it is handed are walked with it. -/
import Derived.Test.YtfindomajbjacaaGreatDoorX0
import Derived.Test.YtfindomajbjacaaGreatDoorMRotM
import Derived.Test.YtfindomajbjacaaGreatDoorGIsValidRotation
import Derived.Lib.Walk
import Derived.Shelf.Abstract
import Derived.Deep.LoopGhost
import Derived.Deep.Draws
namespace Go.Proofs.YtfindomajbjacaaGreatDoor.X
open Go.RowKit Go.Lib Go.Proofs.YtfindomajbjacaaGreatDoorW.PrintWords Go.Proofs.YtfindomajbjacaaGreatDoorW.PrintLast Go.Proofs.YtfindomajbjacaaGreatDoorW.PrintMore
set_option linter.unusedVariables false
set_option linter.unusedSimpArgs false

/-- The first index, from i on, at which p holds; -1 if there is none. -/
def idxI {α : Type} (p : α → Bool) : List α → Int → Int
  | [], _ => -1
  | x :: l, i => if p x = true then i else idxI p l (i + 1)
theorem idxI_any {α : Type} (p : α → Bool) : ∀ (l : List α) (i : Int), 0 ≤ i → (0 ≤ idxI p l i ↔ l.any p = true)
  | [], i, h => by simp [idxI]
  | x :: l, i, h => by
    simp only [idxI, List.any_cons]
    by_cases hx : p x = true
    · simp [hx, h]
    · rw [if_neg hx, idxI_any p l (i + 1) (by omega)]
      simp [hx]
theorem idxI_geq {α : Type} (p : α → Bool) (l : List α) : decide (0 ≤ idxI p l 0) = l.any p := by
  rw [Bool.eq_iff_iff, decide_eq_true_eq]
  exact idxI_any p l 0 (by omega)

theorem isCall_fn (b : Nat) (A0 : Option Addr) (c0 n : Nat) (x : Int) (W : World) (hb : W.cell? ⟨b, 0, none⟩ = some (.slice A0 n c0)) (hn : n ≤ 9223372036854775807) :
    Calls Tryz.prog 76 #[.int .i64 x, .pointer (some ⟨b, 0, none⟩)] W fun e w' => e = .returned (.bool (!(inB x 0 ((n : Int) - 1)))) ∧ ∃ q, w' = W.drewN q := by
  go_enter Tryz.func76, Tryz.ntmps76
  go_wp2_with (go_at_call 35; refine (impl_within.calls _ _ _ _ _ (within_ends _ _ _)).mono ?_; rintro e w' ⟨rfl, ⟨q, rfl⟩⟩)
  go_ret
  exact ⟨rfl, _, rfl⟩

-- slices.IndexFunc over whole numbers, at whatever predicate that only reads
set_option maxHeartbeats 4000000 in
set_option maxRecDepth 100000 in
theorem IndexFunc_int (p : Int → Bool) (g : Nat) (lb : Array Value) (A0 : Option Addr) (c0 : Nat) (l0 : List Int) (w : World) (hr0 : Kd.C (Kd.int .i64) w A0 l0.length l0)
    (eg : ∀ args w, (callFunc g args).run Tryz.prog w = .ok (.enter g args) w)
    (hp : ∀ (x : Int) (q : Nat), Calls Tryz.prog g (#[.int .i64 x] ++ lb) (w.drewN q) fun e w' => e = .returned (.bool (p x)) ∧ ∃ q', w' = (w.drewN q).drewN q') :
    Calls Tryz.prog 97 #[.slice A0 l0.length c0, .func (.func g) #[] lb] w fun e w' => e = .returned (.int .i64 (idxI p l0 0)) ∧ Drawn0 w w' := by
  have HR0 := Aside0.mk hr0
  have HM := Aside0.mk (Kd.C_max hr0)
  clear hr0
  have HP := Aside0.mk hp
  clear hp
  go_enter Tryz.func97, Tryz.ntmps97
  go_wp2
  go_loopg [5, 8] l0.length (fun kq _ v8 w' => ∃ n : Nat, v8 = .int .i64 (n : Int) ∧ Aside0 (n ≤ l0.length ∧ l0.length - n ≤ kq) ∧ Aside0 (idxI p l0 0 = idxI p (l0.drop n) (n : Int)) ∧ Drawn0 w w')
  case atStart => exact ⟨0, rfl, ⟨Nat.zero_le _, by omega⟩, ⟨by simp⟩, Drawn0.refl _⟩
  case round =>
    obtain ⟨n, rfl, HN, HA, ⟨m1, rfl⟩⟩ := hrel
    by_cases hlt : n < l0.length
    · have c3b0 : decide ((n : Int) < (l0.length : Int)) = true := decide_eq_true (by omega)
      have c3b1 : decide (n < l0.length) = true := decide_eq_true hlt
      have HD := Aside0.mk (getD_cons (z := (0 : Int)) hlt)
      obtain ⟨ad, e, hx⟩ := Kd.at_int HR0.out (n : Int) (by omega) (by omega)
      cases e
      rw [Int.toNat_natCast] at hx
      have hw : wrap64 ((n : Int) + 1) = ((n + 1 : Nat) : Int) := wnext hlt HM.out
      have HW := Aside0.mk hw
      clear hw
      have HL := Aside0.mk hlt
      have p4 : (0 ≤ (n : Int)) = True := eq_true (by omega)
      have q4 : ((n : Int) < (l0.length : Int)) = True := eq_true (by omega)
      clear hlt
      have hcall := HP.out (rd l0 (n : Int))
      have HC := Aside0.mk hcall
      clear hcall
      cases hq : p (rd l0 (n : Int)) with
      | true =>
        have HQ := Aside0.mk hq
        clear hq
        go_wp2_with (go_at_fn g; refine (HC.out _).mono ?_; rw [HQ.out]; rintro e w' ⟨rfl, q', rfl⟩)
        go_ret
        refine ⟨?_, by repeat (first|exact Drawn0.refl _|apply Drawn0.step)⟩
        rw [HA.out, HD.out]
        simp only [idxI]
        rw [if_pos (show p (l0.getD n 0) = true from HQ.out)]
        rfl
      | false =>
        have HQ := Aside0.mk hq
        clear hq
        go_wp2_with (go_at_fn g; refine (HC.out _).mono ?_; rw [HQ.out]; rintro e w' ⟨rfl, q', rfl⟩)
        go_roundg (l0.length - (n + 1))
        case measure => have := HN.out; have := HL.out; omega
        case rel =>
          refine ⟨n + 1, by rw [HW.out], ⟨by have := HL.out; omega, by omega⟩, ⟨?_⟩, by repeat (first|exact Drawn0.refl _|apply Drawn0.step)⟩
          rw [HA.out, HD.out]
          simp only [idxI]
          rw [if_neg (by rw [show p (l0.getD n 0) = false from HQ.out]; decide)]
          rfl
    · have c3b0 : decide ((n : Int) < (l0.length : Int)) = false := decide_eq_false (by omega)
      have c3b1 : decide (n < l0.length) = false := decide_eq_false hlt
      have HE := Aside0.mk (show l0.drop n = [] from List.drop_of_length_le (by omega))
      clear hlt
      go_wp2
      go_ret
      refine ⟨?_, by repeat (first|exact Drawn0.refl _|apply Drawn0.step)⟩
      rw [HA.out, HE.out]
      rfl

-- slices.ContainsFunc over whole numbers
set_option maxHeartbeats 4000000 in
set_option maxRecDepth 100000 in
theorem ContainsFunc_int (p : Int → Bool) (g : Nat) (lb : Array Value) (A0 : Option Addr) (c0 : Nat) (l0 : List Int) (w : World) (hr0 : Kd.C (Kd.int .i64) w A0 l0.length l0)
    (eg : ∀ args w, (callFunc g args).run Tryz.prog w = .ok (.enter g args) w)
    (hp : ∀ (x : Int) (q : Nat), Calls Tryz.prog g (#[.int .i64 x] ++ lb) (w.drewN q) fun e w' => e = .returned (.bool (p x)) ∧ ∃ q', w' = (w.drewN q).drewN q') :
    Calls Tryz.prog 75 #[.slice A0 l0.length c0, .func (.func g) #[] lb] w fun e w' => e = .returned (.bool (l0.any p)) ∧ Drawn0 w w' := by
  have HG := Aside0.mk (idxI_geq p l0)
  have HP := Aside0.mk hp
  have HR0 := Aside0.mk hr0
  clear hp hr0
  go_enter Tryz.func75, Tryz.ntmps75
  go_wp2_with (go_at_call 97; refine (IndexFunc_int p g lb _ _ l0 _ HR0.out eg HP.out).mono ?_; rintro e w' ⟨rfl, ⟨q, rfl⟩⟩)
  go_ret
  exact ⟨by rw [← HG.out]; rfl, by repeat (first|exact Drawn0.refl _|apply Drawn0.step)⟩

/-- isCall as a function of lists. -/
def impl_isCall.f (k : Nat) (l0_0 : List Int) (l0_1 : List Int) (l1 : List Int) : Option Bool :=
  (impl_IsValidRotation.f k l0_0 l0_1).bind fun t => if t = true then some (!(l1.any fun x => !(inB x 0 ((l0_0.length : Int) - 1)))) else some false
theorem impl_isCall.mono : ∀ a0 a1 a2 k, LeO (impl_isCall.f k a0 a1 a2) (impl_isCall.f (k + 1) a0 a1 a2) := by
  intro a0 a1 a2 k
  unfold impl_isCall.f
  exact LeO.bind (impl_IsValidRotation.mono _ _ _) (fun _ => LeO.refl _)
set_option maxHeartbeats 4000000 in
set_option maxRecDepth 100000 in
theorem impl_isCall.calls (k : Nat) (A0_0 : Option Addr) (c0_0 : Nat) (l0_0 : List Int) (A0_1 : Option Addr) (c0_1 : Nat) (l0_1 : List Int) (A1 : Option Addr) (c1 : Nat) (l1 : List Int) (r : Bool) (w : World) (hr0_0 : Kd.C (Kd.int .i64) w A0_0 l0_0.length l0_0) (hc0_0 : l0_0.length ≤ c0_0) (hr0_1 : Kd.C (Kd.int .i64) w A0_1 l0_1.length l0_1) (hc0_1 : l0_1.length ≤ c0_1)
    (hr1 : Kd.C (Kd.int .i64) w A1 l1.length l1) (hc1 : l1.length ≤ c1) (h : impl_isCall.f k l0_0 l0_1 l1 = some r) :
    Calls Tryz.prog 40 #[.agg #[.slice A0_0 l0_0.length c0_0, .slice A0_1 l0_1.length c0_1], .slice A1 l1.length c1] w fun e w' => e = .returned (.bool r) ∧ Below w.heap.size w w' := by
  have HM := Kd.C_max hr0_0
  have HB1 : Below w.heap.size w (w.alloc (.cells #[.slice A0_0 l0_0.length c0_0, .slice A0_1 l0_1.length c0_1] 26)) := (Below.refl _ _).alloc (Nat.le_refl _) _
  have H0 := Aside0.mk hr0_0
  have H1 := Aside0.mk hc0_0
  have H2 := Aside0.mk hr0_1
  have H3 := Aside0.mk hc0_1
  have H4 := Aside0.mk hr1
  clear hr0_0 hc0_0 hr0_1 hc0_1 hr1 hc1
  unfold impl_isCall.f at h
  obtain ⟨t, ht, h⟩ := Option.bind_eq_some_iff.mp h
  have HT := Aside0.mk ht
  clear ht
  have eg : ∀ args w, (callFunc 76 args).run Tryz.prog w = .ok (.enter 76 args) w := enters_of Tryz.func76 (by kernel_rfl) rfl
  cases t with
  | false =>
    simp only [Bool.false_eq_true, if_false, Option.some.injEq] at h
    subst h
    go_enter Tryz.func40, Tryz.ntmps40
    go_wp2_with (go_at_call 9; refine (impl_IsValidRotation.calls k _ _ l0_0 _ _ l0_1 _ _ (Kd.C_below H0.out HB1) H1.out (Kd.C_below H2.out HB1) H3.out HT.out).mono ?_; rintro e w2 ⟨rfl, hb2⟩)
    go_ret
    exact ⟨rfl, below_then HB1 (by simp) hb2⟩
  | true =>
    simp only [if_true, Option.some.injEq] at h
    have HR := Aside0.mk h
    clear h
    go_enter Tryz.func40, Tryz.ntmps40
    go_wp2_with (first
      | (go_at_call 9; refine (impl_IsValidRotation.calls k _ _ l0_0 _ _ l0_1 _ _ (Kd.C_below H0.out HB1) H1.out (Kd.C_below H2.out HB1) H3.out HT.out).mono ?_; rintro e w2 ⟨rfl, hb2⟩; have hb3 := below_then HB1 (by simp) hb2; have hcell : w2.cell? ⟨w.heap.size, 0, none⟩ = some (.slice A0_0 l0_0.length c0_0) := (hb2.cell (p := ⟨w.heap.size, 0, none⟩) (by simp)).trans (by simp); have HC := Aside0.mk hcell; have HB3 := Aside0.mk hb3; clear hcell hb3 hb2)
      | (go_at_call 75; refine (ContainsFunc_int (fun x => !(inB x 0 ((l0_0.length : Int) - 1))) 76 #[.pointer (some ⟨w.heap.size, 0, none⟩)] _ _ l1 _ (Kd.C_below H4.out HB3.out) eg (fun x q => isCall_fn _ _ _ _ x _ HC.out HM)).mono ?_; rintro e w3 ⟨rfl, ⟨q, rfl⟩⟩))
    go_ret
    exact ⟨by rw [← HR.out]; rfl, pw_below_drewN HB3.out _⟩
end Go.Proofs.YtfindomajbjacaaGreatDoor.X
