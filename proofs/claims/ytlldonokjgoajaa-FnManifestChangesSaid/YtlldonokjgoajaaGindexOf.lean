/- The program's indexOf, walked: slices.IndexFunc over containers with the literal that compares numbers of containers. -/
import Derived.Test.YtlldonokjgoajaaX0
import Derived.Test.YtlldonokjgoajaaMBase
import Derived.Lib.Walk
import Derived.Shelf.Abstract
import Derived.Deep.LoopGhost
import Derived.Deep.Draws
namespace Go.Proofs.Ytlldonokjgoajaa.X
open Go.RowKit Go.Lib Go.Proofs.YtlldonokjgoajaaW.PrintWords Go.Proofs.YtlldonokjgoajaaW.PrintLast Go.Proofs.YtlldonokjgoajaaW.PrintMore
set_option linter.unusedVariables false
set_option linter.unusedSimpArgs false

/-- The first index, from i on, at which p holds; -1 if there is none. -/
def idxI {α : Type} (p : α → Bool) : List α → Int → Int
  | [], _ => -1
  | x :: l, i => if p x = true then i else idxI p l (i + 1)
theorem idxI_any {α : Type} (p : α → Bool) : ∀ (l : List α) (i : Int), 0 ≤ i → (0 ≤ idxI p l i ↔ l.any p = true)
  | [], i, h => by simp [idxI]
  | x :: l, i, h => by
    simp only [idxI, List.any_cons]
    by_cases hx : p x = true
    · simp [hx, h]
    · rw [if_neg hx, idxI_any p l (i + 1) (by omega)]
      simp [hx]

theorem indexOf_fn (b : Nat) (a1 : ByteArray) (x : S89) (W : World) (hb : W.cell? ⟨b, 0, none⟩ = some (.string a1)) :
    Calls Try.prog 178 #[.agg #[.string x.f0, .int .i64 x.f1, .int .i64 x.f2, .int .i64 x.f3, .int .i64 x.f4], .pointer (some ⟨b, 0, none⟩)] W fun e w' => e = .returned (.bool (x.f0.toList == a1.toList)) ∧ Below W.heap.size W w' := by
  have hb2 : ∀ o, (W.alloc o).cell? ⟨b, 0, none⟩ = some (.string a1) := fun o => (((Below.refl _ _).alloc (Nat.le_refl _) o).cell (World.block_lt_of_cell? W _ hb)).trans hb
  go_enter Try.func178, Try.ntmps178
  go_wp2
  go_ret
  exact ⟨rfl, (Below.refl _ _).alloc (Nat.le_refl _) _⟩

set_option maxHeartbeats 4000000 in
set_option maxRecDepth 100000 in
theorem IndexFunc_C (p : S89 → Bool) (g : Nat) (lb : Array Value) (A0 : Option Addr) (c0 : Nat) (l0 : List S89) (w : World) (hr0 : Kd.C k89 w A0 l0.length l0)
    (eg : ∀ args w, (callFunc g args).run Try.prog w = .ok (.enter g args) w)
    (hp : ∀ (x : S89) (w' : World), Below w.heap.size w w' → Calls Try.prog g (#[.agg #[.string x.f0, .int .i64 x.f1, .int .i64 x.f2, .int .i64 x.f3, .int .i64 x.f4]] ++ lb) w' fun e w'' => e = .returned (.bool (p x)) ∧ Below w'.heap.size w' w'') :
    Calls Try.prog 177 #[.slice A0 l0.length c0, .func (.func g) #[] lb] w fun e w' => e = .returned (.int .i64 (idxI p l0 0)) ∧ Below w.heap.size w w' := by
  have HR0 := Aside0.mk hr0
  have HM := Aside0.mk (Kd.C_max hr0)
  clear hr0
  have HP := Aside0.mk hp
  clear hp
  have HB0 := Aside0.mk (Below.refl w.heap.size w)
  go_enter Try.func177, Try.ntmps177
  go_wp2
  go_loopg [5, 8] l0.length (fun kq _ v8 w' => ∃ n : Nat, v8 = .int .i64 (n : Int) ∧ Aside0 (n ≤ l0.length ∧ l0.length - n ≤ kq) ∧ Aside0 (idxI p l0 0 = idxI p (l0.drop n) (n : Int)) ∧ Aside0 (Below w.heap.size w w'))
  case atStart => exact ⟨0, rfl, ⟨Nat.zero_le _, by omega⟩, ⟨by simp⟩, HB0⟩
  case round =>
    obtain ⟨n, rfl, HN, HA, HB⟩ := hrel
    by_cases hlt : n < l0.length
    · have c3b0 : decide ((n : Int) < (l0.length : Int)) = true := decide_eq_true (by omega)
      have c3b1 : decide (n < l0.length) = true := decide_eq_true hlt
      have hD : l0.drop n = rd_T89 l0 (n : Int) :: l0.drop (n + 1) := by
        unfold rd_T89
        rw [Int.toNat_natCast]
        exact getD_cons (z := z89) hlt
      have HD := Aside0.mk hD
      obtain ⟨ad, e, h0, h1, h2, h3, h4⟩ := at_T89 HR0.out (n : Int) (by omega) (by omega)
      cases e
      rw [Int.toNat_natCast] at h0 h1 h2 h3 h4
      replace h0 := (HB.out.cell (World.block_lt_of_cell? w _ h0)).trans h0
      replace h1 := (HB.out.cell (World.block_lt_of_cell? w _ h1)).trans h1
      replace h2 := (HB.out.cell (World.block_lt_of_cell? w _ h2)).trans h2
      replace h3 := (HB.out.cell (World.block_lt_of_cell? w _ h3)).trans h3
      replace h4 := (HB.out.cell (World.block_lt_of_cell? w _ h4)).trans h4
      generalize rd_T89 l0 (n : Int) = x at HD h0 h1 h2 h3 h4
      have hw : wrap64 ((n : Int) + 1) = ((n + 1 : Nat) : Int) := wnext hlt HM.out
      have HW := Aside0.mk hw
      clear hw hD
      have HL := Aside0.mk hlt
      have p4 : (0 ≤ (n : Int)) = True := eq_true (by omega)
      have q4 : ((n : Int) < (l0.length : Int)) = True := eq_true (by omega)
      clear hlt
      have HC := Aside0.mk (HP.out x _ HB.out)
      cases hq : p x with
      | true =>
        have HQ := Aside0.mk hq
        clear hq
        go_wp2_with (go_at_fn g; refine HC.out.mono ?_; rw [HQ.out]; rintro e w' ⟨rfl, hb⟩; have HB2 := Aside0.mk (below_then HB.out HB.out.size hb); clear hb)
        go_ret
        refine ⟨?_, HB2.out⟩
        rw [HA.out, HD.out]
        simp only [idxI, HQ.out, if_true]
        rfl
      | false =>
        have HQ := Aside0.mk hq
        clear hq
        go_wp2_with (go_at_fn g; refine HC.out.mono ?_; rw [HQ.out]; rintro e w' ⟨rfl, hb⟩; have HB2 := Aside0.mk (below_then HB.out HB.out.size hb); clear hb)
        go_roundg (l0.length - (n + 1))
        case measure => have := HN.out; have := HL.out; omega
        case rel =>
          refine ⟨n + 1, by rw [HW.out], ⟨by have := HL.out; omega, by omega⟩, ⟨?_⟩, HB2⟩
          rw [HA.out, HD.out]
          simp only [idxI, HQ.out, Bool.false_eq_true, if_false]
          rfl
    · have c3b0 : decide ((n : Int) < (l0.length : Int)) = false := decide_eq_false (by omega)
      have c3b1 : decide (n < l0.length) = false := decide_eq_false hlt
      have HE := Aside0.mk (show l0.drop n = [] from List.drop_of_length_le (by omega))
      clear hlt
      go_wp2
      go_ret
      refine ⟨?_, HB.out⟩
      rw [HA.out, HE.out]
      rfl

def impl_indexOf.f (l0 : List S89) (a1 : ByteArray) : Option Int := some (idxI (fun x => x.f0.toList == a1.toList) l0 0)
set_option maxHeartbeats 4000000 in
set_option maxRecDepth 100000 in
theorem impl_indexOf.calls (A0 : Option Addr) (c0 : Nat) (l0 : List S89) (a1 : ByteArray) (r : Int) (w : World) (hr0 : Kd.C k89 w A0 l0.length l0) (hc0 : l0.length ≤ c0) (h : impl_indexOf.f l0 a1 = some r) :
    Calls Try.prog 148 #[.slice A0 l0.length c0, .string a1] w fun e w' => e = .returned (.int .i64 r) ∧ Below w.heap.size w w' := by
  unfold impl_indexOf.f at h
  cases h
  have eg : ∀ args w, (callFunc 178 args).run Try.prog w = .ok (.enter 178 args) w := enters_of Try.func178 (by kernel_rfl) rfl
  have HB1 := Aside0.mk ((Below.refl w.heap.size w).alloc (Nat.le_refl _) (.cells #[.string a1] 9))
  have H0 := Aside0.mk (Kd.C_below hr0 HB1.out)
  have hcell : (w.alloc (.cells #[.string a1] 9)).cell? ⟨w.heap.size, 0, none⟩ = some (.string a1) := by simp
  have HC := Aside0.mk hcell
  clear hr0 hc0 hcell
  go_enter Try.func148, Try.ntmps148
  go_wp2_with (go_at_call 177; refine (IndexFunc_C (fun x => x.f0.toList == a1.toList) 178 #[.pointer (some ⟨w.heap.size, 0, none⟩)] _ _ l0 _ H0.out eg (fun x w' hb => indexOf_fn _ a1 x _ ((hb.cell (World.block_lt_of_cell? _ _ HC.out)).trans HC.out))).mono ?_; rintro e w3 ⟨rfl, hb⟩; have HB3 := Aside0.mk (below_then HB1.out HB1.out.size hb); clear hb)
  go_ret
  exact ⟨rfl, HB3.out⟩
end Go.Proofs.Ytlldonokjgoajaa.X
