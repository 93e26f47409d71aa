/- The program's hasStack, walked: is the yard valid, and is each of the numbers a stack of it? -/
import Derived.Test.YtlldonokjgoajaaGFind
import Derived.Test.YtlldonokjgoajaaGIsValidYard
namespace Go.Proofs.Ytlldonokjgoajaa.X
open Go.RowKit Go.Lib Go.Proofs.YtlldonokjgoajaaW.PrintWords Go.Proofs.YtlldonokjgoajaaW.PrintLast Go.Proofs.YtlldonokjgoajaaW.PrintMore
set_option linter.unusedVariables false
set_option linter.unusedSimpArgs false

theorem hasStack_fn (b : Nat) (A0 : Option Addr) (c0 n : Nat) (x : Int) (W : World) (hb : W.cell? ⟨b, 0, none⟩ = some (.slice A0 n c0)) (hn : n ≤ 9223372036854775807) :
    Calls Try.prog 166 #[.int .i64 x, .pointer (some ⟨b, 0, none⟩)] W fun e w' => e = .returned (.bool (!(inB x 0 ((n : Int) - 1)))) ∧ ∃ q, w' = W.drewN q := by
  go_enter Try.func166, Try.ntmps166
  go_wp2_with (go_at_call 118; refine (within_same _ _ _ _).mono ?_; rintro e w' ⟨rfl, rfl⟩)
  go_ret
  exact ⟨rfl, ⟨0, rfl⟩⟩

/-- hasStack as a function of lists. -/
def impl_hasStack.f (k : Nat) (l0_0 : List (List Int)) (l1 : List Int) : Option Bool := some (goodY l0_0 && !(l1.any fun x => !(inB x 0 ((l0_0.length : Int) - 1))))
theorem impl_hasStack.mono : ∀ a0 a1 k, LeO (impl_hasStack.f k a0 a1) (impl_hasStack.f (k + 1) a0 a1) := fun _ _ _ => LeO.refl _
set_option maxHeartbeats 4000000 in
set_option maxRecDepth 100000 in
theorem impl_hasStack.calls (k : Nat) (A0_0 : Option Addr) (c0_0 : Nat) (l0_0 : List (List Int)) (A1 : Option Addr) (c1 : Nat) (l1 : List Int) (r : Bool) (w : World) (hr0_0 : Kd.C (Kd.slice 3 (Kd.int .i64)) w A0_0 l0_0.length l0_0) (hc0_0 : l0_0.length ≤ c0_0)
    (hr1 : Kd.C (Kd.int .i64) w A1 l1.length l1) (hc1 : l1.length ≤ c1) (h : impl_hasStack.f k l0_0 l1 = some r) :
    Calls Try.prog 107 #[.agg #[.slice A0_0 l0_0.length c0_0], .slice A1 l1.length c1] w fun e w' => e = .returned (.bool r) ∧ Below w.heap.size w w' := by
  have HM := Kd.C_max hr0_0
  have HB1 : Below w.heap.size w (w.alloc (.cells #[.slice A0_0 l0_0.length c0_0] 42)) := (Below.refl _ _).alloc (Nat.le_refl _) _
  have H0 := Aside0.mk hr0_0
  have H1 := Aside0.mk hc0_0
  have H4 := Aside0.mk hr1
  clear hr0_0 hc0_0 hr1 hc1
  unfold impl_hasStack.f at h
  have eg : ∀ args w, (callFunc 166 args).run Try.prog w = .ok (.enter 166 args) w := enters_of Try.func166 (by kernel_rfl) rfl
  obtain ⟨t, ht⟩ : ∃ t, goodY l0_0 = t := ⟨_, rfl⟩
  rw [ht] at h
  have HT := Aside0.mk (show impl_IsValidYard.f l0_0 = some t by rw [← ht]; rfl)
  clear ht
  cases t with
  | false =>
    simp only [Bool.false_and, Option.some.injEq] at h
    subst h
    go_enter Try.func107, Try.ntmps107
    go_wp2_with (go_at_call 40; refine (impl_IsValidYard.calls _ _ l0_0 _ _ (Kd.C_below H0.out HB1) H1.out HT.out).mono ?_; rintro e w2 ⟨rfl, hb2⟩)
    go_ret
    exact ⟨rfl, below_then HB1 (by simp) hb2⟩
  | true =>
    simp only [Bool.true_and, Option.some.injEq] at h
    have HR := Aside0.mk h
    clear h
    go_enter Try.func107, Try.ntmps107
    go_wp2_with (first
      | (go_at_call 40; refine (impl_IsValidYard.calls _ _ l0_0 _ _ (Kd.C_below H0.out HB1) H1.out HT.out).mono ?_; rintro e w2 ⟨rfl, hb2⟩; have hb3 := below_then HB1 (by simp) hb2; have hcell : w2.cell? ⟨w.heap.size, 0, none⟩ = some (.slice A0_0 l0_0.length c0_0) := (hb2.cell (p := ⟨w.heap.size, 0, none⟩) (by simp)).trans (by simp); have HC := Aside0.mk hcell; have HB3 := Aside0.mk hb3; clear hcell hb3 hb2)
      | (go_at_call 160; refine (ContainsFunc_int (fun x => !(inB x 0 ((l0_0.length : Int) - 1))) 166 #[.pointer (some ⟨w.heap.size, 0, none⟩)] _ _ l1 _ (Kd.C_below H4.out HB3.out) eg (fun x q => hasStack_fn _ _ _ _ x _ HC.out HM)).mono ?_; rintro e w3 ⟨rfl, ⟨q, rfl⟩⟩))
    go_ret
    exact ⟨by rw [← HR.out]; rfl, pw_below_drewN HB3.out _⟩
end Go.Proofs.Ytlldonokjgoajaa.X
