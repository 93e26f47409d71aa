/- The reference's spoilt, walked by hand: a text with a byte more, another one, or a byte less. -/
import Derived.Test.YtfindomajbjacaaGreatDoorX0
import Derived.Test.YtfindomajbjacaaGreatDoorFbCur
import Derived.Lib.Walk
import Derived.WalkKit
import Derived.BigQuiet
namespace Go.Proofs.YtfindomajbjacaaGreatDoor.X
open Go.RowKit Go.Lib Go.Proofs.YtfindomajbjacaaGreatDoorW.PrintWords Go.Proofs.YtfindomajbjacaaGreatDoorW.PrintLast Go.Proofs.YtfindomajbjacaaGreatDoorW.PrintMore
set_option linter.unusedVariables false
set_option linter.unusedSimpArgs false
/-- The byte that is laid in. -/
def spoB (a2 : ByteArray) (j : Nat) : ByteArray := (a2.extract j a2.size).extract 0 1
def spoT (a1 W : ByteArray) (i : Nat) (c : Int) : ByteArray :=
  if c = 0 then ((a1.extract 0 i) ++ W) ++ (a1.extract i a1.size) else if c = 1 then ((a1.extract 0 i) ++ W) ++ (a1.extract (i + 1) a1.size) else (a1.extract 0 i) ++ (a1.extract (i + 1) a1.size)
def spec_l1Cur_spoilt.f (s0_0 : List Int) (s0_1 : Int) (s0_2 : Int) (a1 : ByteArray) (a2 : ByteArray) : Option (ByteArray × Int × Int) :=
  if a1.toList = ([] : List UInt8) then (if 1 ≤ a2.size then some (a2.extract 0 1, s0_1, s0_2) else none)
  else (spec_l1Cur_pick.f s0_0 s0_1 s0_2 (a1.size : Int)).bind fun p => (spec_l1Cur_pick.f s0_0 p.2.1 p.2.2 (a2.size : Int)).bind fun q => (spec_l1Cur_pick.f s0_0 q.2.1 q.2.2 3).bind fun c =>
    if (0 ≤ p.1 ∧ p.1 < (a1.size : Int)) ∧ (0 ≤ q.1 ∧ q.1 < (a2.size : Int)) ∧ a1.size ≤ 1000000000000 ∧ a2.size ≤ 1000000000000 then some (spoT a1 (spoB a2 q.1.toNat) p.1.toNat c.1, c.2.1, c.2.2) else none
set_option maxHeartbeats 1000000 in
set_option maxRecDepth 100000 in
theorem spec_l1Cur_spoilt.calls (g : Nat) (s0_0 : List Int) (s0_1 : Int) (s0_2 : Int) (a1 : ByteArray) (a2 : ByteArray) (r1 : ByteArray) (r2 : Int) (r3 : Int) (w0 w : World) (hI : IsS69 w0 w g s0_0 s0_1 s0_2) (hB : Below w0.heap.size w0 w) (h : spec_l1Cur_spoilt.f s0_0 s0_1 s0_2 a1 a2 = some (r1, r2, r3)) :
    Calls Tryz.prog 51 #[.pointer (some ⟨g, 0, none⟩), .string a1, .string a2] w fun e w' => e = .returned (.string r1) ∧ IsS69 w0 w' g s0_0 r2 r3 ∧ Below w0.heap.size w0 w' ∧ KeepBut w w' g none := by
  unfold spec_l1Cur_spoilt.f at h
  by_cases h0 : a1.toList = ([] : List UInt8)
  · rw [if_pos h0] at h
    by_cases h1 : 1 ≤ a2.size
    · rw [if_pos h1] at h
      simp only [Option.some.injEq, Prod.mk.injEq] at h
      obtain ⟨rfl, rfl, rfl⟩ := h
      have HI := Aside0.mk hI
      have HB := Aside0.mk hB
      have c1 : (a1.toList == ([] : List UInt8)) = true := beq_iff_eq.mpr h0
      have c2 : (1 : Int) ≤ (a2.size : Int) := by omega
      have c3 : (1 ≤ (a2.size : Int)) = True := eq_true c2
      clear hI hB h0
      go_enter Tryz.func51, Tryz.ntmps51
      go_wp2
      go_ret
      exact ⟨rfl, HI.out, HB.out, KeepBut.refl w g none⟩
    · rw [if_neg h1] at h
      cases h
  · rw [if_neg h0] at h
    obtain ⟨⟨p, a', s'⟩, hp, h⟩ := Option.bind_eq_some_iff.mp h
    obtain ⟨⟨q, a'', s''⟩, hq, h⟩ := Option.bind_eq_some_iff.mp h
    obtain ⟨⟨c, a3, s3⟩, hc, h⟩ := Option.bind_eq_some_iff.mp h
    simp only at hp hq hc h
    by_cases hb : (0 ≤ p ∧ p < (a1.size : Int)) ∧ (0 ≤ q ∧ q < (a2.size : Int)) ∧ a1.size ≤ 1000000000000 ∧ a2.size ≤ 1000000000000
    · rw [if_pos hb] at h
      simp only [Option.some.injEq, Prod.mk.injEq] at h
      obtain ⟨rfl, rfl, rfl⟩ := h
      obtain ⟨⟨p0, p1⟩, ⟨q0, q1⟩, z1, z2⟩ := hb
      obtain ⟨n, rfl⟩ : ∃ n : Nat, p = n := ⟨p.toNat, by omega⟩
      obtain ⟨m, rfl⟩ : ∃ m : Nat, q = m := ⟨q.toNat, by omega⟩
      have HP := Aside0.mk hp
      have HQ := Aside0.mk hq
      have HC := Aside0.mk hc
      have HI := Aside0.mk hI
      have HB := Aside0.mk hB
      have b1 : (a1.toList == ([] : List UInt8)) = false := beq_eq_false_iff_ne.mpr h0
      have b2 : (m : Int) ≤ (a2.size : Int) := by omega
      have b2n : m ≤ a2.size := by omega
      have b3 : (1 : Int) ≤ ((a2.extract m a2.size).size : Int) := by rw [ByteArray.size_extract]; omega
      have b4 : (n : Int) ≤ (a1.size : Int) := by omega
      have b4n : n ≤ a1.size := by omega
      have b5 : wrap64 ((n : Int) + 1) = ((n + 1 : Nat) : Int) := by unfold wrap64; omega
      have b6 : ((n + 1 : Nat) : Int) ≤ (a1.size : Int) := by omega
      have b6n : n + 1 ≤ a1.size := by omega
      have e3 : (spoB a2 m).size = 1 := by unfold spoB; rw [ByteArray.size_extract, ByteArray.size_extract]; omega
      have E3 := Aside0.mk e3
      have HSP := Aside0.mk (show spoB a2 m = (a2.extract m a2.size).extract 0 1 from rfl)
      have Z1 := Aside0.mk z1
      have P1 := Aside0.mk p1
      have HK := Aside0.mk (KeepBut.refl w g none)
      simp only [Int.toNat_natCast]
      clear hp hq hc hI hB h0 e3 z1 z2 h p1 q1 p0 q0
      go_enter Tryz.func51, Tryz.ntmps51
      go_wp2_with (first|(go_at_call 47; (with_reducible refine (spec_l1Cur_pick.calls g s0_0 s0_1 s0_2 (a1.size : Int) n a' s' w0 _ HI.out HB.out HP.out).mono ?_); rintro e w4 ⟨rfl, hi, hb, hk⟩; have HI4 := Aside0.mk hi; have HB4 := Aside0.mk hb; have HK4 := Aside0.mk (hk); clear hi hb hk)|(go_at_call 47; (with_reducible refine (spec_l1Cur_pick.calls g s0_0 a' s' (a2.size : Int) m a'' s'' w0 _ HI4.out HB4.out HQ.out).mono ?_); rintro e w5 ⟨rfl, hi, hb, hk⟩; have HI5 := Aside0.mk hi; have HB5 := Aside0.mk hb; have HK5 := Aside0.mk (KeepBut.trans HK4.out hk (.inl rfl)); clear hi hb hk)|(go_at_call 47; (with_reducible refine (spec_l1Cur_pick.calls g s0_0 a'' s'' 3 c a3 s3 w0 _ HI5.out HB5.out HC.out).mono ?_); rintro e w6 ⟨rfl, hi, hb, hk⟩; have HI6 := Aside0.mk hi; have HB6 := Aside0.mk hb; have HK6 := Aside0.mk (KeepBut.trans HK5.out hk (.inl rfl)); clear hi hb hk))
      · generalize hW : (a2.extract m a2.size).extract 0 1 = W
        have hw1 : W.size = 1 := by rw [← hW, ← HSP.out, E3.out]
        have HWW := Aside0.mk hW
        have s1 : (9223372036854775807 < n + W.size) = False := eq_false (by have := P1.out; have := Z1.out; omega)
        have s2 : (9223372036854775807 < n + W.size + (a1.size - n)) = False := eq_false (by have := P1.out; have := Z1.out; omega)
        have s3 : (9223372036854775807 < n + W.size + (a1.size - (n + 1))) = False := eq_false (by have := P1.out; have := Z1.out; omega)
        have s4 : (9223372036854775807 < n + (a1.size - (n + 1))) = False := eq_false (by have := P1.out; have := Z1.out; omega)
        clear hW hw1
        go_quiet (fail)
        try go_wp2
        go_ret
        have hc0 : c = 0 := by simpa using (by assumption : (c == 0) = true)
        exact ⟨by rw [show spoT a1 (spoB a2 m) n c = ((a1.extract 0 n) ++ W) ++ (a1.extract n a1.size) by unfold spoT; rw [if_pos hc0, HSP.out, HWW.out]]; rfl, by repeat (with_reducible first|exact HI6.out|apply IsS69.drewN), by repeat (with_reducible first|exact HB6.out|apply pw_below_drewN), by repeat (with_reducible first|exact HK6.out|apply keep_drewN)⟩
      · generalize hW : (a2.extract m a2.size).extract 0 1 = W
        have hw1 : W.size = 1 := by rw [← hW, ← HSP.out, E3.out]
        have HWW := Aside0.mk hW
        have s1 : (9223372036854775807 < n + W.size) = False := eq_false (by have := P1.out; have := Z1.out; omega)
        have s2 : (9223372036854775807 < n + W.size + (a1.size - n)) = False := eq_false (by have := P1.out; have := Z1.out; omega)
        have s3 : (9223372036854775807 < n + W.size + (a1.size - (n + 1))) = False := eq_false (by have := P1.out; have := Z1.out; omega)
        have s4 : (9223372036854775807 < n + (a1.size - (n + 1))) = False := eq_false (by have := P1.out; have := Z1.out; omega)
        clear hW hw1
        go_quiet (fail)
        try go_wp2
        go_ret
        have hc0 : ¬ c = 0 := by simpa using (by assumption : (c == 0) = false)
        have hc1 : c = 1 := by simpa using (by assumption : (c == 1) = true)
        exact ⟨by rw [show spoT a1 (spoB a2 m) n c = ((a1.extract 0 n) ++ W) ++ (a1.extract (n + 1) a1.size) by unfold spoT; rw [if_neg hc0, if_pos hc1, HSP.out, HWW.out]]; rfl, by repeat (with_reducible first|exact HI6.out|apply IsS69.drewN), by repeat (with_reducible first|exact HB6.out|apply pw_below_drewN), by repeat (with_reducible first|exact HK6.out|apply keep_drewN)⟩
      · generalize hW : (a2.extract m a2.size).extract 0 1 = W
        have hw1 : W.size = 1 := by rw [← hW, ← HSP.out, E3.out]
        have HWW := Aside0.mk hW
        have s1 : (9223372036854775807 < n + W.size) = False := eq_false (by have := P1.out; have := Z1.out; omega)
        have s2 : (9223372036854775807 < n + W.size + (a1.size - n)) = False := eq_false (by have := P1.out; have := Z1.out; omega)
        have s3 : (9223372036854775807 < n + W.size + (a1.size - (n + 1))) = False := eq_false (by have := P1.out; have := Z1.out; omega)
        have s4 : (9223372036854775807 < n + (a1.size - (n + 1))) = False := eq_false (by have := P1.out; have := Z1.out; omega)
        clear hW hw1
        go_quiet (fail)
        try go_wp2
        go_ret
        have hc0 : ¬ c = 0 := by simpa using (by assumption : (c == 0) = false)
        have hc1 : ¬ c = 1 := by simpa using (by assumption : (c == 1) = false)
        exact ⟨by rw [show spoT a1 (spoB a2 m) n c = (a1.extract 0 n) ++ (a1.extract (n + 1) a1.size) by unfold spoT; rw [if_neg hc0, if_neg hc1]]; rfl, by repeat (with_reducible first|exact HI6.out|apply IsS69.drewN), by repeat (with_reducible first|exact HB6.out|apply pw_below_drewN), by repeat (with_reducible first|exact HK6.out|apply keep_drewN)⟩
    · rw [if_neg hb] at h
      cases h
end Go.Proofs.YtfindomajbjacaaGreatDoor.X
