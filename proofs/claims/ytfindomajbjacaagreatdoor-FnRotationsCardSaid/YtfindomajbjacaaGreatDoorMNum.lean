/- The reference's text of a number is the decimal numeral of the library. -/
import Derived.Test.YtfindomajbjacaaGreatDoorMBase
import Derived.Test.YtfindomajbjacaaGreatDoorMBs
import Derived.Test.YtfindomajbjacaaGreatDoorGItoa
import Derived.Test.YtfindomajbjacaaGreatDoorFspecl1Num
import Derived.Test.YtfindomajbjacaaGreatDoorFimpldecimal
import Derived.Lib.ItoaNum
namespace Go.Proofs.YtfindomajbjacaaGreatDoor.X
open Go.RowKit Go.Proofs.YtfindomajbjacaaGreatDoorW.PrintWords Go.Proofs.YtfindomajbjacaaGreatDoorW.PrintLast
set_option linter.unusedVariables false
set_option linter.unusedSimpArgs false
theorem dec_small {u : Nat} (h : u < 10) : Lib.decDigits u = [UInt8.ofNat (48 + u)] := by rw [Lib.decDigits, dif_pos h]
theorem dec_big {u : Nat} (h : ¬ u < 10) : Lib.decDigits u = Lib.decDigits (u / 10) ++ [UInt8.ofNat (48 + u % 10)] := by rw [Lib.decDigits, dif_neg h]
theorem dec_length (d : Nat) : ∀ u, u < 10 ^ (d + 1) → (Lib.decDigits u).length ≤ d + 1 := by
  induction d with
  | zero => intro u h; rw [dec_small (by simpa using h)]; simp
  | succ d ih =>
    intro u h
    by_cases h2 : u < 10
    · rw [dec_small h2]; simp
    · have h3 : u / 10 < 10 ^ (d + 1) := by rw [Nat.div_lt_iff_lt_mul (by omega), ← Nat.pow_succ]; exact h
      rw [dec_big h2, List.length_append, List.length_singleton]
      have := ih _ h3
      omega
theorem l1Num_nat (d : Nat) (hd : d ≤ 17) : ∀ (k u : Nat), u < 10 ^ (d + 1) → d < k → spec_l1Num.f k (u : Int) = some (tx (Lib.decDigits u)) := by
  induction d with
  | zero =>
    intro k u h hk
    obtain ⟨k, rfl⟩ := kpos hk
    have h10 : u < 10 := by simpa using h
    unfold spec_l1Num.f
    rw [if_neg (by omega), if_pos (by omega), w64 (by omega) (by omega), if_pos (by omega), if_pos (by omega), if_pos (by omega), dec_small h10]
    rw [show ((u : Int) + 1).toNat = u + 1 by omega, Int.toNat_natCast]
    exact congrArg some (digit_cut u h10)
  | succ d ih =>
    intro k u h hk
    obtain ⟨k, rfl⟩ := kpos (d := 0) (k := k) (by omega)
    by_cases h10 : u < 10
    · unfold spec_l1Num.f
      rw [if_neg (by omega), if_pos (by omega), w64 (by omega) (by omega), if_pos (by omega), if_pos (by omega), if_pos (by omega), dec_small h10]
      rw [show ((u : Int) + 1).toNat = u + 1 by omega, Int.toNat_natCast]
      exact congrArg some (digit_cut u h10)
    · have hb : u < 10 ^ 19 := Nat.lt_of_lt_of_le h (Nat.pow_le_pow_right (by omega) (by omega))
      have hb2 : u < 10000000000000000000 := hb
      have h3 : u / 10 < 10 ^ (d + 1) := by rw [Nat.div_lt_iff_lt_mul (by omega), ← Nat.pow_succ]; exact h
      have hl := dec_length d _ h3
      have hr := ih (by omega) k (u / 10) h3 (by omega)
      have hm : u % 10 < 10 := Nat.mod_lt _ (by omega)
      have n1 : ¬ ((u : Int) < 0) := by omega
      have n2 : ¬ ((u : Int) < 10) := by omega
      have n3 : (0 : Int) ≤ (u : Int) := by omega
      obtain ⟨q, hq⟩ : ∃ q, u / 10 = q := ⟨_, rfl⟩
      obtain ⟨m, hmm⟩ : ∃ m, u % 10 = m := ⟨_, rfl⟩
      have hql : q ≤ 1000000000000000000 := by omega
      rw [hq] at hr hl
      rw [hmm] at hm
      have b1 : (-9223372036854775808 : Int) ≤ (q : Int) := by omega
      have b2 : (q : Int) ≤ 9223372036854775807 := by omega
      have b3 : (-9223372036854775808 : Int) ≤ (m : Int) + 1 := by omega
      have b4 : (m : Int) + 1 ≤ 9223372036854775807 := by omega
      have g3 : (0 : Int) ≤ (m : Int) := by omega
      have g4 : (m : Int) ≤ (m : Int) + 1 := by omega
      have g5 : (m : Int) + 1 ≤ 10 := by omega
      have g6 : ((m : Int) + 1).toNat = m + 1 := by omega
      have g7 : (Lib.decDigits q).length + 1 ≤ 9223372036854775807 := by omega
      have e1 : Int.tdiv (u : Int) 10 = ((u / 10 : Nat) : Int) := by rw [Int.tdiv_eq_ediv_of_nonneg n3]; rfl
      have e2 : Int.tmod (u : Int) 10 = ((u % 10 : Nat) : Int) := by rw [Int.tmod_eq_emod_of_nonneg n3]; rfl
      have g1 : wrap64 (q : Int) = (q : Int) := w64 b1 b2
      have g2 : wrap64 ((m : Int) + 1) = (m : Int) + 1 := w64 b3 b4
      unfold spec_l1Num.f
      rw [if_neg n1, if_neg n2, e1, e2, dec_big h10, hq, hmm, g1, hr, Option.bind_some, g2, if_pos g3, if_pos g4, if_pos g5, g6, Int.toNat_natCast]
      rw [show (⟨#[48, 49, 50, 51, 52, 53, 54, 55, 56, 57]⟩ : ByteArray) = tenB from rfl, digit_cut m hm]
      have hsz : (tx (Lib.decDigits q)).size + (⟨#[UInt8.ofNat (48 + m)]⟩ : ByteArray).size ≤ 9223372036854775807 := by
        rw [tx_size, show (⟨#[UInt8.ofNat (48 + m)]⟩ : ByteArray).size = 1 from rfl]
        exact g7
      rw [if_pos hsz]
      exact congrArg some (tx_append _ [UInt8.ofNat (48 + m)])
theorem l1Num_ends (n : Int) (h0 : -1000000000000 ≤ n) (h1 : n ≤ 1000000000000) (k : Nat) (hk : 20 ≤ k) : spec_l1Num.f k n = some (tx (Lib.itoa n)) := by
  unfold Lib.itoa
  by_cases h : n < 0
  · obtain ⟨k, rfl⟩ := kpos (d := 0) (k := k) (by omega)
    have hu : n.natAbs < 10 ^ (17 + 1) := by
      have : n.natAbs < 1000000000000000000 := by omega
      exact this
    have hr := l1Num_nat 17 (by omega) k n.natAbs hu (by omega)
    have hl := dec_length 17 _ hu
    rw [if_pos h]
    unfold spec_l1Num.f
    rw [if_pos h, w64 (by omega) (by omega), show -n = ((n.natAbs : Nat) : Int) by omega, hr, Option.bind_some, if_pos (by rw [tx_size]; omega)]
    exact congrArg some (tx_append [45] _)
  · rw [if_neg h]
    have hu : n.toNat < 10 ^ (17 + 1) := by
      have : n.toNat < 1000000000000000000 := by omega
      exact this
    have hr := l1Num_nat 17 (by omega) k n.toNat hu (by omega)
    rw [show ((n.toNat : Nat) : Int) = n by omega] at hr
    exact hr
theorem decimal_ends (n : Int) (h0 : -1000000000000 ≤ n) (h1 : n ≤ 1000000000000) : impl_decimal.f n = some (tx (Lib.itoa n)) := by
  unfold impl_decimal.f strconv_Itoa.f
  rw [if_pos (by omega)]
  rfl
theorem itoa_length (n : Int) (h0 : -1000000000000 ≤ n) (h1 : n ≤ 1000000000000) : (Lib.itoa n).length ≤ 19 := by
  unfold Lib.itoa
  split
  · have := dec_length 17 n.natAbs (by show _ < 1000000000000000000; omega)
    simp only [List.length_cons]; omega
  · have := dec_length 17 n.toNat (by show _ < 1000000000000000000; omega)
    omega
end Go.Proofs.YtfindomajbjacaaGreatDoor.X
