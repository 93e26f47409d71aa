/- One changed byte in a text with its sum behind it: it is no such text any more. -/
import Derived.Test.YtnifjoobkojgiaaDoorMSeal
import Derived.Test.YtnifjoobkojgiaaDoorMParse
namespace Go.Proofs.YtnifjoobkojgiaaDoor.X
open Go.RowKit Go.Proofs.YtnifjoobkojgiaaDoorW.PrintWords Go.Proofs.YtnifjoobkojgiaaDoorW.PrintLast
set_option linter.unusedVariables false
set_option linter.unusedSimpArgs false
theorem sum_inj : ∀ (l : List UInt8) (g h : Int), 0 ≤ g → g ≤ 999978 → 0 ≤ h → h ≤ 999978 → sumL l g = sumL l h → g = h
  | [], g, h, _, _, _, _, e => e
  | b :: r, g, h, g0, g1, h0, h1, e => by
    have hb := UInt8.toNat_lt b
    have a0 := Int.emod_nonneg (41 * g + (b.toNat : Int) + 1) (show (999979 : Int) ≠ 0 by omega)
    have a1 := Int.emod_lt_of_pos (41 * g + (b.toNat : Int) + 1) (show (0 : Int) < 999979 by omega)
    have b0 := Int.emod_nonneg (41 * h + (b.toNat : Int) + 1) (show (999979 : Int) ≠ 0 by omega)
    have b1 := Int.emod_lt_of_pos (41 * h + (b.toNat : Int) + 1) (show (0 : Int) < 999979 by omega)
    have e1 := sum_inj r _ _ a0 (by omega) b0 (by omega) e
    clear a0 a1 b0 b1 e
    omega
theorem sum_app : ∀ (a b : List UInt8) (h : Int), sumL (a ++ b) h = sumL b (sumL a h)
  | [], b, h => rfl
  | c :: a, b, h => sum_app a b _
theorem sum_one (a b : List UInt8) (c d : UInt8) (hne : c ≠ d) : sumL (a ++ c :: b) 7 ≠ sumL (a ++ d :: b) 7 := by
  intro e
  rw [sum_app, sum_app] at e
  obtain ⟨g0, g1⟩ := sumL_range a 7 (by omega) (by omega)
  obtain ⟨g, hg⟩ : ∃ g, sumL a 7 = g := ⟨_, rfl⟩
  rw [hg] at e g0 g1
  have hc := UInt8.toNat_lt c
  have hd := UInt8.toNat_lt d
  have a0 := Int.emod_nonneg (41 * g + (c.toNat : Int) + 1) (show (999979 : Int) ≠ 0 by omega)
  have a1 := Int.emod_lt_of_pos (41 * g + (c.toNat : Int) + 1) (show (0 : Int) < 999979 by omega)
  have b0 := Int.emod_nonneg (41 * g + (d.toNat : Int) + 1) (show (999979 : Int) ≠ 0 by omega)
  have b1 := Int.emod_lt_of_pos (41 * g + (d.toNat : Int) + 1) (show (0 : Int) < 999979 by omega)
  have e1 := sum_inj b _ _ a0 (by omega) b0 (by omega) e
  have : c.toNat = d.toNat := by clear a0 a1 b0 b1 e; omega
  exact hne (UInt8.toNat_inj.1 this)
/-- The digits of a sum. -/
def decS (X : List UInt8) : List UInt8 := Lib.decDigits (sumL X 7).toNat
theorem decS_lt (X : List UInt8) : (sumL X 7).toNat < 10 ^ (5 + 1) := by
  obtain ⟨h0, h1⟩ := sumL_range X 7 (by omega) (by omega)
  show _ < 1000000
  omega
theorem decS_itoa (X : List UInt8) : Lib.itoa (sumL X 7) = decS X := by
  obtain ⟨h0, h1⟩ := sumL_range X 7 (by omega) (by omega)
  unfold Lib.itoa decS
  rw [if_neg (by omega)]
theorem decS_no (X : List UInt8) : (35 : UInt8) ∉ decS X := by
  intro h
  have := (dec_facts 5 _ (decS_lt X)).1
  rw [List.all_eq_true] at this
  have := this 35 h
  revert this
  decide
theorem decS_inj {X Y : List UInt8} (h : decS X = decS Y) : sumL X 7 = sumL Y 7 := by
  have h1 := (dec_facts 5 _ (decS_lt X)).2.1
  have h2 := (dec_facts 5 _ (decS_lt Y)).2.1
  obtain ⟨x0, x1⟩ := sumL_range X 7 (by omega) (by omega)
  obtain ⟨y0, y1⟩ := sumL_range Y 7 (by omega) (by omega)
  unfold decS at h
  rw [h, h2] at h1
  omega
theorem at_mid (X D : List UInt8) (c : UInt8) : (X ++ c :: D)[X.length]? = some c := by
  rw [List.getElem?_append_right (Nat.le_refl _), Nat.sub_self]; rfl
theorem at_tail (X D : List UInt8) (c : UInt8) (i : Nat) (h : X.length < i) : (X ++ c :: D)[i]? = D[i - X.length - 1]? := by
  rw [List.getElem?_append_right (by omega)]
  obtain ⟨j, hj⟩ : ∃ j, i - X.length = j + 1 := ⟨i - X.length - 1, by omega⟩
  rw [hj]; rfl
theorem at_head (X D : List UInt8) (c : UInt8) (i : Nat) (h : i < X.length) : (X ++ c :: D)[i]? = X[i]? := List.getElem?_append_left h
theorem one_byte (X Y : List UInt8) (hX : (35 : UInt8) ∉ X) (hY : (35 : UInt8) ∉ Y) (k : Nat) (b : UInt8) (hk : k < (X ++ 35 :: decS X).length) (hb : (X ++ 35 :: decS X)[k]? ≠ some b) : Y ++ 35 :: decS Y ≠ (X ++ 35 :: decS X).set k b := by
  intro e
  have at_ : ∀ i, i ≠ k → (Y ++ 35 :: decS Y)[i]? = (X ++ 35 :: decS X)[i]? := by
    intro i hi
    rw [e, List.getElem?_set_ne (by omega)]
  rcases Nat.lt_trichotomy X.length Y.length with h | h | h
  · by_cases hk2 : X.length = k
    · have h1 := at_ Y.length (by omega)
      rw [at_mid, at_tail _ _ _ _ h] at h1
      exact decS_no X (List.mem_of_getElem? h1.symm)
    · have h1 := at_ X.length hk2
      rw [at_mid, at_head _ _ _ _ h] at h1
      exact hY (List.mem_of_getElem? h1)
  · rcases Nat.lt_trichotomy k X.length with h2 | h2 | h2
    · rw [List.set_append_left _ _ h2] at e
      obtain ⟨e1, e2⟩ := List.append_inj e (by rw [List.length_set]; omega)
      simp only [List.cons.injEq, true_and] at e2
      have hs := decS_inj e2
      rw [at_head _ _ _ _ h2] at hb
      have hx : X = X.take k ++ X[k] :: X.drop (k + 1) := by rw [List.getElem_cons_drop, List.take_append_drop]
      have hy : Y = X.take k ++ b :: X.drop (k + 1) := by rw [e1, List.set_eq_take_append_cons_drop, if_pos h2]
      rw [hy] at hs
      rw [hx] at hs
      have hlen : (X.take k).length = k := by rw [List.length_take]; omega
      have hne : b ≠ X[k] := fun z => hb (by rw [List.getElem?_eq_getElem h2, z])
      refine sum_one _ _ _ _ hne (hs.trans ?_)
      rw [← hx]
      exact congrArg (fun z => sumL z 7) hx
    · rw [h2, List.set_append_right _ _ (Nat.le_refl _), Nat.sub_self] at e
      obtain ⟨e1, e2⟩ := List.append_inj e h.symm
      rw [List.set_cons_zero] at e2
      simp only [List.cons.injEq] at e2
      rw [h2, at_mid] at hb
      exact hb (by rw [e2.1])
    · rw [List.set_append_right _ _ (by omega)] at e
      obtain ⟨e1, e2⟩ := List.append_inj e h.symm
      obtain ⟨j, hj⟩ : ∃ j, k - X.length = j + 1 := ⟨k - X.length - 1, by omega⟩
      rw [hj, List.set_cons_succ] at e2
      simp only [List.cons.injEq, true_and] at e2
      rw [e1] at e2
      rw [at_tail _ _ _ _ h2] at hb
      have hjl : j < (decS X).length := by
        rw [List.length_append, List.length_cons] at hk
        omega
      have : (decS X)[j]? = some b := by
        rw [e2, List.getElem?_set_self]
        exact hjl
      rw [show k - X.length - 1 = j by omega] at hb
      exact hb this
  · by_cases hk2 : Y.length = k
    · have h1 := at_ X.length (by omega)
      rw [at_mid, at_tail _ _ _ _ h] at h1
      exact decS_no Y (List.mem_of_getElem? h1)
    · have h1 := at_ Y.length hk2
      rw [at_mid, at_head _ _ _ _ h] at h1
      exact hX (List.mem_of_getElem? h1.symm)
end Go.Proofs.YtnifjoobkojgiaaDoor.X
