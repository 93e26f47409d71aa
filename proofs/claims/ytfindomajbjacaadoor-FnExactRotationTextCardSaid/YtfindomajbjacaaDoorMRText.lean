/- The text of a rotation: the reference's sum of texts, the program's join of its calls' texts. -/
import Derived.Test.YtfindomajbjacaaDoorMRot
import Derived.Test.YtfindomajbjacaaDoorMNum
import Derived.Test.YtfindomajbjacaaDoorGJoin
import Derived.Test.YtfindomajbjacaaDoorFspecRotationText
import Derived.Test.YtfindomajbjacaaDoorFimplrotationText
import Derived.Lib.Join
namespace Go.Proofs.YtfindomajbjacaaDoor.X
open Go.RowKit Go.Proofs.YtfindomajbjacaaDoorW.PrintWords Go.Proofs.YtfindomajbjacaaDoorW.PrintLast
set_option linter.unusedVariables false
set_option linter.unusedSimpArgs false
def wsB : ByteArray := ⟨#[32]⟩
def colB : ByteArray := ⟨#[58]⟩
theorem wsB_size : wsB.size = 1 := rfl
theorem colB_size : colB.size = 1 := rfl
theorem join_snoc (l : List (List UInt8)) (y sep : List UInt8) (h : l ≠ []) : Lib.join (l ++ [y]) sep = Lib.join l sep ++ sep ++ y := by
  cases l with
  | nil => exact absurd rfl h
  | cons x r => simp [Lib.join_cons, Lib.joinTail]
theorem joinB_snoc (l : List ByteArray) (y : ByteArray) (h : l ≠ []) : joinB (l ++ [y]) wsB = (joinB l wsB ++ wsB) ++ y := by
  apply ByteArray.ext
  unfold joinB
  rw [List.map_append, List.map_cons, List.map_nil, join_snoc _ _ _ (by simpa using h)]
  simp [wsB]
theorem joinB_one (y : ByteArray) : joinB [y] wsB = y := by
  apply ByteArray.ext
  unfold joinB
  rw [List.map_cons, List.map_nil, Lib.join_one]
theorem app_assoc (a b c : ByteArray) : (a ++ b) ++ c = a ++ (b ++ c) := by
  apply ByteArray.ext
  simp [Array.append_assoc]
theorem app_empty (a : ByteArray) : (⟨#[]⟩ : ByteArray) ++ a = a := by
  apply ByteArray.ext
  simp
def partT (p d : Int) : ByteArray := (tx (Lib.itoa p) ++ colB) ++ tx (Lib.itoa d)
def partsT (ps ds : List Int) : Nat → List ByteArray
  | 0 => []
  | i + 1 => partsT ps ds i ++ [partT (ps.getD i 0) (ds.getD i 0)]
theorem partsT_length (ps ds : List Int) : ∀ i, (partsT ps ds i).length = i
  | 0 => rfl
  | i + 1 => by rw [partsT, List.length_append, partsT_length ps ds i]; rfl
def rotT (ps ds : List Int) (i : Nat) : ByteArray := joinB (partsT ps ds i) wsB
theorem rotT_zero (ps ds : List Int) : rotT ps ds 0 = ⟨#[]⟩ := rfl
theorem rotT_one (ps ds : List Int) : rotT ps ds 1 = partT (ps.getD 0 0) (ds.getD 0 0) := joinB_one _
theorem rotT_succ (ps ds : List Int) (i : Nat) (h : 0 < i) : rotT ps ds (i + 1) = (rotT ps ds i ++ wsB) ++ partT (ps.getD i 0) (ds.getD i 0) := by
  refine joinB_snoc _ _ ?_
  intro e
  have := congrArg List.length e
  rw [partsT_length, List.length_nil] at this
  omega
def smallL (l : List Int) : Prop := ∀ i, -1000000000000 ≤ l.getD i 0 ∧ l.getD i 0 ≤ 1000000000000
theorem partT_size (p d : Int) (hp : -1000000000000 ≤ p ∧ p ≤ 1000000000000) (hd : -1000000000000 ≤ d ∧ d ≤ 1000000000000) : (partT p d).size ≤ 39 := by
  have h1 := itoa_length p hp.1 hp.2
  have h2 := itoa_length d hd.1 hd.2
  unfold partT
  simp only [ByteArray.size_append, colB_size, tx_size]
  omega
theorem rotT_size (ps ds : List Int) (hp : smallL ps) (hd : smallL ds) : ∀ i, (rotT ps ds i).size ≤ 40 * i
  | 0 => by rw [rotT_zero]; exact Nat.le_refl 0
  | 1 => by rw [rotT_one]; have := partT_size _ _ (hp 0) (hd 0); omega
  | i + 2 => by
    have h1 := rotT_size ps ds hp hd (i + 1)
    have h2 := partT_size _ _ (hp (i + 1)) (hd (i + 1))
    rw [rotT_succ _ _ _ (by omega)]
    simp only [ByteArray.size_append, wsB_size]
    omega
theorem sz_facts (R X Y : ByteArray) (hR : R.size ≤ 50000000) (hX : X.size ≤ 19) (hY : Y.size ≤ 19) :
    R.size + 1 ≤ 9223372036854775807 ∧ (R ++ wsB).size + X.size ≤ 9223372036854775807 ∧ ((R ++ wsB) ++ X).size + 1 ≤ 9223372036854775807 ∧ (((R ++ wsB) ++ X) ++ colB).size + Y.size ≤ 9223372036854775807 ∧
    R.size + X.size ≤ 9223372036854775807 ∧ (R ++ X).size + 1 ≤ 9223372036854775807 ∧ ((R ++ X) ++ colB).size + Y.size ≤ 9223372036854775807 ∧ X.size + 1 ≤ 9223372036854775807 ∧ (X ++ colB).size + Y.size ≤ 9223372036854775807 := by
  simp only [ByteArray.size_append, wsB_size, colB_size]
  omega
theorem spec_rot_loop (ps ds : List Int) (hp : smallL ps) (hd : smallL ds) (hl : ps.length ≤ 1048576) (he : ds.length = ps.length) (d : Nat) : ∀ (k i : Nat), i + d = ps.length → d + 40 < k →
    spec_RotationText.l0 k (rotT ps ds i) (i : Int) ps ds = some (rotT ps ds ps.length, true) := by
  induction d with
  | zero =>
    intro k i hi hk
    obtain ⟨k, rfl⟩ := kpos (d := 0) (k := k) (by omega)
    obtain rfl : i = ps.length := by omega
    unfold spec_RotationText.l0
    rw [if_neg (by omega)]
  | succ d ih =>
    intro k i hi hk
    obtain ⟨k, rfl⟩ := kpos (d := 0) (k := k) (by omega)
    have hs := rotT_size ps ds hp hd i
    have hbig : ∀ j : Nat, j ≤ 1048576 → 40 * j ≤ 50000000 := fun j hj => by omega
    have h3 : ¬ (i : Int) > 0 → i = 0 := by intro h; omega
    have hpos : (i : Int) > 0 → rotT ps ds (i + 1) = (rotT ps ds i ++ wsB) ++ partT (ps.getD i 0) (ds.getD i 0) := fun h => rotT_succ _ _ _ (by omega)
    obtain ⟨p, hpe⟩ : ∃ p, ps.getD i 0 = p := ⟨_, rfl⟩
    obtain ⟨q, hqe⟩ : ∃ q, ds.getD i 0 = q := ⟨_, rfl⟩
    have hpb := hp i
    have hqb := hd i
    rw [hpe] at hpb
    rw [hqe] at hqb
    have z1 := itoa_length p hpb.1 hpb.2
    have z2 := itoa_length q hqb.1 hqb.2
    rw [← tx_size] at z1 z2
    have ih2 := ih k (i + 1) (by omega) (by omega)
    have n1 : (i : Int) < (ps.length : Int) := by omega
    have n2 : (i : Int) < (ds.length : Int) := by omega
    have n0 : (0 : Int) ≤ (i : Int) := by omega
    obtain ⟨f1, f2, f3, f4, g1, g2, g3, _, _⟩ := sz_facts (rotT ps ds i) (tx (Lib.itoa p)) (tx (Lib.itoa q)) (Nat.le_trans hs (hbig i (by omega))) z1 z2
    clear hs z1 z2
    have e1 := l1Num_ends p hpb.1 hpb.2 k (by omega)
    have e2 := l1Num_ends q hqb.1 hqb.2 k (by omega)
    have hw : wrap64 ((i : Int) + 1) = ((i + 1 : Nat) : Int) := wnext (n := i) (m := ps.length) (by omega) (by omega)
    unfold spec_RotationText.l0
    rw [if_pos n1, rd_nat ps i, rd_nat ds i, hpe, hqe, e1, e2, hw, show (⟨#[32]⟩ : ByteArray) = wsB from rfl, show (⟨#[58]⟩ : ByteArray) = colB from rfl]
    rw [Option.bind_some, Option.bind_some, Option.bind_some, Option.bind_some]
    by_cases h0 : (i : Int) > 0
    · rw [if_pos h0, if_pos f1, if_pos n0, if_pos f2, if_pos f3, if_pos n2, if_pos f4]
      rw [show (((rotT ps ds i ++ wsB) ++ tx (Lib.itoa p)) ++ colB) ++ tx (Lib.itoa q) = rotT ps ds (i + 1) by rw [hpos h0, hpe, hqe]; unfold partT; rw [app_assoc, app_assoc, app_assoc (tx (Lib.itoa p))]]
      exact ih2
    · rw [if_neg h0, if_pos n0, if_pos g1, if_pos g2, if_pos n2, if_pos g3]
      obtain rfl := h3 h0
      rw [show ((rotT ps ds 0 ++ tx (Lib.itoa p)) ++ colB) ++ tx (Lib.itoa q) = rotT ps ds (0 + 1) by rw [rotT_zero, app_empty, rotT_one, hpe, hqe]; rfl]
      exact ih2
theorem impl_rot_loop (ps ds : List Int) (hp : smallL ps) (hd : smallL ds) (hl : ps.length ≤ 1048576) (he : ds.length = ps.length) (d : Nat) : ∀ (k i : Nat), i + d = ps.length → d < k →
    impl_rotationText.l0 k (partsT ps ds i) ps (ps.length : Int) (i : Int) ps ds = some (rotT ps ds ps.length) := by
  induction d with
  | zero =>
    intro k i hi hk
    obtain ⟨k, rfl⟩ := kpos (d := 0) (k := k) (by omega)
    obtain rfl : i = ps.length := by omega
    have hs := Nat.le_trans (rotT_size ps ds hp hd ps.length) (show 40 * ps.length ≤ 140737488355328 by omega)
    have hj : strings_Join.f (partsT ps ds ps.length) wsB = some (rotT ps ds ps.length) := by
      unfold strings_Join.f
      rw [if_pos ⟨by rw [partsT_length]; omega, hs⟩]
      rfl
    unfold impl_rotationText.l0
    rw [if_neg (by omega), show (⟨#[32]⟩ : ByteArray) = wsB from rfl, hj, Option.bind_some]
  | succ d ih =>
    intro k i hi hk
    obtain ⟨k, rfl⟩ := kpos (d := 0) (k := k) (by omega)
    obtain ⟨p, hpe⟩ : ∃ p, ps.getD i 0 = p := ⟨_, rfl⟩
    obtain ⟨q, hqe⟩ : ∃ q, ds.getD i 0 = q := ⟨_, rfl⟩
    have hpb := hp i
    have hqb := hd i
    rw [hpe] at hpb
    rw [hqe] at hqb
    have z1 := itoa_length p hpb.1 hpb.2
    have z2 := itoa_length q hqb.1 hqb.2
    rw [← tx_size] at z1 z2
    have ih2 := ih k (i + 1) (by omega) (by omega)
    have n1 : (i : Int) < (ps.length : Int) := by omega
    have n2 : (i : Int) < (ds.length : Int) := by omega
    have n0 : (0 : Int) ≤ (i : Int) := by omega
    have hpl := partsT_length ps ds i
    obtain ⟨_, _, _, _, _, _, _, f1, f2⟩ := sz_facts ByteArray.empty (tx (Lib.itoa p)) (tx (Lib.itoa q)) (by decide) z1 z2
    clear z1 z2
    have f3 : (partsT ps ds i).length < 8796093022208 := by omega
    have hw : wrap64 ((i : Int) + 1) = ((i + 1 : Nat) : Int) := wnext (n := i) (m := ps.length) (by omega) (by omega)
    unfold impl_rotationText.l0
    rw [if_pos n1, if_pos n0, if_pos n1, rd_nat ps i, rd_nat ds i, hpe, hqe, decimal_ends p hpb.1 hpb.2, decimal_ends q hqb.1 hqb.2, hw, show (⟨#[58]⟩ : ByteArray) = colB from rfl, Option.bind_some, Option.bind_some]
    rw [if_pos f1, if_pos n2, if_pos f2, if_pos f3]
    rw [show partsT ps ds i ++ [(tx (Lib.itoa p) ++ colB) ++ tx (Lib.itoa q)] = partsT ps ds (i + 1) by rw [partsT, hpe, hqe]; rfl]
    exact ih2
end Go.Proofs.YtfindomajbjacaaDoor.X
