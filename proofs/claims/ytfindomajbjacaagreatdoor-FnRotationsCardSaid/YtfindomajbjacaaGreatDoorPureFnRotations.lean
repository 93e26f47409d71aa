/- The law FnRotations answers true for every code. No condition beyond the form's own. -/
import Derived.Test.YtfindomajbjacaaGreatDoorFlawsFnRotations
import Derived.Test.YtfindomajbjacaaGreatDoorOpen
import Derived.Test.YtfindomajbjacaaGreatDoorMRotM
import Derived.Test.YtfindomajbjacaaGreatDoorGl3Good
import Derived.Test.YtfindomajbjacaaGreatDoorGIsValidRotation
import Derived.Test.YtfindomajbjacaaGreatDoorFspecl3Asked
import Derived.Test.YtfindomajbjacaaGreatDoorGisCall
import Derived.Test.YtfindomajbjacaaGreatDoorMNum
import Derived.Test.YtfindomajbjacaaGreatDoorGJoin
import Derived.Test.YtfindomajbjacaaGreatDoorFspecRotationText
import Derived.Test.YtfindomajbjacaaGreatDoorFimplrotationText
import Derived.Lib.Join
import Derived.Test.YtfindomajbjacaaGreatDoorMBs
import Derived.Test.YtfindomajbjacaaGreatDoorFspecl1Split
import Derived.Lib.SplitLaws
import Derived.Lib.IndexLaws
import Derived.Test.YtfindomajbjacaaGreatDoorGSplit
import Derived.Test.YtfindomajbjacaaGreatDoorGParseInt
import Derived.Test.YtfindomajbjacaaGreatDoorFspecl1Read
import Derived.Lib.ItoaMem
import Derived.Test.YtfindomajbjacaaGreatDoorGCut
import Derived.Test.YtfindomajbjacaaGreatDoorFspecParseRotation
import Derived.Test.YtfindomajbjacaaGreatDoorFimplParseRotation
import Derived.Test.YtfindomajbjacaaGreatDoorMBase
import Derived.Test.YtfindomajbjacaaGreatDoorFbList
import Derived.Test.YtfindomajbjacaaGreatDoorGClone
import Derived.Test.YtfindomajbjacaaGreatDoorFbTurn
import Derived.Test.YtfindomajbjacaaGreatDoorFspecSameCycle
import Derived.Test.YtfindomajbjacaaGreatDoorFimplSameCycle
import Derived.Test.YtfindomajbjacaaGreatDoorFimplCycleDays
import Derived.Test.YtfindomajbjacaaGreatDoorFspecTurnRotation
import Derived.Test.YtfindomajbjacaaGreatDoorFimplTurnRotation
import Derived.Test.YtfindomajbjacaaGreatDoorFimplRotationText
import Derived.Test.YtfindomajbjacaaGreatDoorFbCur
import Derived.Test.YtfindomajbjacaaGreatDoorGspoilt
import Derived.Laws.BitsAllLaws
import Derived.Laws.Bits64
import Derived.Test.YtfindomajbjacaaGreatDoorFspecl1Currotation
import Derived.Test.YtfindomajbjacaaGreatDoorFspecl1CuranyRotation
import Derived.Test.YtfindomajbjacaaGreatDoorFspecl1Curcall
import Derived.Test.YtfindomajbjacaaGreatDoorFspecDrawSameCycle
import Derived.Test.YtfindomajbjacaaGreatDoorFspecDrawTurnRotation
import Derived.Test.YtfindomajbjacaaGreatDoorFspecDrawParseRotation
-- Written by a program of ours (wip/bin/rows.py). Not trusted: Lean checks it.
namespace Go.Proofs.YtfindomajbjacaaGreatDoor.X
open Go.RowKit Go.Proofs.YtfindomajbjacaaGreatDoorW.PrintWords Go.Proofs.YtfindomajbjacaaGreatDoorW.PrintLast
/-- The law's one pure statement. -/
def lw.Pure : Prop := ∀ (l0 : (List Int)), (WL WU8) l0 → ∃ k, lw.f k l0 = some true
end Go.Proofs.YtfindomajbjacaaGreatDoor.X
/- What the printed functions on rotations come to: is a rotation valid, the way between two calls, the next call at a port. -/
namespace Go.Proofs.YtfindomajbjacaaGreatDoor.X
open Go.RowKit Go.Proofs.YtfindomajbjacaaGreatDoorW.PrintWords Go.Proofs.YtfindomajbjacaaGreatDoorW.PrintLast
set_option linter.unusedVariables false
set_option linter.unusedSimpArgs false

theorem spec_goodR (ps ds : List Int) (k : Nat) (hk : 15 ≤ k) : spec_l3Good.f k ps ds = some (goodR ps ds) := rfl
theorem impl_goodR (ps ds : List Int) (k : Nat) (hk : 15 ≤ k) : impl_IsValidRotation.f k ps ds = some (goodR ps ds) := rfl

theorem goodR_len {ps ds : List Int} (h : goodR ps ds = true) : 1 ≤ ps.length ∧ ps.length ≤ 12 ∧ ds.length = ps.length := by
  unfold goodR at h
  simp only [Bool.and_eq_true, inB_iff, decide_eq_true_eq] at h
  omega
theorem okFromR_at {ps ds : List Int} (d : Nat) : ∀ i, okFromR ps ds d i = true → ∀ j, i ≤ j → j < i + d → okCall ps ds j = true := by
  induction d with
  | zero => intro i _ j h1 h2; omega
  | succ d ih =>
    intro i h j h1 h2
    simp only [okFromR, Bool.and_eq_true] at h
    by_cases e : j = i
    · rw [e]; exact h.1
    · exact ih (i + 1) h.2 j (by omega) (by omega)
theorem goodR_call {ps ds : List Int} (h : goodR ps ds = true) (i : Nat) (hi : i < ps.length) : okCall ps ds i = true := by
  unfold goodR at h
  simp only [Bool.and_eq_true] at h
  exact okFromR_at ps.length 0 h.2 i (by omega) (by omega)
theorem goodR_at {ps ds : List Int} (h : goodR ps ds = true) (i : Nat) (hi : i < ps.length) : 1 ≤ ps.getD i 0 ∧ ps.getD i 0 ≤ 9 ∧ 1 ≤ ds.getD i 0 ∧ ds.getD i 0 ≤ 40 := by
  have := goodR_call h i hi
  unfold okCall at this
  simp only [Bool.and_eq_true, inB_iff] at this
  omega
theorem okFromR_mk {ps ds : List Int} (d : Nat) : ∀ i, (∀ j, i ≤ j → j < i + d → okCall ps ds j = true) → okFromR ps ds d i = true := by
  induction d with
  | zero => intro i _; rfl
  | succ d ih =>
    intro i h
    simp only [okFromR, Bool.and_eq_true]
    exact ⟨h i (by omega) (by omega), ih (i + 1) (fun j h1 h2 => h j (by omega) (by omega))⟩

/-- Is a rotation valid, and are the numbers calls of it? -/
def callB (ps ds : List Int) (i : Int) : Bool := goodR ps ds && inB i 0 ((ps.length : Int) - 1)
theorem isCall_ends (ps ds l : List Int) (k : Nat) (hk : 15 ≤ k) : impl_isCall.f k ps ds l = some (goodR ps ds && l.all fun x => inB x 0 ((ps.length : Int) - 1)) := by
  unfold impl_isCall.f
  rw [impl_goodR _ _ _ hk]
  simp only [Option.bind_some]
  cases goodR ps ds with
  | false => rfl
  | true =>
    simp only [if_true, Bool.true_and]
    congr 1
    rw [Bool.eq_iff_iff]
    simp
theorem isCall_one (ps ds : List Int) (i : Int) (k : Nat) (hk : 15 ≤ k) : impl_isCall.f k ps ds [i] = some (callB ps ds i) := by
  rw [isCall_ends _ _ _ _ hk]
  simp [callB]
theorem isCall_two (ps ds : List Int) (i j : Int) (k : Nat) (hk : 15 ≤ k) : impl_isCall.f k ps ds [i, j] = some (callB ps ds i && callB ps ds j) := by
  rw [isCall_ends _ _ _ _ hk]
  simp only [callB, List.all_cons, List.all_nil, Bool.and_true]
  cases goodR ps ds <;> simp
theorem asked_ends (ps ds : List Int) (i : Int) (k : Nat) (hk : 15 ≤ k) : spec_l3Asked.f k ps ds i = some (callB ps ds i) := by
  unfold spec_l3Asked.f callB
  rw [spec_goodR _ _ _ hk]
  simp only [Option.bind_some, l1In_ends]
  cases hg : goodR ps ds with
  | false => rfl
  | true =>
    have := goodR_len hg
    rw [if_pos rfl, w64 (by omega) (by omega)]
    rfl
theorem callB_nat {ps ds : List Int} {i : Int} (h : callB ps ds i = true) : goodR ps ds = true ∧ ∃ n : Nat, i = (n : Int) ∧ n < ps.length := by
  unfold callB at h
  rw [Bool.and_eq_true, inB_iff] at h
  exact ⟨h.1, i.toNat, by omega, by omega⟩
end Go.Proofs.YtfindomajbjacaaGreatDoor.X
/- The text of a rotation: the reference's sum of texts, the program's join of its calls' texts. -/
namespace Go.Proofs.YtfindomajbjacaaGreatDoor.X
open Go.RowKit Go.Proofs.YtfindomajbjacaaGreatDoorW.PrintWords Go.Proofs.YtfindomajbjacaaGreatDoorW.PrintLast
set_option linter.unusedVariables false
set_option linter.unusedSimpArgs false
def wsB : ByteArray := ⟨#[32]⟩
def colB : ByteArray := ⟨#[58]⟩
theorem wsB_size : wsB.size = 1 := rfl
theorem colB_size : colB.size = 1 := rfl
theorem join_snoc (l : List (List UInt8)) (y sep : List UInt8) (h : l ≠ []) : Lib.join (l ++ [y]) sep = Lib.join l sep ++ sep ++ y := by
  cases l with
  | nil => exact absurd rfl h
  | cons x r => simp [Lib.join_cons, Lib.joinTail]
theorem joinB_snoc (l : List ByteArray) (y : ByteArray) (h : l ≠ []) : joinB (l ++ [y]) wsB = (joinB l wsB ++ wsB) ++ y := by
  apply ByteArray.ext
  unfold joinB
  rw [List.map_append, List.map_cons, List.map_nil, join_snoc _ _ _ (by simpa using h)]
  simp [wsB]
theorem joinB_one (y : ByteArray) : joinB [y] wsB = y := by
  apply ByteArray.ext
  unfold joinB
  rw [List.map_cons, List.map_nil, Lib.join_one]
theorem app_assoc (a b c : ByteArray) : (a ++ b) ++ c = a ++ (b ++ c) := by
  apply ByteArray.ext
  simp [Array.append_assoc]
theorem app_empty (a : ByteArray) : (⟨#[]⟩ : ByteArray) ++ a = a := by
  apply ByteArray.ext
  simp
def partT (p d : Int) : ByteArray := (tx (Lib.itoa p) ++ colB) ++ tx (Lib.itoa d)
def partsT (ps ds : List Int) : Nat → List ByteArray
  | 0 => []
  | i + 1 => partsT ps ds i ++ [partT (ps.getD i 0) (ds.getD i 0)]
theorem partsT_length (ps ds : List Int) : ∀ i, (partsT ps ds i).length = i
  | 0 => rfl
  | i + 1 => by rw [partsT, List.length_append, partsT_length ps ds i]; rfl
def rotT (ps ds : List Int) (i : Nat) : ByteArray := joinB (partsT ps ds i) wsB
theorem rotT_zero (ps ds : List Int) : rotT ps ds 0 = ⟨#[]⟩ := rfl
theorem rotT_one (ps ds : List Int) : rotT ps ds 1 = partT (ps.getD 0 0) (ds.getD 0 0) := joinB_one _
theorem rotT_succ (ps ds : List Int) (i : Nat) (h : 0 < i) : rotT ps ds (i + 1) = (rotT ps ds i ++ wsB) ++ partT (ps.getD i 0) (ds.getD i 0) := by
  refine joinB_snoc _ _ ?_
  intro e
  have := congrArg List.length e
  rw [partsT_length, List.length_nil] at this
  omega
def smallL (l : List Int) : Prop := ∀ i, -1000000000000 ≤ l.getD i 0 ∧ l.getD i 0 ≤ 1000000000000
theorem partT_size (p d : Int) (hp : -1000000000000 ≤ p ∧ p ≤ 1000000000000) (hd : -1000000000000 ≤ d ∧ d ≤ 1000000000000) : (partT p d).size ≤ 39 := by
  have h1 := itoa_length p hp.1 hp.2
  have h2 := itoa_length d hd.1 hd.2
  unfold partT
  simp only [ByteArray.size_append, colB_size, tx_size]
  omega
theorem rotT_size (ps ds : List Int) (hp : smallL ps) (hd : smallL ds) : ∀ i, (rotT ps ds i).size ≤ 40 * i
  | 0 => by rw [rotT_zero]; exact Nat.le_refl 0
  | 1 => by rw [rotT_one]; have := partT_size _ _ (hp 0) (hd 0); omega
  | i + 2 => by
    have h1 := rotT_size ps ds hp hd (i + 1)
    have h2 := partT_size _ _ (hp (i + 1)) (hd (i + 1))
    rw [rotT_succ _ _ _ (by omega)]
    simp only [ByteArray.size_append, wsB_size]
    omega
theorem sz_facts (R X Y : ByteArray) (hR : R.size ≤ 50000000) (hX : X.size ≤ 19) (hY : Y.size ≤ 19) :
    R.size + 1 ≤ 9223372036854775807 ∧ (R ++ wsB).size + X.size ≤ 9223372036854775807 ∧ ((R ++ wsB) ++ X).size + 1 ≤ 9223372036854775807 ∧ (((R ++ wsB) ++ X) ++ colB).size + Y.size ≤ 9223372036854775807 ∧
    R.size + X.size ≤ 9223372036854775807 ∧ (R ++ X).size + 1 ≤ 9223372036854775807 ∧ ((R ++ X) ++ colB).size + Y.size ≤ 9223372036854775807 ∧ X.size + 1 ≤ 9223372036854775807 ∧ (X ++ colB).size + Y.size ≤ 9223372036854775807 := by
  simp only [ByteArray.size_append, wsB_size, colB_size]
  omega
theorem spec_rot_loop (ps ds : List Int) (hp : smallL ps) (hd : smallL ds) (hl : ps.length ≤ 1048576) (he : ds.length = ps.length) (d : Nat) : ∀ (k i : Nat), i + d = ps.length → 2 * d + 40 < k →
    spec_RotationText.l0 k (rotT ps ds i) (i : Int) ps ds = some (rotT ps ds ps.length, true) := by
  induction d with
  | zero =>
    intro k i hi hk
    obtain ⟨k, rfl⟩ := kpos (d := 0) (k := k) (by omega)
    obtain rfl : i = ps.length := by omega
    unfold spec_RotationText.l0
    rw [if_neg (by omega)]
  | succ d ih =>
    intro k i hi hk
    obtain ⟨k, rfl⟩ : ∃ q, k = q + 2 := ⟨k - 2, by omega⟩
    have hs := rotT_size ps ds hp hd i
    have hbig : ∀ j : Nat, j ≤ 1048576 → 40 * j ≤ 50000000 := fun j hj => by omega
    have h3 : ¬ (i : Int) > 0 → i = 0 := by intro h; omega
    have hpos : (i : Int) > 0 → rotT ps ds (i + 1) = (rotT ps ds i ++ wsB) ++ partT (ps.getD i 0) (ds.getD i 0) := fun h => rotT_succ _ _ _ (by omega)
    obtain ⟨p, hpe⟩ : ∃ p, ps.getD i 0 = p := ⟨_, rfl⟩
    obtain ⟨q, hqe⟩ : ∃ q, ds.getD i 0 = q := ⟨_, rfl⟩
    have hpb := hp i
    have hqb := hd i
    rw [hpe] at hpb
    rw [hqe] at hqb
    have z1 := itoa_length p hpb.1 hpb.2
    have z2 := itoa_length q hqb.1 hqb.2
    rw [← tx_size] at z1 z2
    have ih2 := ih k (i + 1) (by omega) (by omega)
    have n1 : (i : Int) < (ps.length : Int) := by omega
    have n2 : (i : Int) < (ds.length : Int) := by omega
    have n0 : (0 : Int) ≤ (i : Int) := by omega
    obtain ⟨f1, f2, f3, f4, g1, g2, g3, _, _⟩ := sz_facts (rotT ps ds i) (tx (Lib.itoa p)) (tx (Lib.itoa q)) (Nat.le_trans hs (hbig i (by omega))) z1 z2
    clear hs z1 z2
    have e1 := l1Num_ends p hpb.1 hpb.2 k (by omega)
    have e2 := l1Num_ends q hqb.1 hqb.2 k (by omega)
    have hw : wrap64 ((i : Int) + 1) = ((i + 1 : Nat) : Int) := wnext (n := i) (m := ps.length) (by omega) (by omega)
    unfold spec_RotationText.l0
    rw [if_pos n1, show (⟨#[32]⟩ : ByteArray) = wsB from rfl]
    by_cases h0 : (i : Int) > 0
    · rw [if_pos h0, if_pos f1, spec_RotationText.j1, if_pos n0, if_pos n1, rd_nat ps i, rd_nat ds i, hpe, hqe, e1, e2, hw, show (⟨#[58]⟩ : ByteArray) = colB from rfl, Option.bind_some, if_pos f2, if_pos f3, if_pos n2, Option.bind_some, if_pos f4]
      rw [show (((rotT ps ds i ++ wsB) ++ tx (Lib.itoa p)) ++ colB) ++ tx (Lib.itoa q) = rotT ps ds (i + 1) by rw [hpos h0, hpe, hqe]; unfold partT; rw [app_assoc, app_assoc, app_assoc (tx (Lib.itoa p))]]
      exact ih2
    · rw [if_neg h0, spec_RotationText.j1, if_pos n0, if_pos n1, rd_nat ps i, rd_nat ds i, hpe, hqe, e1, e2, hw, show (⟨#[58]⟩ : ByteArray) = colB from rfl, Option.bind_some, if_pos g1, if_pos g2, if_pos n2, Option.bind_some, if_pos g3]
      obtain rfl := h3 h0
      rw [show ((rotT ps ds 0 ++ tx (Lib.itoa p)) ++ colB) ++ tx (Lib.itoa q) = rotT ps ds (0 + 1) by rw [rotT_zero, app_empty, rotT_one, hpe, hqe]; rfl]
      exact ih2
theorem impl_rot_loop (ps ds : List Int) (hp : smallL ps) (hd : smallL ds) (hl : ps.length ≤ 1048576) (he : ds.length = ps.length) (d : Nat) : ∀ (k i : Nat), i + d = ps.length → d < k →
    impl_rotationText.l0 k (partsT ps ds i) ps (ps.length : Int) (i : Int) ps ds = some (rotT ps ds ps.length) := by
  induction d with
  | zero =>
    intro k i hi hk
    obtain ⟨k, rfl⟩ := kpos (d := 0) (k := k) (by omega)
    obtain rfl : i = ps.length := by omega
    have hs := Nat.le_trans (rotT_size ps ds hp hd ps.length) (show 40 * ps.length ≤ 140737488355328 by omega)
    have hj : strings_Join.f (partsT ps ds ps.length) wsB = some (rotT ps ds ps.length) := by
      unfold strings_Join.f
      rw [if_pos ⟨by rw [partsT_length]; omega, hs⟩]
      rfl
    unfold impl_rotationText.l0
    rw [if_neg (by omega), show (⟨#[32]⟩ : ByteArray) = wsB from rfl, hj, Option.bind_some]
  | succ d ih =>
    intro k i hi hk
    obtain ⟨k, rfl⟩ := kpos (d := 0) (k := k) (by omega)
    obtain ⟨p, hpe⟩ : ∃ p, ps.getD i 0 = p := ⟨_, rfl⟩
    obtain ⟨q, hqe⟩ : ∃ q, ds.getD i 0 = q := ⟨_, rfl⟩
    have hpb := hp i
    have hqb := hd i
    rw [hpe] at hpb
    rw [hqe] at hqb
    have z1 := itoa_length p hpb.1 hpb.2
    have z2 := itoa_length q hqb.1 hqb.2
    rw [← tx_size] at z1 z2
    have ih2 := ih k (i + 1) (by omega) (by omega)
    have n1 : (i : Int) < (ps.length : Int) := by omega
    have n2 : (i : Int) < (ds.length : Int) := by omega
    have n0 : (0 : Int) ≤ (i : Int) := by omega
    have hpl := partsT_length ps ds i
    obtain ⟨_, _, _, _, _, _, _, f1, f2⟩ := sz_facts ByteArray.empty (tx (Lib.itoa p)) (tx (Lib.itoa q)) (by decide) z1 z2
    clear z1 z2
    have f3 : (partsT ps ds i).length < 8796093022208 := by omega
    have hw : wrap64 ((i : Int) + 1) = ((i + 1 : Nat) : Int) := wnext (n := i) (m := ps.length) (by omega) (by omega)
    unfold impl_rotationText.l0
    rw [if_pos n1, if_pos n0, if_pos n1, rd_nat ps i, rd_nat ds i, hpe, hqe, decimal_ends p hpb.1 hpb.2, decimal_ends q hqb.1 hqb.2, hw, show (⟨#[58]⟩ : ByteArray) = colB from rfl, Option.bind_some, Option.bind_some]
    rw [if_pos f1, if_pos n2, if_pos f2, if_pos f3]
    rw [show partsT ps ds i ++ [(tx (Lib.itoa p) ++ colB) ++ tx (Lib.itoa q)] = partsT ps ds (i + 1) by rw [partsT, hpe, hqe]; rfl]
    exact ih2
end Go.Proofs.YtfindomajbjacaaGreatDoor.X
/- A text cut at each sign of one byte: the reference's loop, the library's pieces, the first piece. -/
namespace Go.Proofs.YtfindomajbjacaaGreatDoor.X
open Go.RowKit Go.Proofs.YtfindomajbjacaaGreatDoorW.PrintWords Go.Proofs.YtfindomajbjacaaGreatDoorW.PrintLast
set_option linter.unusedVariables false
set_option linter.unusedSimpArgs false
def preH (p : List UInt8) : List (List UInt8) → List (List UInt8)
  | [] => [p]
  | h :: t => (p ++ h) :: t
def splitL (c : UInt8) : List UInt8 → List (List UInt8)
  | [] => [[]]
  | b :: r => if b = c then [] :: splitL c r else preH [b] (splitL c r)
theorem splitL_some (c : UInt8) : ∀ l, ∃ h t, splitL c l = h :: t
  | [] => ⟨[], [], rfl⟩
  | b :: r => by
    obtain ⟨h, t, e⟩ := splitL_some c r
    unfold splitL
    split
    · exact ⟨_, _, rfl⟩
    · rw [e]; exact ⟨_, _, rfl⟩
theorem indexByte_cons (b c : UInt8) (l : List UInt8) : Lib.indexByte (b :: l) c = if (b == c) = true then 0 else if (Lib.indexByte l c == -1) = true then -1 else Lib.indexByte l c + 1 := rfl
theorem splitL_miss (c : UInt8) : ∀ l, Lib.indexByte l c = -1 → splitL c l = [l]
  | [], _ => rfl
  | b :: r, h => by
    rw [indexByte_cons] at h
    by_cases h1 : (b == c) = true
    · rw [if_pos h1] at h; omega
    · rw [if_neg h1] at h
      by_cases h2 : (Lib.indexByte r c == -1) = true
      · have ih := splitL_miss c r (by simpa using h2)
        unfold splitL
        rw [if_neg (by simpa using h1), ih]
        rfl
      · rw [if_neg h2] at h
        have := Lib.indexByte_ge r c
        omega
theorem splitL_hit (c : UInt8) : ∀ (l : List UInt8) (j : Nat), Lib.indexByte l c = (j : Int) → splitL c l = l.take j :: splitL c (l.drop (j + 1))
  | [], j, h => by simp [Lib.indexByte] at h
  | b :: r, j, h => by
    rw [indexByte_cons] at h
    by_cases h1 : (b == c) = true
    · rw [if_pos h1] at h
      obtain rfl : j = 0 := by omega
      rw [splitL, if_pos (by simpa using h1)]
      rfl
    · rw [if_neg h1] at h
      by_cases h2 : (Lib.indexByte r c == -1) = true
      · rw [if_pos h2] at h; omega
      · rw [if_neg h2] at h
        obtain ⟨q, rfl⟩ : ∃ q, j = q + 1 := ⟨j - 1, by have := Lib.indexByte_ge r c; rw [beq_iff_eq] at h2; omega⟩
        have ih := splitL_hit c r q (by omega)
        rw [splitL, if_neg (by simpa using h1), ih]
        rfl
theorem splitK_eq (c : UInt8) : ∀ (n : Nat) (l : List UInt8), l.length ≤ n → Lib.splitK [c] 0 (Lib.count l [c]) l = splitL c l := by
  intro n
  induction n with
  | zero =>
    intro l h
    obtain rfl : l = [] := List.length_eq_zero_iff.1 (by omega)
    rw [Lib.count_miss (by rw [Lib.index_one]; rfl)]
    rfl
  | succ n ih =>
    intro l h
    have hge := Lib.indexByte_ge l c
    by_cases hm : Lib.indexByte l c = -1
    · rw [Lib.count_miss (by rw [Lib.index_one]; exact hm), splitL_miss c l hm]
      rfl
    · obtain ⟨j, hj⟩ : ∃ j : Nat, Lib.indexByte l c = j := ⟨(Lib.indexByte l c).toNat, by omega⟩
      have hi : Lib.index l [c] = (j : Int) := by rw [Lib.index_one]; exact hj
      have hlt : j < l.length := (List.getElem?_eq_some_iff.1 (Lib.indexByte_some hj).1).1
      have hr := ih (l.drop (j + 1)) (by rw [List.length_drop]; omega)
      rw [Lib.count_hit (by simp) hi, splitL_hit c l j hj, Nat.add_comm 1, Lib.splitK, if_neg (by rw [hi, beq_iff_eq]; omega), hi]
      show l.take (((j : Int)).toNat + 0) :: Lib.splitK [c] 0 (Lib.count (l.drop (j + 1)) [c]) (l.drop (((j : Int)).toNat + 1)) = _
      rw [Int.toNat_natCast, Nat.add_zero, hr]
theorem l1Split_loop (s : ByteArray) (c : UInt8) (hx : s.size ≤ 1048576) (d : Nat) : ∀ (k f i : Nat) (out : List ByteArray), i + d = s.size → d < k → f ≤ i → out.length + d ≤ 2000000 →
    ∃ ys, spec_l1Split.l0 k s (c.toNat : Int) out (f : Int) (i : Int) = some ys ∧ ys.map bs = out.map bs ++ preH (((bs s).take i).drop f) (splitL c ((bs s).drop i)) ∧ ys.length ≤ out.length + d + 1 := by
  induction d with
  | zero =>
    intro k f i out hi hk hf ho
    obtain ⟨k, rfl⟩ := kpos hk
    have n1 : ¬ ((i : Int) < (s.size : Int)) := by omega
    have n2 : (0 : Int) ≤ (f : Int) := by omega
    have n3 : (f : Int) ≤ (s.size : Int) := by omega
    have n4 : out.length < 8796093022208 := by omega
    unfold spec_l1Split.l0
    rw [if_neg n1, if_pos n2, if_pos n3, if_pos n4]
    refine ⟨_, rfl, ?_, by simp⟩
    rw [List.map_append, List.map_cons, List.map_nil, bs_extract, show i = s.size by omega, show (bs s).drop s.size = [] from List.drop_of_length_le (by rw [bs_length]; omega), Int.toNat_natCast]
    simp [splitL, preH]
  | succ d ih =>
    intro k f i out hi hk hf ho
    obtain ⟨k, rfl⟩ := kpos hk
    have hlt : i < s.size := by omega
    have hlb : i < (bs s).length := by rw [bs_length]; exact hlt
    have n1 : ((i : Int) < (s.size : Int)) := by omega
    have n2 : (0 : Int) ≤ (i : Int) := by omega
    have n3 : (0 : Int) ≤ (f : Int) := by omega
    have n4 : (f : Int) ≤ (i : Int) := by omega
    have n5 : (i : Int) ≤ (s.size : Int) := by omega
    have n6 : out.length < 8796093022208 := by omega
    have e1 : (bs s).drop i = (bs s).getD i 0 :: (bs s).drop (i + 1) := getD_cons hlb
    obtain ⟨h, t, eL⟩ := splitL_some c ((bs s).drop (i + 1))
    unfold spec_l1Split.l0
    rw [if_pos n1, if_pos n2, bt_list s i hlt, wnext hlt (by omega), e1]
    by_cases hc : (bs s).getD i 0 = c
    · obtain ⟨ys, h1, h2, h3⟩ := ih k (i + 1) (i + 1) (out ++ [s.extract f i]) (by omega) (by omega) (by omega) (by simp; omega)
      rw [if_pos (by rw [hc]), if_pos n3, if_pos n4, if_pos n5, if_pos n6, Int.toNat_natCast, Int.toNat_natCast]
      refine ⟨ys, h1, ?_, by simp at h3; omega⟩
      rw [h2, List.map_append, List.map_cons, List.map_nil, bs_extract, eL, show ((bs s).take (i + 1)).drop (i + 1) = [] from List.drop_of_length_le (by rw [List.length_take]; omega), splitL, if_pos hc, eL]
      simp [preH]
    · obtain ⟨ys, h1, h2, h3⟩ := ih k f (i + 1) out (by omega) (by omega) (by omega) (by omega)
      have hn : ¬ ((((bs s).getD i 0).toNat : Int) = (c.toNat : Int)) := fun e => hc (UInt8.toNat_inj.1 (by omega))
      rw [if_neg hn]
      refine ⟨ys, h1, ?_, by omega⟩
      rw [h2, splitL, if_neg hc, eL, take_succ_getD (z := (0 : UInt8)) hlb, List.drop_append_of_le_length (by rw [List.length_take]; omega)]
      simp [preH]
theorem l1Split_ends (s : ByteArray) (c : UInt8) (hx : s.size ≤ 1048576) (k : Nat) (hk : 1048577 ≤ k) :
    ∃ ys, spec_l1Split.f k s (c.toNat : Int) = some ys ∧ ys.map bs = splitL c (bs s) ∧ ys.length ≤ s.size + 1 := by
  obtain ⟨ys, h1, h2, h3⟩ := l1Split_loop s c hx s.size k 0 0 [] (by omega) (by omega) (by omega) (by simp; omega)
  obtain ⟨h, t, e⟩ := splitL_some c (bs s)
  refine ⟨ys, h1, ?_, by simpa using h3⟩
  simp only [List.drop_zero] at h2
  rw [h2, e]
  simp [preH]
end Go.Proofs.YtfindomajbjacaaGreatDoor.X
/- Texts cut at a sign and joined by it: each undoes the other. -/
namespace Go.Proofs.YtfindomajbjacaaGreatDoor.X
open Go.RowKit Go.Proofs.YtfindomajbjacaaGreatDoorW.PrintWords Go.Proofs.YtfindomajbjacaaGreatDoorW.PrintLast
set_option linter.unusedVariables false
set_option linter.unusedSimpArgs false
theorem split_same (s : ByteArray) (c : UInt8) (hx : s.size ≤ 1048576) (k : Nat) (hk : 1048577 ≤ k) : ∃ ys, spec_l1Split.f k s (c.toNat : Int) = some ys ∧ strings_Split.f s ⟨#[c]⟩ = some ys ∧ ys.map bs = splitL c (bs s) ∧ ys.length ≤ s.size + 1 := by
  obtain ⟨ys, h1, h2, h3⟩ := l1Split_ends s c hx k hk
  refine ⟨ys, h1, ?_, h2, h3⟩
  unfold strings_Split.f
  rw [if_pos ⟨rfl, hx⟩]
  refine congrArg some (map_bs_inj _ _ ?_)
  rw [h2]
  exact (Lib.splitB_data ⟨#[c]⟩ 0 (Lib.countB s ⟨#[c]⟩) s).trans (splitK_eq c (bs s).length (bs s) (Nat.le_refl _))
theorem joinTail_cons (sep x : List UInt8) (r : List (List UInt8)) : Lib.joinTail sep (x :: r) = sep ++ x ++ Lib.joinTail sep r := by simp [Lib.joinTail]
/-- Joined again, the pieces are the text. -/
theorem join_splitL (c : UInt8) : ∀ l, Lib.join (splitL c l) [c] = l
  | [] => Lib.join_one _ _
  | b :: r => by
    have ih := join_splitL c r
    obtain ⟨h, t, e⟩ := splitL_some c r
    rw [e, Lib.join_cons] at ih
    unfold splitL
    split
    · rename_i hb
      rw [Lib.join_cons, e, joinTail_cons, hb, List.nil_append, List.append_assoc, ih]
      rfl
    · rw [e, preH, Lib.join_cons, List.append_assoc, ih]
      rfl
theorem splitL_app (c : UInt8) : ∀ (p l : List UInt8), c ∉ p → splitL c (p ++ c :: l) = p :: splitL c l
  | [], l, _ => by rw [List.nil_append, splitL, if_pos rfl]
  | b :: p, l, h => by
    rw [List.cons_append, splitL, if_neg (fun e => h (by rw [e]; exact List.mem_cons_self)), splitL_app c p l (fun e => h (List.mem_cons_of_mem _ e))]
    rfl
theorem splitL_one (c : UInt8) : ∀ (p : List UInt8), c ∉ p → splitL c p = [p]
  | [], _ => rfl
  | b :: p, h => by
    rw [splitL, if_neg (fun e => h (by rw [e]; exact List.mem_cons_self)), splitL_one c p (fun e => h (List.mem_cons_of_mem _ e))]
    rfl
/-- Cut again, the joined text gives the pieces. -/
theorem splitL_join (c : UInt8) : ∀ (x : List UInt8) (r : List (List UInt8)), (∀ p ∈ x :: r, c ∉ p) → splitL c (Lib.join (x :: r) [c]) = x :: r
  | x, [], h => by rw [Lib.join_one]; exact splitL_one c x (h x List.mem_cons_self)
  | x, y :: r, h => by
    have ih := splitL_join c y r (fun p hp => h p (List.mem_cons_of_mem _ hp))
    rw [Lib.join_cons, joinTail_cons]
    rw [Lib.join_cons] at ih
    rw [show x ++ ([c] ++ y ++ Lib.joinTail [c] r) = x ++ c :: (y ++ Lib.joinTail [c] r) by simp, splitL_app c x _ (h x List.mem_cons_self), ih]
/-- Each piece is without the sign. -/
theorem splitL_free (c : UInt8) : ∀ (l : List UInt8), ∀ p ∈ splitL c l, c ∉ p
  | [], p, hp => by
    rw [splitL, List.mem_singleton] at hp
    rw [hp]; simp
  | b :: r, p, hp => by
    have ih := splitL_free c r
    unfold splitL at hp
    split at hp
    · rcases List.mem_cons.1 hp with rfl | h
      · simp
      · exact ih p h
    · rename_i hb
      obtain ⟨h, t, e⟩ := splitL_some c r
      rw [e, preH] at hp
      rcases List.mem_cons.1 hp with rfl | h2
      · rw [List.singleton_append, List.mem_cons]
        rintro (e1 | e2)
        · exact hb e1.symm
        · exact ih h (by rw [e]; exact List.mem_cons_self) e2
      · exact ih p (by rw [e]; exact List.mem_cons_of_mem _ h2)
/-- No piece is longer than the text. -/
theorem piece_len (c : UInt8) : ∀ (l : List UInt8), ∀ p ∈ splitL c l, p.length ≤ l.length
  | [], p, hp => by
    rw [splitL, List.mem_singleton] at hp
    rw [hp]; simp
  | b :: r, p, hp => by
    have ih := piece_len c r
    unfold splitL at hp
    split at hp
    · rcases List.mem_cons.1 hp with rfl | h
      · simp
      · have := ih p h; simp; omega
    · obtain ⟨h, t, e⟩ := splitL_some c r
      rw [e, preH] at hp
      rcases List.mem_cons.1 hp with rfl | h2
      · have := ih h (by rw [e]; exact List.mem_cons_self)
        simp; omega
      · have := ih p (by rw [e]; exact List.mem_cons_of_mem _ h2)
        simp; omega
end Go.Proofs.YtfindomajbjacaaGreatDoor.X
/- The reference's reading of a number comes to the same as the program's. -/
namespace Go.Proofs.YtfindomajbjacaaGreatDoor.X
open Go.RowKit Go.Proofs.YtfindomajbjacaaGreatDoorW.PrintWords Go.Proofs.YtfindomajbjacaaGreatDoorW.PrintLast
set_option linter.unusedVariables false
set_option linter.unusedSimpArgs false
def dig (b : UInt8) : Bool := decide (48 ≤ b.toNat ∧ b.toNat ≤ 57)
def valL : Nat → List UInt8 → Nat
  | acc, [] => acc
  | acc, b :: r => valL (10 * acc + (b.toNat - 48)) r
def okD (t : List UInt8) : Bool := decide (1 ≤ t.length ∧ t.length ≤ 6) && t.all dig
theorem valL_snoc : ∀ (l : List UInt8) (acc : Nat) (b : UInt8), valL acc (l ++ [b]) = 10 * valL acc l + (b.toNat - 48)
  | [], acc, b => rfl
  | c :: l, acc, b => valL_snoc l _ b
theorem valL_bound : ∀ (l : List UInt8) (acc j : Nat), l.all dig = true → acc < 10 ^ j → valL acc l < 10 ^ (j + l.length)
  | [], acc, j, _, h => h
  | c :: l, acc, j, ha, h => by
    simp only [List.all_cons, Bool.and_eq_true] at ha
    have hc : 48 ≤ c.toNat ∧ c.toNat ≤ 57 := by have := ha.1; unfold dig at this; simpa using this
    have := valL_bound l (10 * acc + (c.toNat - 48)) (j + 1) ha.2 (by rw [Nat.pow_succ]; omega)
    rw [show j + (c :: l).length = j + 1 + l.length by simp; omega]
    exact this
theorem parse_digits : ∀ (l : List UInt8) (acc j : Nat), l.all dig = true → acc < 10 ^ j → j + l.length ≤ 6 → Lib.parseUint10 acc l = .ok (valL acc l)
  | [], acc, j, _, _, _ => rfl
  | c :: l, acc, j, ha, h, hj => by
    simp only [List.all_cons, Bool.and_eq_true] at ha
    have hc : 48 ≤ c.toNat ∧ c.toNat ≤ 57 := by have := ha.1; unfold dig at this; simpa using this
    simp only [List.length_cons] at hj
    have h6 : 10 ^ j ≤ 10 ^ 6 := Nat.pow_le_pow_right (by omega) (by omega)
    have h7 : acc < 1000000 := Nat.lt_of_lt_of_le h h6
    have ih := parse_digits l (10 * acc + (c.toNat - 48)) (j + 1) ha.2 (by rw [Nat.pow_succ]; omega) (by omega)
    rw [Lib.parseUint10, if_pos hc, if_neg (by omega), if_neg (by omega), Nat.mul_comm acc 10, ih]
    rfl
theorem dig_of (m : Nat) (h : m < 10) : dig (UInt8.ofNat (48 + m)) = true ∧ (UInt8.ofNat (48 + m)).toNat = 48 + m := by
  have e : (UInt8.ofNat (48 + m)).toNat = 48 + m := by
    rw [UInt8.toNat_ofNat']
    omega
  refine ⟨?_, e⟩
  unfold dig
  rw [e, decide_eq_true_eq]
  omega
theorem dec_facts (d : Nat) : ∀ u, u < 10 ^ (d + 1) → (Lib.decDigits u).all dig = true ∧ valL 0 (Lib.decDigits u) = u ∧ 1 ≤ (Lib.decDigits u).length := by
  induction d with
  | zero =>
    intro u h
    have h10 : u < 10 := by simpa using h
    obtain ⟨e1, e2⟩ := dig_of u h10
    rw [dec_small h10]
    refine ⟨by rw [List.all_cons, e1]; rfl, ?_, by simp⟩
    show 10 * 0 + ((UInt8.ofNat (48 + u)).toNat - 48) = u
    rw [e2]; omega
  | succ d ih =>
    intro u h
    by_cases h10 : u < 10
    · obtain ⟨e1, e2⟩ := dig_of u h10
      rw [dec_small h10]
      refine ⟨by rw [List.all_cons, e1]; rfl, ?_, by simp⟩
      show 10 * 0 + ((UInt8.ofNat (48 + u)).toNat - 48) = u
      rw [e2]; omega
    · have h3 : u / 10 < 10 ^ (d + 1) := by rw [Nat.div_lt_iff_lt_mul (by omega), ← Nat.pow_succ]; exact h
      obtain ⟨i1, i2, i3⟩ := ih _ h3
      obtain ⟨e1, e2⟩ := dig_of (u % 10) (Nat.mod_lt _ (by omega))
      rw [dec_big h10]
      refine ⟨by rw [List.all_append, i1, List.all_cons, e1]; rfl, ?_, by rw [List.length_append]; simp⟩
      rw [valL_snoc, i2, e2]
      omega
theorem dec_ok (u : Nat) (h : u < 1000000) : okD (Lib.decDigits u) = true := by
  obtain ⟨h1, _, h3⟩ := dec_facts 5 u h
  have h2 := dec_length 5 u h
  unfold okD
  rw [h1, Bool.and_true, decide_eq_true_eq]
  omega
/-- Behind a minus sign. -/
def tlL : List UInt8 → List UInt8
  | b :: c :: r => if b = 45 then c :: r else b :: c :: r
  | l => l
def tl (s : ByteArray) : ByteArray := if (s.size : Int) > 1 then (if (bt s 0 == 45) = true then s.extract 1 s.size else s) else s
theorem tl_bs (s : ByteArray) : bs (tl s) = tlL (bs s) := by
  unfold tl
  have hl := bs_length s
  rcases hb : bs s with _ | ⟨b, _ | ⟨c, r⟩⟩
  · rw [hb] at hl
    rw [if_neg (by simp at hl; omega), hb]; rfl
  · rw [hb] at hl
    rw [if_neg (by simp at hl; omega), hb]; rfl
  · rw [hb] at hl
    simp only [List.length_cons] at hl
    have e0 : bt s 0 = (b.toNat : Int) := by
      have := bt_list s 0 (by omega)
      rw [hb] at this
      exact this
    rw [if_pos (by omega), e0]
    show _ = if b = 45 then c :: r else b :: c :: r
    by_cases h : b = 45
    · rw [if_pos h, if_pos (by rw [h]; rfl), bs_extract, hb, List.take_of_length_le (by simp; omega)]
      rfl
    · rw [if_neg h, if_neg (by rw [beq_iff_eq]; exact fun e => h (UInt8.toNat_inj.1 (by show b.toNat = 45; omega))), hb]
def finR (s t : ByteArray) (v : Nat) : Int × Bool :=
  if (t.size : Int) < (s.size : Int) then (if (tx (Lib.itoa (-(v : Int)))).toList = s.toList then (-(v : Int), true) else (0, false)) else (if (tx (Lib.itoa (v : Int))).toList = s.toList then ((v : Int), true) else (0, false))
def specR (s : ByteArray) : Int × Bool := if okD (bs (tl s)) = true then finR s (tl s) (valL 0 (bs (tl s))) else (0, false)
theorem l1Read_loop (s t : ByteArray) (h6 : t.size ≤ 6) (d : Nat) : ∀ (k i m : Nat), i + d = t.size → d + 30 < k → m < 10 ^ i →
    spec_l1Read.l0 k s t (m : Int) (i : Int) = some (if ((bs t).drop i).all dig = true then finR s t (valL m ((bs t).drop i)) else (0, false)) := by
  induction d with
  | zero =>
    intro k i m hi hk hm
    obtain ⟨k, rfl⟩ := kpos (d := 0) (k := k) (by omega)
    have p6 : 10 ^ i ≤ 10 ^ 6 := Nat.pow_le_pow_right (by omega) (by omega)
    have m6 : m < 1000000 := Nat.lt_of_lt_of_le hm p6
    have n1 : ¬ ((i : Int) < (t.size : Int)) := by omega
    have b1 : (-9223372036854775808 : Int) ≤ -(m : Int) := by omega
    have b2 : -(m : Int) ≤ 9223372036854775807 := by omega
    have c1 := l1Num_ends (-(m : Int)) (by omega) (by omega) k (by omega)
    have c2 := l1Num_ends (m : Int) (by omega) (by omega) k (by omega)
    have w1 : wrap64 (-(m : Int)) = -(m : Int) := w64 b1 b2
    unfold spec_l1Read.l0
    rw [if_neg n1, List.drop_of_length_le (by rw [bs_length]; omega), w1, c1, c2, Option.bind_some, Option.bind_some]
    rw [if_pos (show ([] : List UInt8).all dig = true from rfl)]
    unfold finR valL
    split <;> split <;> rfl
  | succ d ih =>
    intro k i m hi hk hm
    obtain ⟨k, rfl⟩ := kpos (d := 0) (k := k) (by omega)
    have hlt : i < t.size := by omega
    have hlb : i < (bs t).length := by rw [bs_length]; exact hlt
    have p6 : 10 ^ i ≤ 10 ^ 6 := Nat.pow_le_pow_right (by omega) (by omega)
    have m6 : m < 1000000 := Nat.lt_of_lt_of_le hm p6
    obtain ⟨b, hb⟩ : ∃ b, (bs t).getD i 0 = b := ⟨_, rfl⟩
    have e1 : (bs t).drop i = b :: (bs t).drop (i + 1) := by rw [← hb]; exact getD_cons hlb
    have n1 : (i : Int) < (t.size : Int) := by omega
    have n2 : (0 : Int) ≤ (i : Int) := by omega
    unfold spec_l1Read.l0
    rw [if_pos n1, if_pos n2, bt_list t i hlt, hb, e1]
    by_cases h1 : (b.toNat : Int) < 48
    · have hd : dig b = false := by unfold dig; rw [decide_eq_false_iff_not]; omega
      rw [if_pos h1, List.all_cons, hd, Bool.false_and, if_neg (by decide)]
    · rw [if_neg h1]
      by_cases h2 : (b.toNat : Int) > 57
      · have hd : dig b = false := by unfold dig; rw [decide_eq_false_iff_not]; omega
        rw [if_pos h2, List.all_cons, hd, Bool.false_and, if_neg (by decide)]
      · have hd : dig b = true := by unfold dig; rw [decide_eq_true_eq]; omega
        have hr := ih k (i + 1) (10 * m + (b.toNat - 48)) (by omega) (by omega) (by rw [Nat.pow_succ]; omega)
        have x1 : (-9223372036854775808 : Int) ≤ 10 * (m : Int) := by omega
        have x2 : 10 * (m : Int) ≤ 9223372036854775807 := by omega
        have x3 : ((b.toNat : Int) - 48) % 256 = ((b.toNat - 48 : Nat) : Int) := by omega
        have x4 : (-9223372036854775808 : Int) ≤ 10 * (m : Int) + ((b.toNat - 48 : Nat) : Int) := by omega
        have x5 : 10 * (m : Int) + ((b.toNat - 48 : Nat) : Int) ≤ 9223372036854775807 := by omega
        have x6 : 10 * (m : Int) + ((b.toNat - 48 : Nat) : Int) = ((10 * m + (b.toNat - 48) : Nat) : Int) := by omega
        rw [if_neg h2, w64 x1 x2, x3, w64 x4 x5, x6, wnext hlt (by omega), hr, List.all_cons, hd, Bool.true_and]
        rfl
theorem l1Read_ends (s : ByteArray) (k : Nat) (hk : 100 ≤ k) : spec_l1Read.f k s = some (specR s) := by
  obtain ⟨k, rfl⟩ : ∃ q, k = q + 2 := ⟨k - 2, by omega⟩
  have core : ∀ t : ByteArray, spec_l1Read.j1 (k + 1) s t = some (if okD (bs t) = true then finR s t (valL 0 (bs t)) else (0, false)) := by
    intro t
    simp only [spec_l1Read.j1]
    rw [l1In_ends, Option.bind_some]
    unfold okD
    rw [bs_length]
    by_cases h : 1 ≤ t.size ∧ t.size ≤ 6
    · have hin : inB (t.size : Int) 1 6 = true := by unfold inB; rw [decide_eq_true_eq]; omega
      have := l1Read_loop s t h.2 t.size k 0 0 (by omega) (by omega) (by decide)
      rw [show ((0 : Nat) : Int) = 0 from rfl, List.drop_zero] at this
      rw [if_pos hin, this, decide_eq_true h, Bool.true_and]
    · have hin : ¬ (inB (t.size : Int) 1 6 = true) := by unfold inB; rw [decide_eq_true_eq]; omega
      rw [if_neg hin, decide_eq_false h, Bool.false_and, if_neg (by decide)]
  unfold spec_l1Read.f specR tl
  by_cases h1 : (s.size : Int) > 1
  · rw [if_pos h1, if_pos (by omega), if_pos h1]
    simp only [spec_l1Read.j0]
    by_cases h2 : (bt s 0 == 45) = true
    · rw [if_pos h2, if_pos h2, if_pos (by omega)]
      exact core _
    · rw [if_neg h2, if_neg h2]
      exact core _
  · rw [if_neg h1, if_neg h1]
    simp only [spec_l1Read.j0]
    rw [if_neg (by decide)]
    exact core _
theorem toList_bs (a b : ByteArray) : a.toList = b.toList ↔ bs a = bs b := by
  unfold bs
  rw [ByteArray.toList_eq, ByteArray.toList_eq]
theorem mag_ok (l : List UInt8) (h : okD l = true) : Lib.parseMag l = .ok (valL 0 l) ∧ valL 0 l < 1000000 := by
  unfold okD at h
  simp only [Bool.and_eq_true, decide_eq_true_eq] at h
  have hb := valL_bound l 0 0 h.2 (by decide)
  have h6 : 10 ^ (0 + l.length) ≤ 10 ^ 6 := Nat.pow_le_pow_right (by omega) (by omega)
  refine ⟨?_, Nat.lt_of_lt_of_le hb h6⟩
  unfold Lib.parseMag
  rw [if_neg (by intro e; rw [e] at h; simp at h)]
  exact parse_digits l 0 0 h.2 (by decide) (by omega)
theorem in_six (v : Int) (h : -1000000 < v ∧ v < 1000000) : inB v (-999999) 999999 = true := by
  unfold inB
  rw [decide_eq_true_eq]
  omega
theorem tl_cons (b : UInt8) (r : List UInt8) (h : ¬ b = 45) : tlL (b :: r) = b :: r := by
  cases r with
  | nil => rfl
  | cons c r => exact if_neg h
theorem read_ok (s : ByteArray) (hk : okD (bs (tl s)) = true) : specR s = readR s := by
  obtain ⟨hm, hv⟩ := mag_ok _ hk
  have ht := tl_bs s
  have hs := bs_length s
  have hts := bs_length (tl s)
  unfold specR
  rw [if_pos hk]
  unfold readR finR
  rcases hb : bs s with _ | ⟨b, r⟩
  · rw [ht, hb] at hk
    exact absurd hk (by decide)
  · rw [show s.data.toList = b :: r from hb]
    rw [hb] at ht hs
    simp only [List.length_cons] at hs
    by_cases h45 : b = 45
    · subst h45
      cases hr : r with
      | nil =>
        rw [hr] at ht
        rw [ht] at hk
        exact absurd hk (by decide)
      | cons c r' =>
        rw [← hr]
        have ht2 : bs (tl s) = r := by
          rw [ht, hr]
          show (if (45 : UInt8) = 45 then c :: r' else 45 :: c :: r') = _
          rw [if_pos rfl]
        rw [ht2] at hm hv hts ⊢
        have e1 : Lib.signed (.ok (valL 0 r)) = .ok (-(valL 0 r : Int)) := if_neg (by omega)
        rw [Lib.atoiAll_minus, hm, e1]
        dsimp only
        rw [if_pos (by omega), if_pos (in_six _ (by omega))]
    · have ht2 : bs (tl s) = b :: r := by rw [ht]; exact tl_cons b r h45
      rw [ht2] at hm hv hts hk ⊢
      simp only [List.length_cons] at hts
      have hd : dig b = true := by
        unfold okD at hk
        simp only [Bool.and_eq_true, List.all_cons] at hk
        exact hk.2.1
      unfold dig at hd
      rw [decide_eq_true_eq] at hd
      have e1 : Lib.signless (.ok (valL 0 (b :: r))) = .ok ((valL 0 (b :: r) : Nat) : Int) := if_neg (by omega)
      rw [Lib.atoiAll_plain b r (by omega) (by omega), hm, e1]
      dsimp only
      rw [if_neg (by omega), if_pos (in_six _ (by omega))]
theorem read_no (s : ByteArray) (hk : ¬ okD (bs (tl s)) = true) : specR s = readR s := by
  unfold specR
  rw [if_neg hk]
  unfold readR
  rcases ha : Lib.atoiAll s.data.toList with v | _ | _
  · dsimp only
    by_cases hin : inB v (-999999) 999999 = true
    · rw [if_pos hin]
      unfold inB at hin
      rw [decide_eq_true_eq] at hin
      by_cases he : (tx (Lib.itoa v)).toList = s.toList
      · exfalso
        apply hk
        rw [toList_bs] at he
        have he2 : Lib.itoa v = bs s := he
        rw [tl_bs, ← he2]
        unfold Lib.itoa
        by_cases hn : v < 0
        · rw [if_pos hn]
          have hok := dec_ok v.natAbs (by omega)
          rcases hd : Lib.decDigits v.natAbs with _ | ⟨c, r⟩
          · rw [hd] at hok; exact absurd hok (by decide)
          · rw [hd] at hok
            show okD (if (45 : UInt8) = 45 then c :: r else 45 :: c :: r) = true
            rw [if_pos rfl]
            exact hok
        · rw [if_neg hn]
          have hok := dec_ok v.toNat (by omega)
          rcases hd : Lib.decDigits v.toNat with _ | ⟨c, r⟩
          · rw [hd] at hok; exact absurd hok (by decide)
          · rw [hd] at hok
            have hc : dig c = true := by
              unfold okD at hok
              simp only [Bool.and_eq_true, List.all_cons] at hok
              exact hok.2.1
            rw [tl_cons c r (by rintro rfl; exact absurd hc (by decide))]
            exact hok
      · rw [if_neg he]
    · rw [if_neg hin]
  · rfl
  · rfl
theorem read_same (s : ByteArray) : specR s = readR s := by
  by_cases h : okD (bs (tl s)) = true
  · exact read_ok s h
  · exact read_no s h
end Go.Proofs.YtfindomajbjacaaGreatDoor.X
/- A decimal numeral is read as its number; and a text that is read is the numeral. -/
namespace Go.Proofs.YtfindomajbjacaaGreatDoor.X
open Go.RowKit Go.Proofs.YtfindomajbjacaaGreatDoorW.PrintWords Go.Proofs.YtfindomajbjacaaGreatDoorW.PrintLast
set_option linter.unusedVariables false
set_option linter.unusedSimpArgs false
theorem dec_head {u : Nat} (h : u < 1000000) : tlL (Lib.decDigits u) = Lib.decDigits u := by
  have hok := dec_ok u h
  rcases hd : Lib.decDigits u with _ | ⟨c, r⟩
  · rfl
  · rw [hd] at hok
    have hc : dig c = true := by
      unfold okD at hok
      simp only [Bool.and_eq_true, List.all_cons] at hok
      exact hok.2.1
    exact tl_cons c r (by rintro rfl; exact absurd hc (by decide))
theorem bs_tx (l : List UInt8) : bs (tx l) = l := rfl
theorem readR_dec (u : Nat) (h : u < 1000000) : readR (tx (Lib.decDigits u)) = ((u : Int), true) := by
  rw [← read_same]
  have ht : bs (tl (tx (Lib.decDigits u))) = Lib.decDigits u := by rw [tl_bs, bs_tx, dec_head h]
  have hz : (tl (tx (Lib.decDigits u))).size = (Lib.decDigits u).length := by rw [← bs_length, ht]
  obtain ⟨_, hv, _⟩ := dec_facts 5 u h
  unfold specR
  rw [ht, if_pos (dec_ok u h), hv]
  unfold finR
  rw [hz, tx_size, if_neg (by omega), Lib.itoa_nonneg, if_pos rfl]
/-- What is read as a number is the number's numeral. -/
theorem readR_true {s : ByteArray} {v : Int} (h : readR s = (v, true)) : s = tx (Lib.itoa v) ∧ -999999 ≤ v ∧ v ≤ 999999 := by
  unfold readR at h
  rcases ha : Lib.atoiAll s.data.toList with u | _ | _
  · rw [ha] at h
    dsimp only at h
    split at h
    · rename_i hin
      split at h
      · rename_i he
        obtain rfl := (Prod.mk.inj h).1
        unfold inB at hin
        rw [decide_eq_true_eq] at hin
        rw [toList_bs] at he
        exact ⟨(bs_inj he).symm, hin⟩
      · cases (Prod.mk.inj h).2
    · cases (Prod.mk.inj h).2
  · rw [ha] at h
    cases (Prod.mk.inj h).2
  · rw [ha] at h
    cases (Prod.mk.inj h).2
theorem readR_range (s : ByteArray) : -999999 ≤ (readR s).1 ∧ (readR s).1 ≤ 999999 := by
  unfold readR
  split
  · split
    · rename_i hin
      unfold inB at hin
      rw [decide_eq_true_eq] at hin
      split
      · exact hin
      · exact ⟨by decide, by decide⟩
    · exact ⟨by decide, by decide⟩
  · exact ⟨by decide, by decide⟩
theorem dec_chars (u : Nat) (c : UInt8) (hc : dig c = false) (h : u < 1000000) : c ∉ Lib.decDigits u := by
  intro hm
  obtain ⟨h1, _, _⟩ := dec_facts 5 u h
  have := List.all_eq_true.1 h1 c hm
  rw [hc] at this
  cases this
end Go.Proofs.YtfindomajbjacaaGreatDoor.X
/- Reading a rotation's text: the reference's loop (each call must read well), the program's (the text of what was read must be the text): both come to the same. -/
namespace Go.Proofs.YtfindomajbjacaaGreatDoor.X
open Go.RowKit Go.Proofs.YtfindomajbjacaaGreatDoorW.PrintWords Go.Proofs.YtfindomajbjacaaGreatDoorW.PrintLast
set_option linter.unusedVariables false
set_option linter.unusedSimpArgs false
def pW (w : ByteArray) : Int := (readR (cutR w 58).1).1
def dW (w : ByteArray) : Int := (readR (cutR w 58).2.1).1
/-- A call's text that the reference takes. -/
def okW (w : ByteArray) : Bool :=
  match splitL 58 (bs w) with
  | [a, b] => (readR (tx a)).2 && (readR (tx b)).2
  | _ => false
theorem tx_bs (s : ByteArray) : tx (bs s) = s := rfl
theorem cut_of (w : ByteArray) (a b : List UInt8) (h : splitL 58 (bs w) = [a, b]) : (cutR w 58).1 = tx a ∧ (cutR w 58).2.1 = tx b := by
  have hge := Lib.indexByte_ge (bs w) 58
  by_cases hm : Lib.indexByte (bs w) 58 = -1
  · rw [splitL_miss _ _ hm] at h
    cases h
  · obtain ⟨j, hj⟩ : ∃ j : Nat, Lib.indexByte (bs w) 58 = j := ⟨(Lib.indexByte (bs w) 58).toNat, by omega⟩
    rw [splitL_hit _ _ j hj] at h
    injection h with h1 h2
    have hjb : splitL 58 ((bs w).drop (j + 1)) = [b] := h2
    have hb : (bs w).drop (j + 1) = b := by
      have := join_splitL 58 ((bs w).drop (j + 1))
      rw [hjb, Lib.join_one] at this
      exact this.symm
    have hc : cutR w 58 = (w.extract 0 j, w.extract (j + 1) w.size, true) := by
      unfold cutR
      rw [show Lib.indexByte w.data.toList 58 = (j : Int) from hj, if_pos (by omega), Int.toNat_natCast]
    rw [hc]
    refine ⟨bs_inj ?_, bs_inj ?_⟩
    · rw [bs_extract, List.drop_zero, h1]; rfl
    · rw [bs_extract, ← bs_length, List.take_length, hb]; rfl
theorem okW_part {w : ByteArray} (h : okW w = true) : w = partT (pW w) (dW w) ∧ (-999999 ≤ pW w ∧ pW w ≤ 999999) ∧ (-999999 ≤ dW w ∧ dW w ≤ 999999) := by
  unfold okW at h
  split at h
  · rename_i a b hs
    obtain ⟨c1, c2⟩ := cut_of w a b hs
    rw [Bool.and_eq_true] at h
    obtain ⟨e1, r1⟩ := readR_true (s := tx a) (v := (readR (tx a)).1) (Prod.ext rfl h.1)
    obtain ⟨e2, r2⟩ := readR_true (s := tx b) (v := (readR (tx b)).1) (Prod.ext rfl h.2)
    have hp : pW w = (readR (tx a)).1 := by unfold pW; rw [c1]
    have hd : dW w = (readR (tx b)).1 := by unfold dW; rw [c2]
    rw [hp, hd]
    refine ⟨?_, r1, r2⟩
    have hj := join_splitL 58 (bs w)
    rw [hs, Lib.join_cons, joinTail_cons] at hj
    unfold partT
    rw [← e1, ← e2]
    apply bs_inj
    rw [← hj]
    simp [bs, tx, colB, Lib.joinTail]
  · cases h
theorem part_okW (p d : Nat) (hp : p < 1000000) (hd : d < 1000000) : okW (partT (p : Int) (d : Int)) = true ∧ pW (partT (p : Int) (d : Int)) = p ∧ dW (partT (p : Int) (d : Int)) = d := by
  have hb : bs (partT (p : Int) (d : Int)) = Lib.decDigits p ++ 58 :: Lib.decDigits d := by
    unfold partT
    rw [Lib.itoa_nonneg, Lib.itoa_nonneg]
    simp [bs, tx, colB]
  have hs : splitL 58 (bs (partT (p : Int) (d : Int))) = [Lib.decDigits p, Lib.decDigits d] := by
    rw [hb, splitL_app _ _ _ (dec_chars p 58 (by decide) hp), splitL_one _ _ (dec_chars d 58 (by decide) hd)]
  obtain ⟨c1, c2⟩ := cut_of _ _ _ hs
  refine ⟨?_, ?_, ?_⟩
  · unfold okW
    rw [hs]
    show ((readR (tx (Lib.decDigits p))).2 && (readR (tx (Lib.decDigits d))).2) = true
    rw [readR_dec p hp, readR_dec d hd]
    rfl
  · unfold pW; rw [c1, readR_dec p hp]
  · unfold dW; rw [c2, readR_dec d hd]
/-- The answer. -/
def okR (s : ByteArray) (ws : List ByteArray) : Bool := decide (s.size ≤ 100) && ws.all okW && goodR (ws.map pW) (ws.map dW)
def parR (s : ByteArray) (ws : List ByteArray) : List Int × List Int × Bool := if okR s ws = true then (ws.map pW, ws.map dW, true) else ([], [], false)
/-- The parts, by the calls' numbers. -/
theorem partsT_map (ws : List ByteArray) (h : ∀ w ∈ ws, w = partT (pW w) (dW w)) : ∀ i, i ≤ ws.length → partsT (ws.map pW) (ws.map dW) i = ws.take i
  | 0, _ => rfl
  | i + 1, hi => by
    have hlt : i < ws.length := by omega
    rw [partsT, partsT_map ws h i (by omega), take_succ_getD (z := ByteArray.empty) hlt]
    have hm : ws.getD i ByteArray.empty ∈ ws := getD_mem hlt
    have e1 : (ws.map pW).getD i 0 = pW (ws.getD i ByteArray.empty) := by
      rw [List.getD_eq_getElem?_getD, List.getD_eq_getElem?_getD, List.getElem?_map, List.getElem?_eq_getElem hlt]; rfl
    have e2 : (ws.map dW).getD i 0 = dW (ws.getD i ByteArray.empty) := by
      rw [List.getD_eq_getElem?_getD, List.getD_eq_getElem?_getD, List.getElem?_map, List.getElem?_eq_getElem hlt]; rfl
    rw [e1, e2, ← h _ hm]
theorem joinB_split (s : ByteArray) (ws : List ByteArray) (h : ws.map bs = splitL 32 (bs s)) : joinB ws wsB = s := by
  apply bs_inj
  have := join_splitL 32 (bs s)
  rw [← h] at this
  exact this
theorem partT_small (p d : Int) (hp : 1 ≤ p ∧ p ≤ 9) (hd : 1 ≤ d ∧ d ≤ 40) : ∃ u v : Nat, p = u ∧ d = v ∧ u < 10 ∧ v < 100 ∧ (partT p d).size ≤ 4 := by
  refine ⟨p.toNat, d.toNat, by omega, by omega, by omega, by omega, ?_⟩
  have e1 : p = (p.toNat : Int) := by omega
  have e2 : d = (d.toNat : Int) := by omega
  have l1 := dec_length 0 p.toNat (by omega)
  have l2 := dec_length 1 d.toNat (by omega)
  rw [e1, e2]
  unfold partT
  rw [Lib.itoa_nonneg, Lib.itoa_nonneg]
  simp only [ByteArray.size_append, colB_size, tx_size]
  generalize (Lib.decDigits p.toNat).length = a at *
  generalize (Lib.decDigits d.toNat).length = b at *
  omega
theorem rotT_short (ps ds : List Int) (hg : goodR ps ds = true) : ∀ i, i ≤ ps.length → (rotT ps ds i).size ≤ 5 * i
  | 0, _ => by rw [rotT_zero]; exact Nat.le_refl 0
  | 1, h => by
    obtain ⟨a1, a2, a3, a4⟩ := goodR_at hg 0 (by omega)
    obtain ⟨_, _, _, _, _, _, hz⟩ := partT_small (ps.getD 0 0) (ds.getD 0 0) ⟨a1, a2⟩ ⟨a3, a4⟩
    rw [rotT_one]
    exact Nat.le_trans hz (by decide)
  | i + 2, h => by
    have h1 := rotT_short ps ds hg (i + 1) (by omega)
    obtain ⟨a1, a2, a3, a4⟩ := goodR_at hg (i + 1) (by omega)
    obtain ⟨_, _, _, _, _, _, hz⟩ := partT_small (ps.getD (i + 1) 0) (ds.getD (i + 1) 0) ⟨a1, a2⟩ ⟨a3, a4⟩
    rw [rotT_succ _ _ _ (by omega)]
    simp only [ByteArray.size_append, wsB_size]
    generalize (rotT ps ds (i + 1)).size = a at *
    generalize (partT (ps.getD (i + 1) 0) (ds.getD (i + 1) 0)).size = b at *
    omega
theorem partsT_free (ps ds : List Int) (hg : goodR ps ds = true) : ∀ i, i ≤ ps.length → ∀ w ∈ partsT ps ds i, (32 : UInt8) ∉ bs w ∧ okW w = true
  | 0, _, w, hw => by cases hw
  | i + 1, h, w, hw => by
    rw [partsT, List.mem_append, List.mem_singleton] at hw
    rcases hw with hw | rfl
    · exact partsT_free ps ds hg i (by omega) w hw
    · obtain ⟨a1, a2, a3, a4⟩ := goodR_at hg i (by omega)
      obtain ⟨u, v, e1, e2, hu, hv, _⟩ := partT_small (ps.getD i 0) (ds.getD i 0) ⟨a1, a2⟩ ⟨a3, a4⟩
      rw [e1, e2]
      refine ⟨?_, (part_okW u v (by omega) (by omega)).1⟩
      have hb : bs (partT (u : Int) (v : Int)) = Lib.decDigits u ++ 58 :: Lib.decDigits v := by
        unfold partT
        rw [Lib.itoa_nonneg, Lib.itoa_nonneg]
        simp [bs, tx, colB]
      rw [hb, List.mem_append, List.mem_cons]
      rintro (h1 | h1 | h1)
      · exact dec_chars u 32 (by decide) (by omega) h1
      · exact absurd h1 (by decide)
      · exact dec_chars v 32 (by decide) (by omega) h1
theorem parts_ne (ps ds : List Int) (n : Nat) (h : 1 ≤ n) : ∃ x r, partsT ps ds n = x :: r := by
  rcases hp : partsT ps ds n with _ | ⟨x, r⟩
  · have := partsT_length ps ds n
    rw [hp, List.length_nil] at this
    omega
  · exact ⟨x, r, rfl⟩
/-- What the program asks is what the reference asks. -/
theorem okR_iff (s : ByteArray) (ws : List ByteArray) (h : ws.map bs = splitL 32 (bs s)) (hg : goodR (ws.map pW) (ws.map dW) = true) :
    okR s ws = true ↔ rotT (ws.map pW) (ws.map dW) (ws.map pW).length = s := by
  obtain ⟨l1, l2, l3⟩ := goodR_len hg
  have hlm : (ws.map pW).length = ws.length := List.length_map _
  constructor
  · intro ho
    unfold okR at ho
    simp only [Bool.and_eq_true, List.all_eq_true] at ho
    have hw : ∀ w ∈ ws, w = partT (pW w) (dW w) := fun w hw => (okW_part (ho.1.2 w hw)).1
    unfold rotT
    rw [hlm, partsT_map ws hw ws.length (Nat.le_refl _), List.take_length]
    exact joinB_split s ws h
  · intro hr
    have hz := rotT_short _ _ hg (ws.map pW).length (Nat.le_refl _)
    rw [hr] at hz
    have hsp : splitL 32 (bs s) = (partsT (ws.map pW) (ws.map dW) (ws.map pW).length).map bs := by
      obtain ⟨x, r, hx⟩ := parts_ne (ws.map pW) (ws.map dW) _ l1
      have hf := partsT_free _ _ hg (ws.map pW).length (Nat.le_refl _)
      rw [← hr]
      unfold rotT
      rw [hx] at hf ⊢
      refine splitL_join 32 (bs x) (r.map bs) (fun p hp => ?_)
      obtain ⟨w, hw, rfl⟩ := List.mem_map.1 (show p ∈ (x :: r).map bs from hp)
      exact (hf w hw).1
    have hws : ws = partsT (ws.map pW) (ws.map dW) (ws.map pW).length := map_bs_inj _ _ (h.trans hsp)
    unfold okR
    simp only [Bool.and_eq_true, List.all_eq_true, decide_eq_true_eq]
    refine ⟨⟨by omega, fun w hw => ?_⟩, hg⟩
    rw [hws] at hw
    exact (partsT_free _ _ hg _ (Nat.le_refl _) w hw).2
end Go.Proofs.YtfindomajbjacaaGreatDoor.X
/- Reading a rotation's text: both come to the same, and a valid rotation's text is read back. -/
namespace Go.Proofs.YtfindomajbjacaaGreatDoor.X
open Go.RowKit Go.Proofs.YtfindomajbjacaaGreatDoorW.PrintWords Go.Proofs.YtfindomajbjacaaGreatDoorW.PrintLast
set_option linter.unusedVariables false
set_option linter.unusedSimpArgs false
theorem splitL_len (c : UInt8) : ∀ (l : List UInt8), ∀ p ∈ splitL c l, p.length ≤ l.length
  | [], p, hp => by
    rw [splitL, List.mem_singleton] at hp
    rw [hp]; exact Nat.le_refl _
  | b :: r, p, hp => by
    have ih := splitL_len c r
    unfold splitL at hp
    rw [List.length_cons]
    split at hp
    · rcases List.mem_cons.1 hp with rfl | h
      · exact Nat.zero_le _
      · exact Nat.le_succ_of_le (ih p h)
    · obtain ⟨h, t, e⟩ := splitL_some c r
      rw [e, preH] at hp
      rcases List.mem_cons.1 hp with rfl | h2
      · have := ih h (by rw [e]; exact List.mem_cons_self)
        simpa using this
      · exact Nat.le_succ_of_le (ih p (by rw [e]; exact List.mem_cons_of_mem _ h2))
theorem cutR_size (w : ByteArray) : (cutR w 58).1.size ≤ w.size ∧ (cutR w 58).2.1.size ≤ w.size := by
  unfold cutR
  split
  · constructor
    · show (w.extract 0 _).size ≤ _
      rw [ByteArray.size_extract]
      omega
    · show (w.extract _ w.size).size ≤ _
      rw [ByteArray.size_extract]
      omega
  · exact ⟨Nat.le_refl _, Nat.zero_le _⟩
theorem map_snoc (f : ByteArray → Int) (ws : List ByteArray) (i : Nat) (h : i < ws.length) : (ws.take (i + 1)).map f = (ws.take i).map f ++ [f (ws.getD i ByteArray.empty)] := by
  rw [take_succ_getD (z := ByteArray.empty) h, List.map_append]
  rfl
def specE (ws : List ByteArray) : List Int × List Int × Bool := if (ws.all okW && goodR (ws.map pW) (ws.map dW)) = true then (ws.map pW, ws.map dW, true) else ([], [], false)
theorem spec_loop (ws : List ByteArray) (hl : ws.length ≤ 1048577) (hw : ∀ w ∈ ws, w.size ≤ 1048576) (d : Nat) : ∀ (k i : Nat), i + d = ws.length → d + 1048700 < k → (ws.take i).all okW = true →
    spec_ParseRotation.l0 k ws (i : Int) ((ws.take i).map pW) ((ws.take i).map dW) = some (specE ws) := by
  induction d with
  | zero =>
    intro k i hi hk ha
    obtain ⟨k, rfl⟩ := kpos (d := 0) (k := k) (by omega)
    have e0 : ws.take i = ws := List.take_of_length_le (by omega)
    rw [e0] at ha ⊢
    unfold spec_ParseRotation.l0 specE
    rw [if_neg (by omega), spec_goodR _ _ _ (by omega), Option.bind_some, ha, Bool.true_and]
    split <;> rfl
  | succ d ih =>
    intro k i hi hk ha
    obtain ⟨k, rfl⟩ := kpos (d := 0) (k := k) (by omega)
    have hlt : i < ws.length := by omega
    obtain ⟨w, hwe⟩ : ∃ w, ws.getD i ByteArray.empty = w := ⟨_, rfl⟩
    have hmem : w ∈ ws := by rw [← hwe]; exact getD_mem hlt
    have hz := hw w hmem
    have n1 : (i : Int) < (ws.length : Int) := by omega
    have n2 : (0 : Int) ≤ (i : Int) := by omega
    have n3 : ((ws.take i).map pW).length < 17592186044416 := by rw [List.length_map, List.length_take]; omega
    have n4 : ((ws.take i).map dW).length < 17592186044416 := by rw [List.length_map, List.length_take]; omega
    obtain ⟨ys, y1, y2, _⟩ := l1Split_ends w 58 hz k (by omega)
    have ih2 := ih k (i + 1) (by omega) (by omega)
    have hno : okW w = false → specE ws = ([], [], false) := by
      intro h
      unfold specE
      rw [if_neg]
      intro hc
      rw [Bool.and_eq_true, List.all_eq_true] at hc
      rw [hc.1 w hmem] at h
      cases h
    have hk1 : 100 ≤ k := by omega
    have hwn : wrap64 ((i : Int) + 1) = ((i + 1 : Nat) : Int) := wnext hlt (by omega)
    unfold spec_ParseRotation.l0
    rw [if_pos n1, if_pos n2, show rdOf ByteArray.empty ws (i : Int) = w from hwe, show (58 : Int) = ((58 : UInt8).toNat : Int) from rfl, y1, Option.bind_some]
    rcases hy : ys with _ | ⟨a, _ | ⟨b, _ | ⟨c, r⟩⟩⟩
    · rw [hy] at y2
      have : okW w = false := by unfold okW; rw [← y2]; rfl
      rw [hno this]
      rfl
    · rw [hy] at y2
      have : okW w = false := by unfold okW; rw [← y2]; rfl
      rw [hno this]
      rfl
    · rw [hy] at y2
      have hok : okW w = ((readR a).2 && (readR b).2) := by unfold okW; rw [← y2]; rfl
      obtain ⟨c1, c2⟩ := cut_of w (bs a) (bs b) y2.symm
      have hp : pW w = (readR a).1 := by unfold pW; rw [c1]; rfl
      have hd : dW w = (readR b).1 := by unfold dW; rw [c2]; rfl
      rw [if_pos (by rfl), if_pos (by show (0 : Int) < ((2 : Nat) : Int); omega), show rdOf ByteArray.empty [a, b] 0 = a from rfl, show rdOf ByteArray.empty [a, b] 1 = b from rfl, l1Read_ends a k hk1, l1Read_ends b k hk1, read_same, read_same, Option.bind_some, if_pos (by show (1 : Int) < ((2 : Nat) : Int); omega), Option.bind_some]
      by_cases h1 : (readR a).2 = true
      · by_cases h2 : (readR b).2 = true
        · rw [if_pos h1, if_pos h2, if_pos n3, if_pos n4, hwn]
          rw [h1, h2] at hok
          have ha2 : (ws.take (i + 1)).all okW = true := by
            rw [take_succ_getD (z := ByteArray.empty) hlt, List.all_append, ha, hwe]
            simp [hok]
          have := ih2 ha2
          rw [map_snoc pW ws i hlt, map_snoc dW ws i hlt, hwe, hp, hd] at this
          exact this
        · rw [Bool.not_eq_true] at h2
          rw [if_pos h1, if_neg (by rw [h2]; decide), hno (by rw [hok, h1, h2]; rfl)]
      · rw [Bool.not_eq_true] at h1
        rw [if_neg (by rw [h1]; decide), hno (by rw [hok, h1]; rfl)]
    · rw [hy] at y2
      have : okW w = false := by unfold okW; rw [← y2]; rfl
      rw [hno this, if_neg]
      intro h
      simp only [List.length_cons] at h
      omega
def implE (s : ByteArray) (ws : List ByteArray) : List Int × List Int × Bool :=
  if goodR (ws.map pW) (ws.map dW) = true then (if rotT (ws.map pW) (ws.map dW) (ws.map pW).length = s then (ws.map pW, ws.map dW, true) else ([], [], false)) else ([], [], false)
theorem getD_map_range (f : ByteArray → Int) (hf : ∀ w, -999999 ≤ f w ∧ f w ≤ 999999) (ws : List ByteArray) : smallL (ws.map f) := by
  intro i
  rw [List.getD_eq_getElem?_getD]
  rcases h : (ws.map f)[i]? with _ | v
  · show _ ≤ (0 : Int) ∧ (0 : Int) ≤ _
    omega
  · obtain ⟨w, _, rfl⟩ := List.mem_map.1 (List.mem_of_getElem? h)
    have := hf w
    show _ ≤ f w ∧ f w ≤ _
    omega
theorem impl_loop (s : ByteArray) (ws : List ByteArray) (hl : ws.length ≤ 1048577) (hw : ∀ w ∈ ws, w.size ≤ 1048576) (d : Nat) : ∀ (k i : Nat), i + d = ws.length → d + 1048700 < k →
    impl_ParseRotation.l0 k s ws (ws.length : Int) (i : Int) ((ws.take i).map pW) ((ws.take i).map dW) = some (implE s ws) := by
  induction d with
  | zero =>
    intro k i hi hk
    obtain ⟨k, rfl⟩ := kpos (d := 0) (k := k) (by omega)
    have e0 : ws.take i = ws := List.take_of_length_le (by omega)
    rw [e0]
    unfold impl_ParseRotation.l0 implE
    rw [if_neg (by omega), impl_goodR _ _ _ (by omega), Option.bind_some]
    by_cases hg : goodR (ws.map pW) (ws.map dW) = true
    · obtain ⟨l1, l2, l3⟩ := goodR_len hg
      have e2 := impl_rot_loop (ws.map pW) (ws.map dW) (getD_map_range _ (fun w => readR_range _) ws) (getD_map_range _ (fun w => readR_range _) ws) (by omega) l3 (ws.map pW).length k 0 (by omega) (by omega)
      rw [if_pos hg, if_pos hg]
      unfold impl_rotationText.f
      rw [show ([] : List ByteArray) = partsT (ws.map pW) (ws.map dW) 0 from rfl, show (0 : Int) = ((0 : Nat) : Int) from rfl, e2, Option.bind_some]
      by_cases hr : rotT (ws.map pW) (ws.map dW) (ws.map pW).length = s
      · rw [if_pos hr, if_pos (by rw [hr])]
      · rw [if_neg hr, if_neg (fun e => hr (bs_inj ((toList_bs _ _).1 e)))]
    · rw [if_neg hg, if_neg hg]
  | succ d ih =>
    intro k i hi hk
    obtain ⟨k, rfl⟩ := kpos (d := 0) (k := k) (by omega)
    have hlt : i < ws.length := by omega
    obtain ⟨w, hwe⟩ : ∃ w, ws.getD i ByteArray.empty = w := ⟨_, rfl⟩
    have hmem : w ∈ ws := by rw [← hwe]; exact getD_mem hlt
    have hz := hw w hmem
    obtain ⟨z1, z2⟩ := cutR_size w
    have n1 : (i : Int) < (ws.length : Int) := by omega
    have n2 : (0 : Int) ≤ (i : Int) := by omega
    have n3 : ((ws.take i).map pW).length < 17592186044416 := by rw [List.length_map, List.length_take]; omega
    have n4 : ((ws.take i).map dW).length < 17592186044416 := by rw [List.length_map, List.length_take]; omega
    have hc : strings_Cut.f w (⟨#[58]⟩ : ByteArray) = some (cutR w 58) := if_pos (show w.size ≤ 9000000000000000000 by omega)
    have r1 : impl_ParseInt.f (cutR w 58).1 = some (readR (cutR w 58).1) := if_pos (by omega)
    have r2 : impl_ParseInt.f (cutR w 58).2.1 = some (readR (cutR w 58).2.1) := if_pos (by omega)
    have ih2 := ih k (i + 1) (by omega) (by omega)
    have hwn : wrap64 ((i : Int) + 1) = ((i + 1 : Nat) : Int) := wnext hlt (by omega)
    unfold impl_ParseRotation.l0
    rw [if_pos n1, if_pos n2, if_pos n1, show rdOf ByteArray.empty ws (i : Int) = w from hwe, hc, Option.bind_some, r1, Option.bind_some, r2, Option.bind_some, if_pos n3, if_pos n4, hwn]
    rw [map_snoc pW ws i hlt, map_snoc dW ws i hlt, hwe] at ih2
    exact ih2
theorem parse_both (s : ByteArray) (hx : s.size ≤ 1048576) : ∃ ws, ws.map bs = splitL 32 (bs s) ∧ (∀ k, 2097400 ≤ k → spec_ParseRotation.f k s = some (parR s ws) ∧ impl_ParseRotation.f k s = some (parR s ws)) ∧ (parR s ws).1.length ≤ 12 ∧ (parR s ws).2.1.length ≤ 12 := by
  obtain ⟨ws, _, s2, s3, s4⟩ := split_same s 32 hx 1048577 (Nat.le_refl _)
  have hw : ∀ w ∈ ws, w.size ≤ 1048576 := by
    intro w hw
    have := splitL_len 32 (bs s) (bs w) (by rw [← s3]; exact List.mem_map_of_mem hw)
    rw [bs_length, bs_length] at this
    omega
  have hsp : ∀ k, 2097400 ≤ k → spec_ParseRotation.f k s = some (parR s ws) := by
    intro k hk
    unfold spec_ParseRotation.f parR okR
    by_cases h : (s.size : Int) > 100
    · rw [if_pos h, if_neg]
      intro hc
      simp only [Bool.and_eq_true, decide_eq_true_eq] at hc
      omega
    · obtain ⟨ys, y1, y2, _⟩ := l1Split_ends s 32 hx k (by omega)
      obtain rfl : ys = ws := map_bs_inj _ _ (y2.trans s3.symm)
      have e := spec_loop ys (by omega) hw ys.length k 0 (by omega) (by omega) rfl
      rw [if_neg h, show (32 : Int) = ((32 : UInt8).toNat : Int) from rfl, y1, Option.bind_some, show (0 : Int) = ((0 : Nat) : Int) from rfl]
      rw [show decide (s.size ≤ 100) = true from decide_eq_true (by omega), Bool.true_and]
      exact e
  have him : ∀ k, 2097400 ≤ k → impl_ParseRotation.f k s = some (parR s ws) := by
    intro k hk
    have e := impl_loop s ws (by omega) hw ws.length k 0 (by omega) (by omega)
    unfold impl_ParseRotation.f
    rw [s2, Option.bind_some, show (0 : Int) = ((0 : Nat) : Int) from rfl]
    refine e.trans (congrArg some ?_)
    unfold implE parR
    by_cases hg : goodR (ws.map pW) (ws.map dW) = true
    · rw [if_pos hg]
      by_cases ho : okR s ws = true
      · rw [if_pos ho, if_pos ((okR_iff s ws s3 hg).1 ho)]
      · rw [if_neg ho, if_neg (fun h => ho ((okR_iff s ws s3 hg).2 h))]
    · rw [if_neg hg, if_neg]
      intro hc
      unfold okR at hc
      rw [Bool.and_eq_true] at hc
      exact hg hc.2
  have hb : (parR s ws).1.length ≤ 12 ∧ (parR s ws).2.1.length ≤ 12 := by
    unfold parR
    split
    · rename_i ho
      unfold okR at ho
      rw [Bool.and_eq_true] at ho
      obtain ⟨l1, l2, l3⟩ := goodR_len ho.2
      exact ⟨l2, by show (ws.map dW).length ≤ 12; omega⟩
    · exact ⟨by simp, by simp⟩
  exact ⟨ws, s3, fun k hk => ⟨hsp k hk, him k hk⟩, hb.1, hb.2⟩
theorem parts_maps (ps ds : List Int) (hg : goodR ps ds = true) : ∀ i, i ≤ ps.length → (partsT ps ds i).map pW = ps.take i ∧ (partsT ps ds i).map dW = ds.take i
  | 0, _ => ⟨rfl, rfl⟩
  | i + 1, h => by
    obtain ⟨l1, l2, l3⟩ := goodR_len hg
    obtain ⟨a1, a2, a3, a4⟩ := goodR_at hg i (by omega)
    obtain ⟨u, v, e1, e2, hu, hv, _⟩ := partT_small (ps.getD i 0) (ds.getD i 0) ⟨a1, a2⟩ ⟨a3, a4⟩
    obtain ⟨p1, p2⟩ := parts_maps ps ds hg i (by omega)
    obtain ⟨_, q1, q2⟩ := part_okW u v (by omega) (by omega)
    rw [take_succ_getD (xs := ps) (z := (0 : Int)) (by omega), take_succ_getD (xs := ds) (z := (0 : Int)) (by omega), partsT, List.map_append, List.map_append, p1, p2]
    simp only [List.map_cons, List.map_nil]
    rw [e1, e2, q1, q2]
    exact ⟨rfl, rfl⟩
theorem parse_text (ps ds : List Int) (hg : goodR ps ds = true) (k : Nat) (hk : 2097400 ≤ k) : impl_ParseRotation.f k (rotT ps ds ps.length) = some (ps, ds, true) := by
  obtain ⟨l1, l2, l3⟩ := goodR_len hg
  have hz := rotT_short ps ds hg ps.length (Nat.le_refl _)
  obtain ⟨ws, hw, he, _, _⟩ := parse_both (rotT ps ds ps.length) (by omega)
  have hsp : splitL 32 (bs (rotT ps ds ps.length)) = (partsT ps ds ps.length).map bs := by
    obtain ⟨x, r, hx⟩ := parts_ne ps ds _ l1
    have hf := partsT_free _ _ hg ps.length (Nat.le_refl _)
    unfold rotT
    rw [hx] at hf ⊢
    refine splitL_join 32 (bs x) (r.map bs) (fun p hp => ?_)
    obtain ⟨w, hw, rfl⟩ := List.mem_map.1 (show p ∈ (x :: r).map bs from hp)
    exact (hf w hw).1
  have hws : ws = partsT ps ds ps.length := map_bs_inj _ _ (hw.trans hsp)
  obtain ⟨m1, m2⟩ := parts_maps ps ds hg ps.length (Nat.le_refl _)
  rw [List.take_length] at m1
  rw [List.take_of_length_le (by omega)] at m2
  rw [(he k hk).2, hws]
  unfold parR
  rw [m1, m2, if_pos]
  unfold okR
  simp only [Bool.and_eq_true, List.all_eq_true, decide_eq_true_eq]
  refine ⟨⟨by omega, fun w hw => (partsT_free _ _ hg _ (Nat.le_refl _) w hw).2⟩, ?_⟩
  rw [m1, m2]
  exact hg
end Go.Proofs.YtfindomajbjacaaGreatDoor.X
/- What the printed functions on lists of whole numbers come to: comparison, membership, the place of a number. -/
namespace Go.Proofs.YtfindomajbjacaaGreatDoor.X
open Go.RowKit Go.Proofs.YtfindomajbjacaaGreatDoorW.PrintWords Go.Proofs.YtfindomajbjacaaGreatDoorW.PrintLast
set_option linter.unusedVariables false
set_option linter.unusedSimpArgs false

theorem l1Same_loop (xs ys : List Int) (hl : ys.length = xs.length) (hx : xs.length ≤ 9223372036854775807) (d : Nat) : ∀ (k n : Nat), n + d = xs.length → d < k → spec_l1Same.l0 k xs ys (n : Int) = some (decide (xs.drop n = ys.drop n)) := by
  induction d with
  | zero =>
    intro k n hn hk
    obtain ⟨k, rfl⟩ := kpos hk
    simp only [spec_l1Same.l0]
    rw [if_neg (by omega), List.drop_of_length_le (by omega), List.drop_of_length_le (by omega)]
    rfl
  | succ d ih =>
    intro k n hn hk
    obtain ⟨k, rfl⟩ := kpos hk
    have hlt : n < xs.length := by omega
    have hn1 := ih k (n + 1) (by omega) (by omega)
    simp only [spec_l1Same.l0]
    rw [if_pos (by omega), if_pos (by omega), if_pos (by omega), wnext hlt hx, hn1, getD_cons (z := (0 : Int)) hlt, getD_cons (xs := ys) (n := n) (z := (0 : Int)) (by omega), rd_nat, rd_nat]
    by_cases h : xs.getD n 0 = ys.getD n 0
    · rw [if_pos h, dec_cons_pos h]
    · rw [if_neg h, dec_cons_neg h]
theorem l1Same_ends (xs ys : List Int) (hx : xs.length ≤ 9223372036854775807) (k : Nat) (hk : xs.length < k) : spec_l1Same.f k xs ys = some (decide (xs = ys)) := by
  unfold spec_l1Same.f
  by_cases hl : (xs.length : Int) = (ys.length : Int)
  · rw [if_pos hl]
    have := l1Same_loop xs ys (by omega) hx xs.length k 0 (by omega) hk
    simpa using this
  · rw [if_neg hl]
    have : ¬ xs = ys := fun h => hl (by rw [h])
    simp [this]
theorem Equal_loop (xs ys : List Int) (hl : ys.length = xs.length) (hx : xs.length ≤ 9223372036854775807) (d : Nat) : ∀ (k n : Nat), n + d = xs.length → d < k → slices_Equal_int_int.l0 k xs ys (xs.length : Int) (n : Int) = some (decide (xs.drop n = ys.drop n)) := by
  induction d with
  | zero =>
    intro k n hn hk
    obtain ⟨k, rfl⟩ := kpos hk
    simp only [slices_Equal_int_int.l0]
    rw [if_neg (by omega), List.drop_of_length_le (by omega), List.drop_of_length_le (by omega)]
    rfl
  | succ d ih =>
    intro k n hn hk
    obtain ⟨k, rfl⟩ := kpos hk
    have hlt : n < xs.length := by omega
    have hn1 := ih k (n + 1) (by omega) (by omega)
    simp only [slices_Equal_int_int.l0]
    rw [if_pos (by omega), if_pos (by omega), if_pos (by omega), if_pos (by omega), wnext hlt hx, hn1, getD_cons (z := (0 : Int)) hlt, getD_cons (xs := ys) (n := n) (z := (0 : Int)) (by omega), rd_nat, rd_nat]
    by_cases h : xs.getD n 0 = ys.getD n 0
    · rw [if_pos h, dec_cons_pos h]
    · rw [if_neg h, dec_cons_neg h]
theorem Equal_ends (xs ys : List Int) (hx : xs.length ≤ 9223372036854775807) (k : Nat) (hk : xs.length < k) : slices_Equal_int_int.f k xs ys = some (decide (xs = ys)) := by
  unfold slices_Equal_int_int.f
  by_cases hl : (xs.length : Int) = (ys.length : Int)
  · rw [if_pos hl]
    have := Equal_loop xs ys (by omega) hx xs.length k 0 (by omega) hk
    simpa using this
  · rw [if_neg hl]
    have : ¬ xs = ys := fun h => hl (by rw [h])
    simp [this]
end Go.Proofs.YtfindomajbjacaaGreatDoor.X
/- What the printed functions on the way between calls come to: the days from a call to another, the next call at a port. -/
namespace Go.Proofs.YtfindomajbjacaaGreatDoor.X
open Go.RowKit Go.Proofs.YtfindomajbjacaaGreatDoorW.PrintWords Go.Proofs.YtfindomajbjacaaGreatDoorW.PrintLast
set_option linter.unusedVariables false
set_option linter.unusedSimpArgs false

/-- The days of d steps from call i on. -/
def daysM (ds : List Int) (n : Nat) : Nat → Nat → Int
  | 0, _ => 0
  | d + 1, i => ds.getD i 0 + daysM ds n d ((i + 1) % n)
theorem mod_step {n i d t : Nat} (h : (i + (d + 1)) % n = t) : ((i + 1) % n + d) % n = t := by
  rw [Nat.mod_add_mod, ← h]
  congr 1
  omega
theorem mod_ne {n i d t : Nat} (hi : i < n) (hd : d + 1 < n) (h : (i + (d + 1)) % n = t) : ¬ i = t := by
  intro e
  subst e
  by_cases h1 : i + (d + 1) < n
  · rw [Nat.mod_eq_of_lt h1] at h; omega
  · rw [Nat.mod_eq_sub_mod (by omega), Nat.mod_eq_of_lt (by omega)] at h; omega
/-- The days from call i to call t. -/
def daysW (ps ds : List Int) (i t : Nat) : Int := daysM ds ps.length ((t + ps.length - i) % ps.length) i
theorem gap_mod {n i t : Nat} (hi : i < n) (ht : t < n) : (i + (t + n - i) % n) % n = t := by
  by_cases h : t + n - i < n
  · rw [Nat.mod_eq_of_lt h, show i + (t + n - i) = t + n by omega, Nat.add_mod_right, Nat.mod_eq_of_lt ht]
  · have e : (t + n - i) % n = t - i := by rw [show t + n - i = (t - i) + n by omega, Nat.add_mod_right, Nat.mod_eq_of_lt (by omega)]
    rw [e, show i + (t - i) = t by omega, Nat.mod_eq_of_lt ht]
end Go.Proofs.YtfindomajbjacaaGreatDoor.X
/- What TurnRotation comes to: the calls from a call on, then those ahead of it. -/
namespace Go.Proofs.YtfindomajbjacaaGreatDoor.X
open Go.RowKit Go.Proofs.YtfindomajbjacaaGreatDoorW.PrintWords Go.Proofs.YtfindomajbjacaaGreatDoorW.PrintLast
set_option linter.unusedVariables false
set_option linter.unusedSimpArgs false
/-- A list that begins with its i-th element, those ahead of it behind. -/
def turnL (l : List Int) (i : Nat) : List Int := l.drop i ++ l.take i
theorem turnL_length (l : List Int) (i : Nat) (h : i ≤ l.length) : (turnL l i).length = l.length := by
  unfold turnL
  simp
  omega
theorem turn_ends (ps ds : List Int) (hg : goodR ps ds = true) (i : Nat) (hi : i < ps.length) : spec_l3Turn.f ps ds (i : Int) = some (turnL ps i, turnL ds i) ∧ impl_turned.f ps ds (i : Int) = some (turnL ps i, turnL ds i) := by
  obtain ⟨h1, h2, h3⟩ := goodR_len hg
  have c0 : 0 ≤ (i : Int) := by omega
  have c1 : (i : Int) ≤ (ps.length : Int) := by omega
  have c2 : (i : Int) ≤ (ds.length : Int) := by omega
  unfold spec_l3Turn.f impl_turned.f turnL
  simp only [Int.toNat_natCast, if_pos c0, if_pos c1, if_pos c2, Option.bind_some, List.nil_append, List.length_nil, Nat.zero_add]
  rw [Clone_ends _ (by simp; omega), Clone_ends _ (by simp; omega)]
  simp only [Option.bind_some, List.length_drop, List.length_take]
  have e1 : ps.length - i < 17592186044416 := by omega
  have e2 : ps.length - i + min i ps.length < 17592186044416 := by omega
  have e3 : ds.length - i < 17592186044416 := by omega
  have e4 : ds.length - i + min i ds.length < 17592186044416 := by omega
  simp only [if_pos e1, if_pos e2, if_pos e3, if_pos e4, Option.bind_some, and_self]
end Go.Proofs.YtfindomajbjacaaGreatDoor.X
/- What SameCycle comes to: is the one rotation, turned to one of its calls, the other? -/
namespace Go.Proofs.YtfindomajbjacaaGreatDoor.X
open Go.RowKit Go.Proofs.YtfindomajbjacaaGreatDoorW.PrintWords Go.Proofs.YtfindomajbjacaaGreatDoorW.PrintLast
set_option linter.unusedVariables false
set_option linter.unusedSimpArgs false
def sameFrom (ps ds qs es : List Int) : Nat → Nat → Bool
  | 0, _ => false
  | d + 1, i => (decide (turnL ps i = qs) && decide (turnL ds i = es)) || sameFrom ps ds qs es d (i + 1)
theorem same_loop (ps ds qs es : List Int) (hg : goodR ps ds = true) (d : Nat) : ∀ (k i : Nat), i + d = ps.length → d + 14 < k →
    spec_SameCycle.l0 k (i : Int) ps ds qs es = some (sameFrom ps ds qs es d i, true) ∧ impl_SameCycle.l0 k (ps.length : Int) (i : Int) ps ds qs es = some (sameFrom ps ds qs es d i, true) := by
  obtain ⟨h1, h2, h3⟩ := goodR_len hg
  induction d with
  | zero =>
    intro k i hi hk
    obtain ⟨k, rfl⟩ := kpos hk
    have c : ¬ (i : Int) < (ps.length : Int) := by omega
    simp only [spec_SameCycle.l0, impl_SameCycle.l0, if_neg c, sameFrom, and_self]
  | succ d ih =>
    intro k i hi hk
    obtain ⟨k, rfl⟩ := kpos hk
    have c : (i : Int) < (ps.length : Int) := by omega
    obtain ⟨t1, t2⟩ := turn_ends ps ds hg i (by omega)
    obtain ⟨i1, i2⟩ := ih k (i + 1) (by omega) (by omega)
    have l1 : (turnL ps i).length = ps.length := turnL_length _ _ (by omega)
    have l2 : (turnL ds i).length = ds.length := turnL_length _ _ (by omega)
    simp only [spec_SameCycle.l0, impl_SameCycle.l0, if_pos c, t1, t2, Option.bind_some, wnext (show i < 13 by omega) (by omega), i1, i2]
    rw [l1Same_ends _ _ (by omega) k (by omega), l1Same_ends _ _ (by omega) k (by omega), Equal_ends _ _ (by omega) k (by omega), Equal_ends _ _ (by omega) k (by omega)]
    simp only [Option.bind_some, sameFrom, decide_eq_true_eq]
    by_cases e1 : turnL ps i = qs
    · by_cases e2 : turnL ds i = es
      · simp [e1, e2]
      · simp [e1, e2]
    · simp [e1]
def sameW (ps ds qs es : List Int) : Bool × Bool := if goodR ps ds = true ∧ goodR qs es = true then (sameFrom ps ds qs es ps.length 0, true) else (false, false)
theorem same_ends (ps ds qs es : List Int) (k : Nat) (hk : 50 ≤ k) : spec_SameCycle.f k ps ds qs es = some (sameW ps ds qs es) ∧ impl_SameCycle.f k ps ds qs es = some (sameW ps ds qs es) := by
  obtain ⟨k, rfl⟩ : ∃ m, k = m + 1 := ⟨k - 1, by omega⟩
  unfold spec_SameCycle.f impl_SameCycle.f sameW
  rw [spec_goodR _ _ _ (by omega), impl_goodR _ _ _ (by omega), spec_goodR _ _ _ (by omega), impl_goodR _ _ _ (by omega)]
  simp only [Option.bind_some]
  by_cases hg : goodR ps ds = true
  · obtain ⟨h1, h2, h3⟩ := goodR_len hg
    by_cases hg2 : goodR qs es = true
    · have := same_loop ps ds qs es hg ps.length k 0 (by omega) (by omega)
      simp only [hg, hg2, if_true, Bool.not_true, spec_SameCycle.j0, impl_SameCycle.j0, Bool.false_eq_true, if_false, and_self]
      exact this
    · simp [hg, hg2, spec_SameCycle.j0, impl_SameCycle.j0]
  · simp [hg, spec_SameCycle.j0, impl_SameCycle.j0]
end Go.Proofs.YtfindomajbjacaaGreatDoor.X
/- What CycleDays comes to: the sum of the days of a valid rotation. -/
namespace Go.Proofs.YtfindomajbjacaaGreatDoor.X
open Go.RowKit Go.Proofs.YtfindomajbjacaaGreatDoorW.PrintWords Go.Proofs.YtfindomajbjacaaGreatDoorW.PrintLast
set_option linter.unusedVariables false
set_option linter.unusedSimpArgs false
/-- The sum of a list. -/
def sumI : List Int → Int
  | [] => 0
  | x :: l => x + sumI l
theorem cycle_loopI (ps ds : List Int) (h12 : ds.length ≤ 12) (hr : ∀ i, i < ds.length → 1 ≤ ds.getD i 0 ∧ ds.getD i 0 ≤ 40) (d : Nat) : ∀ (k i : Nat) (a : Int), i + d = ds.length → d < k → 0 ≤ a → a ≤ 40 * i →
    impl_CycleDays.l0 k a ds (ds.length : Int) (i : Int) = some (a + sumI (ds.drop i), true) := by
  induction d with
  | zero =>
    intro k i a hi hk h0 ha
    obtain ⟨k, rfl⟩ := kpos hk
    have c : ¬ (i : Int) < (ds.length : Int) := by omega
    simp only [impl_CycleDays.l0]
    rw [if_neg c, List.drop_of_length_le (by omega)]
    simp [sumI]
  | succ d ih =>
    intro k i a hi hk h0 ha
    obtain ⟨k, rfl⟩ := kpos hk
    have hd := hr i (by omega)
    have i2 := ih k (i + 1) (a + ds.getD i 0) (by omega) (by omega) (by omega) (by omega)
    have c : (i : Int) < (ds.length : Int) := by omega
    have c0 : 0 ≤ (i : Int) := by omega
    have e1 : ds.drop i = ds.getD i 0 :: ds.drop (i + 1) := getD_cons (z := (0 : Int)) (by omega)
    have e2 : rd ds (i : Int) = ds.getD i 0 := rfl
    have w1 : wrap64 (a + ds.getD i 0) = a + ds.getD i 0 := w64 (by omega) (by omega)
    have w2 : wrap64 ((i : Int) + 1) = ((i + 1 : Nat) : Int) := by rw [w64 (by omega) (by omega)]; omega
    simp only [impl_CycleDays.l0]
    rw [if_pos c, if_pos c0, if_pos c, e2, w1, w2, i2, e1, sumI]
    congr 1
    congr 1
    omega
/-- The days of a round voyage; is the rotation valid? -/
def cycleM (ps ds : List Int) : Int × Bool := if goodR ps ds = true then (sumI ds, true) else (0, false)
theorem impl_cycle (ps ds : List Int) (k : Nat) (hk : 20 ≤ k) : impl_CycleDays.f k ps ds = some (cycleM ps ds) := by
  unfold impl_CycleDays.f cycleM
  rw [impl_goodR _ _ _ (by omega)]
  simp only [Option.bind_some]
  by_cases h : goodR ps ds = true
  · obtain ⟨h1, h2, h3⟩ := goodR_len h
    rw [if_pos h, if_pos h]
    have := (cycle_loopI ps ds (by omega) (fun i hi => ⟨(goodR_at h i (by omega)).2.2.1, (goodR_at h i (by omega)).2.2.2⟩) ds.length k 0 0 (by omega) (by omega) (by omega) (by omega))
    simpa using this
  · rw [if_neg h, if_neg h]
end Go.Proofs.YtfindomajbjacaaGreatDoor.X
/- A turned rotation: valid as the first is, the same round, as many days. What RotationText and TurnRotation answer. -/
namespace Go.Proofs.YtfindomajbjacaaGreatDoor.X
open Go.RowKit Go.Proofs.YtfindomajbjacaaGreatDoorW.PrintWords Go.Proofs.YtfindomajbjacaaGreatDoorW.PrintLast
set_option linter.unusedVariables false
set_option linter.unusedSimpArgs false
theorem turnL_getD (l : List Int) (i j : Nat) (hi : i < l.length) (hj : j < l.length) : (turnL l i).getD j 0 = l.getD ((i + j) % l.length) 0 := by
  unfold turnL
  rw [List.getD_eq_getElem?_getD, List.getD_eq_getElem?_getD, List.getElem?_append]
  by_cases h : j < (l.drop i).length
  · rw [if_pos h, List.getElem?_drop]
    rw [List.length_drop] at h
    rw [Nat.mod_eq_of_lt (by omega)]
  · rw [if_neg h]
    rw [List.length_drop] at h ⊢
    have e : (i + j) % l.length = j - (l.length - i) := by rw [Nat.mod_eq_sub_mod (by omega), Nat.mod_eq_of_lt (by omega)]; omega
    rw [e, List.getElem?_take_of_lt (by omega)]
theorem okCall_turn (ps ds : List Int) (i j : Nat) (he : ds.length = ps.length) (hi : i < ps.length) (hj : j < ps.length) : okCall (turnL ps i) (turnL ds i) j = okCall ps ds ((i + j) % ps.length) := by
  have hm : (j + 1) % ps.length < ps.length := Nat.mod_lt _ (by omega)
  unfold okCall
  rw [turnL_length _ _ (by omega), turnL_getD ps i j hi hj, turnL_getD ds i j (by omega) (by omega), turnL_getD ps i _ hi hm, he, Nat.add_mod_mod, Nat.mod_add_mod, Nat.add_assoc]
theorem goodR_turn {ps ds : List Int} (hg : goodR ps ds = true) (i : Nat) (hi : i < ps.length) : goodR (turnL ps i) (turnL ds i) = true := by
  obtain ⟨l1, l2, l3⟩ := goodR_len hg
  have e1 : (turnL ps i).length = ps.length := turnL_length _ _ (by omega)
  have e2 : (turnL ds i).length = ds.length := turnL_length _ _ (by omega)
  unfold goodR
  simp only [Bool.and_eq_true, inB_iff, decide_eq_true_eq]
  refine ⟨⟨by omega, by omega⟩, okFromR_mk _ 0 (fun j _ hj => ?_)⟩
  rw [okCall_turn ps ds i j l3 hi (by omega)]
  exact goodR_call hg _ (Nat.mod_lt _ (by omega))
theorem sumI_app : ∀ (a b : List Int), sumI (a ++ b) = sumI a + sumI b
  | [], b => by rw [List.nil_append, sumI, Int.zero_add]
  | x :: a, b => by rw [List.cons_append, sumI, sumI, sumI_app a b, Int.add_assoc]
theorem sumI_turn (l : List Int) (i : Nat) : sumI (turnL l i) = sumI l := by
  unfold turnL
  rw [sumI_app, Int.add_comm, ← sumI_app, List.take_append_drop]
theorem sameFrom_turn (ps ds : List Int) (i : Nat) : ∀ d j, j ≤ i → i < j + d → sameFrom ps ds (turnL ps i) (turnL ds i) d j = true
  | 0, j, h1, h2 => by omega
  | d + 1, j, h1, h2 => by
    unfold sameFrom
    by_cases h : j = i
    · subst h
      simp
    · rw [sameFrom_turn ps ds i d (j + 1) (by omega) (by omega), Bool.or_true]
theorem same_turn {ps ds : List Int} (hg : goodR ps ds = true) (i : Nat) (hi : i < ps.length) : sameW ps ds (turnL ps i) (turnL ds i) = (true, true) := by
  unfold sameW
  rw [if_pos ⟨hg, goodR_turn hg i hi⟩, sameFrom_turn ps ds i _ 0 (by omega) (by omega)]
theorem good_small {ps ds : List Int} (h : goodR ps ds = true) : smallL ps ∧ smallL ds := by
  have hl := goodR_len h
  refine ⟨fun i => ?_, fun i => ?_⟩
  · by_cases hi : i < ps.length
    · have := goodR_at h i hi; omega
    · rw [List.getD_eq_getElem?_getD, List.getElem?_eq_none (by omega)]; show _ ≤ (0 : Int) ∧ (0 : Int) ≤ _; omega
  · by_cases hi : i < ps.length
    · have := goodR_at h i hi; omega
    · rw [List.getD_eq_getElem?_getD, List.getElem?_eq_none (by omega)]; show _ ≤ (0 : Int) ∧ (0 : Int) ≤ _; omega
def textA (ps ds : List Int) : ByteArray × Bool := if goodR ps ds = true then (rotT ps ds ps.length, true) else (⟨#[]⟩, false)
theorem text_both (ps ds : List Int) (k : Nat) (hk : 100 ≤ k) : spec_RotationText.f k ps ds = some (textA ps ds) ∧ impl_RotationText.f k ps ds = some (textA ps ds) := by
  unfold spec_RotationText.f impl_RotationText.f textA
  rw [spec_goodR _ _ _ (by omega), impl_goodR _ _ _ (by omega), Option.bind_some, Option.bind_some]
  by_cases hg : goodR ps ds = true
  · obtain ⟨h1, h2⟩ := good_small hg
    obtain ⟨l1, l2, l3⟩ := goodR_len hg
    have e1 := spec_rot_loop ps ds h1 h2 (by omega) l3 ps.length k 0 (by omega) (by omega)
    have e2 := impl_rot_loop ps ds h1 h2 (by omega) l3 ps.length k 0 (by omega) (by omega)
    rw [rotT_zero] at e1
    rw [if_pos hg, if_pos hg, if_pos hg, show (0 : Int) = ((0 : Nat) : Int) from rfl, e1]
    unfold impl_rotationText.f
    rw [show ([] : List ByteArray) = partsT ps ds 0 from rfl, show (0 : Int) = ((0 : Nat) : Int) from rfl, e2, Option.bind_some]
    exact ⟨rfl, rfl⟩
  · rw [if_neg hg, if_neg hg, if_neg hg]
    exact ⟨rfl, rfl⟩
def turnA (ps ds : List Int) (i : Int) : List Int × List Int × Bool := if callB ps ds i = true then (turnL ps i.toNat, turnL ds i.toNat, true) else ([], [], false)
theorem turn_both (ps ds : List Int) (i : Int) (k : Nat) (hk : 20 ≤ k) : spec_TurnRotation.f k ps ds i = some (turnA ps ds i) ∧ impl_TurnRotation.f k ps ds i = some (turnA ps ds i) := by
  unfold spec_TurnRotation.f impl_TurnRotation.f turnA
  rw [asked_ends _ _ _ _ (by omega), isCall_one _ _ _ _ (by omega)]
  simp only [Option.bind_some]
  by_cases h : callB ps ds i = true
  · obtain ⟨hg, n, rfl, hn⟩ := callB_nat h
    obtain ⟨e1, e2⟩ := turn_ends ps ds hg n hn
    simp only [if_pos h, e1, e2, Option.bind_some, Int.toNat_natCast]
    (first | exact ⟨rfl, rfl⟩ | exact ⟨trivial, trivial⟩ | trivial)
  · simp only [if_neg h]
    (first | exact ⟨rfl, rfl⟩ | exact ⟨trivial, trivial⟩ | trivial)
theorem turnA_small (ps ds : List Int) (i : Int) : (turnA ps ds i).1.length ≤ 12 ∧ (turnA ps ds i).2.1.length ≤ 12 := by
  unfold turnA
  by_cases h : callB ps ds i = true
  · obtain ⟨hg, n, rfl, hn⟩ := callB_nat h
    obtain ⟨l1, l2, l3⟩ := goodR_len hg
    rw [if_pos h]
    simp only [Int.toNat_natCast]
    rw [turnL_length _ _ (by omega), turnL_length _ _ (by omega)]
    omega
  · rw [if_neg h]
    simp
end Go.Proofs.YtfindomajbjacaaGreatDoor.X
/- What the reference's drawing of inputs answers: it always ends, within its bounds. -/
namespace Go.Proofs.YtfindomajbjacaaGreatDoor.X
open Go.RowKit Go.Proofs.YtfindomajbjacaaGreatDoorW.PrintWords Go.Proofs.YtfindomajbjacaaGreatDoorW.PrintLast
set_option linter.unusedVariables false
set_option linter.unusedSimpArgs false
/-- The bytes of a code. -/
def Byt (l : List Int) : Prop := l.length ≤ 1000000 ∧ ∀ x ∈ l, 0 ≤ x ∧ x ≤ 255
/-- A cursor's place: not behind m. -/
def At (m a : Int) : Prop := 0 ≤ a ∧ a ≤ m
theorem At.up {m n a : Int} (h : At m a) (hm : m ≤ n) : At n a := ⟨h.1, Int.le_trans h.2 hm⟩
theorem byt_rd {l : List Int} (hl : Byt l) (a : Int) (h0 : 0 ≤ a) (h1 : a < (l.length : Int)) : 0 ≤ rd l a ∧ rd l a ≤ 255 := by
  obtain ⟨n, rfl⟩ : ∃ n : Nat, a = n := ⟨a.toNat, by omega⟩
  rw [rd_nat]
  exact hl.2 _ (getD_mem (by omega))
theorem low_byte (z : Int) : 0 ≤ wrap64 (Go.bits .and .u64 (IntKind.u64.wrap z / 1099511627776) 255) ∧ wrap64 (Go.bits .and .u64 (IntKind.u64.wrap z / 1099511627776) 255) ≤ 255 := by
  rw [IntKind.wrap_u64]
  have h0 : 0 ≤ z % 18446744073709551616 / 1099511627776 := by omega
  have h1 : z % 18446744073709551616 / 1099511627776 < 18446744073709551616 := by omega
  rw [u64_and _ _ h0 h1 (by decide) (by decide)]
  have hle : ((z % 18446744073709551616 / 1099511627776).toNat &&& (255 : Int).toNat) ≤ 255 := Nat.and_le_right
  generalize ((z % 18446744073709551616 / 1099511627776).toNat &&& (255 : Int).toNat) = q at hle
  rw [w64 (by omega) (by omega)]
  omega
theorem next_ok {l : List Int} (hl : Byt l) {m a : Int} (ha : At m a) (hm : m ≤ 1000000000000) (s : Int) : ∃ v a' s', spec_l1Cur_next.f l a s = some (v, a', s') ∧ (0 ≤ v ∧ v ≤ 255) ∧ At (m + 1) a' := by
  obtain ⟨h0, h1⟩ := ha
  have hw : wrap64 (a + 1) = a + 1 := w64 (by omega) (by omega)
  have h2 : At (m + 1) (a + 1) := ⟨by omega, by omega⟩
  unfold spec_l1Cur_next.f
  rw [hw]
  by_cases h : a < (l.length : Int)
  · obtain ⟨r0, r1⟩ := byt_rd hl a h0 h
    rw [if_pos h, if_pos h0, if_pos (by omega)]
    exact ⟨_, _, _, rfl, by rw [w64 (by omega) (by omega)]; exact ⟨r0, r1⟩, h2⟩
  · rw [if_neg h, if_neg (by omega)]
    exact ⟨_, _, _, rfl, low_byte _, h2⟩
theorem pick_ok {l : List Int} (hl : Byt l) {m a : Int} (ha : At m a) (hm : m ≤ 100000000000) (s n : Int) : ∃ v a' s', spec_l1Cur_pick.f l a s n = some (v, a', s') ∧ (0 ≤ v ∧ v ≤ 65535 ∧ (1 ≤ n → v < n)) ∧ At (m + 2) a' := by
  unfold spec_l1Cur_pick.f
  by_cases h : n ≤ 1
  · rw [if_pos h]
    exact ⟨_, _, _, rfl, ⟨by omega, by omega, by omega⟩, ha.up (by omega)⟩
  · rw [if_neg h]
    obtain ⟨v, a1, s1, e1, hv, ha1⟩ := next_ok hl ha (by omega) s
    rw [e1, Option.bind_some]
    have hn0 : ¬ n = 0 := by omega
    by_cases h2 : n > 200
    · rw [if_pos h2]
      obtain ⟨v2, a2, s2, e2, hv2, ha2⟩ := next_ok hl ha1 (by omega) s1
      rw [e2, Option.bind_some, if_neg hn0]
      refine ⟨_, _, _, rfl, ?_, ha2.up (by omega)⟩
      rw [w64 (x := v * 256) (by omega) (by omega), w64 (by omega) (by omega)]
      rw [Int.tmod_eq_emod_of_nonneg (by omega)]
      show 0 ≤ (v * 256 + v2) % n ∧ (v * 256 + v2) % n ≤ 65535 ∧ (1 ≤ n → (v * 256 + v2) % n < n)
      have b1 := Int.emod_nonneg (v * 256 + v2) hn0
      have b2 := Int.emod_lt_of_pos (v * 256 + v2) (b := n) (by omega)
      have b3 : (v * 256 + v2) % n ≤ v * 256 + v2 := by
        by_cases hq : v * 256 + v2 < n
        · rw [Int.emod_eq_of_lt (by omega) hq]; exact Int.le_refl _
        · omega
      exact ⟨b1, by omega, fun _ => b2⟩
    · rw [if_neg h2, if_neg hn0]
      refine ⟨_, _, _, rfl, ?_, ha1.up (by omega)⟩
      show 0 ≤ Int.tmod v n ∧ Int.tmod v n ≤ 65535 ∧ (1 ≤ n → Int.tmod v n < n)
      rw [Int.tmod_eq_emod_of_nonneg hv.1]
      have b1 := Int.emod_nonneg v hn0
      have b2 := Int.emod_lt_of_pos v (b := n) (by omega)
      exact ⟨b1, by omega, fun _ => b2⟩
theorem one_ok {l : List Int} (hl : Byt l) {m a : Int} (ha : At m a) (hm : m ≤ 100000000000) (s n : Int) : ∃ v a' s', spec_l1Cur_one.f l a s n = some (v, a', s') ∧ At (m + 2) a' := by
  obtain ⟨v, a1, s1, e1, _, ha1⟩ := pick_ok hl ha hm s n
  exact ⟨_, _, _, by unfold spec_l1Cur_one.f; rw [e1, Option.bind_some], ha1⟩
theorem of_ok {l : List Int} (hl : Byt l) {m a : Int} (ha : At m a) (hm : m ≤ 100000000000) (s : Int) (xs : List ByteArray) (hx : 1 ≤ xs.length) (P : ByteArray → Prop) (hP : ∀ x ∈ xs, P x) : ∃ v a' s', spec_l1Cur_of.f l a s xs = some (v, a', s') ∧ P v ∧ At (m + 2) a' := by
  obtain ⟨v, a1, s1, e1, hv, ha1⟩ := pick_ok hl ha hm s (xs.length : Int)
  refine ⟨_, _, _, by unfold spec_l1Cur_of.f; rw [e1, Option.bind_some, if_pos hv.1, if_pos (hv.2.2 (by omega))], ?_, ha1⟩
  have := hv.2.2 (by omega)
  exact hP _ (getD_mem (by omega))
theorem among_ok {l : List Int} (hl : Byt l) {m a : Int} (ha : At m a) (hm : m ≤ 100000000000) (s : Int) (xs : List Int) (hx : 1 ≤ xs.length) (P : Int → Prop) (hP : ∀ x ∈ xs, P x) : ∃ v a' s', spec_l1Cur_among.f l a s xs = some (v, a', s') ∧ P v ∧ At (m + 2) a' := by
  obtain ⟨v, a1, s1, e1, hv, ha1⟩ := pick_ok hl ha hm s (xs.length : Int)
  refine ⟨_, _, _, by unfold spec_l1Cur_among.f; rw [e1, Option.bind_some, if_pos hv.1, if_pos (hv.2.2 (by omega))], ?_, ha1⟩
  have := hv.2.2 (by omega)
  exact hP _ (getD_mem (by omega))
theorem spoilt_ok {l : List Int} (hl : Byt l) {m a : Int} (ha : At m a) (hm : m ≤ 1000000000) (s : Int) (t w : ByteArray) (hw : 1 ≤ w.size) (ht : t.size ≤ 1000000000) (hws : w.size ≤ 1000000) : ∃ v a' s', spec_l1Cur_spoilt.f l a s t w = some (v, a', s') ∧ v.size ≤ t.size + 1 ∧ At (m + 6) a' := by
  unfold spec_l1Cur_spoilt.f
  by_cases h : t.toList = ([] : List UInt8)
  · rw [if_pos h, if_pos hw]
    exact ⟨_, _, _, rfl, by rw [ByteArray.size_extract]; omega, ha.up (by omega)⟩
  · rw [if_neg h]
    have hpos : 1 ≤ t.size := by
      rcases Nat.eq_zero_or_pos t.size with h0 | h0
      · refine absurd ?_ h
        obtain ⟨d⟩ := t
        have : d.size = 0 := h0
        obtain rfl : d = #[] := Array.eq_empty_of_size_eq_zero this
        unfold ByteArray.toList ByteArray.toList.loop
        rfl
      · exact h0
    obtain ⟨i, a1, s1, e1, hi, ha1⟩ := pick_ok hl ha (by omega) s (t.size : Int)
    obtain ⟨j, a2, s2, e2, hj, ha2⟩ := pick_ok hl ha1 (by omega) s1 (w.size : Int)
    obtain ⟨c, a3, s3, e3, hc, ha3⟩ := pick_ok hl ha2 (by omega) s2 3
    have hj1 := hj.2.2 (by omega)
    have hi1 := hi.2.2 (by omega)
    rw [e1, Option.bind_some]
    simp only
    rw [e2, Option.bind_some]
    simp only
    rw [e3, Option.bind_some]
    simp only
    rw [if_pos ⟨⟨hi.1, hi1⟩, ⟨hj.1, hj1⟩, by omega, by omega⟩]
    refine ⟨_, _, _, rfl, ?_, ha3.up (by omega)⟩
    unfold spoT spoB
    split
    · simp only [ByteArray.size_append, ByteArray.size_extract]; omega
    · split
      · simp only [ByteArray.size_append, ByteArray.size_extract]; omega
      · simp only [ByteArray.size_append, ByteArray.size_extract]; omega
end Go.Proofs.YtfindomajbjacaaGreatDoor.X
/- Drawing rotations and calls: it always ends; the lists are short. -/
namespace Go.Proofs.YtfindomajbjacaaGreatDoor.X
open Go.RowKit Go.Proofs.YtfindomajbjacaaGreatDoorW.PrintWords Go.Proofs.YtfindomajbjacaaGreatDoorW.PrintLast
set_option linter.unusedVariables false
set_option linter.unusedSimpArgs false
theorem rot_loop {l : List Int} (hl : Byt l) (n : Nat) (hn : n ≤ 12) (d : Nat) : ∀ (k i : Nat) (ps ds : List Int) (m a s : Int), i + d = n → 3 * d + 5 < k → ps.length = i → ds.length = i → At m a → m + 4 * d ≤ 10000000 →
    ∃ ps' ds' a' s', spec_l1Cur_rotation.l0 k (n : Int) (i : Int) l a s ps ds = some (ps', ds', a', s') ∧ ps'.length = n ∧ ds'.length = n ∧ At (m + 4 * d) a' := by
  induction d with
  | zero =>
    intro k i ps ds m a s hi hk hp hd ha hm
    obtain ⟨k, rfl⟩ := kpos (d := 0) (k := k) (by omega)
    have c : ¬ (i : Int) < (n : Int) := by omega
    simp only [spec_l1Cur_rotation.l0]
    rw [if_neg c]
    exact ⟨_, _, _, _, rfl, by omega, by omega, ha.up (by omega)⟩
  | succ d ih =>
    intro k i ps ds m a s hi hk hp hd ha hm
    obtain ⟨k, rfl⟩ : ∃ q, k = q + 3 := ⟨k - 3, by omega⟩
    have c : (i : Int) < (n : Int) := by omega
    have c1 : ps.length < 17592186044416 := by omega
    have c2 : ds.length < 17592186044416 := by omega
    have hw : wrap64 ((i : Int) + 1) = ((i + 1 : Nat) : Int) := by rw [w64 (by omega) (by omega)]; omega
    obtain ⟨v, a1, s1, e1, hv, ha1⟩ := pick_ok hl ha (by omega) s 5
    obtain ⟨y, a2, s2, e2, hy, ha2⟩ := among_ok hl ha1 (by omega) s1 ([1, 2, 3, 5, 10, 40] : List Int) (by decide) (fun _ => True) (fun _ _ => trivial)
    have key : ∀ p : Int, ∃ ps' ds' a' s', spec_l1Cur_rotation.j3 (k + 1) (n : Int) (i : Int) p l a1 s1 ps ds = some (ps', ds', a', s') ∧ ps'.length = n ∧ ds'.length = n ∧ At (m + 4 * (d + 1 : Nat)) a' := by
      intro p
      obtain ⟨ps', ds', a', s', q1, q2, q3, q4⟩ := ih k (i + 1) (ps ++ [p]) (ds ++ [y]) (m + 4) a2 s2 (by omega) (by omega) (by simp; omega) (by simp; omega) (ha2.up (by omega)) (by omega)
      refine ⟨ps', ds', a', s', ?_, q2, q3, q4.up (by omega)⟩
      rw [spec_l1Cur_rotation.j3, if_pos c1, e2, Option.bind_some, if_pos c2, hw]
      exact q1
    have key2 : ∀ (p : Int) (b : Bool), ∃ ps' ds' a' s', spec_l1Cur_rotation.j2 (k + 2) (n : Int) (i : Int) p b l a1 s1 ps ds = some (ps', ds', a', s') ∧ ps'.length = n ∧ ds'.length = n ∧ At (m + 4 * (d + 1 : Nat)) a' := by
      intro p b
      rw [spec_l1Cur_rotation.j2]
      cases b with
      | false => rw [if_neg (by decide)]; exact key _
      | true => rw [if_pos rfl]; exact key _
    rw [spec_l1Cur_rotation.l0, if_pos c, e1, Option.bind_some]
    dsimp only
    by_cases h0 : (i : Int) > 0
    · have hs : wrap64 ((i : Int) - 1) = (i : Int) - 1 := w64 (by omega) (by omega)
      have c3 : 0 ≤ (i : Int) - 1 := by omega
      have c4 : (i : Int) - 1 < (ps.length : Int) := by omega
      have c5 : 0 < (ps.length : Int) := by omega
      rw [if_pos h0, hs, if_pos c3, if_pos c4]
      split
      · exact key2 _ _
      · split
        · (try rw [if_pos c5])
          exact key2 _ _
        · exact key2 _ _
    · rw [if_neg h0]
      split
      · exact key2 _ _
      · exact key2 _ _
theorem rotation_ok {l : List Int} (hl : Byt l) {m a : Int} (ha : At m a) (hm : m ≤ 1000000) (s : Int) (k : Nat) (hk : 60 ≤ k) :
    ∃ ps ds a' s', spec_l1Cur_rotation.f k l a s = some (ps, ds, a', s') ∧ 1 ≤ ps.length ∧ ps.length ≤ 12 ∧ ds.length = ps.length ∧ At (m + 60) a' := by
  unfold spec_l1Cur_rotation.f
  obtain ⟨v, a1, s1, e1, hv, ha1⟩ := pick_ok hl ha (by omega) s 7
  have hv2 := hv.2.2 (by omega)
  have hv0 := hv.1
  rw [e1, Option.bind_some]
  dsimp only
  obtain ⟨b, a2, s2, e2, ha2⟩ := one_ok hl ha1 (by omega) s1 12
  rw [e2, Option.bind_some]
  dsimp only
  obtain ⟨k, rfl⟩ := kpos (d := 0) (k := k) (by omega)
  simp only [spec_l1Cur_rotation.j0]
  by_cases hb : b = true
  · obtain ⟨ps, ds, a3, s3, q1, q2, q3, q4⟩ := rot_loop hl 12 (by omega) 12 k 0 [] [] _ a2 s2 (by omega) (by omega) rfl rfl ha2 (by omega)
    rw [if_pos hb]
    exact ⟨ps, ds, a3, s3, q1, by omega, by omega, by omega, q4.up (by omega)⟩
  · obtain ⟨n, rfl⟩ : ∃ n : Nat, v = n := ⟨v.toNat, by omega⟩
    obtain ⟨ps, ds, a3, s3, q1, q2, q3, q4⟩ := rot_loop hl (n + 1) (by omega) (n + 1) k 0 [] [] _ a2 s2 (by omega) (by omega) rfl rfl ha2 (by omega)
    have hw : wrap64 (1 + (n : Int)) = ((n + 1 : Nat) : Int) := by rw [w64 (by omega) (by omega)]; omega
    rw [if_neg hb, hw]
    exact ⟨ps, ds, a3, s3, q1, by omega, by omega, by omega, q4.up (by omega)⟩
theorem anyRot_loop {l : List Int} (hl : Byt l) (d : Nat) : ∀ (k : Nat) (ps ds : List Int) (m a s : Int), ps.length + d = 14 → d + 2 < k → ds.length ≤ 14 - d → At m a → m + 2 * d ≤ 10000000 →
    ∃ ps' ds' a' s', spec_l1Cur_anyRotation.l0 k l a s ps ds = some (ps', ds', a', s') ∧ ps'.length ≤ 20 ∧ ds'.length ≤ 20 ∧ At (m + 2 * d + 2) a' := by
  induction d with
  | zero =>
    intro k ps ds m a s hp hk hd ha hm
    obtain ⟨k, rfl⟩ := kpos (d := 0) (k := k) (by omega)
    obtain ⟨v, a1, s1, e1, hv, ha1⟩ := pick_ok hl ha (by omega) s 2
    have hv2 := hv.2.2 (by omega)
    have hv0 := hv.1
    have hw : wrap64 (12 + v) = 12 + v := w64 (by omega) (by omega)
    have c : ¬ (ps.length : Int) < 12 + v := by omega
    simp only [spec_l1Cur_anyRotation.l0]
    rw [e1, Option.bind_some]
    dsimp only
    rw [hw, if_neg c]
    exact ⟨_, _, _, _, rfl, by omega, by omega, ha1.up (by omega)⟩
  | succ d ih =>
    intro k ps ds m a s hp hk hd ha hm
    obtain ⟨k, rfl⟩ := kpos (d := 0) (k := k) (by omega)
    obtain ⟨v, a1, s1, e1, hv, ha1⟩ := pick_ok hl ha (by omega) s 2
    have hv2 := hv.2.2 (by omega)
    have hv0 := hv.1
    have hw : wrap64 (12 + v) = 12 + v := w64 (by omega) (by omega)
    have c1 : ps.length < 17592186044416 := by omega
    have c2 : ds.length < 17592186044416 := by omega
    simp only [spec_l1Cur_anyRotation.l0]
    rw [e1, Option.bind_some]
    dsimp only
    rw [hw]
    by_cases c : (ps.length : Int) < 12 + v
    · rw [if_pos c, if_pos c1, if_pos c2]
      obtain ⟨ps', ds', a', s', q1, q2, q3, q4⟩ := ih k (ps ++ [7 + ((ps.length : Int) % 2)]) (ds ++ [1]) (m + 2) a1 s1 (by simp; omega) (by omega) (by simp; omega) ha1 (by omega)
      exact ⟨ps', ds', a', s', q1, q2, q3, q4.up (by omega)⟩
    · rw [if_neg c]
      exact ⟨_, _, _, _, rfl, by omega, by omega, ha1.up (by omega)⟩
theorem anyRotation_ok {l : List Int} (hl : Byt l) {m a : Int} (ha : At m a) (hm : m ≤ 100000) (s : Int) (k : Nat) (hk : 60 ≤ k) :
    ∃ ps ds a' s', spec_l1Cur_anyRotation.f k l a s = some (ps, ds, a', s') ∧ ps.length ≤ 20 ∧ ds.length ≤ 20 ∧ At (m + 110) a' := by
  unfold spec_l1Cur_anyRotation.f
  obtain ⟨ps, ds, a1, s1, e1, h1, h2, h3, ha1⟩ := rotation_ok hl ha (by omega) s k hk
  rw [e1, Option.bind_some]
  dsimp only
  obtain ⟨i, a2, s2, e2, hi, ha2⟩ := pick_ok hl ha1 (by omega) s1 (ps.length : Int)
  have hi2 := hi.2.2 (by omega)
  have hi0 := hi.1
  rw [e2, Option.bind_some]
  dsimp only
  obtain ⟨x, a3, s3, e3, hx, ha3⟩ := pick_ok hl ha2 (by omega) s2 30
  rw [e3, Option.bind_some]
  dsimp only
  have c0 : 0 < (ps.length : Int) := by omega
  have c1 : i < (ds.length : Int) := by omega
  by_cases x0 : x = 0
  · obtain ⟨y, a4, s4, e4, hy, ha4⟩ := among_ok hl ha3 (by omega) s3 ([0, 9, 10, rd ps 0] : List Int) (by simp) (fun _ => True) (fun _ _ => trivial)
    rw [if_pos x0, if_pos c0, e4, Option.bind_some, if_pos hi0, if_pos hi2]
    exact ⟨_, _, _, _, rfl, by rw [List.length_set]; omega, by omega, ha4.up (by omega)⟩
  rw [if_neg x0]
  by_cases x1 : x = 1
  · obtain ⟨y, a4, s4, e4, hy, ha4⟩ := among_ok hl ha3 (by omega) s3 ([0, 40, 41] : List Int) (by decide) (fun _ => True) (fun _ _ => trivial)
    rw [if_pos x1, e4, Option.bind_some, if_pos hi0, if_pos c1]
    exact ⟨_, _, _, _, rfl, by omega, by rw [List.length_set]; omega, ha4.up (by omega)⟩
  rw [if_neg x1]
  by_cases x2 : x = 2
  · rw [if_pos x2, if_pos (by omega)]
    exact ⟨_, _, _, _, rfl, by omega, by rw [List.length_drop]; omega, ha3.up (by omega)⟩
  rw [if_neg x2]
  by_cases x3 : x = 3
  · rw [if_pos x3]
    exact ⟨_, _, _, _, rfl, by simp, by simp, ha3.up (by omega)⟩
  rw [if_neg x3]
  by_cases x4 : x = 4
  · rw [if_pos x4]
    obtain ⟨ps', ds', a', s', q1, q2, q3, q4⟩ := anyRot_loop hl (14 - ps.length) k ps ds _ a3 s3 (by omega) (by omega) (by omega) ha3 (by omega)
    exact ⟨ps', ds', a', s', q1, q2, q3, q4.up (by omega)⟩
  rw [if_neg x4]
  exact ⟨_, _, _, _, rfl, by omega, by omega, ha3.up (by omega)⟩
theorem call_ok {l : List Int} (hl : Byt l) {m a : Int} (ha : At m a) (hm : m ≤ 1000000) (s : Int) (ps ds : List Int) (hp : ps.length ≤ 20) :
    ∃ i a' s', spec_l1Cur_call.f l a s ps ds = some (i, a', s') ∧ (-1 ≤ i ∧ i ≤ 70000) ∧ At (m + 4) a' := by
  unfold spec_l1Cur_call.f spec_l1Most.f
  obtain ⟨b, a1, s1, e1, ha1⟩ := one_ok hl ha (by omega) s 16
  rw [e1, Option.bind_some]
  dsimp only
  by_cases hb : b = true
  · obtain ⟨y, a2, s2, e2, hy, ha2⟩ := among_ok hl ha1 (by omega) s1 ([-1, (ps.length : Int)] : List Int) (by simp) (fun y => -1 ≤ y ∧ y ≤ 70000) (by
      intro y hy
      simp only [List.mem_cons, List.not_mem_nil, or_false] at hy
      rcases hy with rfl | rfl <;> omega)
    rw [if_pos hb, e2, Option.bind_some]
    exact ⟨_, _, _, rfl, hy, ha2.up (by omega)⟩
  · rw [if_neg hb]
    by_cases h1 : (ps.length : Int) > 1
    · obtain ⟨y, a2, s2, e2, hy, ha2⟩ := pick_ok hl ha1 (by omega) s1 (ps.length : Int)
      have hy0 := hy.1
      have hy1 := hy.2.1
      rw [if_pos h1, Option.bind_some, e2, Option.bind_some]
      exact ⟨_, _, _, rfl, by omega, ha2.up (by omega)⟩
    · obtain ⟨y, a2, s2, e2, hy, ha2⟩ := pick_ok hl ha1 (by omega) s1 1
      have hy0 := hy.1
      have hy1 := hy.2.1
      rw [if_neg h1, Option.bind_some, e2, Option.bind_some]
      exact ⟨_, _, _, rfl, by omega, ha2.up (by omega)⟩
end Go.Proofs.YtfindomajbjacaaGreatDoor.X
namespace Go.Proofs.YtfindomajbjacaaGreatDoor.Pure
open Go.RowKit Go.Proofs.YtfindomajbjacaaGreatDoor.X Go.Proofs.YtfindomajbjacaaGreatDoorW.PrintWords Go.Proofs.YtfindomajbjacaaGreatDoorW.PrintLast
set_option linter.unusedVariables false
set_option linter.unusedSimpArgs false
theorem draw_turn {l : List Int} (hl : Byt l) (k : Nat) (hk : 60 ≤ k) : ∃ ps ds i, spec_DrawTurnRotation.f k l = some (ps, ds, i) ∧ ps.length ≤ 20 ∧ ds.length ≤ 20 := by
  unfold spec_DrawTurnRotation.f spec_DrawPortsAhead.f
  obtain ⟨ps, ds, a1, s1, e1, h1, h2, ha1⟩ := anyRotation_ok hl (show At 0 0 from ⟨by decide, by decide⟩) (by decide) 0 k hk
  obtain ⟨i, a2, s2, e2, _, ha2⟩ := call_ok hl ha1 (by omega) s1 ps ds h1
  rw [e1, Option.bind_some]
  dsimp only
  rw [e2, Option.bind_some, Option.bind_some]
  exact ⟨_, _, _, rfl, h1, h2⟩
theorem draw_j0 {l : List Int} (hl : Byt l) (x : Bool) {m a : Int} (s : Int) (ps ds : List Int) (ha : At m a) (hm : m ≤ 1000) (hx : x = true → goodR ps ds = true) (k : Nat) (hk : 62 ≤ k) :
    ∃ p q c d, spec_DrawSameCycle.j0 k x l a s ps ds = some (p, q, c, d) := by
  obtain ⟨k, rfl⟩ : ∃ q, k = q + 2 := ⟨k - 2, by omega⟩
  rw [spec_DrawSameCycle.j0]
  cases x with
  | false =>
    obtain ⟨qs, es, a1, s1, e1, _, _, _⟩ := anyRotation_ok hl ha (by omega) s (k + 1) (by omega)
    rw [if_neg (by decide), e1, Option.bind_some]
    exact ⟨_, _, _, _, rfl⟩
  | true =>
    have hg := hx rfl
    obtain ⟨l1, l2, l3⟩ := goodR_len hg
    obtain ⟨v, a1, s1, e1, hv, ha1⟩ := pick_ok hl ha (by omega) s (ps.length : Int)
    have hn := hv.2.2 (by omega)
    have h0 := hv.1
    obtain ⟨n, rfl⟩ : ∃ n : Nat, v = n := ⟨v.toNat, by omega⟩
    obtain ⟨t1, _⟩ := turn_ends ps ds hg n (by omega)
    obtain ⟨c, a2, s2, e2, ha2⟩ := one_ok hl ha1 (by omega) s1 3
    rw [if_pos rfl, e1, Option.bind_some]
    dsimp only
    rw [t1, Option.bind_some]
    dsimp only
    rw [e2, Option.bind_some]
    dsimp only
    by_cases hc : c = true
    · obtain ⟨y, a3, s3, e3, _, _⟩ := among_ok hl ha2 (by omega) s2 ([1, 2, 3] : List Int) (by decide) (fun _ => True) (fun _ _ => trivial)
      rw [if_pos hc, e3, Option.bind_some, if_pos (by rw [turnL_length _ _ (by omega)]; omega), spec_DrawSameCycle.j1]
      exact ⟨_, _, _, _, rfl⟩
    · rw [if_neg hc, spec_DrawSameCycle.j1]
      exact ⟨_, _, _, _, rfl⟩
theorem draw_same {l : List Int} (hl : Byt l) (k : Nat) (hk : 70 ≤ k) : ∃ a b c d, spec_DrawSameCycle.f k l = some (a, b, c, d) := by
  unfold spec_DrawSameCycle.f
  obtain ⟨ps, ds, a1, s1, e1, h1, h2, ha1⟩ := anyRotation_ok hl (show At 0 0 from ⟨by decide, by decide⟩) (by decide) 0 k (by omega)
  rw [e1, Option.bind_some]
  dsimp only
  rw [spec_goodR _ _ _ (by omega), Option.bind_some]
  by_cases hg : goodR ps ds = true
  · obtain ⟨c, a2, s2, e2, ha2⟩ := one_ok hl ha1 (by omega) s1 3
    rw [if_pos hg, e2, Option.bind_some]
    exact draw_j0 hl _ s2 ps ds ha2 (by omega) (fun _ => hg) k (by omega)
  · rw [if_neg hg]
    exact draw_j0 hl _ s1 ps ds ha1 (by omega) (fun h => by cases h) k (by omega)
theorem textA_size (ps ds : List Int) : (textA ps ds).1.size ≤ 60 := by
  unfold textA
  split
  · rename_i hg
    have := rotT_short ps ds hg ps.length (Nat.le_refl _)
    obtain ⟨l1, l2, l3⟩ := goodR_len hg
    dsimp only
    omega
  · decide
theorem draw_parse {l : List Int} (hl : Byt l) (k : Nat) (hk : 100 ≤ k) : ∃ t, spec_DrawParseRotation.f k l = some t ∧ t.size ≤ 100 := by
  unfold spec_DrawParseRotation.f
  obtain ⟨ps, ds, a1, s1, e1, _, _, _, ha1⟩ := rotation_ok hl (show At 0 0 from ⟨by decide, by decide⟩) (by decide) 0 k (by omega)
  obtain ⟨v, a2, s2, e2, ha2⟩ := one_ok hl ha1 (by omega) s1 4
  have hz := textA_size ps ds
  rw [e1, Option.bind_some]
  dsimp only
  rw [(text_both ps ds k (by omega)).1, Option.bind_some, e2, Option.bind_some]
  dsimp only
  by_cases hv : v = true
  · obtain ⟨t, a3, s3, e3, ht, _⟩ := spoilt_ok hl ha2 (by omega) s2 (textA ps ds).1 (⟨#[58, 32, 49, 48]⟩ : ByteArray) (by decide) (by omega) (by decide)
    rw [if_pos hv, e3, Option.bind_some]
    exact ⟨_, rfl, by show t.size ≤ 100; omega⟩
  · rw [if_neg hv]
    exact ⟨_, rfl, by omega⟩
theorem rInts_loop (xs : List Int) (hx : xs.length ≤ 1000) (d : Nat) : ∀ (k i : Nat), i + d = xs.length → d < k → laws_rInts.l0 k xs xs (i : Int) = some true := by
  induction d with
  | zero =>
    intro k i hi hk
    obtain ⟨k, rfl⟩ := kpos hk
    simp only [laws_rInts.l0]
    rw [if_neg (by omega)]
  | succ d ih =>
    intro k i hi hk
    obtain ⟨k, rfl⟩ := kpos hk
    have hlt : i < xs.length := by omega
    simp only [laws_rInts.l0]
    rw [if_pos (by omega), if_pos (by omega), if_pos (by omega), if_pos trivial, wnext hlt (by omega)]
    exact ih k (i + 1) (by omega) (by omega)
theorem rInts_refl (xs : List Int) (hx : xs.length ≤ 1000) (k : Nat) (hk : 1001 ≤ k) : laws_rInts.f k xs xs = some true := by
  unfold laws_rInts.f
  rw [if_pos rfl]
  have := rInts_loop xs hx xs.length k 0 (by omega) (by omega)
  rw [show ((0 : Nat) : Int) = 0 from rfl] at this
  exact this
theorem rRot_refl (a b : List Int) (ha : a.length ≤ 1000) (hb : b.length ≤ 1000) (k : Nat) (hk : 1001 ≤ k) : laws_rRotations.f k a b a b = some true := by
  unfold laws_rRotations.f
  rw [rInts_refl a ha k hk, Option.bind_some, if_pos rfl, rInts_refl b hb k hk, Option.bind_some]
theorem j6_ends {l : List Int} (hl : Byt l) (k : Nat) (hk : 2097401 ≤ k) : lw.j6 (k + 1) l false = some true := by
  obtain ⟨t, et, ht⟩ := draw_parse hl k (by omega)
  obtain ⟨ws, _, hp, h1, h2⟩ := parse_both t (by omega)
  obtain ⟨e1, e2⟩ := hp k (by omega)
  have hr := rRot_refl (parR t ws).1 (parR t ws).2.1 (by omega) (by omega) k (by omega)
  obtain ⟨k, rfl⟩ : ∃ q, k = q + 1 := ⟨k - 1, by omega⟩
  rw [lw.j6, if_neg (by decide), et, Option.bind_some, e2, e1, Option.bind_some, Option.bind_some, beq_self_eq_true, if_pos rfl, hr, Option.bind_some, lw.j7]
theorem j5_ends {l : List Int} (hl : Byt l) (k : Nat) (hk : 2097402 ≤ k) : lw.j5 (k + 1) l = some true := by
  obtain ⟨a, b, c, d, ed⟩ := draw_same hl k (by omega)
  obtain ⟨e1, e2⟩ := same_ends a b c d k (by omega)
  obtain ⟨k, rfl⟩ : ∃ q, k = q + 1 := ⟨k - 1, by omega⟩
  rw [lw.j5, ed, Option.bind_some]
  dsimp only
  rw [e2, Option.bind_some, e1, Option.bind_some, bne_self_eq_false, if_neg (by decide), bne_self_eq_false]
  exact j6_ends hl k (by omega)
theorem j2_ends {l : List Int} (hl : Byt l) (ps ds : List Int) (i : Int) (k : Nat) (hk : 2097406 ≤ k) : lw.j2 (k + 1) l i ps ds = some true := by
  obtain ⟨e1, e2⟩ := turn_both ps ds i k (by omega)
  obtain ⟨z1, z2⟩ := turnA_small ps ds i
  have hr := rRot_refl (turnA ps ds i).1 (turnA ps ds i).2.1 (by omega) (by omega) k (by omega)
  obtain ⟨k, rfl⟩ : ∃ q, k = q + 3 := ⟨k - 3, by omega⟩
  rw [lw.j2, e2, Option.bind_some, e1, Option.bind_some, bne_self_eq_false, if_neg (by decide), hr, Option.bind_some, Bool.not_true, lw.j3, if_neg (by decide)]
  by_cases hc : callB ps ds i = true
  · obtain ⟨hg, n, rfl, hn⟩ := callB_nat hc
    have ht : turnA ps ds (n : Int) = (turnL ps n, turnL ds n, true) := by
      unfold turnA
      rw [if_pos hc, Int.toNat_natCast]
    have hg2 := goodR_turn hg n hn
    have c1 : cycleM ps ds = (sumI ds, true) := if_pos hg
    have c2 : cycleM (turnL ps n) (turnL ds n) = (sumI ds, true) := by rw [← sumI_turn ds n]; exact if_pos hg2
    rw [ht]
    dsimp only
    rw [if_pos rfl, (same_ends ps ds (turnL ps n) (turnL ds n) (k + 2) (by omega)).2, same_turn hg n hn, Option.bind_some, impl_cycle ps ds (k + 2) (by omega), Option.bind_some, impl_cycle (turnL ps n) (turnL ds n) (k + 2) (by omega), Option.bind_some, c1, c2]
    dsimp only
    rw [if_pos rfl, if_pos rfl, if_pos rfl, if_pos rfl, bne_self_eq_false, lw.j4, if_neg (by decide)]
    exact j5_ends hl k (by omega)
  · have ht : turnA ps ds i = ([], [], false) := if_neg hc
    rw [ht]
    dsimp only
    rw [if_neg (by decide)]
    exact j5_ends hl (k + 1) (by omega)
theorem FnRotations : lw.Pure := by
  intro l hl
  refine ⟨2097407 + 3, ?_⟩
  unfold lw.f laws_rBig.f
  rw [Option.bind_some]
  by_cases h : (l.length : Int) > 65536
  · rw [if_pos (decide_eq_true h)]
  · rw [if_neg (by simpa using h)]
    have hb : Byt l := ⟨by omega, hl.2⟩
    obtain ⟨ps, ds, i, ed, h1, h2⟩ := draw_turn hb (2097407 + 3) (by omega)
    obtain ⟨e1, e2⟩ := text_both ps ds (2097407 + 3) (by omega)
    have hj := j2_ends hb ps ds i 2097407 (by omega)
    have hj2 := j2_ends hb ps ds i (2097407 + 1) (by omega)
    rw [ed, Option.bind_some]
    dsimp only
    rw [e2, Option.bind_some, e1, Option.bind_some, if_pos rfl, bne_self_eq_false, if_neg (by decide), impl_goodR _ _ _ (by omega), Option.bind_some, lw.j0]
    by_cases hg : goodR ps ds = true
    · have ht : textA ps ds = (rotT ps ds ps.length, true) := if_pos hg
      rw [ht, hg]
      dsimp only
      rw [if_neg (by decide), if_pos rfl, parse_text ps ds hg (2097407 + 2) (by omega), Option.bind_some]
      dsimp only
      rw [if_pos rfl, rRot_refl ps ds (by omega) (by omega) _ (by omega), Option.bind_some, Bool.not_true, lw.j1, if_neg (by decide)]
      exact hj
    · have ht : textA ps ds = (⟨#[]⟩, false) := if_neg hg
      rw [Bool.not_eq_true] at hg
      rw [ht, hg]
      dsimp only
      rw [if_neg (by decide), if_neg (by decide)]
      exact hj2
end Go.Proofs.YtfindomajbjacaaGreatDoor.Pure
