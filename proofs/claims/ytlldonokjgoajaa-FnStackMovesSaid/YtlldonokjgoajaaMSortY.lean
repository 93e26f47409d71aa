/- Rows of numbers in the order of slices.Compare: a strict total order; a list's sorted rows. -/
import Derived.Test.YtlldonokjgoajaaMBase
import Derived.Test.YtlldonokjgoajaaFslicesCompareintint
import Derived.Test.YtlldonokjgoajaaFslicesEqualintint
import Derived.Test.YtlldonokjgoajaaFbList
import Derived.Sort.Statements
import Derived.Shelf.SlSortCmp.Insertion
namespace Go.Proofs.Ytlldonokjgoajaa.X
open Go.RowKit Go.Sort Go.Proofs.YtlldonokjgoajaaW.PrintWords Go.Proofs.YtlldonokjgoajaaW.PrintLast
set_option linter.unusedVariables false
set_option linter.unusedSimpArgs false
def cmpN (a b : Int) : Int := if a < b then -1 else if a > b then 1 else 0
theorem cmpN_ends (a b : Int) : cmp_Compare_int.f a b = some (cmpN a b) := by
  unfold cmp_Compare_int.f cmp_isNaN_int.f cmpN
  simp only [bne_self_eq_false, Option.bind_some, Bool.false_eq_true, if_false, ne_eq, not_true, decide_false]
  split
  · rfl
  · split <;> rfl
def cmpL : List Int → List Int → Int
  | [], [] => 0
  | [], _ :: _ => -1
  | _ :: _, [] => 1
  | x :: r, y :: s => if cmpN x y = 0 then cmpL r s else cmpN x y
theorem cmpL_loop (a b : List Int) (hx : a.length ≤ 1048576) (d : Nat) : ∀ (k i : Nat), i + d = a.length → d < k → i ≤ b.length → slices_Compare_int_int.l0 k a b a (a.length : Int) (i : Int) = some (cmpL (a.drop i) (b.drop i)) := by
  induction d with
  | zero =>
    intro k i hi hk hb
    obtain ⟨k, rfl⟩ := kpos hk
    simp only [slices_Compare_int_int.l0]
    rw [if_neg (by omega), List.drop_of_length_le (by omega)]
    by_cases h : (a.length : Int) < (b.length : Int)
    · rw [if_pos h, getD_cons (z := 0) (show i < b.length by omega)]
      rfl
    · rw [if_neg h, List.drop_of_length_le (by omega)]
      rfl
  | succ d ih =>
    intro k i hi hk hb
    obtain ⟨k, rfl⟩ := kpos hk
    have hlt : i < a.length := by omega
    simp only [slices_Compare_int_int.l0]
    rw [if_pos (by omega), if_pos (by omega), if_pos (by omega), getD_cons (z := 0) hlt]
    by_cases h : b.length ≤ i
    · rw [if_pos (by omega), List.drop_of_length_le h]
      rfl
    · rw [if_neg (by omega), if_pos (by omega), cmpN_ends, Option.bind_some, getD_cons (z := 0) (show i < b.length by omega), rd_nat, rd_nat, wnext hlt (by omega)]
      unfold cmpL
      by_cases e : cmpN (a.getD i 0) (b.getD i 0) = 0
      · rw [if_pos e, if_pos e]
        exact ih k (i + 1) (by omega) (by omega) (by omega)
      · rw [if_neg e, if_neg e]
theorem cmpL_ends (a b : List Int) (hx : a.length ≤ 1048576) (k : Nat) (hk : 1048577 ≤ k) : slices_Compare_int_int.f k a b = some (cmpL a b) := by
  have := cmpL_loop a b hx a.length k 0 (by omega) (by omega) (by omega)
  rw [show ((0 : Nat) : Int) = 0 from rfl, List.drop_zero, List.drop_zero] at this
  exact this
theorem equal_loop (a b : List Int) (hx : a.length ≤ 1048576) (hl : a.length = b.length) (d : Nat) : ∀ (k i : Nat), i + d = a.length → d < k → slices_Equal_int_int.l0 k a b (a.length : Int) (i : Int) = some (decide (a.drop i = b.drop i)) := by
  induction d with
  | zero =>
    intro k i hi hk
    obtain ⟨k, rfl⟩ := kpos hk
    simp only [slices_Equal_int_int.l0]
    rw [if_neg (by omega), List.drop_of_length_le (by omega), List.drop_of_length_le (by omega)]
    simp
  | succ d ih =>
    intro k i hi hk
    obtain ⟨k, rfl⟩ := kpos hk
    have hlt : i < a.length := by omega
    simp only [slices_Equal_int_int.l0]
    rw [if_pos (by omega), if_pos (by omega), if_pos (by omega), if_pos (by omega), rd_nat, rd_nat, wnext hlt (by omega), getD_cons (z := 0) hlt, getD_cons (xs := b) (z := 0) (show i < b.length by omega)]
    by_cases e : a.getD i 0 = b.getD i 0
    · rw [if_pos e, dec_cons_pos e]
      exact ih k (i + 1) (by omega) (by omega)
    · rw [if_neg e, dec_cons_neg e]
theorem equal_ends (a b : List Int) (hx : a.length ≤ 1048576) (k : Nat) (hk : 1048577 ≤ k) : slices_Equal_int_int.f k a b = some (decide (a = b)) := by
  unfold slices_Equal_int_int.f
  by_cases h : a.length = b.length
  · have := equal_loop a b hx h a.length k 0 (by omega) (by omega)
    rw [show ((0 : Nat) : Int) = 0 from rfl, List.drop_zero, List.drop_zero] at this
    rw [if_pos (by omega)]
    exact this
  · rw [if_neg (by omega), decide_eq_false (fun e => h (by rw [e]))]
def ltR : List Int → List Int → Bool
  | [], [] => false
  | [], _ :: _ => true
  | _ :: _, [] => false
  | x :: r, y :: s => if x = y then ltR r s else decide (x < y)
theorem cmpL_neg : ∀ a b : List Int, decide (cmpL a b < 0) = ltR a b
  | [], [] => rfl
  | [], _ :: _ => rfl
  | _ :: _, [] => rfl
  | x :: r, y :: s => by
    have ih := cmpL_neg r s
    have e0 : cmpL (x :: r) (y :: s) = if cmpN x y = 0 then cmpL r s else cmpN x y := by simp only [cmpL]
    have e1 : ltR (x :: r) (y :: s) = if x = y then ltR r s else decide (x < y) := by simp only [ltR]
    rw [Bool.eq_iff_iff, decide_eq_true_eq] at ih ⊢
    rw [e0, e1]
    rcases Int.lt_trichotomy x y with h | h | h
    · have hc : cmpN x y = -1 := if_pos h
      rw [hc, if_neg (by decide), if_neg (by omega), decide_eq_true h]
      exact ⟨fun _ => rfl, fun _ => by decide⟩
    · have hc : cmpN x y = 0 := by unfold cmpN; rw [if_neg (by omega), if_neg (by omega)]
      rw [hc, if_pos rfl, if_pos h]
      exact ih
    · have hc : cmpN x y = 1 := by unfold cmpN; rw [if_neg (by omega), if_pos h]
      rw [hc, if_neg (by decide), if_neg (by omega), decide_eq_false (show ¬ x < y by omega)]
      exact ⟨fun z => absurd z (by decide), fun z => absurd z (by decide)⟩
theorem ltR_irrefl : ∀ a : List Int, ltR a a = false
  | [] => rfl
  | x :: r => by simp only [ltR]; rw [if_pos trivial]; exact ltR_irrefl r
theorem ltR_trans : ∀ a b c : List Int, ltR a b = true → ltR b c = true → ltR a c = true
  | [], [], _, h, _ => by simp [ltR] at h
  | [], _ :: _, [], _, h => by simp [ltR] at h
  | [], _ :: _, _ :: _, _, _ => rfl
  | _ :: _, [], _, h, _ => by simp [ltR] at h
  | _ :: _, _ :: _, [], _, h => by simp [ltR] at h
  | x :: r, y :: s, z :: t, h1, h2 => by
    have ih := ltR_trans r s t
    simp only [ltR] at h1 h2 ⊢
    by_cases e1 : x = y
    · rw [if_pos e1] at h1
      by_cases e2 : y = z
      · rw [if_pos e2] at h2
        rw [if_pos (e1.trans e2)]
        exact ih h1 h2
      · rw [if_neg e2, decide_eq_true_eq] at h2
        rw [if_neg (by omega), decide_eq_true_eq]
        omega
    · rw [if_neg e1, decide_eq_true_eq] at h1
      by_cases e2 : y = z
      · rw [if_neg (by omega), decide_eq_true_eq]
        omega
      · rw [if_neg e2, decide_eq_true_eq] at h2
        rw [if_neg (by omega), decide_eq_true_eq]
        omega
theorem ltR_total : ∀ a b : List Int, ltR a b = false → ltR b a = false → a = b
  | [], [], _, _ => rfl
  | [], _ :: _, h, _ => by simp [ltR] at h
  | _ :: _, [], _, h => by simp [ltR] at h
  | x :: r, y :: s, h1, h2 => by
    have ih := ltR_total r s
    simp only [ltR] at h1 h2
    by_cases e : x = y
    · rw [if_pos e] at h1
      rw [if_pos e.symm] at h2
      rw [e, ih h1 h2]
    · rw [if_neg e, decide_eq_false_iff_not] at h1
      rw [if_neg (fun z => e z.symm), decide_eq_false_iff_not] at h2
      omega
theorem ltR_ntrans (a b c : List Int) (h1 : ltR a b = false) (h2 : ltR b c = false) : ltR a c = false := by
  cases h : ltR a c with
  | false => rfl
  | true =>
    exfalso
    cases h3 : ltR b a with
    | true =>
      rw [ltR_trans b a c h3 h] at h2
      cases h2
    | false =>
      have e := ltR_total a b h1 h3
      rw [e, h2] at h
      cases h
def cfR (rows : List (List Int)) (i j : Fin rows.length) : Int := cmpL (rows.get i) (rows.get j)
theorem ltRF (rows : List (List Int)) (i j : Fin rows.length) : ltOf (cfR rows) i j = ltR (rows.get i) (rows.get j) := cmpL_neg _ _
theorem swoR (rows : List (List Int)) : SWO (ltOf (cfR rows)) where
  irrefl x := by rw [ltRF]; exact ltR_irrefl _
  trans x y z h1 h2 := by rw [ltRF] at *; exact ltR_trans _ _ _ h1 h2
  ntrans x y z h1 h2 := by rw [ltRF] at *; exact ltR_ntrans _ _ _ h1 h2
def SrtR (r : List (List Int)) : Prop := r.Pairwise fun a b => ltR b a = false
theorem srt_unique : ∀ r s : List (List Int), r.Perm s → SrtR r → SrtR s → r = s
  | [], s, h, _, _ => (List.Perm.nil_eq h)
  | x :: r, [], h, _, _ => absurd h.length_eq (by simp)
  | x :: r, y :: s, h, h1, h2 => by
    obtain ⟨h1a, h1b⟩ := List.pairwise_cons.1 h1
    obtain ⟨h2a, h2b⟩ := List.pairwise_cons.1 h2
    have e : x = y := by
      by_cases e : x = y
      · exact e
      · have m1 : x ∈ s := (List.mem_cons.1 (h.mem_iff.1 (List.mem_cons_self (a := x) (l := r)))).resolve_left e
        have m2 : y ∈ r := (List.mem_cons.1 (h.mem_iff.2 (List.mem_cons_self (a := y) (l := s)))).resolve_left (fun z => e z.symm)
        exact ltR_total _ _ (h2a x m1) (h1a y m2)
    subst e
    rw [srt_unique r s (List.Perm.cons_inv h) h1b h2b]
/-- The rows in order. -/
def sortY (rows : List (List Int)) : List (List Int) := rows.mergeSort fun x y => !(ltR y x)
theorem sortY_perm (rows : List (List Int)) : (sortY rows).Perm rows := List.mergeSort_perm _ _
theorem sortY_sorted (rows : List (List Int)) : SrtR (sortY rows) := by
  have hs := List.pairwise_mergeSort (le := fun x y => !(ltR y x)) (l := rows) ?_ ?_
  · refine List.Pairwise.imp (fun {a b} h => ?_) hs
    rw [Bool.not_eq_true'] at h
    exact h
  · intro a b c h1 h2
    simp only [Bool.not_eq_true'] at *
    exact ltR_ntrans _ _ _ h2 h1
  · intro a b
    cases h : ltR b a with
    | false => rfl
    | true =>
      cases h2 : ltR a b with
      | false => rfl
      | true =>
        have := ltR_trans _ _ _ h h2
        rw [ltR_irrefl] at this
        cases this
theorem sortY_iff (a b : List (List Int)) : sortY a = sortY b ↔ a.Perm b :=
  ⟨fun h => (sortY_perm a).symm.trans (h ▸ sortY_perm b), fun h => srt_unique _ _ ((sortY_perm a).trans (h.trans (sortY_perm b).symm)) (sortY_sorted a) (sortY_sorted b)⟩
theorem fin_get {α : Type} (rows : List α) : (List.finRange rows.length).map rows.get = rows := by
  apply List.ext_getElem (by simp)
  intro i h1 h2
  simp
theorem ext_all {α : Type} (d : Array α) (n : Nat) (h : d.size = n) : d.extract 0 n = d := by subst h; simp
/-- What the library's sort gives. -/
theorem sorted_is (rows : List (List Int)) [Inhabited (Fin rows.length)] (d' : Array (Fin rows.length)) (hp : PermIn 0 (List.finRange rows.length).toArray.size (List.finRange rows.length).toArray d') (hs : SortedIn (ltOf (cfR rows)) 0 (List.finRange rows.length).toArray.size d') :
    d'.toList.length = rows.length ∧ d'.toList.map rows.get = sortY rows := by
  obtain ⟨hz, _, hp⟩ := hp
  have hz1 : d'.size = rows.length := by simpa using hz
  have hn : (List.finRange rows.length).toArray.size = rows.length := by simp
  rw [hn] at hp hs
  have hp2 : d'.toList.Perm (List.finRange rows.length) := by
    have e1 := ext_all d' rows.length hz1
    have e2 := ext_all (List.finRange rows.length).toArray rows.length hn
    rw [e1, e2] at hp
    exact hp
  refine ⟨by simpa using hz1, srt_unique _ _ ?_ ?_ (sortY_sorted rows)⟩
  · have := hp2.map rows.get
    rw [fin_get] at this
    exact this.trans (sortY_perm rows).symm
  · unfold SrtR
    rw [List.pairwise_map, List.pairwise_iff_getElem]
    intro i j hi hj hij
    have hi' : i < d'.size := by simpa using hi
    have hj' : j < d'.size := by simpa using hj
    have := hs i j (Nat.zero_le _) hij (by omega)
    rw [ltRF, getElem!_pos d' i hi', getElem!_pos d' j hj'] at this
    simpa using this
end Go.Proofs.Ytlldonokjgoajaa.X
