/- The law FnExactHeaviestFirst answers true for every list of containers. No condition beyond the form's own reach. -/
import Derived.Test.YtlldonokjgoajaaFlawsFnExactHeaviestFirst
import Derived.Test.YtlldonokjgoajaaOpen
import Derived.Test.YtlldonokjgoajaaGHeavy
import Derived.Test.YtlldonokjgoajaaFspecHeaviestFirst
import Derived.Test.YtlldonokjgoajaaMContL
import Derived.Test.YtlldonokjgoajaaFbHelpC
import Derived.Test.YtlldonokjgoajaaFbText
import Derived.Test.YtlldonokjgoajaaFbHelpM
import Derived.Test.YtlldonokjgoajaaMBase
import Derived.Test.YtlldonokjgoajaaFbList
import Derived.Test.YtlldonokjgoajaaFbHelpR
-- Written by a program of ours (wip/bin/rows.py). Not trusted: Lean checks it.
namespace Go.Proofs.Ytlldonokjgoajaa.X
open Go.RowKit Go.Proofs.YtlldonokjgoajaaW.PrintWords Go.Proofs.YtlldonokjgoajaaW.PrintLast
/-- The law's one pure statement. -/
def laws_FnExactHeaviestFirst.Pure : Prop := ∀ (l0 : (List S144)), (WL W144) l0 → ∃ k, laws_FnExactHeaviestFirst.f k l0 = some true
end Go.Proofs.Ytlldonokjgoajaa.X
/- The reference's HeaviestFirst: the same order as the program's. -/
namespace Go.Proofs.Ytlldonokjgoajaa.X
open Go.RowKit Go.Sort Go.Proofs.YtlldonokjgoajaaW.PrintWords Go.Proofs.YtlldonokjgoajaaW.PrintLast
set_option linter.unusedVariables false
set_option linter.unusedSimpArgs false
def ltI (cs : List S89) (a b : Int) : Bool := ahead (cs.getD a.toNat z89) (cs.getD b.toNat z89)
theorem ordI (cs : List S89) : Ord (ltI cs) where
  asym a b h := by
    cases h2 : ltI cs b a with
    | false => rfl
    | true =>
      have := ahead_trans _ _ _ h h2
      rw [ahead_irrefl] at this
      cases this
  co a b c h := by
    by_cases h1 : ltI cs a b = true
    · exact .inl h1
    · by_cases h2 : ltI cs b c = true
      · exact .inr h2
      · rw [Bool.not_eq_true] at h1 h2
        have := ahead_ntrans _ _ _ h1 h2
        unfold ltI at h
        rw [this] at h
        cases h
theorem l2Before_ends (x y : S89) : spec_l2Before.f x.f0 x.f1 x.f2 x.f3 x.f4 y.f0 y.f1 y.f2 y.f3 y.f4 = some (ahead x y) := by
  unfold spec_l2Before.f ahead
  by_cases h1 : x.f2 > y.f2
  · rw [if_pos h1, decide_eq_true h1]; rfl
  · rw [if_neg h1, decide_eq_false h1]
    by_cases h2 : x.f2 = y.f2
    · rw [if_pos h2, decide_eq_true h2]; rfl
    · rw [if_neg h2, decide_eq_false h2]; rfl
theorem heavy_l1 (cs : List S89) (hx : cs.length ≤ 1000) (t : List Int) (ht : t.length ≤ 1000) (hb : ∀ x ∈ t, 0 ≤ x ∧ x < (cs.length : Int)) (i : Nat) (hi : i < cs.length) (d : Nat) : ∀ (k : Nat), d ≤ t.length → d < k →
    spec_HeaviestFirst.l1 k cs t (i : Int) (d : Int) = spec_HeaviestFirst.l0 (k - (d - posK (ltI cs) (i : Int) t d) - 1) cs (t.take (posK (ltI cs) (i : Int) t d) ++ (i : Int) :: t.drop (posK (ltI cs) (i : Int) t d)) ((i + 1 : Nat) : Int) := by
  induction d with
  | zero =>
    intro k hd hk
    obtain ⟨k, rfl⟩ := kpos hk
    simp only [spec_HeaviestFirst.l1, posK, Option.bind_some]
    have c0 : ¬ ((0 : Nat) : Int) > 0 := by omega
    have c1 : 0 ≤ ((0 : Nat) : Int) := by omega
    have c2 : ((0 : Nat) : Int) ≤ (t.length : Int) := by omega
    rw [if_neg c0, if_pos c1, if_pos c2, if_pos (by simp), if_pos (by simp), if_pos (by simp; omega), wnext hi (by omega)]
    simp
  | succ d ih =>
    intro k hd hk
    obtain ⟨k, rfl⟩ := kpos (d := 0) (k := k) (by omega)
    have hw : wrap64 (((d + 1 : Nat) : Int) - 1) = (d : Int) := by rw [w64 (by omega) (by omega)]; omega
    have hdt : d < t.length := by omega
    obtain ⟨b0, b1⟩ := hb (t.getD d 0) (getD_mem hdt)
    obtain ⟨p, hp⟩ : ∃ p : Nat, t.getD d 0 = p := ⟨(t.getD d 0).toNat, by omega⟩
    have hpl : p < cs.length := by omega
    have hlt : ltI cs (i : Int) (t.getD d 0) = ahead (cs.getD i z89) (cs.getD p z89) := by unfold ltI; rw [hp, Int.toNat_natCast, Int.toNat_natCast]
    have c0 : ((d + 1 : Nat) : Int) > 0 := by omega
    have c1 : 0 ≤ (i : Int) := by omega
    have c2 : (i : Int) < (cs.length : Int) := by omega
    have c3 : 0 ≤ (d : Int) := by omega
    have c4 : (d : Int) < (t.length : Int) := by omega
    have c5 : 0 ≤ (p : Int) := by omega
    have c6 : (p : Int) < (cs.length : Int) := by omega
    have c7 : 0 ≤ ((d + 1 : Nat) : Int) := by omega
    have c8 : ((d + 1 : Nat) : Int) ≤ (t.length : Int) := by omega
    simp only [spec_HeaviestFirst.l1, posK, Option.bind_some, hw, rd_nat, hp]
    rw [if_pos c0, if_pos c1, if_pos c2, if_pos c3, if_pos c4, if_pos c5, if_pos c6, rdC61_nat, rdC61_nat, l2Before_ends]
    simp only [Option.bind_some]
    rw [hp] at hlt
    rw [hlt]
    by_cases h : ahead (cs.getD i z89) (cs.getD p z89) = true
    · have hle := posK_le (ltI cs) (i : Int) t d
      rw [if_pos h, if_pos h, ih k (by omega) (by omega), show k + 1 - (d + 1 - posK (ltI cs) (i : Int) t d) - 1 = k - (d - posK (ltI cs) (i : Int) t d) - 1 by omega]
    · rw [if_neg h, if_neg h, if_pos c7, if_pos c8, Int.toNat_natCast, if_pos (by simp; omega), if_pos (by simp; omega), if_pos (by simp; omega), wnext hi (by omega), show k + 1 - (d + 1 - (d + 1)) - 1 = k by omega]
      simp
theorem heavy_l0 (cs : List S89) (hx : cs.length ≤ 1000) (d : Nat) : ∀ (k i : Nat) (t : List Int), i + d = cs.length → t.length = i → (∀ x ∈ t, 0 ≤ x ∧ x < (cs.length : Int)) → 1010 * (d + 1) ≤ k → spec_HeaviestFirst.l0 k cs t (i : Int) = some (specO (ltI cs) d i t, true) := by
  induction d with
  | zero =>
    intro k i t hi ht hb hk
    obtain ⟨k, rfl⟩ := kpos (d := 0) (k := k) (by omega)
    simp only [spec_HeaviestFirst.l0, specO]
    rw [if_neg (by omega)]
  | succ d ih =>
    intro k i t hi ht hb hk
    obtain ⟨k, rfl⟩ := kpos (d := 0) (k := k) (by omega)
    have hil : i < cs.length := by omega
    have hle := posK_le (ltI cs) (i : Int) t t.length
    simp only [spec_HeaviestFirst.l0, specO]
    rw [if_pos (by omega), heavy_l1 cs hx t (by omega) hb i hil t.length k (Nat.le_refl _) (by omega)]
    have hb2 : ∀ x ∈ insR (ltI cs) (i : Int) t, 0 ≤ x ∧ x < (cs.length : Int) := by
      intro x hxm
      rcases List.mem_cons.1 ((insR_perm (ltI cs) (i : Int) t).subset hxm) with rfl | hxm
      · omega
      · exact hb x hxm
    have hl2 : (insR (ltI cs) (i : Int) t).length = i + 1 := by rw [(insR_perm (ltI cs) (i : Int) t).length_eq, List.length_cons, ht]
    exact ih _ (i + 1) _ (by omega) hl2 hb2 (by omega)
theorem heavy_same {cs : List S89} (hd : Dist cs) : specO (ltI cs) cs.length 0 [] = heavyL cs := by
  have hp1 := specO_perm (ltI cs) cs.length 0 []
  rw [List.nil_append] at hp1
  have hp2 : (heavyL cs).Perm (nums 0 cs.length) := by
    rw [nums_fin]
    unfold heavyL heavyF
    exact (List.mergeSort_perm _ _).map _
  have hmem : ∀ a ∈ specO (ltI cs) cs.length 0 [], ∃ x : Fin cs.length, a = ((x.val : Nat) : Int) := by
    intro a ha
    have := (nums_mem cs.length 0 a).1 (hp1.subset ha)
    exact ⟨⟨a.toNat, by omega⟩, by show a = ((a.toNat : Nat) : Int); omega⟩
  have hlt : ∀ x y : Fin cs.length, ltI cs ((x.val : Nat) : Int) ((y.val : Nat) : Int) = ahead (cs.get x) (cs.get y) := by
    intro x y
    unfold ltI
    rw [Int.toNat_natCast, Int.toNat_natCast, getD_fin, getD_fin]
  refine sorted_unique (ltI cs) _ _ (hp1.trans hp2.symm) (hp1.symm.nodup_iff.1 (nums_nodup cs.length 0)) ?_ (specO_sorted (ordI cs) cs.length 0 [] List.Pairwise.nil) ?_
  · intro a ha b hb hne
    obtain ⟨x, rfl⟩ := hmem a ha
    obtain ⟨y, rfl⟩ := hmem b hb
    rw [hlt, hlt]
    by_cases h1 : ahead (cs.get x) (cs.get y) = true
    · exact .inl h1
    · by_cases h2 : ahead (cs.get y) (cs.get x) = true
      · exact .inr h2
      · rw [Bool.not_eq_true] at h1 h2
        have e := hd x y (ahead_total _ _ h1 h2).2
        exact absurd (by rw [e]) hne
  · unfold Srt heavyL
    rw [List.pairwise_map]
    unfold heavyF
    have hs := List.pairwise_mergeSort (le := fun x y => !(ltOf (cfH cs)) y x) ?_ ?_ (List.finRange cs.length)
    · refine hs.imp ?_
      intro x y h
      rw [hlt]
      rw [ltH] at h
      simpa using h
    · intro a b c h1 h2
      rw [ltH] at *
      simp only [Bool.not_eq_true'] at *
      exact ahead_ntrans _ _ _ h2 h1
    · intro a b
      rw [ltH, ltH]
      cases h : ahead (cs.get b) (cs.get a) with
      | false => rfl
      | true =>
        cases h2 : ahead (cs.get a) (cs.get b) with
        | false => rfl
        | true =>
          have := ahead_trans _ _ _ h h2
          rw [ahead_irrefl] at this
          cases this
def heavyA (cs : List S89) : List Int × Bool := if validC cs = true then (heavyL cs, true) else ([], false)
theorem heavy_both (cs : List S89) (hx : cs.length ≤ 1048576) (k : Nat) (hk : 1100000 ≤ k) : spec_HeaviestFirst.f k cs = some (heavyA cs) ∧ impl_HeaviestFirst.f k cs = some (heavyA cs) := by
  unfold spec_HeaviestFirst.f impl_HeaviestFirst.f heavyA
  rw [spec_valid cs hx k (by omega), impl_valid cs hx k (by omega)]
  simp only [Option.bind_some]
  by_cases h : validC cs = true
  · obtain ⟨h1, h2⟩ := valid_dist h
    have e := heavy_l0 cs (by omega) cs.length k 0 [] (by omega) rfl (by simp) (by omega)
    rw [show ((0 : Nat) : Int) = 0 from rfl, heavy_same h1] at e
    rw [if_pos h, if_pos h, if_pos h, if_pos h, e]
    exact ⟨rfl, rfl⟩
  · rw [if_neg h, if_neg h, if_neg h]
    exact ⟨rfl, rfl⟩
end Go.Proofs.Ytlldonokjgoajaa.X
/- What the printed functions on lists of containers come to: the size that is left, the copy, the comparison. -/
namespace Go.Proofs.Ytlldonokjgoajaa.X
open Go.RowKit Go.Proofs.YtlldonokjgoajaaW.PrintWords Go.Proofs.YtlldonokjgoajaaW.PrintLast
set_option linter.unusedVariables false
set_option linter.unusedSimpArgs false

def c67 (x : S144) : S89 := ⟨x.f0, x.f1, x.f2, x.f3, x.f4⟩
def totC : List S144 → Nat
  | [] => 0
  | s :: r => s.f0.size + totC r
theorem rdC67_nat (xs : List S144) (n : Nat) : rd_T144 xs (n : Int) = xs.getD n z144 := rfl
theorem szContainerS_loop (ss : List S144) (hx : ss.length ≤ 9223372036854775807) (hs : ∀ s ∈ ss, s.f0.size ≤ 9223372036854775807) (d : Nat) : ∀ (k n : Nat) (a : Int), n + d = ss.length → d < k → 0 ≤ a → a ≤ 1048576 →
    laws_szContainerS.l0 k ss a (n : Int) = some (if a - (totC (ss.drop n) : Int) < 0 then -1 else a - (totC (ss.drop n) : Int)) := by
  induction d with
  | zero =>
    intro k n a hn hk ha ha2
    obtain ⟨k, rfl⟩ := kpos hk
    simp only [laws_szContainerS.l0]
    have ht : totC (ss.drop n) = 0 := by rw [List.drop_of_length_le (by omega)]; rfl
    rw [if_neg (by omega), ht, if_neg (by omega)]
    simp
  | succ d ih =>
    intro k n a hn hk ha ha2
    obtain ⟨k, rfl⟩ := kpos hk
    have hlt : n < ss.length := by omega
    have hz := hs _ (getD_mem (z := z144) hlt)
    have ht : totC (ss.drop n) = (ss.getD n z144).f0.size + totC (ss.drop (n + 1)) := by rw [getD_cons (z := z144) hlt]; rfl
    simp only [laws_szContainerS.l0]
    rw [if_pos (by omega), if_pos (by omega), rdC67_nat, ht]
    unfold laws_szContainer.f
    rw [w64 (by omega) (by omega)]
    by_cases h : a - ((ss.getD n z144).f0.size : Int) < 0
    · rw [if_pos h]
      simp only [Option.bind_some]
      rw [if_pos (by omega), if_pos (by omega)]
    · rw [if_neg h]
      simp only [Option.bind_some]
      rw [if_neg h, wnext hlt hx, ih k (n + 1) _ (by omega) (by omega) (by omega) (by omega)]
      by_cases h2 : a - ((ss.getD n z144).f0.size : Int) - (totC (ss.drop (n + 1)) : Int) < 0
      · rw [if_pos h2, if_pos (by omega)]
      · rw [if_neg h2, if_neg (by omega)]
        congr 1
        omega
theorem szContainerS_ends (ss : List S144) (hx : ss.length ≤ 9223372036854775807) (hs : ∀ s ∈ ss, s.f0.size ≤ 9223372036854775807) (k : Nat) (hk : 1048577 ≤ k) :
    laws_szContainerS.f k ss 1048576 = some (if (1048576 : Int) - ss.length - totC ss < 0 then -1 else (1048576 : Int) - ss.length - totC ss) := by
  unfold laws_szContainerS.f
  rw [w64 (by omega) (by omega)]
  by_cases h : (1048576 : Int) - ss.length < 0
  · rw [if_pos h, if_pos (by omega)]
  · rw [if_neg h]
    have := szContainerS_loop ss hx hs ss.length k 0 ((1048576 : Int) - ss.length) (by omega) (by omega) (by omega) (by omega)
    rw [show ((0 : Nat) : Int) = 0 from rfl, List.drop_zero] at this
    exact this
theorem toContainerS_loop (ss : List S144) (hx : ss.length ≤ 1048576) (d : Nat) : ∀ (k n : Nat) (ys : List S89), n ≤ ss.length → ss.length - n = d → d < k → ys.length = ss.length → ys.take n = (ss.take n).map c67 →
    laws_toContainerS.l0 k ss ys (n : Int) = some (ss.map c67) := by
  induction d with
  | zero =>
    intro k n ys hn hd hk hl hy
    obtain ⟨k, rfl⟩ := kpos hk
    simp only [laws_toContainerS.l0]
    rw [if_neg (by omega), fill_end c67 hl (by omega) hy]
  | succ d ih =>
    intro k n ys hn hd hk hl hy
    obtain ⟨k, rfl⟩ := kpos hk
    have hlt : n < ss.length := by omega
    obtain ⟨e1, e2⟩ := fill_step (z := z144) c67 hl hlt hy
    have hn1 := ih k (n + 1) _ (by omega) (by omega) (by omega) e2 e1
    simp only [laws_toContainerS.l0, laws_toContainer.f, Option.bind_some]
    rw [if_pos (by omega), if_pos (by omega), if_pos (by omega), wnext hlt (by omega), Int.toNat_natCast]
    exact hn1
theorem toContainerS_ends (ss : List S144) (hx : ss.length ≤ 1048576) (k : Nat) (hk : 1048577 ≤ k) : laws_toContainerS.f k ss = some (ss.map c67) := by
  unfold laws_toContainerS.f
  rw [if_pos (by omega), if_pos (by omega)]
  have := toContainerS_loop ss hx ss.length k 0 (List.replicate (ss.length : Int).toNat z89) (by omega) (by omega) (by omega) (by simp) (by simp)
  exact this
theorem eqContainerS_loop (ss : List S89) (hx : ss.length ≤ 1048576) (d : Nat) : ∀ (k n : Nat), n + d = ss.length → d < k → laws_eqContainerS.l0 k ss ss (n : Int) = some true := by
  induction d with
  | zero =>
    intro k n hn hk
    obtain ⟨k, rfl⟩ := kpos hk
    simp only [laws_eqContainerS.l0]
    rw [if_neg (by omega)]
  | succ d ih =>
    intro k n hn hk
    obtain ⟨k, rfl⟩ := kpos hk
    have hlt : n < ss.length := by omega
    simp only [laws_eqContainerS.l0, laws_eqContainer.f, if_true, Option.bind_some]
    rw [if_pos (by omega), if_pos (by omega), if_pos (by omega), wnext hlt (by omega)]
    exact ih k (n + 1) (by omega) (by omega)
theorem eqContainerS_refl (ss : List S89) (hx : ss.length ≤ 1048576) (k : Nat) (hk : 1048577 ≤ k) : laws_eqContainerS.f k ss ss = some true := by
  unfold laws_eqContainerS.f
  rw [if_pos rfl]
  exact eqContainerS_loop ss hx ss.length k 0 (by omega) (by omega)

/-! ### the search -/
end Go.Proofs.Ytlldonokjgoajaa.X
/- What the laws' marks on lists of containers and of strings come to: what was marked reads back. The marks' texts are a function that is not looked into. -/
namespace Go.Proofs.Ytlldonokjgoajaa.X
open Go.RowKit Go.Proofs.YtlldonokjgoajaaW.PrintWords Go.Proofs.YtlldonokjgoajaaW.PrintLast
set_option linter.unusedVariables false
set_option linter.unusedSimpArgs false

/-- The text of a mark is what t says, for small marks and enough rounds. -/
def Marks (t : Int → ByteArray) : Prop := ∀ x k, 0 ≤ x → x ≤ 1000000000000 → 20 ≤ k → laws_markText.f k x = some (t x)
theorem strOfNums_one (x : Int) : (strOfNums [x]).size = 1 := rfl
theorem markText_loop (d : Nat) : ∀ (k : Nat) (x : Int) (s : ByteArray), 0 ≤ x → x ≤ 1000000000000000 → x < 10 ^ d → d < k → s.size + d ≤ 100 → ∃ t, laws_markText.l0 k x s = some t := by
  induction d with
  | zero =>
    intro k x s h0 hm h1 hk hs
    obtain ⟨k, rfl⟩ := kpos hk
    simp only [laws_markText.l0]
    have : ¬ x > 0 := by simp at h1; omega
    rw [if_neg this, if_pos (by omega)]
    exact ⟨_, rfl⟩
  | succ d ih =>
    intro k x s h0 hm h1 hk hs
    obtain ⟨k, rfl⟩ := kpos hk
    simp only [laws_markText.l0, Option.bind_some]
    by_cases h : x > 0
    · rw [if_pos h, strOfNums_one, if_pos (by omega)]
      have e : Int.tdiv x 10 = x / 10 := Int.tdiv_eq_ediv_of_nonneg h0
      have hx2 : x < 10 ^ d * 10 := by rw [← Int.pow_succ]; exact h1
      rw [e]
      rw [w64 (x := x / 10) (by omega) (by omega)]
      exact ih k _ _ (by omega) (by omega) (by omega) (by omega) (by rw [ByteArray.size_append, strOfNums_one]; omega)
    · rw [if_neg h, if_pos (by omega)]
      exact ⟨_, rfl⟩
theorem markText_some (x : Int) (h0 : 0 ≤ x) (hx : x ≤ 1000000000000) : ∃ t, laws_markText.f 20 x = some t := by
  unfold laws_markText.f
  split
  · exact ⟨_, rfl⟩
  · exact markText_loop 13 20 x _ h0 (by omega) (by omega) (by omega) (by decide)
theorem markText_up (x : Int) (t : ByteArray) (h : laws_markText.f 20 x = some t) (j : Nat) : laws_markText.f (20 + j) x = some t := by
  induction j with
  | zero => exact h
  | succ j ih => exact laws_markText.mono _ _ _ ih
theorem marks : ∃ t, Marks t := by
  refine ⟨fun x => (laws_markText.f 20 x).getD ⟨#[]⟩, ?_⟩
  intro x k h0 hx hk
  obtain ⟨t, ht⟩ := markText_some x h0 hx
  obtain ⟨j, rfl⟩ : ∃ j, k = 20 + j := ⟨k - 20, by omega⟩
  rw [markText_up x t ht j]
  show _ = some ((laws_markText.f 20 x).getD ⟨#[]⟩)
  rw [ht]
  rfl

/-! ### containers -/
def mkC (t : Int → ByteArray) (a : Int) : S89 := ⟨t a, a + 1, a + 2, a + 3, a + 4⟩
def marksC (t : Int → ByteArray) (a : Int) : Nat → List S89
  | 0 => []
  | n + 1 => mkC t a :: marksC t (a + 5) n
theorem marksC_length (t : Int → ByteArray) (n : Nat) : ∀ a, (marksC t a n).length = n := by
  induction n with
  | zero => intro a; rfl
  | succ n ih => intro a; simp [marksC, ih]
theorem marksC_get (t : Int → ByteArray) (n : Nat) : ∀ (a : Int) (i : Nat), i < n → (marksC t a n).getD i z89 = mkC t (a + 5 * i) := by
  induction n with
  | zero => intro a i h; omega
  | succ n ih =>
    intro a i h
    cases i with
    | zero => simp [marksC]
    | succ i =>
      simp only [marksC, List.getD_cons_succ]
      rw [ih (a + 5) i (by omega)]
      congr 1
      omega
theorem marksC_snoc (t : Int → ByteArray) (n : Nat) : ∀ a, marksC t a (n + 1) = marksC t a n ++ [mkC t (a + 5 * n)] := by
  induction n with
  | zero => intro a; simp [marksC]
  | succ n ih =>
    intro a
    rw [marksC, ih (a + 5), marksC]
    simp only [List.cons_append, List.cons.injEq, true_and, List.append_cancel_left_eq, and_true]
    congr 1
    omega
theorem rd_set89 (l : List S89) (i : Nat) (v : S89) (h : i < l.length) : rd_T89 (l.set i v) (i : Int) = v := by
  rw [rdC61_nat, List.getD_eq_getElem?_getD, List.getElem?_set_self h]
  rfl
theorem five (a : Int) (n len : Nat) (ha : 0 ≤ a) (hn : n < len) (hx : a + 5 * (len : Int) ≤ 100000000) : 0 ≤ a + 5 * (n : Int) ∧ a + 5 * (n : Int) ≤ 1000000000000 ∧ wrap64 (a + 5 * (n : Int) + 1) = a + 5 * n + 1 ∧ wrap64 (a + 5 * (n : Int) + 1 + 1) = a + 5 * n + 2 ∧ wrap64 (a + 5 * (n : Int) + 2 + 1) = a + 5 * n + 3 ∧ wrap64 (a + 5 * (n : Int) + 3 + 1) = a + 5 * n + 4 ∧ wrap64 (a + 5 * (n : Int) + 4 + 1) = a + 5 * ((n + 1 : Nat) : Int) ∧ wrap64 ((n : Int) + 1) = ((n + 1 : Nat) : Int) := by
  refine ⟨by omega, by omega, w64 (by omega) (by omega), ?_, ?_, ?_, ?_, ?_⟩ <;> (rw [w64 (by omega) (by omega)]; omega)
theorem markContainerS_loop (t : Int → ByteArray) (ht : Marks t) (len : Nat) (a : Int) (ha : 0 ≤ a) (hx : a + 5 * len ≤ 100000000) (d : Nat) : ∀ (k n : Nat) (ys : List S89), n + d = len → d + 30 < k → ys.length = len → ys.take n = marksC t a n →
    laws_markContainerS.l0 k ys (a + 5 * n) (n : Int) = some (a + 5 * len, marksC t a len) := by
  induction d with
  | zero =>
    intro k n ys hn hk hl hy
    obtain ⟨k, rfl⟩ := kpos (d := 0) (k := k) (by omega)
    simp only [laws_markContainerS.l0]
    rw [if_neg (by omega), ← show n = len by omega, ← hy, List.take_of_length_le (by omega)]
  | succ d ih =>
    intro k n ys hn hk hl hy
    obtain ⟨k, rfl⟩ := kpos (d := 0) (k := k) (by omega)
    have hlt : n < ys.length := by omega
    have c1 : (n : Int) < (ys.length : Int) := by omega
    have c2 : 0 ≤ (n : Int) := by omega
    have b2 : 20 ≤ k := by omega
    have hnext : ∀ ys' : List S89, ys'.length = len → ys'.take (n + 1) = marksC t a (n + 1) → laws_markContainerS.l0 k ys' (a + 5 * ((n + 1 : Nat) : Int)) ((n + 1 : Nat) : Int) = some (a + 5 * len, marksC t a len) := fun ys' h1 h2 => ih k (n + 1) ys' (by omega) (by omega) h1 h2
    obtain ⟨b0, b1, e1, e2, e3, e4, e5, e6⟩ := five a n len ha (by omega) hx
    have hm := ht (a + 5 * (n : Int)) k b0 b1 b2
    clear ih ht hk b0 b1 b2 ha hx hn
    simp only [laws_markContainerS.l0, Int.toNat_natCast]
    rw [if_pos c1, hm]
    simp only [Option.bind_some]
    rw [if_pos c2]
    simp only [rd_set89 _ _ _ hlt, List.set_set]
    simp only [e1, e2, e3, e4, e5, e6]
    refine hnext _ (by rw [List.length_set]; exact hl) ?_
    rw [set_take _ hlt, hy, marksC_snoc]
    rfl
theorem markContainerS_ends (t : Int → ByteArray) (ht : Marks t) (cs : List S89) (a : Int) (ha : 0 ≤ a) (hx : a + 5 * cs.length ≤ 100000000) (k : Nat) (hk : cs.length + 30 < k) : laws_markContainerS.f k cs a = some (a + 5 * cs.length, marksC t a cs.length) := by
  unfold laws_markContainerS.f
  have := markContainerS_loop t ht cs.length a ha hx cs.length k 0 cs (by omega) (by omega) rfl rfl
  rw [show ((0 : Nat) : Int) = 0 from rfl, show a + 5 * (0 : Int) = a by omega] at this
  exact this
end Go.Proofs.Ytlldonokjgoajaa.X
/- What the printed functions on lists of whole numbers come to: comparison, membership, the place of a number. -/
namespace Go.Proofs.Ytlldonokjgoajaa.X
open Go.RowKit Go.Proofs.YtlldonokjgoajaaW.PrintWords Go.Proofs.YtlldonokjgoajaaW.PrintLast
set_option linter.unusedVariables false
set_option linter.unusedSimpArgs false

theorem l1Same_loop (xs ys : List Int) (hl : ys.length = xs.length) (hx : xs.length ≤ 9223372036854775807) (d : Nat) : ∀ (k n : Nat), n + d = xs.length → d < k → spec_l1Same.l0 k xs ys (n : Int) = some (decide (xs.drop n = ys.drop n)) := by
  induction d with
  | zero =>
    intro k n hn hk
    obtain ⟨k, rfl⟩ := kpos hk
    simp only [spec_l1Same.l0]
    rw [if_neg (by omega), List.drop_of_length_le (by omega), List.drop_of_length_le (by omega)]
    rfl
  | succ d ih =>
    intro k n hn hk
    obtain ⟨k, rfl⟩ := kpos hk
    have hlt : n < xs.length := by omega
    have hn1 := ih k (n + 1) (by omega) (by omega)
    simp only [spec_l1Same.l0]
    rw [if_pos (by omega), if_pos (by omega), if_pos (by omega), wnext hlt hx, hn1, getD_cons (z := (0 : Int)) hlt, getD_cons (xs := ys) (n := n) (z := (0 : Int)) (by omega), rd_nat, rd_nat]
    by_cases h : xs.getD n 0 = ys.getD n 0
    · rw [if_pos h, dec_cons_pos h]
    · rw [if_neg h, dec_cons_neg h]
theorem l1Same_ends (xs ys : List Int) (hx : xs.length ≤ 9223372036854775807) (k : Nat) (hk : xs.length < k) : spec_l1Same.f k xs ys = some (decide (xs = ys)) := by
  unfold spec_l1Same.f
  by_cases hl : (xs.length : Int) = (ys.length : Int)
  · rw [if_pos hl]
    have := l1Same_loop xs ys (by omega) hx xs.length k 0 (by omega) hk
    simpa using this
  · rw [if_neg hl]
    have : ¬ xs = ys := fun h => hl (by rw [h])
    simp [this]
theorem Equal_loop (xs ys : List Int) (hl : ys.length = xs.length) (hx : xs.length ≤ 9223372036854775807) (d : Nat) : ∀ (k n : Nat), n + d = xs.length → d < k → slices_Equal_int_int.l0 k xs ys (xs.length : Int) (n : Int) = some (decide (xs.drop n = ys.drop n)) := by
  induction d with
  | zero =>
    intro k n hn hk
    obtain ⟨k, rfl⟩ := kpos hk
    simp only [slices_Equal_int_int.l0]
    rw [if_neg (by omega), List.drop_of_length_le (by omega), List.drop_of_length_le (by omega)]
    rfl
  | succ d ih =>
    intro k n hn hk
    obtain ⟨k, rfl⟩ := kpos hk
    have hlt : n < xs.length := by omega
    have hn1 := ih k (n + 1) (by omega) (by omega)
    simp only [slices_Equal_int_int.l0]
    rw [if_pos (by omega), if_pos (by omega), if_pos (by omega), if_pos (by omega), wnext hlt hx, hn1, getD_cons (z := (0 : Int)) hlt, getD_cons (xs := ys) (n := n) (z := (0 : Int)) (by omega), rd_nat, rd_nat]
    by_cases h : xs.getD n 0 = ys.getD n 0
    · rw [if_pos h, dec_cons_pos h]
    · rw [if_neg h, dec_cons_neg h]
theorem Equal_ends (xs ys : List Int) (hx : xs.length ≤ 9223372036854775807) (k : Nat) (hk : xs.length < k) : slices_Equal_int_int.f k xs ys = some (decide (xs = ys)) := by
  unfold slices_Equal_int_int.f
  by_cases hl : (xs.length : Int) = (ys.length : Int)
  · rw [if_pos hl]
    have := Equal_loop xs ys (by omega) hx xs.length k 0 (by omega) hk
    simpa using this
  · rw [if_neg hl]
    have : ¬ xs = ys := fun h => hl (by rw [h])
    simp [this]
theorem l1Has_loop (xs : List Int) (x : Int) (hx : xs.length ≤ 9223372036854775807) (d : Nat) : ∀ (k n : Nat), n + d = xs.length → d < k → spec_l1Has.l0 k xs x (n : Int) = some (decide (x ∈ xs.drop n)) := by
  induction d with
  | zero =>
    intro k n hn hk
    obtain ⟨k, rfl⟩ := kpos hk
    simp only [spec_l1Has.l0]
    rw [if_neg (by omega), List.drop_of_length_le (by omega)]
    simp
  | succ d ih =>
    intro k n hn hk
    obtain ⟨k, rfl⟩ := kpos hk
    have hlt : n < xs.length := by omega
    have hn1 := ih k (n + 1) (by omega) (by omega)
    simp only [spec_l1Has.l0]
    rw [if_pos (by omega), if_pos (by omega), wnext hlt hx, hn1, getD_cons (z := (0 : Int)) hlt, rd_nat]
    by_cases h : xs.getD n 0 = x
    · rw [if_pos h, dec_mem_pos h.symm]
    · rw [if_neg h, dec_mem_neg (fun e => h e.symm)]
theorem l1Has_ends (xs : List Int) (x : Int) (hx : xs.length ≤ 9223372036854775807) (k : Nat) (hk : xs.length < k) : spec_l1Has.f k xs x = some (decide (x ∈ xs)) := by
  unfold spec_l1Has.f
  have := l1Has_loop xs x hx xs.length k 0 (by omega) hk
  simpa using this
/-- Where a number stands first in a list, counted from i on; -1 if it doesn't. -/
def whereI (x : Int) : List Int → Int → Int
  | [], _ => -1
  | y :: l, i => if x = y then i else whereI x l (i + 1)
theorem whereI_iff (x : Int) : ∀ (l : List Int) (i : Int), 0 ≤ i → (0 ≤ whereI x l i ↔ x ∈ l)
  | [], i, h => by simp [whereI]
  | y :: l, i, h => by
    simp only [whereI, List.mem_cons]
    by_cases e : x = y
    · simp [e, h]
    · rw [if_neg e, whereI_iff x l (i + 1) (by omega)]
      simp [e]
theorem Index_loop (xs : List Int) (x : Int) (hx : xs.length ≤ 9223372036854775807) (d : Nat) : ∀ (k n : Nat), n + d = xs.length → d < k → slices_Index_int_int.l0 k xs x (xs.length : Int) (n : Int) = some (whereI x (xs.drop n) (n : Int)) := by
  induction d with
  | zero =>
    intro k n hn hk
    obtain ⟨k, rfl⟩ := kpos hk
    simp only [slices_Index_int_int.l0]
    rw [if_neg (by omega), List.drop_of_length_le (by omega)]
    rfl
  | succ d ih =>
    intro k n hn hk
    obtain ⟨k, rfl⟩ := kpos hk
    have hlt : n < xs.length := by omega
    have hn1 := ih k (n + 1) (by omega) (by omega)
    simp only [slices_Index_int_int.l0]
    rw [if_pos (by omega), if_pos (by omega), if_pos (by omega), wnext hlt hx, hn1, getD_cons (z := (0 : Int)) hlt, rd_nat]
    simp only [whereI]
    split
    · rfl
    · congr 2
theorem Index_ends (xs : List Int) (x : Int) (hx : xs.length ≤ 9223372036854775807) (k : Nat) (hk : xs.length < k) : slices_Index_int_int.f k xs x = some (whereI x xs 0) := by
  unfold slices_Index_int_int.f
  have := Index_loop xs x hx xs.length k 0 (by omega) hk
  simpa using this
theorem Contains_ends (xs : List Int) (x : Int) (hx : xs.length ≤ 9223372036854775807) (k : Nat) (hk : xs.length < k) : slices_Contains_int_int.f k xs x = some (decide (x ∈ xs)) := by
  unfold slices_Contains_int_int.f
  rw [Index_ends xs x hx k hk]
  simp only [Option.bind_some]
  congr 1
  rw [Bool.eq_iff_iff, decide_eq_true_eq, decide_eq_true_eq]
  exact whereI_iff x xs 0 (by omega)
end Go.Proofs.Ytlldonokjgoajaa.X
/- What the printed functions on lists of whole numbers come to: the copy, the comparison, marks written and read again. -/
namespace Go.Proofs.Ytlldonokjgoajaa.X
open Go.RowKit Go.Proofs.YtlldonokjgoajaaW.PrintWords Go.Proofs.YtlldonokjgoajaaW.PrintLast
set_option linter.unusedVariables false
set_option linter.unusedSimpArgs false

theorem szIntS_ends (l : List Int) (a : Int) (h : l.length ≤ 9223372036854775807) (ha : 0 ≤ a) (ha2 : a ≤ 1048576) : laws_szIntS.f l a = some (if a - (l.length : Int) < 0 then -1 else a - (l.length : Int)) := by
  unfold laws_szIntS.f
  rw [w64 (by omega) (by omega)]
  split <;> rfl
theorem toIntS_loop (xs : List Int) (hx : xs.length ≤ 9223372036854775807) (d : Nat) : ∀ (k n : Nat) (ys : List Int), n ≤ xs.length → xs.length - n = d → d < k → ys.length = xs.length → ys.take n = (xs.take n).map id →
    laws_toIntS.l0 k xs ys (n : Int) = some (xs.map id) := by
  induction d with
  | zero =>
    intro k n ys hn hd hk hl hy
    obtain ⟨k, rfl⟩ := kpos hk
    simp only [laws_toIntS.l0]
    rw [if_neg (by omega), fill_end id hl (by omega) hy]
  | succ d ih =>
    intro k n ys hn hd hk hl hy
    obtain ⟨k, rfl⟩ := kpos hk
    have hlt : n < xs.length := by omega
    obtain ⟨e1, e2⟩ := fill_step (z := (0 : Int)) id hl hlt hy
    have hn1 := ih k (n + 1) _ (by omega) (by omega) (by omega) e2 e1
    simp only [laws_toIntS.l0]
    rw [if_pos (by omega), if_pos (by omega), if_pos (by omega), wnext hlt hx]
    exact hn1
theorem toIntS_ends (xs : List Int) (hx : xs.length ≤ 1048576) (k : Nat) (hk : xs.length < k) : laws_toIntS.f k xs = some xs := by
  unfold laws_toIntS.f
  rw [if_pos (by omega), if_pos (by omega)]
  have := toIntS_loop xs (by omega) xs.length k 0 (List.replicate (xs.length : Int).toNat 0) (by omega) (by omega) hk (by simp) (by simp)
  rw [List.map_id] at this
  exact this
theorem eqIntS_loop (xs ys : List Int) (hl : ys.length = xs.length) (hx : xs.length ≤ 9223372036854775807) (d : Nat) : ∀ (k n : Nat), n + d = xs.length → d < k → laws_eqIntS.l0 k xs ys (n : Int) = some (decide (xs.drop n = ys.drop n)) := by
  induction d with
  | zero =>
    intro k n hn hk
    obtain ⟨k, rfl⟩ := kpos hk
    simp only [laws_eqIntS.l0]
    rw [if_neg (by omega), List.drop_of_length_le (by omega), List.drop_of_length_le (by omega)]
    rfl
  | succ d ih =>
    intro k n hn hk
    obtain ⟨k, rfl⟩ := kpos hk
    have hlt : n < xs.length := by omega
    have hn1 := ih k (n + 1) (by omega) (by omega)
    simp only [laws_eqIntS.l0]
    rw [if_pos (by omega), if_pos (by omega), if_pos (by omega), wnext hlt hx, hn1, getD_cons (z := (0 : Int)) hlt, getD_cons (xs := ys) (n := n) (z := (0 : Int)) (by omega), rd_nat, rd_nat]
    by_cases h : xs.getD n 0 = ys.getD n 0
    · rw [if_pos h, dec_cons_pos h]
    · rw [if_neg h, dec_cons_neg h]
theorem eqIntS_ends (xs ys : List Int) (hx : xs.length ≤ 9223372036854775807) (k : Nat) (hk : xs.length < k) : laws_eqIntS.f k xs ys = some (decide (xs = ys)) := by
  unfold laws_eqIntS.f
  by_cases hl : (xs.length : Int) = (ys.length : Int)
  · rw [if_pos hl]
    have := eqIntS_loop xs ys (by omega) hx xs.length k 0 (by omega) hk
    simpa using this
  · rw [if_neg hl]
    have : ¬ xs = ys := fun h => hl (by rw [h])
    simp [this]
theorem eqIntS_refl (xs : List Int) (hx : xs.length ≤ 9223372036854775807) (k : Nat) (hk : xs.length < k) : laws_eqIntS.f k xs xs = some true := by
  rw [eqIntS_ends xs xs hx k hk]; simp
/-- a, a + 1, .. : so many numbers. -/
def upFrom (a : Int) : Nat → List Int
  | 0 => []
  | n + 1 => a :: upFrom (a + 1) n
theorem upFrom_length (n : Nat) : ∀ a, (upFrom a n).length = n := by
  induction n with
  | zero => intro a; rfl
  | succ n ih => intro a; simp [upFrom, ih]
theorem upFrom_get (n : Nat) : ∀ (a : Int) (j : Nat), j < n → (upFrom a n).getD j 0 = a + j := by
  induction n with
  | zero => intro a j h; omega
  | succ n ih =>
    intro a j h
    cases j with
    | zero => simp [upFrom]
    | succ j =>
      have := ih (a + 1) j (by omega)
      simp only [upFrom, List.getD_cons_succ, this]
      omega
theorem upFrom_snoc (n : Nat) : ∀ a, upFrom a (n + 1) = upFrom a n ++ [a + n] := by
  induction n with
  | zero => intro a; simp [upFrom]
  | succ n ih =>
    intro a
    rw [upFrom, ih (a + 1)]
    simp only [upFrom, List.cons_append]
    congr 3
    omega
theorem markIntS_loop (len : Nat) (a : Int) (ha : 0 ≤ a) (hx : a + len ≤ 9223372036854775806) (d : Nat) : ∀ (k n : Nat) (ys : List Int), n + d = len → d < k → ys.length = len → ys.take n = upFrom a n →
    laws_markIntS.l0 k ys (a + n) (n : Int) = some (a + len, upFrom a len) := by
  induction d with
  | zero =>
    intro k n ys hn hk hl hy
    obtain ⟨k, rfl⟩ := kpos hk
    simp only [laws_markIntS.l0]
    have e : n = len := by omega
    subst e
    rw [if_neg (by omega), ← hy, List.take_of_length_le (by omega)]
  | succ d ih =>
    intro k n ys hn hk hl hy
    obtain ⟨k, rfl⟩ := kpos hk
    have hlt : n < ys.length := by omega
    have hn1 := ih k (n + 1) (ys.set n (a + n)) (by omega) (by omega) (by simpa using hl) (by rw [set_take _ hlt, hy, upFrom_snoc])
    simp only [laws_markIntS.l0]
    rw [if_pos (by omega), if_pos (by omega), wnext (m := len) (by omega) (by omega), w64 (x := a + n + 1) (by omega) (by omega)]
    rw [show a + ((n + 1 : Nat) : Int) = a + n + 1 by omega] at hn1
    exact hn1
theorem markIntS_ends (xs : List Int) (a : Int) (ha : 0 ≤ a) (hx : a + xs.length ≤ 9223372036854775806) (k : Nat) (hk : xs.length < k) : laws_markIntS.f k xs a = some (a + xs.length, upFrom a xs.length) := by
  unfold laws_markIntS.f
  have := markIntS_loop xs.length a ha hx xs.length k 0 xs (by omega) hk rfl rfl
  simpa using this
theorem heldIntS_loop (len : Nat) (a : Int) (ha : 0 ≤ a) (hx : a + len ≤ 9223372036854775806) (d : Nat) : ∀ (k n : Nat), n + d = len → d < k →
    laws_heldIntS.l0 k (upFrom a len) (a + n) (n : Int) = some (a + len) := by
  induction d with
  | zero =>
    intro k n hn hk
    obtain ⟨k, rfl⟩ := kpos hk
    simp only [laws_heldIntS.l0]
    have e : n = len := by omega
    subst e
    rw [if_neg (by rw [upFrom_length]; omega)]
  | succ d ih =>
    intro k n hn hk
    obtain ⟨k, rfl⟩ := kpos hk
    have hn1 := ih k (n + 1) (by omega) (by omega)
    simp only [laws_heldIntS.l0]
    rw [if_pos (by rw [upFrom_length]; omega), if_pos (by omega), rd_nat, upFrom_get _ _ _ (by omega), if_pos rfl, wnext (m := len) (by omega) (by omega), w64 (x := a + n + 1) (by omega) (by omega)]
    rw [show a + ((n + 1 : Nat) : Int) = a + n + 1 by omega] at hn1
    exact hn1
theorem heldIntS_ends (len : Nat) (a : Int) (ha : 0 ≤ a) (hx : a + len ≤ 9223372036854775806) (k : Nat) (hk : len < k) : laws_heldIntS.f k (upFrom a len) a = some (a + len) := by
  unfold laws_heldIntS.f
  have := heldIntS_loop len a ha hx len k 0 (by omega) hk
  simpa using this
end Go.Proofs.Ytlldonokjgoajaa.X
namespace Go.Proofs.Ytlldonokjgoajaa.Pure
open Go.RowKit Go.Proofs.Ytlldonokjgoajaa.X Go.Proofs.YtlldonokjgoajaaW.PrintWords Go.Proofs.YtlldonokjgoajaaW.PrintLast
set_option linter.unusedVariables false
set_option linter.unusedSimpArgs false
/-- The law behind the two answers. -/
theorem law_ends (a : List S144) (hl : (a.map c67).length ≤ 1048576) (hal : a.length ≤ 1048576) (r : List Int) (b : Bool) (hr : r.length ≤ 1048576) (he : ∀ k, 1100000 ≤ k → impl_HeaviestFirst.f k (a.map c67) = some (r, b)) (k : Nat) (hk : 1100000 ≤ k) :
    laws_FnExactHeaviestFirst.j0 (k + 3) a r b (a.map c67) r b false = some true := by
  obtain ⟨t, ht⟩ := marks
  have s1 : ¬ (1 + 5 * ((a.map c67).length : Int) < 0) := by omega
  have s2 : ¬ (1 + (r.length : Int) < 0) := by omega
  simp only [laws_FnExactHeaviestFirst.j0, Bool.false_eq_true, if_false]
  rw [toContainerS_ends a hal _ (by omega)]
  simp only [Option.bind_some]
  rw [eqContainerS_refl _ hl _ (by omega)]
  simp only [Option.bind_some, if_true]
  rw [markContainerS_ends t ht (a.map c67) 1 (by omega) (by omega) _ (by omega)]
  simp only [Option.bind_some]
  rw [if_neg s1, eqIntS_refl r (by omega) _ (by omega)]
  simp only [Option.bind_some, if_true, bne_self_eq_false, laws_FnExactHeaviestFirst.j1, Bool.false_eq_true, if_false]
  rw [markIntS_ends r 1 (by omega) (by omega) _ (by omega)]
  simp only [Option.bind_some]
  rw [heldIntS_ends r.length 1 (by omega) (by omega) _ (by omega)]
  simp only [Option.bind_some]
  rw [if_neg s2, if_true, toContainerS_ends a hal _ (by omega)]
  simp only [Option.bind_some]
  rw [he _ (by omega)]
  simp only [Option.bind_some]
  rw [eqIntS_refl r (by omega) _ (by omega)]
  simp only [Option.bind_some, if_true, bne_self_eq_false, laws_FnExactHeaviestFirst.j2, Bool.false_eq_true, if_false]
  rw [heldIntS_ends r.length 1 (by omega) (by omega) _ (by omega)]
  simp only [Option.bind_some]
  rw [if_neg s2, if_true]
theorem FnExactHeaviestFirst : laws_FnExactHeaviestFirst.Pure := by
  intro a ha
  have ha1 := ha.1
  by_cases h : (1048576 : Int) - a.length - totC a < 0
  · refine ⟨1048800, ?_⟩
    unfold laws_FnExactHeaviestFirst.f
    rw [szContainerS_ends a ha1 (fun s hs => (ha.2 s hs).1) _ (by omega)]
    simp only [Option.bind_some]
    rw [if_pos h, if_pos (by omega)]
  · have hl : (a.map c67).length ≤ 1048576 := by rw [List.length_map]; omega
    have hal : a.length ≤ 1048576 := by omega
    have he := fun k hk => heavy_both (a.map c67) hl k hk
    have hr : (heavyA (a.map c67)).1.length ≤ 1048576 := by
      unfold heavyA
      split
      · show (heavyL (a.map c67)).length ≤ 1048576
        rw [heavyL_length]; omega
      · simp
    generalize heavyA (a.map c67) = q at he hr
    obtain ⟨r, b⟩ := q
    dsimp only at hr
    refine ⟨1100000 + 3, ?_⟩
    have hlaw := law_ends a hl hal r b hr (fun k hk => (he k hk).2) 1100000 (by omega)
    obtain ⟨e1, e2⟩ := he (1100000 + 3) (by omega)
    unfold laws_FnExactHeaviestFirst.f
    rw [szContainerS_ends a ha1 (fun s hs => (ha.2 s hs).1) _ (by omega)]
    simp only [Option.bind_some]
    rw [if_neg h, if_neg h, toContainerS_ends a hal _ (by omega)]
    simp only [Option.bind_some]
    rw [e1, e2]
    simp only [Option.bind_some]
    rw [eqIntS_refl r (by omega) _ (by omega)]
    simp only [Option.bind_some, if_true, bne_self_eq_false]
    exact hlaw
end Go.Proofs.Ytlldonokjgoajaa.Pure
