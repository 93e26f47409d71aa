/- The text of a list of containers: the reference's sum of texts, what the program has written to its builder. -/
import Derived.Test.YtfindomajbjacaaDoorMCText
import Derived.Test.YtfindomajbjacaaDoorMCont
import Derived.Test.YtfindomajbjacaaDoorMBs
import Derived.Test.YtfindomajbjacaaDoorGManifestText
import Derived.Test.YtfindomajbjacaaDoorFbMan
namespace Go.Proofs.YtfindomajbjacaaDoor.X
open Go.RowKit Go.Proofs.YtfindomajbjacaaDoorW.PrintWords Go.Proofs.YtfindomajbjacaaDoorW.PrintLast
set_option linter.unusedVariables false
set_option linter.unusedSimpArgs false
def nlB : ByteArray := ⟨#[10]⟩
theorem nlB_size : nlB.size = 1 := rfl
def contC (x : S27) : ByteArray := contT x.f0 x.f1 x.f2 x.f3 x.f4
def manA : ByteArray → List S27 → ByteArray
  | acc, [] => acc
  | acc, x :: r => manA ((acc ++ contC x) ++ nlB) r
theorem goodC_parts {x : S27} (h : goodC x = true) : x.f0.size = 8 ∧ (1 ≤ x.f1 ∧ x.f1 ≤ 2) ∧ (1 ≤ x.f2 ∧ x.f2 ≤ 32000) ∧ (1 ≤ x.f3 ∧ x.f3 ≤ 3) ∧ (1 ≤ x.f4 ∧ x.f4 ≤ 9) := by
  unfold goodC goodB inB idB at h
  simp only [Bool.and_eq_true, decide_eq_true_eq] at h
  exact ⟨h.1.1.1.1.1.1, h.1.1.1.2, h.1.1.2, h.1.2, h.2⟩
theorem contC_size {x : S27} (h : goodC x = true) : (contC x).size ≤ 90 := by
  obtain ⟨h0, h1, h2, h3, h4⟩ := goodC_parts h
  unfold contC
  rw [contT_size]
  have := szW_size x.f1
  have := cgW_size x.f3
  have := itoa_length x.f2 (by omega) (by omega)
  have := itoa_length x.f4 (by omega) (by omega)
  omega
theorem listC_good (cs : List S27) (d : Nat) : ∀ i, listC cs d i = true → ∀ j, i ≤ j → j < i + d → goodC (cs.getD j z27) = true := by
  induction d with
  | zero => intro i h j h1 h2; omega
  | succ d ih =>
    intro i h j h1 h2
    simp only [listC, Bool.and_eq_true] at h
    by_cases hj : j = i
    · subst hj
      have := h.1
      unfold stepC at this
      simp only [Bool.and_eq_true] at this
      exact this.1
    · exact ih (i + 1) h.2 j (by omega) (by omega)
theorem valid_good {cs : List S27} (h : validC cs = true) : cs.length ≤ 12 ∧ ∀ x ∈ cs, goodC x = true := by
  unfold validC at h
  simp only [Bool.and_eq_true, decide_eq_true_eq] at h
  refine ⟨h.1, fun x hx => ?_⟩
  obtain ⟨j, hj, rfl⟩ := List.mem_iff_getElem.mp hx
  have := listC_good cs cs.length 0 h.2 j (by omega) (by omega)
  rwa [List.getD_eq_getElem?_getD, List.getElem?_eq_getElem hj] at this
theorem specText_ends {x : S27} (h : goodC x = true) (k : Nat) (hk : 20 ≤ k) : spec_l4Text.f k x.f0 x.f1 x.f2 x.f3 x.f4 = some (contC x) := by
  obtain ⟨h0, h1, h2, h3, h4⟩ := goodC_parts h
  exact l4Text_ends _ _ _ _ _ (by omega) h1 (by omega) h3 (by omega) k hk
theorem implText_ends {x : S27} (h : goodC x = true) : impl_containerText.f x.f0 x.f1 x.f2 x.f3 x.f4 = some (contC x) := by
  obtain ⟨h0, h1, h2, h3, h4⟩ := goodC_parts h
  exact containerText_ends _ _ _ _ _ (by omega) h1 (by omega) h3 (by omega)
theorem spec_man_loop (cs : List S27) (hl : cs.length ≤ 1000000) (hg : ∀ x ∈ cs, goodC x = true) (d : Nat) : ∀ (k n : Nat) (acc : ByteArray), n + d = cs.length → d + 25 < k → acc.size ≤ 100 * n → spec_l4Manifest.l0 k cs acc (n : Int) = some (manA acc (cs.drop n)) := by
  induction d with
  | zero =>
    intro k n acc hn hk ha
    obtain ⟨k, rfl⟩ := kpos (d := 0) (k := k) (by omega)
    simp only [spec_l4Manifest.l0]
    rw [if_neg (by omega), List.drop_of_length_le (by omega)]
    rfl
  | succ d ih =>
    intro k n acc hn hk ha
    obtain ⟨k, rfl⟩ := kpos (d := 0) (k := k) (by omega)
    have hlt : n < cs.length := by omega
    have hx := hg _ (getD_mem (z := z27) hlt)
    have hs := contC_size hx
    have h2 := ih k (n + 1) ((acc ++ contC (cs.getD n z27)) ++ nlB) (by omega) (by omega) (by simp only [ByteArray.size_append, nlB_size]; omega)
    simp only [spec_l4Manifest.l0]
    rw [if_pos (by omega), if_pos (by omega), rdC61_nat, specText_ends hx k (by omega), getD_cons (z := z27) hlt]
    simp only [Option.bind_some, manA]
    rw [if_pos (by omega), if_pos (by simp only [ByteArray.size_append]; omega), wnext hlt (by omega)]
    exact h2
theorem spec_man (cs : List S27) (hl : cs.length ≤ 1000000) (hg : ∀ x ∈ cs, goodC x = true) (k : Nat) (hk : cs.length + 25 < k) : spec_l4Manifest.f k cs = some (manA ⟨#[]⟩ cs) := by
  unfold spec_l4Manifest.f
  exact spec_man_loop cs hl hg cs.length k 0 _ (by omega) hk (by decide)
theorem bs_sum (a t : ByteArray) : a.data.toList ++ (t ++ (⟨#[10]⟩ : ByteArray)).data.toList = ((a ++ t) ++ nlB).data.toList := by
  simp [nlB]
theorem impl_man_list : ∀ (cs : List S27) (a : ByteArray), (∀ x ∈ cs, goodC x = true) → a.size + 100 * cs.length ≤ 100000000000 → manB a.data.toList cs = some (manA a cs).data.toList
  | [], a, _, _ => rfl
  | x :: r, a, hg, ha => by
    have hx := hg x (List.mem_cons_self ..)
    have hs := contC_size hx
    simp only [List.length_cons] at ha
    have hl : a.data.toList.length = a.size := rfl
    have ih := impl_man_list r ((a ++ contC x) ++ nlB) (fun y hy => hg y (List.mem_cons_of_mem _ hy)) (by simp only [ByteArray.size_append, nlB_size]; omega)
    simp only [manB, manA]
    rw [implText_ends hx, Option.bind_some, if_pos ⟨by omega, by omega⟩, bs_sum, ih]
theorem impl_man (cs : List S27) (hl : cs.length ≤ 1000000) (hg : ∀ x ∈ cs, goodC x = true) : impl_manifestText.f cs = some (manA ⟨#[]⟩ cs) := by
  unfold impl_manifestText.f
  have := impl_man_list cs ⟨#[]⟩ hg (by show 0 + 100 * cs.length ≤ _; omega)
  rw [show ([] : List UInt8) = (⟨#[]⟩ : ByteArray).data.toList from rfl, this]
  rfl
/-- Both texts of a list. -/
def manR (cs : List S27) : ByteArray × Bool := if validC cs = true then (manA ⟨#[]⟩ cs, true) else (⟨#[]⟩, false)
end Go.Proofs.YtfindomajbjacaaDoor.X
