-- Written by a program of ours (wip/bin/rows.py). Not trusted: Lean checks it.
import Derived.Test.YtfindomajbjacaaGreatDoorX0
import Derived.Deep.Slices
import Derived.Deep.Fields
import Derived.ChangeSame
import Derived.WideShapes
import Derived.SizedLaws
import Derived.Carry
import Derived.ProofKit
import Derived.OpenShut
import Derived.ShutString
import Derived.ChangeOld
namespace Go.Proofs.YtfindomajbjacaaGreatDoor.X
open Go.RowKit Go.WideShapes Go.ChangeShapes Go.Deep Go.Proofs.YtfindomajbjacaaGreatDoorW.PrintWords Go.Proofs.YtfindomajbjacaaGreatDoorW.PrintLast
set_option linter.unusedVariables false

/-! ### what an argument that came in is -/
def WU8 (x : Int) : Prop := 0 ≤ x ∧ x ≤ 255
def WL {α : Type} (p : α → Prop) (l : List α) : Prop := l.length ≤ 9223372036854775807 ∧ ∀ x ∈ l, p x
/-- Whatever can be read at type t in world W is of the kind k and meets p. -/
def Opn {α : Type} (P : Program) (W : World) (t : TypeId) (k : Kd α) (p : α → Prop) : Prop :=
  ∀ (H : Type) (enc : TypeId × Value → H) (fuel : Nat) (cs : List Value) (x : DataW H × List MemPlace), DataW.trod enc P W 0 (fun _ => true) true fuel t cs = some x → ∃ y, k.K W y cs ∧ p y
theorem opn_u8 {P : Program} {W : World} {t : TypeId} (ht : P.underlying t = some (.int .u8)) : Opn P W t (Kd.int .u8) WU8 := by
  intro H enc fuel cs x h
  obtain ⟨n, rfl, _, hw⟩ := DataW.trod_int ht h
  refine ⟨n, rfl, ?_⟩
  have h2 : (decide (IntKind.u8.min ≤ n) && decide (n ≤ IntKind.u8.max)) = true := hw
  rw [Bool.and_eq_true, decide_eq_true_eq, decide_eq_true_eq] at h2
  have e1 : IntKind.u8.min = 0 := by decide +kernel
  have e2 : IntKind.u8.max = 255 := by decide +kernel
  rw [e1, e2] at h2
  exact h2
theorem opn_slice {α : Type} {P : Program} {W : World} {t e : TypeId} {k : Kd α} {p : α → Prop} (ht : P.underlying t = some (.slice e)) (hc : P.cellsOf e = k.sz) (h : Opn P W e k p) : Opn P W t (Kd.slice e k) (WL p) := by
  intro H enc fuel cs x hx
  rcases open_slice ht hx with ⟨rfl, _⟩ | ⟨a, len, cap, m, n, D, Pl, rfl, hb, hl, hm, hmm, _, hi⟩
  · exact ⟨[], ⟨none, 0, rfl, Nat.le_refl _, Kd.C_nil _ _⟩, by simp, by simp⟩
  · have hle : len ≤ m := by rw [hmm]; split <;> omega
    have hy : ∀ i, i < len → ∃ y, p y ∧ ∃ c, c.length = k.sz ∧ k.K W y c ∧ ∀ j u, c[j]? = some u → W.cell? (a.add (i * k.sz + j)) = some u := by
      intro i hi'
      obtain ⟨cs', h1, h2⟩ := hi i (by omega)
      obtain ⟨y, hk, hp⟩ := h _ _ _ _ _ h2
      rw [hc] at h1
      obtain ⟨_, hcl, hat⟩ := World.cells?_some h1
      refine ⟨y, hp, cs', hcl, hk, fun j u hu => ?_⟩
      have hj : j < k.sz := by rw [← hcl]; exact (List.getElem?_eq_some_iff.1 hu).1
      rw [← Go.Deep.add_add, hat j hj, hu]
    have hlist : ∀ q, q ≤ len → ∃ ys : List α, ys.length = q ∧ (∀ x ∈ ys, p x) ∧ ∀ j y, ys[j]? = some y → ∃ c, c.length = k.sz ∧ k.K W y c ∧ ∀ i u, c[i]? = some u → W.cell? (a.add (j * k.sz + i)) = some u := by
      intro q
      induction q with
      | zero => exact fun _ => ⟨[], rfl, by simp, by simp⟩
      | succ q ih =>
        intro hq
        obtain ⟨ys, hl1, hp1, hc1⟩ := ih (by omega)
        obtain ⟨y, hp2, hc2⟩ := hy q (by omega)
        refine ⟨ys ++ [y], by simp [hl1], ?_, ?_⟩
        · intro z hz
          rcases List.mem_append.1 hz with hz | hz
          · exact hp1 z hz
          · rw [List.mem_singleton.1 hz]; exact hp2
        · intro j z hj
          by_cases hjq : j < q
          · rw [List.getElem?_append_left (by omega)] at hj
            exact hc1 j z hj
          · have hjl := (List.getElem?_eq_some_iff.1 hj).1
            have hjq' : j = q := by simp [hl1] at hjl; omega
            subst hjq'
            rw [List.getElem?_append_right (by omega), hl1] at hj
            simp at hj
            subst hj
            exact hc2
    obtain ⟨ys, hl1, hp1, hc1⟩ := hlist len (Nat.le_refl _)
    have hmx : len ≤ 9223372036854775807 := by unfold maxLen at hm; omega
    refine ⟨ys, ⟨some a, cap, by rw [hl1], by omega, ?_⟩, by omega, hp1⟩
    exact ⟨rfl, by omega, fun _ => ⟨a, rfl, hc1⟩⟩
/-- An argument that is a slice. -/
theorem arg_slice {α H : Type} {enc : TypeId × Value → H} {P : Program} {W : World} {t e : TypeId} {k : Kd α} {p : List α → Prop} {v : Value} {d : DataW H} {ps : List MemPlace} {r : Reach} {b : Nat} (ht : P.underlying t = some (.slice e)) (hv : Value.okWide P W r b t v) (h : Opn P W t (Kd.slice e k) p)
    (hx : DataW.Trod enc P W 0 (fun _ => true) true t v d ps) : ∃ (A : Option Addr) (c : Nat) (xs : List α), v = .slice A xs.length c ∧ xs.length ≤ c ∧ k.C W A xs.length xs ∧ p xs := by
  obtain ⟨a, len, cap, rfl⟩ := okWide_slice ht hv
  obtain ⟨fuel, hf⟩ := hx
  obtain ⟨xs, ⟨A, c, he, hl, hc⟩, hp⟩ := h _ _ _ _ _ hf
  simp [Value.cells] at he
  obtain ⟨rfl, rfl, rfl⟩ := he
  exact ⟨_, _, xs, rfl, hl, hc, hp⟩
end Go.Proofs.YtfindomajbjacaaGreatDoor.X
