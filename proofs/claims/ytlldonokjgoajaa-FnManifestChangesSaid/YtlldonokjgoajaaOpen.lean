-- Written by a program of ours (wip/bin/rows.py). Not trusted: Lean checks it.
import Derived.Test.YtlldonokjgoajaaX0
import Derived.Deep.Slices
import Derived.Deep.Fields
import Derived.ChangeSame
import Derived.WideShapes
import Derived.SizedLaws
import Derived.Carry
import Derived.ProofKit
import Derived.OpenShut
import Derived.ShutString
import Derived.ChangeOld
namespace Go.Proofs.Ytlldonokjgoajaa.X
open Go.RowKit Go.WideShapes Go.ChangeShapes Go.Deep Go.Proofs.YtlldonokjgoajaaW.PrintWords Go.Proofs.YtlldonokjgoajaaW.PrintLast
set_option linter.unusedVariables false

/-! ### what an argument that came in is -/
def WI (x : Int) : Prop := -9223372036854775808 ≤ x ∧ x ≤ 9223372036854775807
def WU8 (x : Int) : Prop := 0 ≤ x ∧ x ≤ 255
def WS (s : ByteArray) : Prop := s.size ≤ 9223372036854775807
def WL {α : Type} (p : α → Prop) (l : List α) : Prop := l.length ≤ 9223372036854775807 ∧ ∀ x ∈ l, p x
/-- Whatever can be read at type t in world W is of the kind k and meets p. -/
def Opn {α : Type} (P : Program) (W : World) (t : TypeId) (k : Kd α) (p : α → Prop) : Prop :=
  ∀ (H : Type) (enc : TypeId × Value → H) (fuel : Nat) (cs : List Value) (x : DataW H × List MemPlace), DataW.trod enc P W 0 (fun _ => true) true fuel t cs = some x → ∃ y, k.K W y cs ∧ p y
theorem wi_of {n : Int} (h : (Lit.int .i64 n).wf = true) : WI n := by
  have h2 : (decide (IntKind.i64.min ≤ n) && decide (n ≤ IntKind.i64.max)) = true := h
  rw [Bool.and_eq_true, decide_eq_true_eq, decide_eq_true_eq] at h2
  have e1 : IntKind.i64.min = -9223372036854775808 := by decide +kernel
  have e2 : IntKind.i64.max = 9223372036854775807 := by decide +kernel
  rw [e1, e2] at h2
  exact h2
theorem opn_i64 {P : Program} {W : World} {t : TypeId} (ht : P.underlying t = some (.int .i64)) : Opn P W t (Kd.int .i64) WI := by
  intro H enc fuel cs x h
  obtain ⟨n, rfl, _, hw⟩ := DataW.trod_int ht h
  exact ⟨n, rfl, wi_of hw⟩
theorem opn_u8 {P : Program} {W : World} {t : TypeId} (ht : P.underlying t = some (.int .u8)) : Opn P W t (Kd.int .u8) WU8 := by
  intro H enc fuel cs x h
  obtain ⟨n, rfl, _, hw⟩ := DataW.trod_int ht h
  refine ⟨n, rfl, ?_⟩
  have h2 : (decide (IntKind.u8.min ≤ n) && decide (n ≤ IntKind.u8.max)) = true := hw
  rw [Bool.and_eq_true, decide_eq_true_eq, decide_eq_true_eq] at h2
  have e1 : IntKind.u8.min = 0 := by decide +kernel
  have e2 : IntKind.u8.max = 255 := by decide +kernel
  rw [e1, e2] at h2
  exact h2
theorem opn_bool {P : Program} {W : World} {t : TypeId} (ht : P.underlying t = some .bool) : Opn P W t Kd.bool (fun _ => True) := by
  intro H enc fuel cs x h
  obtain ⟨b, rfl, _⟩ := DataW.trod_bool ht h
  exact ⟨b, rfl, trivial⟩
theorem opn_str {P : Program} {W : World} {t : TypeId} (ht : P.underlying t = some .string) : Opn P W t Kd.string WS := by
  intro H enc fuel cs x h
  obtain ⟨s, rfl, _, hs⟩ := DataW.trod_string ht h
  exact ⟨s, rfl, hs⟩
theorem opn_slice {α : Type} {P : Program} {W : World} {t e : TypeId} {k : Kd α} {p : α → Prop} (ht : P.underlying t = some (.slice e)) (hc : P.cellsOf e = k.sz) (h : Opn P W e k p) : Opn P W t (Kd.slice e k) (WL p) := by
  intro H enc fuel cs x hx
  rcases open_slice ht hx with ⟨rfl, _⟩ | ⟨a, len, cap, m, n, D, Pl, rfl, hb, hl, hm, hmm, _, hi⟩
  · exact ⟨[], ⟨none, 0, rfl, Nat.le_refl _, Kd.C_nil _ _⟩, by simp, by simp⟩
  · have hle : len ≤ m := by rw [hmm]; split <;> omega
    have hy : ∀ i, i < len → ∃ y, p y ∧ ∃ c, c.length = k.sz ∧ k.K W y c ∧ ∀ j u, c[j]? = some u → W.cell? (a.add (i * k.sz + j)) = some u := by
      intro i hi'
      obtain ⟨cs', h1, h2⟩ := hi i (by omega)
      obtain ⟨y, hk, hp⟩ := h _ _ _ _ _ h2
      rw [hc] at h1
      obtain ⟨_, hcl, hat⟩ := World.cells?_some h1
      refine ⟨y, hp, cs', hcl, hk, fun j u hu => ?_⟩
      have hj : j < k.sz := by rw [← hcl]; exact (List.getElem?_eq_some_iff.1 hu).1
      rw [← Go.Deep.add_add, hat j hj, hu]
    have hlist : ∀ q, q ≤ len → ∃ ys : List α, ys.length = q ∧ (∀ x ∈ ys, p x) ∧ ∀ j y, ys[j]? = some y → ∃ c, c.length = k.sz ∧ k.K W y c ∧ ∀ i u, c[i]? = some u → W.cell? (a.add (j * k.sz + i)) = some u := by
      intro q
      induction q with
      | zero => exact fun _ => ⟨[], rfl, by simp, by simp⟩
      | succ q ih =>
        intro hq
        obtain ⟨ys, hl1, hp1, hc1⟩ := ih (by omega)
        obtain ⟨y, hp2, hc2⟩ := hy q (by omega)
        refine ⟨ys ++ [y], by simp [hl1], ?_, ?_⟩
        · intro z hz
          rcases List.mem_append.1 hz with hz | hz
          · exact hp1 z hz
          · rw [List.mem_singleton.1 hz]; exact hp2
        · intro j z hj
          by_cases hjq : j < q
          · rw [List.getElem?_append_left (by omega)] at hj
            exact hc1 j z hj
          · have hjl := (List.getElem?_eq_some_iff.1 hj).1
            have hjq' : j = q := by simp [hl1] at hjl; omega
            subst hjq'
            rw [List.getElem?_append_right (by omega), hl1] at hj
            simp at hj
            subst hj
            exact hc2
    obtain ⟨ys, hl1, hp1, hc1⟩ := hlist len (Nat.le_refl _)
    have hmx : len ≤ 9223372036854775807 := by unfold maxLen at hm; omega
    refine ⟨ys, ⟨some a, cap, by rw [hl1], by omega, ?_⟩, by omega, hp1⟩
    exact ⟨rfl, by omega, fun _ => ⟨a, rfl, hc1⟩⟩
theorem opn_iso {α β : Type} {P : Program} {W : World} {t : TypeId} {k : Kd α} {p : α → Prop} {q : β → Prop} (f : β → α) (g : α → β) (hg : ∀ x, f (g x) = x) (hq : ∀ x, p x → q (g x)) (h : Opn P W t k p) : Opn P W t (Kd.iso k f) q := by
  intro H enc fuel cs x hx
  obtain ⟨y, hk, hp⟩ := h _ _ _ _ _ hx
  refine ⟨g y, ?_, hq y hp⟩
  show k.K W (f (g y)) cs
  rw [hg]
  exact hk
/-- The fields of a struct whose fields have one cell each. -/
theorem fields_of {H : Type} {enc : TypeId × Value → H} {P : Program} {W : World} {t : TypeId} {fs : Array Field} {fuel : Nat} {cs : List Value} {x : DataW H × List MemPlace} (ht : P.underlying t = some (.struct fs)) (hone : oneCellFields P fs = true) (hC : P.cellsOf t = fs.size)
    (h : DataW.trod enc P W 0 (fun _ => true) true fuel t cs = some x) : cs.length = fs.size ∧ ∀ (j : Nat) (f : Field), fs[j]? = some f → ∃ (v : Value) (n : Nat) (y : DataW H × List MemPlace), cs[j]? = some v ∧ DataW.trod enc P W 0 (fun _ => true) true n f.type [v] = some y := by
  obtain ⟨ys, n', _, _, hcl, hyl, hf⟩ := DataW.trod_struct ht h
  refine ⟨hcl.trans hC, fun j f hj => ?_⟩
  obtain ⟨ho, hk⟩ := hone_of hone j f hj
  have hjl : j < fs.size := (Array.getElem?_eq_some_iff.1 hj).1
  have hjc : j < cs.length := by rw [hcl, hC]; exact hjl
  have h1 := hf j f hj
  rw [ho, hk] at h1
  have hone' : (cs.drop j).take 1 = [cs[j]] := by
    rw [List.drop_eq_getElem_cons hjc]
    rfl
  rw [hone'] at h1
  have hys : ys[j]? = some (ys[j]'(by omega)) := List.getElem?_eq_getElem (by omega)
  exact ⟨_, n', _, List.getElem?_eq_getElem hjc, h1.trans hys⟩
theorem one_cell {α : Type} {k : Kd α} {W : World} {y : α} {v : Value} {cs : List Value} {j : Nat} (hk : k.K W y [v]) (hj : cs[j]? = some v) : k.K W y ((cs.drop j).take 1) := by
  have hjc := (List.getElem?_eq_some_iff.1 hj).1
  have hv := (List.getElem?_eq_some_iff.1 hj).2
  rw [List.drop_eq_getElem_cons hjc, hv]
  exact hk
/-- An argument that is a slice. -/
theorem arg_slice {α H : Type} {enc : TypeId × Value → H} {P : Program} {W : World} {t e : TypeId} {k : Kd α} {p : List α → Prop} {v : Value} {d : DataW H} {ps : List MemPlace} {r : Reach} {b : Nat} (ht : P.underlying t = some (.slice e)) (hv : Value.okWide P W r b t v) (h : Opn P W t (Kd.slice e k) p)
    (hx : DataW.Trod enc P W 0 (fun _ => true) true t v d ps) : ∃ (A : Option Addr) (c : Nat) (xs : List α), v = .slice A xs.length c ∧ xs.length ≤ c ∧ k.C W A xs.length xs ∧ p xs := by
  obtain ⟨a, len, cap, rfl⟩ := okWide_slice ht hv
  obtain ⟨fuel, hf⟩ := hx
  obtain ⟨xs, ⟨A, c, he, hl, hc⟩, hp⟩ := h _ _ _ _ _ hf
  simp [Value.cells] at he
  obtain ⟨rfl, rfl, rfl⟩ := he
  exact ⟨_, _, xs, rfl, hl, hc, hp⟩
theorem agg_1 {cs : Array Value} {v0 : Value} (hl : (Value.agg cs).cells.toList.length = 1) (h0 : (Value.agg cs).cells.toList[0]? = some v0) : cs = #[v0] := by
  obtain ⟨l⟩ := cs
  change l.length = 1 at hl
  change l[0]? = some v0 at h0
  match l, hl with
  | [c0], _ =>
    obtain rfl : c0 = v0 := (by simpa using h0)
    rfl
theorem agg_2 {cs : Array Value} {v0 v1 : Value} (hl : (Value.agg cs).cells.toList.length = 2) (h0 : (Value.agg cs).cells.toList[0]? = some v0) (h1 : (Value.agg cs).cells.toList[1]? = some v1) : cs = #[v0, v1] := by
  obtain ⟨l⟩ := cs
  change l.length = 2 at hl
  change l[0]? = some v0 at h0; change l[1]? = some v1 at h1
  match l, hl with
  | [c0, c1], _ =>
    obtain rfl : c0 = v0 := (by simpa using h0); obtain rfl : c1 = v1 := (by simpa using h1)
    rfl
theorem agg_3 {cs : Array Value} {v0 v1 v2 : Value} (hl : (Value.agg cs).cells.toList.length = 3) (h0 : (Value.agg cs).cells.toList[0]? = some v0) (h1 : (Value.agg cs).cells.toList[1]? = some v1) (h2 : (Value.agg cs).cells.toList[2]? = some v2) : cs = #[v0, v1, v2] := by
  obtain ⟨l⟩ := cs
  change l.length = 3 at hl
  change l[0]? = some v0 at h0; change l[1]? = some v1 at h1; change l[2]? = some v2 at h2
  match l, hl with
  | [c0, c1, c2], _ =>
    obtain rfl : c0 = v0 := (by simpa using h0); obtain rfl : c1 = v1 := (by simpa using h1); obtain rfl : c2 = v2 := (by simpa using h2)
    rfl
theorem agg_4 {cs : Array Value} {v0 v1 v2 v3 : Value} (hl : (Value.agg cs).cells.toList.length = 4) (h0 : (Value.agg cs).cells.toList[0]? = some v0) (h1 : (Value.agg cs).cells.toList[1]? = some v1) (h2 : (Value.agg cs).cells.toList[2]? = some v2) (h3 : (Value.agg cs).cells.toList[3]? = some v3) : cs = #[v0, v1, v2, v3] := by
  obtain ⟨l⟩ := cs
  change l.length = 4 at hl
  change l[0]? = some v0 at h0; change l[1]? = some v1 at h1; change l[2]? = some v2 at h2; change l[3]? = some v3 at h3
  match l, hl with
  | [c0, c1, c2, c3], _ =>
    obtain rfl : c0 = v0 := (by simpa using h0); obtain rfl : c1 = v1 := (by simpa using h1); obtain rfl : c2 = v2 := (by simpa using h2); obtain rfl : c3 = v3 := (by simpa using h3)
    rfl
theorem agg_5 {cs : Array Value} {v0 v1 v2 v3 v4 : Value} (hl : (Value.agg cs).cells.toList.length = 5) (h0 : (Value.agg cs).cells.toList[0]? = some v0) (h1 : (Value.agg cs).cells.toList[1]? = some v1) (h2 : (Value.agg cs).cells.toList[2]? = some v2) (h3 : (Value.agg cs).cells.toList[3]? = some v3) (h4 : (Value.agg cs).cells.toList[4]? = some v4) : cs = #[v0, v1, v2, v3, v4] := by
  obtain ⟨l⟩ := cs
  change l.length = 5 at hl
  change l[0]? = some v0 at h0; change l[1]? = some v1 at h1; change l[2]? = some v2 at h2; change l[3]? = some v3 at h3; change l[4]? = some v4 at h4
  match l, hl with
  | [c0, c1, c2, c3, c4], _ =>
    obtain rfl : c0 = v0 := (by simpa using h0); obtain rfl : c1 = v1 := (by simpa using h1); obtain rfl : c2 = v2 := (by simpa using h2); obtain rfl : c3 = v3 := (by simpa using h3); obtain rfl : c4 = v4 := (by simpa using h4)
    rfl
theorem k_int {k : IntKind} {W : World} {a : Int} {v : Value} (h : (Kd.int k).K W a [v]) : v = .int k a := by
  have h2 : [v] = [Value.int k a] := h
  injection h2
theorem k_str {W : World} {a : ByteArray} {v : Value} (h : Kd.string.K W a [v]) : v = .string a := by
  have h2 : [v] = [Value.string a] := h
  injection h2
theorem k_bool {W : World} {a : Bool} {v : Value} (h : Kd.bool.K W a [v]) : v = .bool a := by
  have h2 : [v] = [Value.bool a] := h
  injection h2
theorem field_slice {α : Type} {W : World} {e : TypeId} {k : Kd α} {xs : List α} {v : Value} (h : (Kd.slice e k).K W xs [v]) : ∃ (A : Option Addr) (c : Nat), v = .slice A xs.length c ∧ xs.length ≤ c ∧ k.C W A xs.length xs := by
  obtain ⟨A, c, he, hl, hc⟩ := h
  simp at he
  exact ⟨A, c, he, hl, hc⟩

def W144 (x : S144) : Prop := WS x.f0 ∧ WI x.f1 ∧ WI x.f2 ∧ WI x.f3 ∧ WI x.f4
theorem opn_144 (W : World) : Opn Try.prog W 144 k144 W144 := by
  intro H enc fuel cs x hx
  obtain ⟨hl, hf⟩ := fields_of Try.underlying144 (by kernel_rfl) (by kernel_rfl) hx
  obtain ⟨v0, n0, x0, hv0, hx0⟩ := hf 0 _ rfl
  obtain ⟨y0, hk0, hp0⟩ := (opn_str Try.underlying9) _ _ _ _ _ hx0
  obtain ⟨v1, n1, x1, hv1, hx1⟩ := hf 1 _ rfl
  obtain ⟨y1, hk1, hp1⟩ := (opn_i64 Try.underlying3) _ _ _ _ _ hx1
  obtain ⟨v2, n2, x2, hv2, hx2⟩ := hf 2 _ rfl
  obtain ⟨y2, hk2, hp2⟩ := (opn_i64 Try.underlying3) _ _ _ _ _ hx2
  obtain ⟨v3, n3, x3, hv3, hx3⟩ := hf 3 _ rfl
  obtain ⟨y3, hk3, hp3⟩ := (opn_i64 Try.underlying3) _ _ _ _ _ hx3
  obtain ⟨v4, n4, x4, hv4, hx4⟩ := hf 4 _ rfl
  obtain ⟨y4, hk4, hp4⟩ := (opn_i64 Try.underlying3) _ _ _ _ _ hx4
  obtain rfl : cs = [v0, v1, v2, v3, v4] := by
    match cs, hl with
    | [c0, c1, c2, c3, c4], _ =>
      simp at hv0 hv1 hv2 hv3 hv4
      simp [hv0, hv1, hv2, hv3, hv4]
  exact ⟨⟨y0, y1, y2, y3, y4⟩, ⟨[v0], [v1, v2, v3, v4], rfl, hk0, ⟨[v1], [v2, v3, v4], rfl, hk1, ⟨[v2], [v3, v4], rfl, hk2, ⟨[v3], [v4], rfl, hk3, hk4⟩⟩⟩⟩, ⟨hp0, hp1, hp2, hp3, hp4⟩⟩
end Go.Proofs.Ytlldonokjgoajaa.X
