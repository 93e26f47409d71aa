/- Words for the laws on yards that are walked by hand: what a call has made stays as it is while others are written. -/
import Derived.Test.YtlldonokjgoajaaGmarkYard
namespace Go.Proofs.Ytlldonokjgoajaa.X
open Go.RowKit Go.Lib Go.Proofs.YtlldonokjgoajaaW.PrintWords Go.Proofs.YtlldonokjgoajaaW.PrintLast Go.Proofs.YtlldonokjgoajaaW.PrintMore
set_option linter.unusedVariables false
set_option linter.unusedSimpArgs false

/-- The blocks from b up to n. -/
def Span (b n : Nat) (k : Nat) : Prop := b ≤ k ∧ k < n
def Hld (w : World) (b n : Nat) (v : Value) (xs : List Int) : Prop := Kd.R (Kd.int .i64) 3 w b (Span b n) v xs ∧ n ≤ w.heap.size
def HldS (w : World) (b n : Nat) (v : Value) (xs : List (List Int)) : Prop := Kd.S (Kd.slice 3 (Kd.int .i64)) 24 w b (Span b n) v xs ∧ n ≤ w.heap.size
variable {w w' : World} {b n p q : Nat} {v : Value}
theorem Hld.new {P : Nat → Prop} {xs : List Int} (h : Kd.R (Kd.int .i64) 3 w' b P v xs) : Hld w' b w'.heap.size v xs := ⟨Kd.R_mono (Kd.R_bound h) (fun k hk => ⟨hk.2.1, hk.2.2.1⟩), Nat.le_refl _⟩
theorem HldS.new {P : Nat → Prop} {xs : List (List Int)} (h : Kd.S (Kd.slice 3 (Kd.int .i64)) 24 w' b P v xs) : HldS w' b w'.heap.size v xs := ⟨Kd.S_mono (Kd.S_bound h) (fun k hk => ⟨hk.2.1, hk.2.2.1⟩), Nat.le_refl _⟩
theorem Hld.below {xs : List Int} (h : Hld w b n v xs) (hb : Below w.heap.size w w') : Hld w' b n v xs := ⟨Kd.R_below h.1 hb, Nat.le_trans h.2 hb.size⟩
theorem HldS.below {xs : List (List Int)} (h : HldS w b n v xs) (hb : Below w.heap.size w w') : HldS w' b n v xs := ⟨Kd.S_below h.1 hb, Nat.le_trans h.2 hb.size⟩
theorem Hld.kept {xs : List Int} (h : Hld w b n v xs) (hk : Kept w w' (Span p q)) (ho : n ≤ p ∨ q ≤ b) : Hld w' b n v xs :=
  ⟨Kd.R_step h.1 (fun k hs hlt => hk.2 k hlt (fun h2 => by unfold Span at hs h2; omega)), Nat.le_trans h.2 hk.1⟩
theorem HldS.kept {xs : List (List Int)} (h : HldS w b n v xs) (hk : Kept w w' (Span p q)) (ho : n ≤ p ∨ q ≤ b) : HldS w' b n v xs :=
  ⟨Kd.S_step h.1 (fun k hs hlt => hk.2 k hlt (fun h2 => by unfold Span at hs h2; omega)), Nat.le_trans h.2 hk.1⟩
theorem cell_kept {a : Addr} {u : Value} (h : w.cell? a = some u) (hk : Kept w w' (Span p q)) (ho : a.block < p ∨ q ≤ a.block) : w'.cell? a = some u := by
  have hlt := World.block_lt_of_cell? w _ h
  have e := hk.2 a.block hlt (fun h2 => by unfold Span at h2; omega)
  unfold World.cell? at h ⊢
  rw [e]
  exact h
theorem cell_below {a : Addr} {u : Value} (h : w.cell? a = some u) (hb : Below w.heap.size w w') : w'.cell? a = some u := (hb.cell (World.block_lt_of_cell? w _ h)).trans h
theorem Hld.slice {xs : List Int} (h : Hld w b n v xs) : ∃ A c, v = .slice A xs.length c := Kd.R_slice h.1
theorem HldS.slice {xs : List (List Int)} (h : HldS w b n v xs) : ∃ A c, v = .slice A xs.length c := Kd.S_slice h.1
theorem Hld.reads {A : Option Addr} {m c : Nat} {xs : List Int} (h : Hld w b n (.slice A m c) xs) : m ≤ c ∧ Kd.C (Kd.int .i64) w A xs.length xs := (Kd.R_reads' h.1).2
theorem HldS.reads {A : Option Addr} {m c : Nat} {xs : List (List Int)} (h : HldS w b n (.slice A m c) xs) : m ≤ c ∧ Kd.C (Kd.slice 3 (Kd.int .i64)) w A xs.length xs := (Kd.S_reads' h.1).2
/-- The lengths of rows that come in. -/
theorem C_rows_max {A : Option Addr} {ss : List (List Int)} (h : Kd.C (Kd.slice 3 (Kd.int .i64)) w A ss.length ss) : ∀ s ∈ ss, s.length ≤ 9223372036854775807 := by
  intro s hs
  obtain ⟨i, hi, rfl⟩ := List.mem_iff_getElem.1 hs
  obtain ⟨ad, A1, c1, e0, hx0, hl1, hr1⟩ := at_L2 h (i : Int) (by omega) (by omega)
  have e : rd_L2 ss (i : Int) = ss[i] := by rw [rdL_nat, List.getD_eq_getElem?_getD, List.getElem?_eq_getElem hi]; rfl
  rw [e] at hr1
  exact Kd.C_max hr1
end Go.Proofs.Ytlldonokjgoajaa.X
