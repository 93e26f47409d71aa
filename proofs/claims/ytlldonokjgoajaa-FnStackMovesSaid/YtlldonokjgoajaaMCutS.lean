/- A row of the call's own, one of whose rows is cut short in place: it stays the call's own, its rows apart. -/
import Derived.Test.YtlldonokjgoajaaX0
namespace Go.Proofs.Ytlldonokjgoajaa.X
open Go.RowKit Go.Proofs.YtlldonokjgoajaaW.PrintWords Go.Proofs.YtlldonokjgoajaaW.PrintLast Go.Proofs.YtlldonokjgoajaaW.PrintMore
set_option linter.unusedVariables false
set_option linter.unusedSimpArgs false
theorem cell_below {w w' : World} {a : Addr} {u : Value} (h : w.cell? a = some u) (hb : Below w.heap.size w w') : w'.cell? a = some u := (hb.cell (World.block_lt_of_cell? w _ h)).trans h
theorem S_cut_row {W : World} {base : Nat} {ok : Nat → Prop} {g n cap : Nat} {xs : List (List Int)} (h : Kd.S (Kd.slice 3 (Kd.int .i64)) 24 W base ok (.slice (some ⟨g, 0, none⟩) n cap) xs) (i : Int) (h0 : 0 ≤ i) (h1 : i < (n : Int)) (m : Nat)
    (hm : m ≤ (rd_L2 xs i).length) {A : Option Addr} {l c : Nat} (hcell : W.cell? ⟨g, i.toNat, none⟩ = some (.slice A l c)) (y : List Int) (hy : y = (rd_L2 xs i).take m) :
    Kd.S (Kd.slice 3 (Kd.int .i64)) 24 (W.setCell ⟨g, i.toNat, none⟩ (.slice A y.length c)) base ok (.slice (some ⟨g, 0, none⟩) n cap) (xs.set i.toNat y) := by
  have hyl : y.length = m := by rw [hy, List.length_take]; omega
  have h' := Kd.S_mono (ok' := fun k => ok k ∧ ¬ (fun _ : Nat => False) k) h (fun k hk => ⟨hk, fun z => z⟩)
  obtain ⟨oki, ce, hcl, hM, hcc, _, hoki, hH⟩ := Kd.S_elem h' ([] : List Int) i h0 h1
  obtain ⟨ve, rfl, hR⟩ := hM
  have hc := hcc 0 _ rfl
  simp only [show (Kd.slice 3 (Kd.int .i64)).sz = 1 from rfl, Nat.mul_one, Nat.add_zero] at hc
  obtain rfl := Option.some.inj (hcell.symm.trans hc)
  have hR2 := Kd.R_take (m := m) hR hm
  have hs := (Kd.S_seg (okg := fun _ => False) (okp := oki) hH h0 h1 (seg := [.slice A m c]) (j := 0) (by show 1 ≤ 1; decide) (x' := (rd_L2 xs i).take m) (by
    show (Kd.slice 3 (Kd.int .i64)).M W base oki _ _
    exact Kd.M_row hR2) (fun k hk => .inl hk) (fun k hk => hk.elim)).1
  simp only [show (Kd.slice 3 (Kd.int .i64)).sz = 1 from rfl, Nat.mul_one, Nat.add_zero] at hs
  rw [hyl, hy]
  exact hs
end Go.Proofs.Ytlldonokjgoajaa.X
