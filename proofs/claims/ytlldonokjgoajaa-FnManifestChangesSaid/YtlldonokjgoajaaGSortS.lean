/- slices.Sort over texts that the call owns, as a function of lists: the sorted list, in the same memory. Out of the shelf's contract. -/
import Derived.Test.YtlldonokjgoajaaX0
import Derived.Test.YtlldonokjgoajaaShelfT
import Derived.Sort.OwnSorted
namespace Go.Proofs.Ytlldonokjgoajaa.X
open Go.RowKit Go.Sort Go.Proofs.YtlldonokjgoajaaW.PrintWords Go.Proofs.YtlldonokjgoajaaW.PrintLast Go.Proofs.YtlldonokjgoajaaW.PrintMore
set_option linter.unusedVariables false
set_option linter.unusedSimpArgs false
set_option linter.unusedVariables false
def sortU (l : List (List UInt8)) : List (List UInt8) := l.mergeSort fun x y => decide (x ≤ y)
def sortB (l : List ByteArray) : List ByteArray := (sortU (l.map (·.data.toList))).map fun b => ⟨b.toArray⟩
def slices_Sort_string_string.f (l0 : List ByteArray) : Option (List ByteArray) := if l0.length ≤ 1048576 then some (sortB l0) else none
theorem encs_str (l : List ByteArray) : encs Value.string l = (l.map (·.data.toList)).map encStr := by
  simp [encs, encStr]
theorem encs_back (l : List (List UInt8)) : encs Value.string (l.map fun b => (⟨b.toArray⟩ : ByteArray)) = l.map encStr := by
  simp [encs, encStr]
theorem sortB_length (l : List ByteArray) : (sortB l).length = l.length := by simp [sortB, sortU]
theorem slices_Sort_string_string.calls (P0_ : Nat → Prop) (u9000_ : Value) (l0 : List ByteArray) (r : List ByteArray) (w0 w : World) (hB : Below w0.heap.size w0 w) (ho0 : Kd.R Kd.string 9 w w0.heap.size P0_ u9000_ l0) (h : slices_Sort_string_string.f l0 = some r) :
    Calls Try.prog 153 #[u9000_] w fun e w' => e = .returned (.tuple #[]) ∧ Kd.R Kd.string 9 w' w0.heap.size (fun k_ => (P0_ k_ ∨ w.heap.size ≤ k_)) u9000_ r ∧ Below w0.heap.size w0 w' ∧ Kept w w' (fun k_ => P0_ k_) := by
  unfold slices_Sort_string_string.f at h
  split at h
  · rename_i hlen
    obtain rfl := Option.some.inj h
    have hok := ho0.1
    have hown : w.ownsRow w0.heap.size 9 1 u9000_ l0.length (encs Value.string l0) := Kd.own_of_R ho0
    rcases hown.2 with ⟨rfl, h0⟩ | ⟨g, cap, cur, rfl, hbase, hb, h1, h2, h3, h4⟩
    · have hn : l0 = [] := List.eq_nil_of_length_eq_zero h0
      subst hn
      refine (Try.slices_Sort_string_none none 0 w).mono ?_
      rintro e w' ⟨rfl, rfl⟩
      rw [show sortB [] = [] by simp [sortB, sortU]]
      exact ⟨rfl, Kd.R_nil _ _ _ _ _, hB, Kept.refl _ _⟩
    · rw [Nat.mul_one, encs_str] at h4
      have hg : g < w.heap.size := (Array.getElem?_eq_some_iff.1 hb).1
      have hH : Holds encStr w g 0 (l0.map (·.data.toList)).toArray := holds_of_block hb (by rw [List.length_map]; exact h4)
      have hc := Try.slices_Sort_string g 0 cap (l0.map (·.data.toList)) w hH hg (by rw [List.length_map]; omega)
      rw [List.length_map] at hc
      refine hc.mono ?_
      rintro e w' ⟨rfl, n, os, rfl⟩
      have hrow := ownsRow_sorted (n := n) (os := os) (ss := l0.map (·.data.toList)) (ts := sortU (l0.map (·.data.toList))) (by simp [sortU]) hbase hb (by rw [List.length_map]; exact h1) h2 h3
      have hgr := grownBy_sorted (n := n) (os := os) (w := w) (g := g) (sortU (l0.map (·.data.toList))).toArray
      rw [List.length_map] at hrow
      refine ⟨rfl, Kd.R_of_own ?_ (fun k hk => .inl (hok k hk)), hB.grown hgr hB.size (fun k hk => by cases hk; exact hbase), ⟨hgr.size, fun i hi hn => hgr.block i hi (fun e1 => hn (hok i (by cases e1; rfl)))⟩⟩
      rw [sortB_length]
      unfold sortB
      rw [encs_back]
      exact hrow
  · cases h
end Go.Proofs.Ytlldonokjgoajaa.X
