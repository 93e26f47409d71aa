/- slices.Clone over containers, walked: the same list, in memory of its own. -/
import Derived.Test.YtlldonokjgoajaaX0
import Derived.Shelf.RegionOpenPlain
import Derived.WalkKit
import Derived.Deep.LoopGhost
import Derived.Lib.Walk
import Derived.Lib.SliceRun
namespace Go.Proofs.Ytlldonokjgoajaa.X
open Go.RowKit Go.Lib Go.Proofs.YtlldonokjgoajaaW.PrintWords Go.Proofs.YtlldonokjgoajaaW.PrintLast Go.Proofs.YtlldonokjgoajaaW.PrintMore
set_option linter.unusedVariables false
set_option linter.unusedSimpArgs false

def cellsC (x : S89) : List Value := [.string x.f0, .int .i64 x.f1, .int .i64 x.f2, .int .i64 x.f3, .int .i64 x.f4]
def cellsL : List S89 → List Value
  | [] => []
  | x :: r => cellsC x ++ cellsL r
theorem cellsL_length : ∀ l, (cellsL l).length = l.length * 5
  | [] => rfl
  | x :: r => by
    have := cellsL_length r
    simp only [cellsL, List.length_append, List.length_cons, this]
    simp only [cellsC, List.length_cons, List.length_nil]
    omega
theorem cellsL_at : ∀ (l : List S89) (j : Nat) (u : Value), (cellsL l)[j]? = some u → ∃ (m i : Nat) (x : S89), l[m]? = some x ∧ (cellsC x)[i]? = some u ∧ j = m * 5 + i
  | [], j, u, h => by simp [cellsL] at h
  | x :: r, j, u, h => by
    simp only [cellsL] at h
    have h5 : (cellsC x).length = 5 := rfl
    by_cases hj : j < 5
    · rw [List.getElem?_append_left (by omega)] at h
      exact ⟨0, j, x, rfl, h, by omega⟩
    · rw [List.getElem?_append_right (by omega), h5] at h
      obtain ⟨m, i, y, h1, h2, h3⟩ := cellsL_at r (j - 5) u h
      exact ⟨m + 1, i, y, by simpa using h1, h2, by omega⟩
theorem cellsL_part : ∀ (l : List S89) (j : Nat) (p : S89), l[j]? = some p → ((cellsL l).drop (j * 5)).take 5 = cellsC p
  | [], j, p, h => by simp at h
  | x :: r, 0, p, h => by
    obtain rfl : x = p := by simpa using h
    rfl
  | x :: r, j + 1, p, h => by
    have hr := cellsL_part r j p (by simpa using h)
    rw [← hr]
    simp only [cellsL]
    rw [List.drop_append, show (cellsC x).drop ((j + 1) * 5) = [] from List.drop_of_length_le (by show 5 ≤ _; omega), List.nil_append, show (j + 1) * 5 - (cellsC x).length = j * 5 by show (j + 1) * 5 - 5 = _; omega]
theorem cellsL_one (l : List S89) : ∀ u ∈ cellsL l, u.oneCell' = true := by
  induction l with
  | nil => intro u hu; cases hu
  | cons x r ih =>
    intro u hu
    rcases List.mem_append.1 hu with h | h
    · simp only [cellsC, List.mem_cons, List.not_mem_nil, or_false] at h
      rcases h with rfl | rfl | rfl | rfl | rfl <;> rfl
    · exact ih u h

def impl_Container.f (l0 : List S89) : Option (List S89) := if l0.length * 48 ≤ 140737488355328 then some l0 else none
set_option maxHeartbeats 4000000 in
set_option maxRecDepth 100000 in
theorem impl_Container.calls (A0 : Option Addr) (c0 : Nat) (l0 : List S89) (r : List S89) (w : World) (hr0 : Kd.C k89 w A0 l0.length l0) (hc0 : l0.length ≤ c0) (h : impl_Container.f l0 = some r) :
    Calls Try.prog 155 #[.slice A0 l0.length c0] w fun e w' => ∃ v0_ : Value, e = .returned (v0_) ∧ Kd.R k89 89 w' w.heap.size (fun _ => True) v0_ r ∧ Below w.heap.size w w' := by
  unfold impl_Container.f at h
  split at h
  · rename_i hb
    obtain rfl := Option.some.inj h
    have q25 : ∀ (w : World) (a : Option Addr) (n c n' c' : Nat), (binOp .eql 74 (.slice a n c) (.slice none n' c')).run Try.prog w = .ok (.bool a.isNone) w := fun w a n c n' c' => Lib.run_eql_slice_nil w _ _ a n c n' c' Try.underlying74
    have u25 : ∀ w, Sem.run Try.prog (underlying 74) w = .ok (TypeDesc.slice 89) w := run_underlying Try.underlying74
    cases A0 with
    | none =>
      have h0 : l0 = [] := by
        cases l0 with
        | nil => rfl
        | cons x l =>
          obtain ⟨ad, e, _⟩ := hr0.2.2 (by simp)
          cases e
      subst h0
      clear hr0 hc0 h hb
      go_enter Try.func155, Try.ntmps155
      go_wp2
      go_ret
      exact ⟨_, rfl, Kd.R_nil _ _ _ _ _, Below.refl _ _⟩
    | some ad =>
      have hcell : ∀ j u, (cellsL l0)[j]? = some u → w.cell? (ad.add j) = some u := by
        intro j u hj
        obtain ⟨m, i, x, h1, h2, rfl⟩ := cellsL_at l0 j u hj
        have hm : m < l0.length := (List.getElem?_eq_some_iff.1 h1).1
        obtain ⟨ad', e, hall⟩ := hr0.2.2 (by omega)
        cases e
        obtain ⟨c, _, hK, hcs⟩ := hall m x h1
        obtain rfl := k89_open hK
        exact hcs i u h2
      obtain ⟨i0, hi, hz0, hz1, hz2⟩ := info_parts info89
      have A : Aside (∀ j u, (cellsL l0)[j]? = some u → w.cell? (ad.add j) = some u) := hcell
      have HL := Aside0.mk (cellsL_length l0)
      have H1 := Aside0.mk (cellsL_one l0)
      have HB := Aside0.mk hb
      clear hcell hr0 hc0 h hb
      go_enter Try.func155, Try.ntmps155
      go_wp2_with (at_builtin; refine wpList_append_own _ rfl _ _ 74 rfl w.heap.size 89 i0 (.agg #[(.string ⟨#[]⟩), (.int .i64 0), (.int .i64 0), (.int .i64 0), (.int .i64 0)]) 5 48 Try.underlying74 hi hz0 hz1 hz2 rfl (by decide) _ _ _ rfl (World.ownsRow_made w #[] 0 (Nat.le_refl _) (Nat.zero_le _) (by simp)) ad l0.length c0 (cellsL l0) rfl ?qc1 ?qc2 ?qc3 ?qc4 ?qc5 ?qc6 ?_)
      case qc1 => exact HL.out
      case qc2 =>
        intro j u hj
        exact Lib.cell?_alloc_some _ (A.out j u hj)
      case qc3 => exact H1.out
      case qc4 => have := HB.out; unfold maxLen; omega
      case qc5 => have := HB.out; omega
      case qc6 => simp
      intro v' w1 hown hgrow hnil
      go_wp2
      go_ret
      refine ⟨v', rfl, ⟨fun _ _ => trivial, cellsL l0, hown, cellsL_length l0, fun j p hp => ?_⟩, ?_⟩
      · show k89.M _ _ _ p (((cellsL l0).drop (j * 5)).take 5)
        rw [cellsL_part l0 j p hp]
        exact k89_mkM _ _ _ p
      · exact ((Below.refl _ w).alloc (Nat.le_refl _) _).grown hgrow (by simp) (by intro k hk; simp [Value.ownBlock] at hk; omega)
  · cases h
theorem CloneC_ends (l : List S89) (h : l.length ≤ 1048576) : impl_Container.f l = some l := by
  unfold impl_Container.f
  rw [if_pos (by omega)]
end Go.Proofs.Ytlldonokjgoajaa.X
