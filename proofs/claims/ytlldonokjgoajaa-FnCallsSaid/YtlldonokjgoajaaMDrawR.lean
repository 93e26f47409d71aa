/- Drawing rotations and calls: it always ends; the lists are short. -/
import Derived.Test.YtlldonokjgoajaaMDraw
import Derived.Test.YtlldonokjgoajaaMBase
import Derived.Test.YtlldonokjgoajaaFspecl1Currotation
import Derived.Test.YtlldonokjgoajaaFspecl1CuranyRotation
import Derived.Test.YtlldonokjgoajaaFspecl1Curcall
namespace Go.Proofs.Ytlldonokjgoajaa.X
open Go.RowKit Go.Proofs.YtlldonokjgoajaaW.PrintWords Go.Proofs.YtlldonokjgoajaaW.PrintLast
set_option linter.unusedVariables false
set_option linter.unusedSimpArgs false
theorem rot_loop {l : List Int} (hl : Byt l) (n : Nat) (hn : n ≤ 12) (d : Nat) : ∀ (k i : Nat) (ps ds : List Int) (m a s : Int), i + d = n → d + 5 < k → ps.length = i → ds.length = i → At m a → m + 4 * d ≤ 10000000 →
    ∃ ps' ds' a' s', spec_l1Cur_rotation.l0 k (n : Int) (i : Int) l a s ps ds = some (ps', ds', a', s') ∧ ps'.length = n ∧ ds'.length = n ∧ At (m + 4 * d) a' := by
  induction d with
  | zero =>
    intro k i ps ds m a s hi hk hp hd ha hm
    obtain ⟨k, rfl⟩ := kpos (d := 0) (k := k) (by omega)
    have c : ¬ (i : Int) < (n : Int) := by omega
    simp only [spec_l1Cur_rotation.l0]
    rw [if_neg c]
    exact ⟨_, _, _, _, rfl, by omega, by omega, ha.up (by omega)⟩
  | succ d ih =>
    intro k i ps ds m a s hi hk hp hd ha hm
    obtain ⟨k, rfl⟩ := kpos (d := 0) (k := k) (by omega)
    have c : (i : Int) < (n : Int) := by omega
    have c1 : ps.length < 17592186044416 := by omega
    have c2 : ds.length < 17592186044416 := by omega
    have hw : wrap64 ((i : Int) + 1) = ((i + 1 : Nat) : Int) := by rw [w64 (by omega) (by omega)]; omega
    obtain ⟨v, a1, s1, e1, hv, ha1⟩ := pick_ok hl ha (by omega) s 5
    obtain ⟨y, a2, s2, e2, hy, ha2⟩ := among_ok hl ha1 (by omega) s1 ([1, 2, 3, 5, 10, 40] : List Int) (by decide) (fun _ => True) (fun _ _ => trivial)
    have key : ∀ p : Int, ∃ ps' ds' a' s', spec_l1Cur_rotation.l0 k (n : Int) ((i + 1 : Nat) : Int) l a2 s2 (ps ++ [p]) (ds ++ [y]) = some (ps', ds', a', s') ∧ ps'.length = n ∧ ds'.length = n ∧ At (m + 4 * (d + 1 : Nat)) a' := by
      intro p
      obtain ⟨ps', ds', a', s', q1, q2, q3, q4⟩ := ih k (i + 1) (ps ++ [p]) (ds ++ [y]) (m + 4) a2 s2 (by omega) (by omega) (by simp; omega) (by simp; omega) (ha2.up (by omega)) (by omega)
      exact ⟨ps', ds', a', s', q1, q2, q3, q4.up (by omega)⟩
    simp only [spec_l1Cur_rotation.l0]
    rw [if_pos c, e1, Option.bind_some]
    simp only [if_pos c1, if_pos c2, e2, Option.bind_some, hw]
    by_cases h0 : (i : Int) > 0
    · have hs : wrap64 ((i : Int) - 1) = (i : Int) - 1 := w64 (by omega) (by omega)
      have c3 : 0 ≤ (i : Int) - 1 := by omega
      have c4 : (i : Int) - 1 < (ps.length : Int) := by omega
      have c5 : 0 < (ps.length : Int) := by omega
      rw [if_pos h0, hs, if_pos c3, if_pos c4]
      split
      · exact key _
      · split
        · (try rw [if_pos c5])
          split
          · exact key _
          · exact key _
        · exact key _
    · rw [if_neg h0]
      split
      · exact key _
      · exact key _
theorem rotation_ok {l : List Int} (hl : Byt l) {m a : Int} (ha : At m a) (hm : m ≤ 1000000) (s : Int) (k : Nat) (hk : 30 ≤ k) :
    ∃ ps ds a' s', spec_l1Cur_rotation.f k l a s = some (ps, ds, a', s') ∧ 1 ≤ ps.length ∧ ps.length ≤ 12 ∧ ds.length = ps.length ∧ At (m + 60) a' := by
  unfold spec_l1Cur_rotation.f
  obtain ⟨v, a1, s1, e1, hv, ha1⟩ := pick_ok hl ha (by omega) s 7
  have hv2 := hv.2.2 (by omega)
  have hv0 := hv.1
  rw [e1, Option.bind_some]
  dsimp only
  obtain ⟨b, a2, s2, e2, ha2⟩ := one_ok hl ha1 (by omega) s1 12
  rw [e2, Option.bind_some]
  dsimp only
  obtain ⟨k, rfl⟩ := kpos (d := 0) (k := k) (by omega)
  simp only [spec_l1Cur_rotation.j0]
  by_cases hb : b = true
  · obtain ⟨ps, ds, a3, s3, q1, q2, q3, q4⟩ := rot_loop hl 12 (by omega) 12 k 0 [] [] _ a2 s2 (by omega) (by omega) rfl rfl ha2 (by omega)
    rw [if_pos hb]
    exact ⟨ps, ds, a3, s3, q1, by omega, by omega, by omega, q4.up (by omega)⟩
  · obtain ⟨n, rfl⟩ : ∃ n : Nat, v = n := ⟨v.toNat, by omega⟩
    obtain ⟨ps, ds, a3, s3, q1, q2, q3, q4⟩ := rot_loop hl (n + 1) (by omega) (n + 1) k 0 [] [] _ a2 s2 (by omega) (by omega) rfl rfl ha2 (by omega)
    have hw : wrap64 (1 + (n : Int)) = ((n + 1 : Nat) : Int) := by rw [w64 (by omega) (by omega)]; omega
    rw [if_neg hb, hw]
    exact ⟨ps, ds, a3, s3, q1, by omega, by omega, by omega, q4.up (by omega)⟩
theorem anyRot_loop {l : List Int} (hl : Byt l) (d : Nat) : ∀ (k : Nat) (ps ds : List Int) (m a s : Int), ps.length + d = 14 → d + 2 < k → ds.length ≤ 14 - d → At m a → m + 2 * d ≤ 10000000 →
    ∃ ps' ds' a' s', spec_l1Cur_anyRotation.l0 k l a s ps ds = some (ps', ds', a', s') ∧ ps'.length ≤ 20 ∧ ds'.length ≤ 20 ∧ At (m + 2 * d + 2) a' := by
  induction d with
  | zero =>
    intro k ps ds m a s hp hk hd ha hm
    obtain ⟨k, rfl⟩ := kpos (d := 0) (k := k) (by omega)
    obtain ⟨v, a1, s1, e1, hv, ha1⟩ := pick_ok hl ha (by omega) s 2
    have hv2 := hv.2.2 (by omega)
    have hv0 := hv.1
    have hw : wrap64 (12 + v) = 12 + v := w64 (by omega) (by omega)
    have c : ¬ (ps.length : Int) < 12 + v := by omega
    simp only [spec_l1Cur_anyRotation.l0]
    rw [e1, Option.bind_some]
    dsimp only
    rw [hw, if_neg c]
    exact ⟨_, _, _, _, rfl, by omega, by omega, ha1.up (by omega)⟩
  | succ d ih =>
    intro k ps ds m a s hp hk hd ha hm
    obtain ⟨k, rfl⟩ := kpos (d := 0) (k := k) (by omega)
    obtain ⟨v, a1, s1, e1, hv, ha1⟩ := pick_ok hl ha (by omega) s 2
    have hv2 := hv.2.2 (by omega)
    have hv0 := hv.1
    have hw : wrap64 (12 + v) = 12 + v := w64 (by omega) (by omega)
    have c1 : ps.length < 17592186044416 := by omega
    have c2 : ds.length < 17592186044416 := by omega
    simp only [spec_l1Cur_anyRotation.l0]
    rw [e1, Option.bind_some]
    dsimp only
    rw [hw]
    by_cases c : (ps.length : Int) < 12 + v
    · rw [if_pos c, if_pos c1, if_pos c2]
      obtain ⟨ps', ds', a', s', q1, q2, q3, q4⟩ := ih k (ps ++ [7 + ((ps.length : Int) % 2)]) (ds ++ [1]) (m + 2) a1 s1 (by simp; omega) (by omega) (by simp; omega) ha1 (by omega)
      exact ⟨ps', ds', a', s', q1, q2, q3, q4.up (by omega)⟩
    · rw [if_neg c]
      exact ⟨_, _, _, _, rfl, by omega, by omega, ha1.up (by omega)⟩
theorem anyRotation_ok {l : List Int} (hl : Byt l) {m a : Int} (ha : At m a) (hm : m ≤ 100000) (s : Int) (k : Nat) (hk : 30 ≤ k) :
    ∃ ps ds a' s', spec_l1Cur_anyRotation.f k l a s = some (ps, ds, a', s') ∧ ps.length ≤ 20 ∧ ds.length ≤ 20 ∧ At (m + 110) a' := by
  unfold spec_l1Cur_anyRotation.f
  obtain ⟨ps, ds, a1, s1, e1, h1, h2, h3, ha1⟩ := rotation_ok hl ha (by omega) s k hk
  rw [e1, Option.bind_some]
  dsimp only
  obtain ⟨i, a2, s2, e2, hi, ha2⟩ := pick_ok hl ha1 (by omega) s1 (ps.length : Int)
  have hi2 := hi.2.2 (by omega)
  have hi0 := hi.1
  rw [e2, Option.bind_some]
  dsimp only
  obtain ⟨x, a3, s3, e3, hx, ha3⟩ := pick_ok hl ha2 (by omega) s2 30
  rw [e3, Option.bind_some]
  dsimp only
  have c0 : 0 < (ps.length : Int) := by omega
  have c1 : i < (ds.length : Int) := by omega
  by_cases x0 : x = 0
  · obtain ⟨y, a4, s4, e4, hy, ha4⟩ := among_ok hl ha3 (by omega) s3 ([0, 9, 10, rd ps 0] : List Int) (by simp) (fun _ => True) (fun _ _ => trivial)
    rw [if_pos x0, if_pos c0, e4, Option.bind_some, if_pos hi0, if_pos hi2]
    exact ⟨_, _, _, _, rfl, by rw [List.length_set]; omega, by omega, ha4.up (by omega)⟩
  rw [if_neg x0]
  by_cases x1 : x = 1
  · obtain ⟨y, a4, s4, e4, hy, ha4⟩ := among_ok hl ha3 (by omega) s3 ([0, 40, 41] : List Int) (by decide) (fun _ => True) (fun _ _ => trivial)
    rw [if_pos x1, e4, Option.bind_some, if_pos hi0, if_pos c1]
    exact ⟨_, _, _, _, rfl, by omega, by rw [List.length_set]; omega, ha4.up (by omega)⟩
  rw [if_neg x1]
  by_cases x2 : x = 2
  · rw [if_pos x2, if_pos (by omega)]
    exact ⟨_, _, _, _, rfl, by omega, by rw [List.length_drop]; omega, ha3.up (by omega)⟩
  rw [if_neg x2]
  by_cases x3 : x = 3
  · rw [if_pos x3]
    exact ⟨_, _, _, _, rfl, by simp, by simp, ha3.up (by omega)⟩
  rw [if_neg x3]
  by_cases x4 : x = 4
  · rw [if_pos x4]
    obtain ⟨ps', ds', a', s', q1, q2, q3, q4⟩ := anyRot_loop hl (14 - ps.length) k ps ds _ a3 s3 (by omega) (by omega) (by omega) ha3 (by omega)
    exact ⟨ps', ds', a', s', q1, q2, q3, q4.up (by omega)⟩
  rw [if_neg x4]
  exact ⟨_, _, _, _, rfl, by omega, by omega, ha3.up (by omega)⟩
theorem call_ok {l : List Int} (hl : Byt l) {m a : Int} (ha : At m a) (hm : m ≤ 1000000) (s : Int) (ps ds : List Int) (hp : ps.length ≤ 20) :
    ∃ i a' s', spec_l1Cur_call.f l a s ps ds = some (i, a', s') ∧ (-1 ≤ i ∧ i ≤ 70000) ∧ At (m + 4) a' := by
  unfold spec_l1Cur_call.f spec_l1Most.f
  obtain ⟨b, a1, s1, e1, ha1⟩ := one_ok hl ha (by omega) s 16
  rw [e1, Option.bind_some]
  dsimp only
  by_cases hb : b = true
  · obtain ⟨y, a2, s2, e2, hy, ha2⟩ := among_ok hl ha1 (by omega) s1 ([-1, (ps.length : Int)] : List Int) (by simp) (fun y => -1 ≤ y ∧ y ≤ 70000) (by
      intro y hy
      simp only [List.mem_cons, List.not_mem_nil, or_false] at hy
      rcases hy with rfl | rfl <;> omega)
    rw [if_pos hb, e2, Option.bind_some]
    exact ⟨_, _, _, rfl, hy, ha2.up (by omega)⟩
  · rw [if_neg hb]
    by_cases h1 : (ps.length : Int) > 1
    · obtain ⟨y, a2, s2, e2, hy, ha2⟩ := pick_ok hl ha1 (by omega) s1 (ps.length : Int)
      have hy0 := hy.1
      have hy1 := hy.2.1
      rw [if_pos h1, Option.bind_some, e2, Option.bind_some]
      exact ⟨_, _, _, rfl, by omega, ha2.up (by omega)⟩
    · obtain ⟨y, a2, s2, e2, hy, ha2⟩ := pick_ok hl ha1 (by omega) s1 1
      have hy0 := hy.1
      have hy1 := hy.2.1
      rw [if_neg h1, Option.bind_some, e2, Option.bind_some]
      exact ⟨_, _, _, rfl, by omega, ha2.up (by omega)⟩
end Go.Proofs.Ytlldonokjgoajaa.X
