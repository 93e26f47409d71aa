/- Drawing containers and lists of containers: it always ends; a list is short. -/
import Derived.Test.YtlldonokjgoajaaMDrawId
import Derived.Test.YtlldonokjgoajaaMContL
import Derived.Test.YtlldonokjgoajaaFspecl1Curcontainer
import Derived.Test.YtlldonokjgoajaaFspecl1CuranyContainer
import Derived.Test.YtlldonokjgoajaaFspecl1Curcontainers
namespace Go.Proofs.Ytlldonokjgoajaa.X
open Go.RowKit Go.Proofs.YtlldonokjgoajaaW.PrintWords Go.Proofs.YtlldonokjgoajaaW.PrintLast
set_option linter.unusedVariables false
set_option linter.unusedSimpArgs false
theorem container_ok {l : List Int} (hl : Byt l) {m a : Int} (ha : At m a) (hm : m ≤ 100000000) (s : Int) (k : Nat) (hk : 20 ≤ k) :
    ∃ id b c d e a' s', spec_l1Cur_container.f k l a s = some (id, b, c, d, e, a', s') ∧ id.size = 8 ∧ (1 ≤ b ∧ b ≤ 2) ∧ (1 ≤ c ∧ c ≤ 32000) ∧ (1 ≤ d ∧ d ≤ 3) ∧ (1 ≤ e ∧ e ≤ 4) ∧ At (m + 14) a' := by
  unfold spec_l1Cur_container.f
  obtain ⟨v, a1, s1, e1, hv, ha1⟩ := id_ok hl ha (by omega) s k hk
  rw [e1, Option.bind_some]
  dsimp only
  obtain ⟨x, a2, s2, e2, hx, ha2⟩ := pick_ok hl ha1 (by omega) s1 2
  have hx2 := hx.2.2 (by omega)
  have hx0 := hx.1
  rw [e2, Option.bind_some]
  dsimp only
  obtain ⟨y, a3, s3, e3, hy, ha3⟩ := among_ok hl ha2 (by omega) s2 ([1, 2000, 8000, 12000, 20000, 28000, 32000] : List Int) (by decide) (fun y => 1 ≤ y ∧ y ≤ 32000) (by decide)
  rw [e3, Option.bind_some]
  dsimp only
  obtain ⟨z, a4, s4, e4, hz, ha4⟩ := among_ok hl ha3 (by omega) s3 ([1, 1, 2, 3] : List Int) (by decide) (fun y => 1 ≤ y ∧ y ≤ 3) (by decide)
  rw [e4, Option.bind_some]
  dsimp only
  obtain ⟨p, a5, s5, e5, hp, ha5⟩ := pick_ok hl ha4 (by omega) s4 4
  have hp2 := hp.2.2 (by omega)
  have hp0 := hp.1
  rw [e5, Option.bind_some]
  dsimp only
  rw [w64 (show -9223372036854775808 ≤ 1 + x by omega) (by omega), w64 (show -9223372036854775808 ≤ 1 + p by omega) (by omega)]
  exact ⟨_, _, _, _, _, _, _, rfl, hv, by omega, hy, hz, by omega, ha5.up (by omega)⟩
theorem anyContainer_ok {l : List Int} (hl : Byt l) {m a : Int} (ha : At m a) (hm : m ≤ 10000000) (s : Int) (k : Nat) (hk : 21 ≤ k) :
    ∃ id b c d e a' s', spec_l1Cur_anyContainer.f k l a s = some (id, b, c, d, e, a', s') ∧ id.size ≤ 9 ∧ At (m + 32) a' := by
  unfold spec_l1Cur_anyContainer.f
  obtain ⟨id, b, c, d, e, a1, s1, e1, hid, _, _, _, _, ha1⟩ := container_ok hl ha (by omega) s k (by omega)
  rw [e1, Option.bind_some]
  dsimp only
  obtain ⟨x, a2, s2, e2, hx, ha2⟩ := pick_ok hl ha1 (by omega) s1 24
  rw [e2, Option.bind_some]
  dsimp only
  by_cases h0 : x = 0
  · rw [if_pos h0]
    obtain ⟨v, a3, s3, e3, hv, ha3⟩ := anyId_ok hl ha2 (by omega) s2 k (by omega)
    rw [e3, Option.bind_some]
    exact ⟨_, _, _, _, _, _, _, rfl, hv, ha3.up (by omega)⟩
  rw [if_neg h0]
  by_cases h1 : x = 1
  · rw [if_pos h1]
    obtain ⟨v, a3, s3, e3, hv, ha3⟩ := among_ok hl ha2 (by omega) s2 ([0, 3, 2] : List Int) (by decide) (fun _ => True) (fun _ _ => trivial)
    rw [e3, Option.bind_some]
    exact ⟨_, _, _, _, _, _, _, rfl, by omega, ha3.up (by omega)⟩
  rw [if_neg h1]
  by_cases h2 : x = 2
  · rw [if_pos h2]
    obtain ⟨v, a3, s3, e3, hv, ha3⟩ := among_ok hl ha2 (by omega) s2 ([0, 32001, 32000, 1] : List Int) (by decide) (fun _ => True) (fun _ _ => trivial)
    rw [e3, Option.bind_some]
    exact ⟨_, _, _, _, _, _, _, rfl, by omega, ha3.up (by omega)⟩
  rw [if_neg h2]
  by_cases h3 : x = 3
  · rw [if_pos h3]
    obtain ⟨v, a3, s3, e3, hv, ha3⟩ := among_ok hl ha2 (by omega) s2 ([0, 4, 3] : List Int) (by decide) (fun _ => True) (fun _ _ => trivial)
    rw [e3, Option.bind_some]
    exact ⟨_, _, _, _, _, _, _, rfl, by omega, ha3.up (by omega)⟩
  rw [if_neg h3]
  by_cases h4 : x = 4
  · rw [if_pos h4]
    obtain ⟨v, a3, s3, e3, hv, ha3⟩ := among_ok hl ha2 (by omega) s2 ([0, 10, 9] : List Int) (by decide) (fun _ => True) (fun _ _ => trivial)
    rw [e3, Option.bind_some]
    exact ⟨_, _, _, _, _, _, _, rfl, by omega, ha3.up (by omega)⟩
  rw [if_neg h4]
  exact ⟨_, _, _, _, _, _, _, rfl, by omega, ha2.up (by omega)⟩
/-- Containers whose numbers are short texts. -/
def Short (xs : List S89) : Prop := ∀ x ∈ xs, x.f0.size ≤ 9
theorem Short.snoc {xs : List S89} (h : Short xs) (x : S89) (hx : x.f0.size ≤ 9) : Short (xs ++ [x]) := by
  intro y hy
  rcases List.mem_append.1 hy with h1 | h1
  · exact h y h1
  · rw [List.mem_singleton.1 h1]; exact hx
theorem containers_l1 {l : List Int} (hl : Byt l) (d : Nat) : ∀ (k : Nat) (xs : List S89) (i m a s : Int), Short xs → 0 ≤ i → i + d = 14 → d + 25 < k → (xs.length : Int) ≤ 8 + i → At m a → m + 2 * d ≤ 10000000 →
    ∃ ys a' s', spec_l1Cur_containers.l1 k xs i l a s = some (ys, a', s') ∧ ys.length ≤ 30 ∧ Short ys ∧ At (m + 2 * d + 2) a' := by
  induction d with
  | zero =>
    intro k xs i m a s hxs h0 hi hk hx ha hm
    obtain ⟨k, rfl⟩ := kpos (d := 0) (k := k) (by omega)
    obtain ⟨v, a1, s1, e1, hv, ha1⟩ := pick_ok hl ha (by omega) s 2
    simp only [spec_l1Cur_containers.l1]
    rw [e1, Option.bind_some]
    dsimp only
    have hn : ¬ i < 14 := by omega
    by_cases hc : (xs.length : Int) < wrap64 (12 + v)
    · rw [if_pos hc, if_neg hn]
      exact ⟨_, _, _, rfl, by omega, hxs, ha1.up (by omega)⟩
    · rw [if_neg hc]
      exact ⟨_, _, _, rfl, by omega, hxs, ha1.up (by omega)⟩
  | succ d ih =>
    intro k xs i m a s hxs h0 hi hk hx ha hm
    obtain ⟨k, rfl⟩ := kpos (d := 0) (k := k) (by omega)
    obtain ⟨v, a1, s1, e1, hv, ha1⟩ := pick_ok hl ha (by omega) s 2
    simp only [spec_l1Cur_containers.l1]
    rw [e1, Option.bind_some]
    dsimp only
    have hn : i < 14 := by omega
    by_cases hc : (xs.length : Int) < wrap64 (12 + v)
    · obtain ⟨t, et, ht⟩ := number_ok l_MAX i h0 (by omega) k (by omega)
      rw [if_pos hc, if_pos hn, et, Option.bind_some, if_pos (by omega), w64 (show -9223372036854775808 ≤ i + 1 by omega) (by omega)]
      obtain ⟨ys, a2, s2, q1, q2, q3, q4⟩ := ih k (xs ++ [(⟨t, 1, wrap64 (100 + i), 1, wrap64 (1 + Int.tmod i 9)⟩ : S89)]) (i + 1) (m + 2) a1 s1 (hxs.snoc _ (by show t.size ≤ 9; omega)) (by omega) (by omega) (by omega) (by rw [List.length_append, List.length_singleton]; omega) ha1 (by omega)
      exact ⟨ys, a2, s2, q1, q2, q3, q4.up (by omega)⟩
    · rw [if_neg hc]
      exact ⟨_, _, _, rfl, by omega, hxs, ha1.up (by omega)⟩
theorem containers_l0 {l : List Int} (hl : Byt l) (d : Nat) : ∀ (k : Nat) (xs : List S89) (n m a s : Int), Short xs → n = d → d + 1048700 < k → (xs.length : Int) + d ≤ 8 → At m a → m + 14 * d ≤ 1000000 →
    ∃ ys a' s', spec_l1Cur_containers.l0 k xs n l a s = some (ys, a', s') ∧ ys.length ≤ 30 ∧ Short ys ∧ At (m + 14 * d + 34) a' := by
  induction d with
  | zero =>
    intro k xs n m a s hxs hn hk hx ha hm
    obtain ⟨k, rfl⟩ := kpos (d := 0) (k := k) (by omega)
    simp only [spec_l1Cur_containers.l0]
    rw [if_neg (by omega)]
    obtain ⟨v, a1, s1, e1, hv, ha1⟩ := pick_ok hl ha (by omega) s 20
    rw [e1, Option.bind_some]
    dsimp only
    by_cases h0 : v = 0
    · obtain ⟨id, b, c, dd, e, a2, s2, e2, hid, ha2⟩ := anyContainer_ok hl ha1 (by omega) s1 k (by omega)
      rw [if_pos h0, e2, Option.bind_some, if_pos (by omega)]
      exact ⟨_, _, _, rfl, by rw [List.length_append, List.length_singleton]; omega, hxs.snoc _ hid, ha2.up (by omega)⟩
    rw [if_neg h0]
    by_cases h1 : v = 1
    · rw [if_pos h1]
      by_cases hp : (xs.length : Int) > 0
      · obtain ⟨j, a2, s2, e2, hj, ha2⟩ := pick_ok hl ha1 (by omega) s1 (xs.length : Int)
        have hj2 := hj.2.2 (by omega)
        have hj0 := hj.1
        rw [if_pos hp, e2, Option.bind_some]
        dsimp only
        rw [if_pos hj0, if_pos hj2, if_pos (by omega)]
        refine ⟨_, _, _, rfl, by rw [List.length_append, List.length_singleton]; omega, hxs.snoc _ ?_, ha2.up (by omega)⟩
        show (rd_T89 xs j).f0.size ≤ 9
        obtain ⟨q, rfl⟩ : ∃ q : Nat, j = q := ⟨j.toNat, by omega⟩
        rw [rdC61_nat]
        exact hxs _ (getD_mem (by omega))
      · rw [if_neg hp]
        exact ⟨_, _, _, rfl, by omega, hxs, ha1.up (by omega)⟩
    rw [if_neg h1]
    by_cases h2 : v = 2
    · rw [if_pos h2]
      obtain ⟨ys, a2, s2, q1, q2, q3, q4⟩ := containers_l1 hl 14 k xs 0 _ a1 s1 hxs (by omega) (by omega) (by omega) (by omega) ha1 (by omega)
      exact ⟨ys, a2, s2, q1, q2, q3, q4.up (by omega)⟩
    · rw [if_neg h2]
      exact ⟨_, _, _, rfl, by omega, hxs, ha1.up (by omega)⟩
  | succ d ih =>
    intro k xs n m a s hxs hn hk hx ha hm
    obtain ⟨k, rfl⟩ := kpos (d := 0) (k := k) (by omega)
    obtain ⟨id, b, c, dd, e, a1, s1, e1, hid, _, _, _, _, ha1⟩ := container_ok hl ha (by omega) s k (by omega)
    have hf := Find_ends xs id (by omega) k (by omega)
    simp only [spec_l1Cur_containers.l0]
    rw [if_pos (by omega), e1, Option.bind_some]
    dsimp only
    rw [hf, Option.bind_some, w64 (show -9223372036854775808 ≤ n - 1 by omega) (by omega)]
    by_cases ht : idxI (sameId id) xs 0 < 0
    · rw [if_pos ht, if_pos (by omega)]
      obtain ⟨ys, a2, s2, q1, q2, q3, q4⟩ := ih k (xs ++ [(⟨id, b, c, dd, e⟩ : S89)]) (n - 1) (m + 14) a1 s1 (hxs.snoc _ (by show id.size ≤ 9; omega)) (by omega) (by omega) (by rw [List.length_append, List.length_singleton]; omega) ha1 (by omega)
      exact ⟨ys, a2, s2, q1, q2, q3, q4.up (by omega)⟩
    · rw [if_neg ht]
      obtain ⟨ys, a2, s2, q1, q2, q3, q4⟩ := ih k xs (n - 1) (m + 14) a1 s1 hxs (by omega) (by omega) (by omega) ha1 (by omega)
      exact ⟨ys, a2, s2, q1, q2, q3, q4.up (by omega)⟩
theorem containers_ok {l : List Int} (hl : Byt l) {m a : Int} (ha : At m a) (hm : m ≤ 100000) (s : Int) (k : Nat) (hk : 1048800 ≤ k) :
    ∃ ys a' s', spec_l1Cur_containers.f k l a s = some (ys, a', s') ∧ ys.length ≤ 30 ∧ Short ys ∧ At (m + 150) a' := by
  unfold spec_l1Cur_containers.f
  obtain ⟨v, a1, s1, e1, hv, ha1⟩ := pick_ok hl ha (by omega) s 8
  have hv2 := hv.2.2 (by omega)
  have hv0 := hv.1
  rw [e1, Option.bind_some]
  dsimp only
  obtain ⟨n, rfl⟩ : ∃ n : Nat, v = n := ⟨v.toNat, by omega⟩
  obtain ⟨ys, a2, s2, q1, q2, q3, q4⟩ := containers_l0 hl n k [] (n : Int) (m + 2) a1 s1 (fun x hx => by cases hx) rfl (by omega) (by simp; omega) ha1 (by omega)
  exact ⟨ys, a2, s2, q1, q2, q3, q4.up (by omega)⟩
end Go.Proofs.Ytlldonokjgoajaa.X
