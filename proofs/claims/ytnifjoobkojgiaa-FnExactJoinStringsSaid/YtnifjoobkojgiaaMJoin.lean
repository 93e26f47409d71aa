/- Texts joined by a sign of one byte: the reference's loop, the program's. -/
import Derived.Test.YtnifjoobkojgiaaMStand
import Derived.Test.YtnifjoobkojgiaaGJoin
import Derived.Test.YtnifjoobkojgiaaFspecJoinStrings
import Derived.Test.YtnifjoobkojgiaaFimplJoinStrings
import Derived.Lib.Join
namespace Go.Proofs.Ytnifjoobkojgiaa.X
open Go.RowKit Go.Proofs.YtnifjoobkojgiaaW.PrintWords Go.Proofs.YtnifjoobkojgiaaW.PrintLast
set_option linter.unusedVariables false
set_option linter.unusedSimpArgs false
def sumT : List ByteArray → Nat
  | [] => 0
  | s :: r => s.size + sumT r
def jl (l : List ByteArray) (c : UInt8) : List UInt8 := Lib.join (l.map bs) [c]
theorem jl_nil (c : UInt8) : jl [] c = [] := rfl
theorem tail_snoc (sep : List UInt8) (r : List (List UInt8)) (y : List UInt8) : Lib.joinTail sep (r ++ [y]) = Lib.joinTail sep r ++ (sep ++ y) := by
  unfold Lib.joinTail
  simp
theorem jl_snoc (l : List ByteArray) (y : ByteArray) (c : UInt8) (h : l ≠ []) : jl (l ++ [y]) c = jl l c ++ [c] ++ bs y := by
  cases l with
  | nil => exact absurd rfl h
  | cons x r =>
    unfold jl
    rw [List.cons_append, List.map_cons, List.map_append, List.map_cons, List.map_nil, Lib.join_cons, tail_snoc, List.map_cons, Lib.join_cons]
    simp
theorem jl_one (y : ByteArray) (c : UInt8) : jl [y] c = bs y := by unfold jl; exact Lib.join_one _ _
theorem jl_cons_length (x : ByteArray) (r : List ByteArray) (c : UInt8) : (jl (x :: r) c).length = x.size + r.length + sumT r := by
  unfold jl
  rw [List.map_cons, Lib.join_cons, List.length_append, bs_length]
  have : (Lib.joinTail [c] (r.map bs)).length = r.length + sumT r := by
    induction r with
    | nil => rfl
    | cons y r ih =>
      unfold Lib.joinTail at ih ⊢
      simp only [List.map_cons, List.flatten_cons, List.length_append, List.length_cons, List.length_nil, sumT, bs_length] at ih ⊢
      omega
  omega
theorem jl_length_le (l : List ByteArray) (c : UInt8) : (jl l c).length ≤ l.length + sumT l := by
  cases l with
  | nil => exact Nat.zero_le _
  | cons x r => rw [jl_cons_length]; simp only [List.length_cons, sumT]; omega
theorem sumT_take (l : List ByteArray) : ∀ n, sumT (l.take n) ≤ sumT l := by
  induction l with
  | nil => intro n; simp [sumT]
  | cons s r ih =>
    intro n
    cases n with
    | zero => exact Nat.zero_le _
    | succ n => have := ih n; simp only [List.take_succ_cons, sumT]; omega
theorem jl_take_length (l : List ByteArray) (c : UInt8) (n : Nat) : (jl (l.take n) c).length ≤ (jl l c).length := by
  cases l with
  | nil => simp
  | cons x r =>
    cases n with
    | zero => exact Nat.zero_le _
    | succ n =>
      have := sumT_take r n
      rw [List.take_succ_cons, jl_cons_length, jl_cons_length, List.length_take]
      omega
def tb (l : List UInt8) : ByteArray := ⟨l.toArray⟩
theorem tb_size (l : List UInt8) : (tb l).size = l.length := rfl
theorem tb_bs (s : ByteArray) : tb (bs s) = s := by
  obtain ⟨⟨l⟩⟩ := s
  rfl
theorem tb_append (a b : List UInt8) : tb a ++ tb b = tb (a ++ b) := by
  unfold tb
  apply ByteArray.ext
  simp
def hasC (c : UInt8) (s : ByteArray) : Bool := (bs s).any (fun b => b == c)
/-- The answer. -/
def joinR (l : List ByteArray) (c : UInt8) : ByteArray × Bool :=
  if l.any (hasC c) = true then (⟨#[]⟩, false) else if ((jl l c).length : Int) > 4000 then (⟨#[]⟩, false) else (tb (jl l c), true)
theorem spec_join_loop (l : List ByteArray) (c : UInt8) (hl : l.length ≤ 1048576) (hs : sumT l ≤ 1048576) (d : Nat) : ∀ (k i : Nat), i + d = l.length → d + 1048600 < k → (l.take i).any (hasC c) = false → (jl (l.take i) c).length ≤ 4000 →
    spec_JoinStrings.l0 k l ⟨#[c]⟩ (tb (jl (l.take i) c)) (i : Int) = some (joinR l c) := by
  induction d with
  | zero =>
    intro k i hi hk ha h4
    obtain ⟨k, rfl⟩ := kpos (d := 0) (k := k) (by omega)
    unfold spec_JoinStrings.l0
    rw [if_neg (by omega)]
    rw [List.take_of_length_le (by omega)] at ha h4 ⊢
    unfold joinR
    rw [ha, if_neg (show ¬ (false = true) by decide), if_neg (by omega)]
  | succ d ih =>
    intro k i hi hk ha h4
    obtain ⟨k, rfl⟩ := kpos (d := 0) (k := k) (by omega)
    have hlt : i < l.length := by omega
    obtain ⟨y, hy⟩ : ∃ y, l.getD i ByteArray.empty = y := ⟨_, rfl⟩
    have hts : l.take (i + 1) = l.take i ++ [y] := by rw [← hy]; exact take_succ_getD hlt
    have hys : y.size ≤ sumT l := by
      have h1 := sumT_take l (i + 1)
      have h2 : sumT (l.take i ++ [y]) = sumT (l.take i) + y.size := by
        generalize l.take i = q
        induction q with
        | nil => simp [sumT]
        | cons a q ihq => simp only [List.cons_append, sumT, ihq]; omega
      rw [hts, h2] at h1
      omega
    have hmem : y ∈ l := by rw [← hy]; exact getD_mem hlt
    have hmono := jl_take_length l c (i + 1)
    have n1 : (i : Int) < (l.length : Int) := by omega
    have n2 : (0 : Int) ≤ (i : Int) := by omega
    have n3 : (0 : Int) < ((⟨#[c]⟩ : ByteArray).size : Int) := by show (0 : Int) < ((1 : Nat) : Int); omega
    unfold spec_JoinStrings.l0
    rw [if_pos n1, if_pos n2, if_pos n3, show bt (⟨#[c]⟩ : ByteArray) 0 = (c.toNat : Int) from rfl, show rdOf ByteArray.empty l (i : Int) = y from hy, l1Stands_ends y c (by omega) k (by omega), Option.bind_some]
    by_cases hc : (bs y).any (fun b => b == c) = true
    · rw [if_pos hc]
      have : l.any (hasC c) = true := List.any_eq_true.2 ⟨y, hmem, hc⟩
      unfold joinR
      rw [if_pos this]
    · rw [if_neg hc]
      have hc2 : hasC c y = false := by rw [Bool.not_eq_true] at hc; exact hc
      have ha2 : (l.take (i + 1)).any (hasC c) = false := by rw [hts, List.any_append, ha]; simp [hc2]
      have hbig : ((jl (l.take (i + 1)) c).length : Int) > 4000 → joinR l c = (⟨#[]⟩, false) := by
        intro h
        unfold joinR
        split
        · rfl
        · rw [if_pos (by omega)]
      by_cases hi0 : (i : Int) > 0
      · have hne : l.take i ≠ [] := by
          intro e
          have := congrArg List.length e
          rw [List.length_take, List.length_nil] at this
          omega
        have hj : jl (l.take (i + 1)) c = jl (l.take i) c ++ [c] ++ bs y := by rw [hts]; exact jl_snoc _ _ _ hne
        have hjl := congrArg List.length hj
        simp only [List.length_append, List.length_singleton, bs_length] at hjl
        have e1 : (tb (jl (l.take i) c) ++ (⟨#[c]⟩ : ByteArray)) ++ y = tb (jl (l.take (i + 1)) c) := by
          rw [hj, ← tb_append, ← tb_append, tb_bs]
          rfl
        have e2 : (tb (jl (l.take i) c) ++ (⟨#[c]⟩ : ByteArray)).size = (jl (l.take i) c).length + 1 := by
          rw [ByteArray.size_append, tb_size]; rfl
        have n4 : (tb (jl (l.take i) c)).size + (⟨#[c]⟩ : ByteArray).size ≤ 9223372036854775807 := by rw [tb_size]; show _ + 1 ≤ _; omega
        have n5 : (tb (jl (l.take i) c) ++ (⟨#[c]⟩ : ByteArray)).size + y.size ≤ 9223372036854775807 := by rw [e2]; omega
        rw [if_pos hi0, if_pos n4, if_pos n5, e1, tb_size, wnext hlt (by omega)]
        by_cases h5 : ((jl (l.take (i + 1)) c).length : Int) > 4000
        · rw [if_pos h5, hbig h5]
        · rw [if_neg h5]
          exact ih k (i + 1) (by omega) (by omega) ha2 (by omega)
      · obtain rfl : i = 0 := by omega
        have hj : jl (l.take (0 + 1)) c = bs y := by rw [hts, List.take_zero, List.nil_append]; exact jl_one _ _
        have hjl := congrArg List.length hj
        rw [bs_length] at hjl
        have e1 : tb (jl (l.take 0) c) ++ y = tb (jl (l.take (0 + 1)) c) := by
          rw [hj, tb_bs, List.take_zero, jl_nil]
          apply ByteArray.ext
          simp [tb]
        have n4 : (tb (jl (l.take 0) c)).size + y.size ≤ 9223372036854775807 := by rw [List.take_zero, jl_nil]; show 0 + _ ≤ _; omega
        rw [if_neg hi0, if_pos n4, e1, tb_size, wnext hlt (by omega)]
        by_cases h5 : ((jl (l.take (0 + 1)) c).length : Int) > 4000
        · rw [if_pos h5, hbig h5]
        · rw [if_neg h5]
          exact ih k (0 + 1) (by omega) (by omega) ha2 (by omega)
theorem impl_join_loop (l : List ByteArray) (c : UInt8) (hl : l.length ≤ 1048576) (hs : sumT l ≤ 1048576) (d : Nat) : ∀ (k i : Nat), i + d = l.length → d + 10 < k → (l.take i).any (hasC c) = false →
    impl_JoinStrings.l0 k l ⟨#[c]⟩ l (l.length : Int) (i : Int) = some (joinR l c) := by
  induction d with
  | zero =>
    intro k i hi hk ha
    obtain ⟨k, rfl⟩ := kpos (d := 0) (k := k) (by omega)
    have hle := jl_length_le l c
    unfold impl_JoinStrings.l0
    rw [if_neg (by omega)]
    rw [List.take_of_length_le (by omega)] at ha
    have hj : strings_Join.f l (⟨#[c]⟩ : ByteArray) = some (tb (jl l c)) := by
      unfold strings_Join.f
      rw [if_pos ⟨by omega, show (jl l c).length ≤ _ by omega⟩]
      rfl
    rw [hj, Option.bind_some, tb_size]
    unfold joinR
    rw [ha, if_neg (show ¬ (false = true) by decide)]
    split <;> rfl
  | succ d ih =>
    intro k i hi hk ha
    obtain ⟨k, rfl⟩ := kpos (d := 0) (k := k) (by omega)
    have hlt : i < l.length := by omega
    obtain ⟨y, hy⟩ : ∃ y, l.getD i ByteArray.empty = y := ⟨_, rfl⟩
    have hts : l.take (i + 1) = l.take i ++ [y] := by rw [← hy]; exact take_succ_getD hlt
    have hmem : y ∈ l := by rw [← hy]; exact getD_mem hlt
    unfold impl_JoinStrings.l0
    rw [if_pos (by omega), if_pos (by omega), if_pos (by omega), show rdOf ByteArray.empty l (i : Int) = y from hy, show strings_Contains.f y (⟨#[c]⟩ : ByteArray) = some (hasC c y) from rfl, Option.bind_some]
    by_cases hc : hasC c y = true
    · rw [if_pos hc]
      have : l.any (hasC c) = true := List.any_eq_true.2 ⟨y, hmem, hc⟩
      unfold joinR
      rw [if_pos this]
    · rw [if_neg hc, wnext hlt (by omega)]
      rw [Bool.not_eq_true] at hc
      exact ih k (i + 1) (by omega) (by omega) (by rw [hts, List.any_append, ha]; simp [hc])
theorem one_byteB (sep : ByteArray) (h : sep.size = 1) : ∃ c : UInt8, sep = ⟨#[c]⟩ := by
  obtain ⟨⟨l⟩⟩ := sep
  cases l with
  | nil => simp [ByteArray.size] at h
  | cons c t =>
    cases t with
    | nil => exact ⟨c, rfl⟩
    | cons _ _ => simp [ByteArray.size] at h
theorem join_both (l : List ByteArray) (sep : ByteArray) (hl : l.length ≤ 1048576) (hs : sumT l ≤ 1048576) : ∃ r b, ∀ k, 2200000 ≤ k → spec_JoinStrings.f k l sep = some (r, b) ∧ impl_JoinStrings.f k l sep = some (r, b) := by
  by_cases h1 : (sep.size : Int) = 1
  · obtain ⟨c, rfl⟩ := one_byteB sep (by omega)
    cases hc : l with
    | nil =>
      refine ⟨⟨#[]⟩, false, fun k hk => ?_⟩
      obtain ⟨k, rfl⟩ := kpos (d := 0) (k := k) (by omega)
      unfold spec_JoinStrings.f impl_JoinStrings.f
      rw [if_pos h1, if_pos (by simp)]
      simp [spec_JoinStrings.j0, impl_JoinStrings.j0]
    | cons x r =>
      rw [← hc]
      have hp : 0 < l.length := by rw [hc]; simp
      refine ⟨(joinR l c).1, (joinR l c).2, fun k hk => ?_⟩
      obtain ⟨k, rfl⟩ := kpos (d := 0) (k := k) (by omega)
      unfold spec_JoinStrings.f impl_JoinStrings.f
      rw [if_pos h1, if_neg (by omega)]
      have e0 : ((l.length : Int) == 0) = false := beq_eq_false_iff_ne.2 (by omega)
      have e3 : (((⟨#[c]⟩ : ByteArray).size : Int) != 1) = false := bne_eq_false_iff_eq.2 h1
      rw [e0, e3]
      simp only [spec_JoinStrings.j0, impl_JoinStrings.j0, Bool.false_eq_true, if_false]
      have e1 := spec_join_loop l c hl hs l.length k 0 (by omega) (by omega) (by simp) (by rw [List.take_zero, jl_nil]; simp)
      have e2 := impl_join_loop l c hl hs l.length k 0 (by omega) (by omega) (by simp)
      rw [show ((0 : Nat) : Int) = 0 from rfl] at e1 e2
      rw [List.take_zero, jl_nil, show tb [] = (⟨#[]⟩ : ByteArray) from rfl] at e1
      exact ⟨e1, e2⟩
  · refine ⟨⟨#[]⟩, false, fun k hk => ?_⟩
    obtain ⟨k, rfl⟩ := kpos (d := 0) (k := k) (by omega)
    unfold spec_JoinStrings.f impl_JoinStrings.f
    have e3 : ((sep.size : Int) != 1) = true := bne_iff_ne.2 h1
    rw [if_neg h1, e3]
    simp only [spec_JoinStrings.j0, impl_JoinStrings.j0, if_true, ite_self]
    exact ⟨trivial, trivial⟩
end Go.Proofs.Ytnifjoobkojgiaa.X
