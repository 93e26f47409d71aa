/- The text of a container: the reference's sums of texts, the program's join of five words. -/
import Derived.Test.YtfindomajbjacaaDoorMGood
import Derived.Test.YtfindomajbjacaaDoorMNum
import Derived.Test.YtfindomajbjacaaDoorGJoin
import Derived.Test.YtfindomajbjacaaDoorFspecl4Text
import Derived.Test.YtfindomajbjacaaDoorFbCText
import Derived.Lib.Join
namespace Go.Proofs.YtfindomajbjacaaDoor.X
open Go.RowKit Go.Proofs.YtfindomajbjacaaDoorW.PrintWords Go.Proofs.YtfindomajbjacaaDoorW.PrintLast
set_option linter.unusedVariables false
set_option linter.unusedSimpArgs false
def spB : ByteArray := ⟨#[32]⟩
def szW (s : Int) : ByteArray := if s = 1 then ⟨#[115, 109, 97, 108, 108]⟩ else if s = 2 then ⟨#[108, 97, 114, 103, 101]⟩ else ⟨#[]⟩
def cgW (c : Int) : ByteArray := if c = 1 then ⟨#[112, 108, 97, 105, 110]⟩ else if c = 2 then ⟨#[114, 101, 101, 102, 101, 114]⟩ else if c = 3 then ⟨#[100, 97, 110, 103, 101, 114]⟩ else ⟨#[]⟩
theorem szW_size (s : Int) : (szW s).size ≤ 6 := by
  unfold szW
  split
  · decide
  · split <;> decide
theorem cgW_size (s : Int) : (cgW s).size ≤ 6 := by
  unfold cgW
  split
  · decide
  · split
    · decide
    · split <;> decide
theorem spB_size : spB.size = 1 := rfl
def contT (a : ByteArray) (s w c p : Int) : ByteArray := ((((((((a ++ spB) ++ szW s) ++ spB) ++ tx (Lib.itoa w)) ++ spB) ++ cgW c) ++ spB) ++ tx (Lib.itoa p))
theorem contT_size (a : ByteArray) (s w c p : Int) : (contT a s w c p).size = a.size + 1 + (szW s).size + 1 + (Lib.itoa w).length + 1 + (cgW c).size + 1 + (Lib.itoa p).length := by
  unfold contT
  simp only [ByteArray.size_append, spB_size, tx_size]
theorem rd_size (s : Int) (h0 : 1 ≤ s) (h1 : s ≤ 2) : rdOf ByteArray.empty ([(⟨#[]⟩ : ByteArray), (⟨#[115, 109, 97, 108, 108]⟩ : ByteArray), (⟨#[108, 97, 114, 103, 101]⟩ : ByteArray)] : List ByteArray) s = szW s := by
  obtain rfl | rfl : s = 1 ∨ s = 2 := by omega
  · rfl
  · rfl
theorem rd_cargo (s : Int) (h0 : 1 ≤ s) (h1 : s ≤ 3) : rdOf ByteArray.empty ([(⟨#[]⟩ : ByteArray), (⟨#[112, 108, 97, 105, 110]⟩ : ByteArray), (⟨#[114, 101, 101, 102, 101, 114]⟩ : ByteArray), (⟨#[100, 97, 110, 103, 101, 114]⟩ : ByteArray)] : List ByteArray) s = cgW s := by
  obtain rfl | rfl | rfl : s = 1 ∨ s = 2 ∨ s = 3 := by omega
  · rfl
  · rfl
  · rfl
theorem l4Text_ends (a : ByteArray) (s w c p : Int) (ha : a.size ≤ 1048576) (hs : 1 ≤ s ∧ s ≤ 2) (hw : -1000000000000 ≤ w ∧ w ≤ 1000000000000) (hc : 1 ≤ c ∧ c ≤ 3) (hp : -1000000000000 ≤ p ∧ p ≤ 1000000000000) (k : Nat) (hk : 20 ≤ k) :
    spec_l4Text.f k a s w c p = some (contT a s w c p) := by
  unfold spec_l4Text.f contT
  have z1 := szW_size s
  have z2 := cgW_size c
  have z3 := itoa_length w hw.1 hw.2
  have z4 := itoa_length p hp.1 hp.2
  rw [Option.bind_some, if_pos (by omega), if_pos (by show s < ((3 : Nat) : Int); omega), Option.bind_some, if_pos (by omega), if_pos (by show c < ((4 : Nat) : Int); omega), rd_size s hs.1 hs.2, rd_cargo c hc.1 hc.2, l1Num_ends w hw.1 hw.2 k hk, l1Num_ends p hp.1 hp.2 k hk]
  rw [show (⟨#[32]⟩ : ByteArray) = spB from rfl, Option.bind_some, Option.bind_some]
  generalize szW s = S at *
  generalize cgW c = C at *
  have t1 : (tx (Lib.itoa w)).size ≤ 19 := z3
  have t2 : (tx (Lib.itoa p)).size ≤ 19 := z4
  rw [if_pos (by (try simp only [ByteArray.size_append, spB_size]); omega), if_pos (by (try simp only [ByteArray.size_append, spB_size]); omega), if_pos (by (try simp only [ByteArray.size_append, spB_size]); omega), if_pos (by (try simp only [ByteArray.size_append, spB_size]); omega), if_pos (by (try simp only [ByteArray.size_append, spB_size]); omega), if_pos (by (try simp only [ByteArray.size_append, spB_size]); omega), if_pos (by (try simp only [ByteArray.size_append, spB_size]); omega), if_pos (by (try simp only [ByteArray.size_append, spB_size]); omega)]
theorem join_five (a b c d e : ByteArray) : joinB [a, b, c, d, e] spB = ((((((((a ++ spB) ++ b) ++ spB) ++ c) ++ spB) ++ d) ++ spB) ++ e) := by
  apply ByteArray.ext
  unfold joinB
  simp [Lib.join_cons, Lib.joinTail, spB]
theorem join_len (l : List (List UInt8)) (sep : List UInt8) (r : ByteArray) (h : (⟨(Lib.join l sep).toArray⟩ : ByteArray) = r) : (Lib.join l sep).length = r.size := by
  rw [← h]; rfl
theorem containerText_ends (a : ByteArray) (s w c p : Int) (ha : a.size ≤ 1048576) (hs : 1 ≤ s ∧ s ≤ 2) (hw : -1000000000000 ≤ w ∧ w ≤ 1000000000000) (hc : 1 ≤ c ∧ c ≤ 3) (hp : -1000000000000 ≤ p ∧ p ≤ 1000000000000) :
    impl_containerText.f a s w c p = some (contT a s w c p) := by
  have z1 := szW_size s
  have z2 := cgW_size c
  have z3 := itoa_length w hw.1 hw.2
  have z4 := itoa_length p hp.1 hp.2
  have hz := contT_size a s w c p
  unfold impl_containerText.f impl_sizeWords.f impl_cargoWords.f
  rw [Option.bind_some, if_pos (by omega), if_pos (by show s < ((3 : Nat) : Int); omega), decimal_ends w hw.1 hw.2, Option.bind_some, Option.bind_some, if_pos (by omega), if_pos (by show c < ((4 : Nat) : Int); omega), decimal_ends p hp.1 hp.2, Option.bind_some, rd_size s hs.1 hs.2, rd_cargo c hc.1 hc.2, show (⟨#[32]⟩ : ByteArray) = spB from rfl]
  have hj : joinB [a, szW s, tx (Lib.itoa w), cgW c, tx (Lib.itoa p)] spB = contT a s w c p := join_five _ _ _ _ _
  have hl := join_len _ _ _ hj
  have h5 : strings_Join.f [a, szW s, tx (Lib.itoa w), cgW c, tx (Lib.itoa p)] spB = some (contT a s w c p) := by
    unfold strings_Join.f
    rw [if_pos ⟨by simp only [List.length_cons, List.length_nil]; omega, by rw [hl]; omega⟩, hj]
  rw [h5, Option.bind_some]
end Go.Proofs.YtfindomajbjacaaDoor.X
