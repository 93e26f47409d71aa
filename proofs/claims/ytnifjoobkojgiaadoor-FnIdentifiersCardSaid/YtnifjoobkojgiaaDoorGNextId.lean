/- The program's NextId, walked: the number within an identifier, one more, its check letter. -/
import Derived.Test.YtnifjoobkojgiaaDoorX0
import Derived.Test.YtnifjoobkojgiaaDoorLaid
import Derived.Test.YtnifjoobkojgiaaDoorMStand
import Derived.Test.YtnifjoobkojgiaaDoorFbIds
import Derived.Test.YtnifjoobkojgiaaDoorFimplpadded
import Derived.Test.YtnifjoobkojgiaaDoorFimplCheckLetter
import Derived.Lib.OthersKept
import Derived.Lib.Walk
import Derived.WalkKit
import Derived.Deep.LoopGhost
import Derived.StillTailTactics
namespace Go.Proofs.YtnifjoobkojgiaaDoor.X
open Go.RowKit Go.Lib Go.Proofs.YtnifjoobkojgiaaDoorW.PrintWords Go.Proofs.YtnifjoobkojgiaaDoorW.PrintLast Go.Proofs.YtnifjoobkojgiaaDoorW.PrintMore
set_option linter.unusedVariables false
set_option linter.unusedSimpArgs false
/-- The number that the first j bytes spell. -/
def numQ (q : ByteArray) : Nat → Int
  | 0 => 0
  | j + 1 => 10 * numQ q j + (((bs q).getD j 0).toNat - 48 : Int)
def digQ (q : ByteArray) : Bool := decide (q.size = 4) && (bs q).all (fun b => decide (48 ≤ b.toNat ∧ b.toNat ≤ 57))
def impl_NextId.f (k : Nat) (a0 : ByteArray) : Option (ByteArray × Bool) :=
  (impl_IsValidId.f k a0).bind fun ok => if ok = true then (if a0.size = 8 ∧ digQ (a0.extract 3 7) = true then
    (if (a0.extract 3 7).toList = ([57, 57, 57, 57] : List UInt8) then some (⟨#[]⟩, false)
     else (impl_padded.f k (numQ (a0.extract 3 7) 4 + 1) 4).bind fun p => if p.size ≤ 1000 then ((impl_CheckLetter.f k (a0.extract 0 3 ++ p)).bind fun c => if c.1.size ≤ 1000 then some ((a0.extract 0 3 ++ p) ++ c.1, true) else none) else none) else none) else some (⟨#[]⟩, false)
theorem impl_NextId.mono : ∀ a0 k, LeO (impl_NextId.f k a0) (impl_NextId.f (k + 1) a0) := by
  intro a0 k
  unfold impl_NextId.f
  repeat' first
    | (with_reducible exact impl_IsValidId.mono _ _)
    | (with_reducible exact impl_padded.mono _ _ _)
    | (with_reducible exact impl_CheckLetter.mono _ _)
    | (with_reducible exact LeO.refl _)
    | (with_reducible exact LeO.none _)
    | (with_reducible refine LeO.ite ?_ ?_)
    | (with_reducible refine LeO.bind ?_ (fun _ => ?_))
theorem numQ_range (q : ByteArray) (h : digQ q = true) : ∀ j, j ≤ 4 → 0 ≤ numQ q j ∧ numQ q j < 10 ^ j := by
  unfold digQ at h
  simp only [Bool.and_eq_true, decide_eq_true_eq, List.all_eq_true] at h
  intro j
  induction j with
  | zero => intro _; exact ⟨Int.le_refl _, by show (0 : Int) < 10 ^ 0; decide⟩
  | succ j ih =>
    intro hj
    obtain ⟨i1, i2⟩ := ih (by omega)
    have hm := h.2 _ (getD_mem (xs := bs q) (z := (0 : UInt8)) (n := j) (by rw [bs_length]; omega))
    rw [Int.pow_succ]
    unfold numQ
    omega
set_option maxHeartbeats 4000000 in
set_option maxRecDepth 100000 in
theorem impl_NextId.calls (k : Nat) (a0 : ByteArray) (r1 : ByteArray) (r2 : Bool) (w : World) (hL : Laid w) (h : impl_NextId.f k a0 = some (r1, r2)) :
    Calls Tryd.prog 26 #[.string a0] w fun e w' => e = .returned (.tuple #[.string r1, .bool r2]) ∧ Below w.heap.size w w' := by
  unfold impl_NextId.f at h
  obtain ⟨ok, hok, h⟩ := Option.bind_eq_some_iff.mp h
  have HL := Aside0.mk hL
  have HO := Aside0.mk hok
  clear hL hok
  by_cases ho : ok = true
  · subst ho
    rw [if_pos rfl] at h
    by_cases hd : a0.size = 8 ∧ digQ (a0.extract 3 7) = true
    · rw [if_pos hd] at h
      have b1 : (3 : Int) ≤ 7 := by decide
      have b2 : (7 : Int) ≤ (a0.size : Int) := by omega
      have b3 : (7 : Nat) ≤ a0.size := by omega
      have b4 : (3 : Int) ≤ (a0.size : Int) := by omega
      by_cases h9 : (a0.extract 3 7).toList = ([57, 57, 57, 57] : List UInt8)
      · rw [if_pos h9] at h
        obtain ⟨rfl, rfl⟩ := Prod.mk.inj (Option.some.inj h)
        have c1 : ((a0.extract 3 7).toList == ([57, 57, 57, 57] : List UInt8)) = true := beq_iff_eq.mpr h9
        clear h9 h hd
        go_enter Tryd.func26, Tryd.ntmps26
        go_wp2_with (go_at_call 31; refine (impl_IsValidId.calls k a0 true _ HO.out).mono ?_; rintro e w1 ⟨rfl, ⟨nd, rfl⟩⟩)
        go_ret2
        exact ⟨rfl, pw_below_drewN (Below.refl _ _) _⟩
      · rw [if_neg h9] at h
        have c1 : ((a0.extract 3 7).toList == ([57, 57, 57, 57] : List UInt8)) = false := beq_eq_false_iff_ne.mpr h9
        obtain ⟨p, hp, h⟩ := Option.bind_eq_some_iff.mp h
        by_cases hps : p.size ≤ 1000
        · rw [if_pos hps] at h
          obtain ⟨⟨cl, cb⟩, hcl, h⟩ := Option.bind_eq_some_iff.mp h
          by_cases hcs : cl.size ≤ 1000
          · rw [if_pos hcs] at h
            obtain ⟨rfl, rfl⟩ := Prod.mk.inj (Option.some.inj h)
            have hq := hd.2
            have h8 := hd.1
            clear h h9 hd
            have HP := Aside0.mk hp
            have HC := Aside0.mk hcl
            have HS := Aside0.mk hps
            have HT := Aside0.mk hcs
            clear hp hcl hps hcs
            obtain ⟨q, hqq⟩ : ∃ q, a0.extract 3 7 = q := ⟨_, rfl⟩
            have HQ := Aside0.mk hqq
            rw [hqq] at hq
            have HR := Aside0.mk (numQ_range q hq)
            have q4 : q.size = 4 := by
              unfold digQ at hq
              simp only [Bool.and_eq_true, decide_eq_true_eq] at hq
              exact hq.1
            have HD := Aside0.mk (show ∀ j, j < 4 → 48 ≤ ((bs q).getD j 0).toNat ∧ ((bs q).getD j 0).toNat ≤ 57 by
              unfold digQ at hq
              simp only [Bool.and_eq_true, decide_eq_true_eq, List.all_eq_true] at hq
              intro j hj
              exact hq.2 _ (getD_mem (by rw [bs_length]; omega)))
            have H4 := Aside0.mk q4
            clear hq hqq q4
            go_enter Tryd.func26, Tryd.ntmps26
            go_wp2_with (go_at_call 31; refine (impl_IsValidId.calls k a0 true _ HO.out).mono ?_; rintro e w1 ⟨rfl, ⟨nd, rfl⟩⟩)
            go_loopg [4] 4 (fun kq v4 w' => ∃ j : Nat, v4 = .int .i64 (numQ q j) ∧ Aside0 (j ≤ 4 ∧ 4 - j ≤ kq) ∧ Aside0 (w'.heap[w.heap.size]? = some (.stringIter q j)) ∧ Aside0 (Below w.heap.size w w'))
            case atStart =>
              rw [HQ.out]
              refine ⟨0, rfl, ⟨by omega, by omega⟩, ⟨?_⟩, ⟨?_⟩⟩
              · have := World.iter_heap (w.drewN nd) q 0
                simpa using this
              · exact (pw_below_drewN (Below.refl _ _) _).alloc (by simp) _
            case round =>
              obtain ⟨j, rfl, HN, HI, HB⟩ := hrel
              by_cases hlt : j < 4
              · have hj : j < q.size := by have := H4.out; omega
                have e : q[j]'hj = (bs q).getD j 0 := by
                  rw [List.getD_eq_getElem?_getD, List.getElem?_eq_getElem (by rw [bs_length]; exact hj)]
                  rfl
                obtain ⟨d, hdd⟩ : ∃ d, ((bs q).getD j 0).toNat = d := ⟨_, rfl⟩
                have hd2 := HD.out j hlt
                rw [hdd] at hd2
                obtain ⟨n0, n1⟩ := HR.out j (by omega)
                have p4 : (10 : Int) ^ j ≤ 1000 := by
                  match j, hlt with
                  | 0, _ => decide
                  | 1, _ => decide
                  | 2, _ => decide
                  | 3, _ => decide
                obtain ⟨n, hn⟩ : ∃ n, numQ q j = n := ⟨_, rfl⟩
                rw [hn] at n0 n1
                have hnx : ∀ ty, (Instr.next (.pointer (some ⟨w.heap.size, 0, none⟩)) true ty).run Tryd.prog wr = .ok (.tuple #[.bool true, .int .i64 j, .int .i32 d]) (wr.iterAt w.heap.size q (j + 1)) := fun ty => by
                  rw [Lib.run_next_ascii_at wr w.heap.size q j ty HI.out hj (by rw [e]; omega), e, hdd]
                have HI2 := Aside0.mk (Lib.iterAt_heap wr w.heap.size q j (j + 1) HI.out)
                have HB2 := Aside0.mk (Lib.below_iterAt HB.out (k := w.heap.size) (Nat.le_refl _) q (j + 1))
                have HNN := Aside0.mk hn
                have HDD := Aside0.mk hdd
                have HLT := Aside0.mk hlt
                have w1 : wrap64 (10 * n) = 10 * n := w64 (by omega) (by omega)
                have w2 : wrap32 ((d : Int) - 48) = (d : Int) - 48 := by unfold wrap32; omega
                have w3 : wrap64 ((d : Int) - 48) = (d : Int) - 48 := w64 (by omega) (by omega)
                have w4 : wrap64 (10 * n + ((d : Int) - 48)) = 10 * n + ((d : Int) - 48) := w64 (by omega) (by omega)
                clear HI HB hn hdd hd2 n0 n1 p4 hlt e
                rw [HNN.out]
                go_wp2
                go_roundg (4 - (j + 1))
                case measure => have := HN.out; have := HLT.out; omega
                case rel =>
                  refine ⟨j + 1, ?_, ⟨by have := HLT.out; omega, Nat.le_refl _⟩, HI2, HB2⟩
                  rw [w4, show numQ q (j + 1) = 10 * numQ q j + ((((bs q).getD j 0).toNat : Int) - 48) from rfl, HNN.out, HDD.out]
              · have hnx : ∀ ty, (Instr.next (.pointer (some ⟨w.heap.size, 0, none⟩)) true ty).run Tryd.prog wr = _ := fun ty => Lib.run_next_end_at wr w.heap.size q j ty HI.out (by have := H4.out; omega)
                obtain rfl : j = 4 := by have := HN.out; omega
                have w5 : wrap64 (numQ q 4 + 1) = numQ q 4 + 1 := by
                  obtain ⟨n0, n1⟩ := HR.out 4 (Nat.le_refl _)
                  have : (10 : Int) ^ 4 = 10000 := by decide
                  exact w64 (by omega) (by omega)
                have z1 : (a0.extract 0 3).size = 3 := by rw [ByteArray.size_extract]; omega
                have HB2 := Aside0.mk HB.out
                clear HB
                go_wp2
                refine start_ (n := 7) (S := fun _ => True) (ds := []) #[false, false, false, false, false, false, false] (by kernel_rfl) rfl rfl trivial (fun hHeld => ?_)
                have HB3 := Aside0.mk (below_drew HB2.out)
                clear HB2
                generalize wr.drew = w9 at HB3 ⊢
                refine pure_ (i := 0) (N := some 30) (v := ?_) (a' := ?_) #[true, false, false, false, false, false, false] rfl rfl (by kernel_rfl) (fun _ _ _ h => h) (Or.inl ⟨by rfl, ?_⟩) ?_ ?_
                rotate_left
                · intro w'
                  go_simp
                  with_reducible rfl
                rotate_left
                · simp only [Act.put, List.setIfInBounds_toArray, List.set_cons_zero, List.set_cons_succ, i64_w, i32_w]
                  rfl
                refine pure_ (i := 1) (N := some 31) (v := ?_) (a' := ?_) #[true, true, false, false, false, false, false] rfl rfl (by kernel_rfl) (fun _ _ _ h => h) (Or.inl ⟨by rfl, ?_⟩) ?_ ?_
                rotate_left
                · intro w'
                  go_simp
                  with_reducible rfl
                rotate_left
                · simp only [Act.put, List.setIfInBounds_toArray, List.set_cons_zero, List.set_cons_succ, i64_w, i32_w]
                  rfl
                refine pure_ (i := 2) (N := some 32) (v := ?_) (a' := ?_) #[true, true, true, false, false, false, false] rfl rfl (by kernel_rfl) (fun _ _ _ h => h) (Or.inl ⟨by rfl, ?_⟩) ?_ ?_
                rotate_left
                · intro w'
                  go_simp
                  with_reducible rfl
                rotate_left
                · simp only [Act.put, List.setIfInBounds_toArray, List.set_cons_zero, List.set_cons_succ, i64_w, i32_w]
                  rfl
                refine pure_ (i := 3) (N := some 33) (v := ?_) (a' := ?_) #[true, true, true, true, false, false, false] rfl rfl (by kernel_rfl) (fun _ _ _ h => h) (Or.inl ⟨by rfl, ?_⟩) ?_ ?_
                rotate_left
                · intro w'
                  go_simp
                  with_reducible rfl
                rotate_left
                · simp only [Act.put, List.setIfInBounds_toArray, List.set_cons_zero, List.set_cons_succ, i64_w, i32_w]
                  rfl
                refine one_ (i := 4) (N := some 34) #[true, true, true, true, true, false, false] rfl rfl (by kernel_rfl) (by decide) (fun K hK => ?_)
                have HP2 := HP.out
                rw [HQ.out, ← w5] at HP2
                refine goes_ Tryd.func61 (by kernel_rfl) rfl #[.int .i64 (wrap64 (numQ q 4 + 1)), .int .i64 4] (by rfl) rfl rfl (by (try simp only [List.map_toArray, List.map_cons, List.map_nil]); first | done | rfl) ?_
                with_reducible refine (impl_padded.calls k (wrap64 (numQ q 4 + 1)) 4 p _ ?sideL HP2).mono ?_
                (case sideL => exact Laid.below HL.out HB3.out)
                rintro e w10 ⟨rfl, hb⟩
                refine ⟨_, rfl, ?_⟩
                have HB4 := Aside0.mk (below_step HB3.out hb)
                clear HB3 hb HP2
                refine hK.out _ _ trivial (fun hHeld => ?_)
                clear hK K
                refine norm_ (a' := ?_) ?_ ?_
                rotate_left
                · show Act.put _ (some 34) _ = _
                  simp only [Act.put, List.setIfInBounds_toArray, List.set_cons_zero, List.set_cons_succ, i64_w, i32_w]
                  rfl
                have hz := HS.out
                have z2 : (9223372036854775807 < (a0.extract 0 3).size + p.size) = False := eq_false (by omega)
                have z3 : (9223372036854775807 < 3 + p.size) = False := eq_false (by omega)
                have hy := HT.out
                have z4 : (9223372036854775807 < (a0.extract 0 3 ++ p).size + cl.size) = False := eq_false (by rw [ByteArray.size_append]; omega)
                have z5 : (9223372036854775807 < (a0.extract 0 3).size + p.size + cl.size) = False := eq_false (by omega)
                refine pure_ (i := 5) (N := some 35) (v := ?_) (a' := ?_) #[true, true, true, true, true, true, false] rfl rfl (by kernel_rfl) (fun _ _ _ h => h) (Or.inl ⟨by rfl, ?_⟩) ?_ ?_
                rotate_left
                · intro w'
                  go_simp
                  with_reducible rfl
                rotate_left
                · simp only [Act.put, List.setIfInBounds_toArray, List.set_cons_zero, List.set_cons_succ, i64_w, i32_w]
                  rfl
                refine pure_ (i := 6) (N := some 7) (v := ?_) (a' := ?_) #[true, true, true, true, true, true, true] rfl rfl (by kernel_rfl) (fun _ _ _ h => h) (Or.inl ⟨by rfl, ?_⟩) ?_ ?_
                rotate_left
                · intro w'
                  go_simp
                  with_reducible rfl
                rotate_left
                · simp only [Act.put, List.setIfInBounds_toArray, List.set_cons_zero, List.set_cons_succ, i64_w, i32_w]
                  rfl
                refine done_ (by kernel_rfl) ?_
                go_wp2_with (go_at_call 29; refine (impl_CheckLetter.calls k (a0.extract 0 3 ++ p) cl cb _ HC.out).mono ?_; rintro e w11 ⟨rfl, hb⟩; have HB5 := Aside0.mk (below_step HB4.out hb); clear hb)
                go_ret2
                exact ⟨rfl, HB5.out⟩
          · rw [if_neg hcs] at h; cases h
        · rw [if_neg hps] at h; cases h
    · rw [if_neg hd] at h; cases h
  · rw [if_neg ho] at h
    rw [Bool.not_eq_true] at ho
    subst ho
    obtain ⟨rfl, rfl⟩ := Prod.mk.inj (Option.some.inj h)
    clear h
    go_enter Tryd.func26, Tryd.ntmps26
    go_wp2_with (go_at_call 31; refine (impl_IsValidId.calls k a0 false _ HO.out).mono ?_; rintro e w1 ⟨rfl, ⟨nd, rfl⟩⟩)
    go_ret2
    exact ⟨rfl, pw_below_drewN (Below.refl _ _) _⟩
end Go.Proofs.YtnifjoobkojgiaaDoor.X
