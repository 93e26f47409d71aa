/- The program's ParseInt, walked: the number that the library reads, if it is within bounds and its numeral is the text. -/
import Derived.Test.YtfindomajbjacaaGreatDoorX0
import Derived.Test.YtfindomajbjacaaGreatDoorLaidE
import Derived.Test.YtfindomajbjacaaGreatDoorShelf
import Derived.Test.YtfindomajbjacaaGreatDoorMNum
import Derived.Test.YtfindomajbjacaaGreatDoorMRotM
import Derived.Lib.AtoiAllCases
namespace Go.Proofs.YtfindomajbjacaaGreatDoor.X
open Go.RowKit Go.Lib Go.Proofs.YtfindomajbjacaaGreatDoorW.PrintWords Go.Proofs.YtfindomajbjacaaGreatDoorW.PrintLast
set_option linter.unusedVariables false
set_option linter.unusedSimpArgs false
def readR (s : ByteArray) : Int × Bool :=
  match Lib.atoiAll s.data.toList with
  | .ok v => if inB v (-999999) 999999 = true then (if (tx (Lib.itoa v)).toList = s.toList then (v, true) else (0, false)) else (0, false)
  | _ => (0, false)
def impl_ParseInt.f (a0 : ByteArray) : Option (Int × Bool) := if a0.size ≤ 281474976710656 then some (readR a0) else none
set_option maxHeartbeats 4000000 in
set_option maxRecDepth 100000 in
theorem impl_ParseInt.calls (a0 : ByteArray) (r1 : Int) (r2 : Bool) (w : World) (hL : LaidE w) (h : impl_ParseInt.f a0 = some (r1, r2)) :
    Calls Tryz.prog 38 #[.string a0] w fun e w' => e = .returned (.tuple #[.int .i64 r1, .bool r2]) ∧ Below w.heap.size w w' := by
  unfold impl_ParseInt.f at h
  split at h
  · rename_i hs
    have h2 := Option.some.inj h
    have HL := Aside0.mk hL
    have HS := Aside0.mk hs
    unfold readR at h2
    clear h hL
    rcases hc : Lib.atoiAll a0.data.toList with v | _ | _
    · rw [hc] at h2
      dsimp only at h2
      have HC := Aside0.mk hc
      have hv := Lib.atoiAll_bounds hc
      clear hc
      have H1 := Aside0.mk (Tryz.strconv_Atoi_ok a0 (by have := HS.out; omega) v HC.out w)
      have hend : ∀ e w', (e = Ending.returned (.tuple #[.int .i64 v, .nilIface]) ∧ (w' = w ∨ ∃ t, w' = Lib.bytesWorld w 5 t)) → e = Ending.returned (.tuple #[.int .i64 v, .nilIface]) ∧ Below w.heap.size w w' := by
        rintro e w' ⟨rfl, rfl | ⟨t, rfl⟩⟩
        · exact ⟨rfl, Below.refl _ _⟩
        · exact ⟨rfl, Go.Joins.below_bytesWorld _ w 5 t (Nat.le_refl _)⟩
      have H2 := Aside0.mk (H1.out.mono hend)
      clear H1 hend
      by_cases hin : inB v (-999999) 999999 = true
      · rw [if_pos hin] at h2
        have hb : -999999 ≤ v ∧ v ≤ 999999 := by unfold inB at hin; simpa using hin
        have HW := Aside0.mk (show impl_within.f v (-999999) 999999 = some true by rw [within_ends, hin])
        have HD := Aside0.mk (decimal_ends v (by omega) (by omega))
        clear hin hb hv
        obtain ⟨q, hq⟩ : ∃ q, tx (Lib.itoa v) = q := ⟨_, rfl⟩
        rw [hq] at h2 HD
        clear hq
        by_cases he : q.toList = a0.toList
        · rw [if_pos he] at h2
          obtain ⟨rfl, rfl⟩ := Prod.mk.inj h2
          have c1 : (q.toList == a0.toList) = true := beq_iff_eq.mpr he
          have c2 : (q.toList != a0.toList) = false := bne_eq_false_iff_eq.mpr he
          clear he h2
          go_enter Tryz.func38, Tryz.ntmps38
          go_wp2_with (first | (go_at_call 74; refine H2.out.mono ?_; rintro e w1 ⟨rfl, hb⟩; have HB := Aside0.mk hb; clear hb) | (go_at_call 35; refine (impl_within.calls v (-999999) 999999 true _ HW.out).mono ?_; rintro e w2 ⟨rfl, ⟨nd, rfl⟩⟩) | (go_at_call 69; refine (impl_decimal.calls v q _ ?sideL HD.out).mono ?_; (case sideL => repeat (first | exact (LaidE.below HL.out HB.out).1 | (with_reducible refine Laid.drewN ?_ _) | (with_reducible refine Laid.drew ?_))); rintro e w3 ⟨rfl, hb⟩; have n0_ := Aside0.mk (below_step (by repeat (first | (with_reducible first | exact HB.out | apply below_alloc | apply pw_below_drewN | apply below_drew1) | exact HB.out)) hb); clear HB; have HB := n0_; clear n0_ hb))
          go_ret2
          exact ⟨rfl, (by repeat (first | (with_reducible first | exact HB.out | apply below_alloc | apply pw_below_drewN | apply below_drew1) | exact HB.out))⟩
        · rw [if_neg he] at h2
          obtain ⟨rfl, rfl⟩ := Prod.mk.inj h2
          have c1 : (q.toList == a0.toList) = false := beq_eq_false_iff_ne.mpr he
          have c2 : (q.toList != a0.toList) = true := bne_iff_ne.mpr he
          clear he h2
          go_enter Tryz.func38, Tryz.ntmps38
          go_wp2_with (first | (go_at_call 74; refine H2.out.mono ?_; rintro e w1 ⟨rfl, hb⟩; have HB := Aside0.mk hb; clear hb) | (go_at_call 35; refine (impl_within.calls v (-999999) 999999 true _ HW.out).mono ?_; rintro e w2 ⟨rfl, ⟨nd, rfl⟩⟩) | (go_at_call 69; refine (impl_decimal.calls v q _ ?sideL HD.out).mono ?_; (case sideL => repeat (first | exact (LaidE.below HL.out HB.out).1 | (with_reducible refine Laid.drewN ?_ _) | (with_reducible refine Laid.drew ?_))); rintro e w3 ⟨rfl, hb⟩; have n0_ := Aside0.mk (below_step (by repeat (first | (with_reducible first | exact HB.out | apply below_alloc | apply pw_below_drewN | apply below_drew1) | exact HB.out)) hb); clear HB; have HB := n0_; clear n0_ hb))
          go_ret2
          exact ⟨rfl, (by repeat (first | (with_reducible first | exact HB.out | apply below_alloc | apply pw_below_drewN | apply below_drew1) | exact HB.out))⟩
      · rw [if_neg hin] at h2
        obtain ⟨rfl, rfl⟩ := Prod.mk.inj h2
        rw [Bool.not_eq_true] at hin
        have HW := Aside0.mk (show impl_within.f v (-999999) 999999 = some false by rw [within_ends, hin])
        clear hin h2 hv
        go_enter Tryz.func38, Tryz.ntmps38
        go_wp2_with (first | (go_at_call 74; refine H2.out.mono ?_; rintro e w1 ⟨rfl, hb⟩; have HB := Aside0.mk hb; clear hb) | (go_at_call 35; refine (impl_within.calls v (-999999) 999999 false _ HW.out).mono ?_; rintro e w2 ⟨rfl, ⟨nd, rfl⟩⟩))
        go_ret2
        exact ⟨rfl, (by repeat (first | (with_reducible first | exact HB.out | apply below_alloc | apply pw_below_drewN | apply below_drew1) | exact HB.out))⟩
    · rw [hc] at h2
      dsimp only at h2
      obtain ⟨rfl, rfl⟩ := Prod.mk.inj h2
      obtain ⟨tp, p, hvar⟩ := HL.out.2.1
      have hcell : w.cell? ⟨1, 0, none⟩ = some (.iface tp p) := by simpa using World.var?_cell gSyn hvar 0
      have H1 : Calls Tryz.prog 74 #[.string a0] w fun e w' => ∃ N, e = .returned (.tuple #[.int .i64 (0), .iface 122 (.pointer (some ⟨N, 0, none⟩))]) ∧ w.heap.size ≤ N ∧ w'.heap[N]? = some (.cells #[.string ⟨#[65, 116, 111, 105]⟩, .string a0, .iface tp p] 137 (0, 0)) ∧ Below w.heap.size w w' := Any.strconv_Atoi_syntax Tryz.laysC172 a0 hs hc (.iface tp p) w hcell (.inr ⟨tp, p, rfl⟩)
      have hend : ∀ e w', (∃ N, e = Ending.returned (.tuple #[.int .i64 (0), .iface 122 (.pointer (some ⟨N, 0, none⟩))]) ∧ w.heap.size ≤ N ∧ w'.heap[N]? = some (.cells #[.string ⟨#[65, 116, 111, 105]⟩, .string a0, .iface tp p] 137 (0, 0)) ∧ Below w.heap.size w w') → ∃ N, e = Ending.returned (.tuple #[.int .i64 0, .iface 122 (.pointer (some ⟨N, 0, none⟩))]) ∧ Below w.heap.size w w' := by
        rintro e w' ⟨N, rfl, _, _, hb⟩
        exact ⟨N, rfl, hb⟩
      have H2 := Aside0.mk (H1.mono hend)
      clear H1 hend hcell hvar hc h2 hs
      go_enter Tryz.func38, Tryz.ntmps38
      go_wp2_with (first | (go_at_call 74; refine H2.out.mono ?_; rintro e w1 ⟨N1, rfl, hb⟩; have HB := Aside0.mk hb; clear hb))
      go_ret2
      exact ⟨rfl, (by repeat (first | (with_reducible first | exact HB.out | apply below_alloc | apply pw_below_drewN | apply below_drew1) | exact HB.out))⟩
    · rw [hc] at h2
      dsimp only at h2
      obtain ⟨rfl, rfl⟩ := Prod.mk.inj h2
      obtain ⟨tp, p, hvar⟩ := HL.out.2.2
      have hcell : w.cell? ⟨2, 0, none⟩ = some (.iface tp p) := by simpa using World.var?_cell gRan hvar 0
      obtain ⟨sv, hsv⟩ : ∃ sv, Lib.atoiSat a0.data.toList = sv := ⟨_, rfl⟩
      have H1 : Calls Tryz.prog 74 #[.string a0] w fun e w' => ∃ N, e = .returned (.tuple #[.int .i64 (Lib.atoiSat a0.data.toList), .iface 122 (.pointer (some ⟨N, 0, none⟩))]) ∧ w.heap.size ≤ N ∧ w'.heap[N]? = some (.cells #[.string ⟨#[65, 116, 111, 105]⟩, .string a0, .iface tp p] 137 (0, 0)) ∧ Below w.heap.size w w' := Any.strconv_Atoi_range Tryz.laysC172 a0 hs hc (.iface tp p) w hcell (.inr ⟨tp, p, rfl⟩)
      rw [hsv] at H1
      have hend : ∀ e w', (∃ N, e = Ending.returned (.tuple #[.int .i64 sv, .iface 122 (.pointer (some ⟨N, 0, none⟩))]) ∧ w.heap.size ≤ N ∧ w'.heap[N]? = some (.cells #[.string ⟨#[65, 116, 111, 105]⟩, .string a0, .iface tp p] 137 (0, 0)) ∧ Below w.heap.size w w') → ∃ N, e = Ending.returned (.tuple #[.int .i64 sv, .iface 122 (.pointer (some ⟨N, 0, none⟩))]) ∧ Below w.heap.size w w' := by
        rintro e w' ⟨N, rfl, _, _, hb⟩
        exact ⟨N, rfl, hb⟩
      have H2 := Aside0.mk (H1.mono hend)
      clear H1 hend hcell hvar hc h2 hs hsv
      go_enter Tryz.func38, Tryz.ntmps38
      go_wp2_with (first | (go_at_call 74; refine H2.out.mono ?_; rintro e w1 ⟨N1, rfl, hb⟩; have HB := Aside0.mk hb; clear hb))
      go_ret2
      exact ⟨rfl, (by repeat (first | (with_reducible first | exact HB.out | apply below_alloc | apply pw_below_drewN | apply below_drew1) | exact HB.out))⟩
  · cases h
end Go.Proofs.YtfindomajbjacaaGreatDoor.X
