/- The program's relocationBound, walked: the literal that ranks a number in the order, the two loops that count what lies above an earlier one. -/
import Derived.Test.YtagbfaacklilbaaX0
import Derived.Test.YtagbfaacklilbaaMBase
import Derived.Test.YtagbfaacklilbaaFbList
import Derived.Lib.Walk
import Derived.Shelf.Abstract
import Derived.Deep.LoopGhost
import Derived.Deep.Draws
import Derived.BigQuiet
namespace Go.Proofs.Ytagbfaacklilbaa.X
open Go.RowKit Go.Lib Go.Proofs.YtagbfaacklilbaaW.PrintWords Go.Proofs.YtagbfaacklilbaaW.PrintLast Go.Proofs.YtagbfaacklilbaaW.PrintMore
set_option linter.unusedVariables false
set_option linter.unusedSimpArgs false
attribute [local go_sem] max2_int min2_int
/-- A number's place in an order, the order's length if it has none. -/
def rankN (o : List Int) (n : Int) : Nat := o.findIdx (fun x => n == x)
theorem rankN_le (o : List Int) (n : Int) : rankN o n ≤ o.length := List.findIdx_le_length
theorem rIndex_loop (o : List Int) (n : Int) (ho : o.length ≤ 1000000) (d : Nat) : ∀ (k i : Nat), i + d = o.length → d < k → slices_Index_int_int.l0 k o n (o.length : Int) (i : Int) = some (if (o.drop i).findIdx (fun x => n == x) < (o.drop i).length then ((i + (o.drop i).findIdx (fun x => n == x) : Nat) : Int) else -1) := by
  induction d with
  | zero =>
    intro k i hi hk
    obtain ⟨k, rfl⟩ := kpos hk
    simp only [slices_Index_int_int.l0]
    rw [if_neg (by omega), List.drop_of_length_le (by omega), if_neg (by simp)]
  | succ d ih =>
    intro k i hi hk
    obtain ⟨k, rfl⟩ := kpos (d := 0) (k := k) (by omega)
    have hlt : i < o.length := by omega
    simp only [slices_Index_int_int.l0]
    rw [if_pos (by omega), if_pos (by omega), if_pos (by omega), rd_nat, getD_cons (z := (0 : Int)) hlt, wnext hlt (by omega)]
    by_cases h : n = o.getD i 0
    · rw [if_pos h, List.findIdx_cons]
      have hb : (n == o.getD i 0) = true := beq_iff_eq.2 h
      rw [hb]
      simp
    · rw [if_neg h, ih k (i + 1) (by omega) (by omega), List.findIdx_cons]
      have hb : (n == o.getD i 0) = false := beq_eq_false_iff_ne.2 h
      rw [hb]
      simp only [cond_false, List.length_cons]
      by_cases h2 : (o.drop (i + 1)).findIdx (fun x => n == x) < (o.drop (i + 1)).length
      · rw [if_pos h2, if_pos (by omega)]
        congr 1
        omega
      · rw [if_neg h2, if_neg (by omega)]
theorem Index_is (o : List Int) (n : Int) (ho : o.length ≤ 1000000) : slices_Index_int_int.f 1000001 o n = some (if rankN o n < o.length then (rankN o n : Int) else -1) := by
  unfold slices_Index_int_int.f
  have := rIndex_loop o n ho o.length 1000001 0 (by omega) (by omega)
  rw [show ((0 : Nat) : Int) = 0 from rfl, List.drop_zero, Nat.zero_add] at this
  exact this
set_option maxHeartbeats 2000000 in
set_option maxRecDepth 100000 in
theorem rank_fn (b : Nat) (A : Option Addr) (c : Nat) (o : List Int) (n : Int) (W : World) (ho : o.length ≤ 1000000) (hb : W.cell? ⟨b, 0, none⟩ = some (.slice A o.length c)) (hr : Kd.C (Kd.int .i64) W A o.length o) (hc : o.length ≤ c) :
    Calls Try.prog 96 #[.int .i64 n, .pointer (some ⟨b, 0, none⟩)] W fun e w' => e = .returned (.int .i64 (rankN o n)) ∧ ∃ nd, w' = W.drewN nd := by
  have HI := Aside0.mk (Index_is o n ho)
  have HR := Aside0.mk hr
  have HC := Aside0.mk hc
  have hle := rankN_le o n
  clear hr hc ho
  by_cases h : rankN o n < o.length
  · have e1 : (if rankN o n < o.length then (rankN o n : Int) else -1) = (rankN o n : Int) := if_pos h
    rw [e1] at HI
    have q1 : decide ((rankN o n : Int) ≥ 0) = true := decide_eq_true (by omega)
    have q2 : decide ((0 : Int) ≤ (rankN o n : Int)) = true := decide_eq_true (by omega)
    clear h hle e1
    go_enter Try.func96, Try.ntmps96
    go_wp2_with (go_at_call 91; (with_reducible refine (slices_Index_int_int.calls _ _ _ o n _ _ HR.out HC.out HI.out).mono ?_); rintro e w' ⟨rfl, ⟨nd, rfl⟩⟩)
    go_ret
    exact ⟨rfl, _, rfl⟩
  · have e1 : (if rankN o n < o.length then (rankN o n : Int) else -1) = -1 := if_neg h
    rw [e1] at HI
    have e2 : rankN o n = o.length := by omega
    have HE := Aside0.mk e2
    clear h hle e1 e2
    go_enter Try.func96, Try.ntmps96
    go_wp2_with (go_at_call 91; (with_reducible refine (slices_Index_int_int.calls _ _ _ o n _ _ HR.out HC.out HI.out).mono ?_); rintro e w' ⟨rfl, ⟨nd, rfl⟩⟩)
    go_ret
    rw [HE.out]
    exact ⟨rfl, _, rfl⟩
/-- What the inner loop counts. -/
def badN (o : List Int) (least : Nat) (n : Int) : Bool := decide (least < rankN o n) || (decide (rankN o n = o.length) && decide (least < o.length))
def bRow (o : List Int) : Nat → List Int → Nat
  | _, [] => 0
  | least, n :: r => (if badN o least n = true then 1 else 0) + bRow o (min least (rankN o n)) r
def bAll (o : List Int) : List (List Int) → Nat
  | [] => 0
  | s :: r => bRow o o.length s + bAll o r
theorem bRow_le (o : List Int) : ∀ (s : List Int) (l : Nat), bRow o l s ≤ s.length
  | [], l => Nat.le_refl _
  | n :: r, l => by
    have := bRow_le o r (min l (rankN o n))
    simp only [bRow, List.length_cons]
    split <;> omega
def impl_relocationBound.f (l0_0 : List (List Int)) (l1 : List Int) : Option Int := if l0_0.length ≤ 1000 ∧ (∀ s ∈ l0_0, s.length ≤ 1000) ∧ l1.length ≤ 1000000 then some (bAll l1 l0_0 : Int) else none
theorem bAll_le (o : List Int) : ∀ (ss : List (List Int)), (∀ s ∈ ss, s.length ≤ 1000) → bAll o ss ≤ 1000 * ss.length
  | [], _ => Nat.le_refl _
  | s :: r, h => by
    have h1 := bAll_le o r (fun x hx => h x (List.mem_cons_of_mem _ hx))
    have h2 := bRow_le o s o.length
    have h3 := h s List.mem_cons_self
    simp only [bAll, List.length_cons]
    omega
set_option maxHeartbeats 4000000 in
set_option maxRecDepth 100000 in
theorem impl_relocationBound.calls (A0_0 : Option Addr) (c0_0 : Nat) (l0_0 : List (List Int)) (A1 : Option Addr) (c1 : Nat) (l1 : List Int) (r : Int) (w : World) (hr0_0 : Kd.C (Kd.slice 3 (Kd.int .i64)) w A0_0 l0_0.length l0_0) (hc0_0 : l0_0.length ≤ c0_0) (hr1 : Kd.C (Kd.int .i64) w A1 l1.length l1) (hc1 : l1.length ≤ c1) (h : impl_relocationBound.f l0_0 l1 = some r) :
    Calls Try.prog 75 #[.agg #[.slice A0_0 l0_0.length c0_0], .slice A1 l1.length c1] w fun e w' => e = .returned (.int .i64 r) ∧ Below w.heap.size w w' := by
  unfold impl_relocationBound.f at h
  by_cases hlen : l0_0.length ≤ 1000 ∧ (∀ s ∈ l0_0, s.length ≤ 1000) ∧ l1.length ≤ 1000000
  · rw [if_pos hlen] at h
    obtain rfl := Option.some.inj h
    have eg : ∀ args w, (callFunc 96 args).run Try.prog w = .ok (.enter 96 args) w := enters_of Try.func96 (by kernel_rfl) rfl
    have HR0 := Aside0.mk hr0_0
    have HR1 := Aside0.mk hr1
    have HC1 := Aside0.mk hc1
    have HLN := Aside0.mk hlen
    have HBA := Aside0.mk (bAll_le l1 l0_0 hlen.2.1)
    have HB0 := Aside0.mk (((Below.refl w.heap.size w).alloc (Nat.le_refl _) (.cells #[.slice A0_0 l0_0.length c0_0] 53)).alloc (by simp) (.cells #[.slice A1 l1.length c1] 22))
    clear h hlen hr0_0 hr1 hc1
    go_enter Try.func75, Try.ntmps75
    go_wp2
    go_loopg [6, 16] l0_0.length (fun kq v6 v16 w' => ∃ (i cnt : Nat), v6 = .int .i64 (cnt : Int) ∧ v16 = .int .i64 (i : Int) ∧ Aside0 (i ≤ l0_0.length ∧ l0_0.length - i ≤ kq) ∧ Aside0 (cnt + bAll l1 (l0_0.drop i) = bAll l1 l0_0) ∧ Aside0 (w'.cell? ⟨w.heap.size + 1, 0, none⟩ = some (.slice A1 l1.length c1)) ∧ Aside0 (Below w.heap.size w w'))
    case atStart => exact ⟨0, 0, rfl, rfl, ⟨Nat.zero_le _, by omega⟩, ⟨by simp⟩, ⟨by simp⟩, HB0⟩
    case round =>
      obtain ⟨i, cnt, rfl, rfl, HN, HS, HX, HB⟩ := hrel
      by_cases hlt : i < l0_0.length
      · have c1b : decide ((i : Int) < (l0_0.length : Int)) = true := decide_eq_true (by omega)
        have c1n : decide (i < l0_0.length) = true := decide_eq_true hlt
        have hD : l0_0.drop i = rd_L1 l0_0 (i : Int) :: l0_0.drop (i + 1) := by
          unfold rd_L1
          rw [Int.toNat_natCast]
          exact getD_cons hlt
        have hmem : rd_L1 l0_0 (i : Int) ∈ l0_0 := by
          unfold rd_L1
          rw [Int.toNat_natCast]
          exact getD_mem hlt
        obtain ⟨ad0, Ai, ci, e0, hx0, hl1, hri⟩ := at_L1 HR0.out (i : Int) (by omega) (by omega)
        cases e0
        rw [Int.toNat_natCast] at hx0
        replace hx0 := (HB.out.cell (World.block_lt_of_cell? w _ hx0)).trans hx0
        have HD := Aside0.mk hD
        have HS1 := Aside0.mk (HLN.out.2.1 _ hmem)
        have HRi := Aside0.mk hri
        clear hD hmem hri
        generalize rd_L1 l0_0 (i : Int) = s at *
        have hxc := HX.out
        have HLT := Aside0.mk hlt
        have q1 : (0 ≤ (i : Int)) = True := eq_true (by omega)
        have q2 : ((i : Int) < (l0_0.length : Int)) = True := eq_true (by omega)
        clear hlt
        go_wp2
        go_loopg [6, 9, 24] s.length (fun kq v6 v9 v24 w' => ∃ (j cn least : Nat), v6 = .int .i64 (cn : Int) ∧ v9 = .int .i64 (least : Int) ∧ v24 = .int .i64 (j : Int) ∧ Aside0 (j ≤ s.length ∧ s.length - j ≤ kq) ∧ Aside0 (cn + bRow l1 least (s.drop j) + bAll l1 (l0_0.drop (i + 1)) = bAll l1 l0_0) ∧ Aside0 (w'.cell? ⟨w.heap.size + 1, 0, none⟩ = some (.slice A1 l1.length c1)) ∧ Aside0 (Below w.heap.size w w'))
        case atStart =>
          refine ⟨0, cnt, l1.length, rfl, rfl, rfl, ⟨Nat.zero_le _, by omega⟩, ⟨?_⟩, HX, HB⟩
          have := HS.out
          rw [HD.out] at this
          simp only [bAll] at this
          rw [List.drop_zero]
          omega
        case round =>
          clear hx0 hxc HX HB HS
          obtain ⟨j, cn, least, rfl, rfl, rfl, HNj, HSj, HX, HB⟩ := hrel
          by_cases hj : j < s.length
          · have c2b : decide ((j : Int) < (s.length : Int)) = true := decide_eq_true (by omega)
            have c2n : decide (j < s.length) = true := decide_eq_true hj
            obtain ⟨ad1, e1, hx1⟩ := Kd.at_int HRi.out (j : Int) (by omega) (by omega)
            cases e1
            rw [Int.toNat_natCast] at hx1
            replace hx1 := (HB.out.cell (World.block_lt_of_cell? w _ hx1)).trans hx1
            have hDj : s.drop j = rd s (j : Int) :: s.drop (j + 1) := by rw [rd_nat]; exact getD_cons hj
            have HDj := Aside0.mk hDj
            clear hDj
            generalize rd s (j : Int) = x at *
            have HLTj := Aside0.mk hj
            have q3 : (0 ≤ (j : Int)) = True := eq_true (by omega)
            have q4 : ((j : Int) < (s.length : Int)) = True := eq_true (by omega)
            have hle := rankN_le l1 x
            have hcnt : cn ≤ 1000000 := by have := HSj.out; have := HBA.out; have := HLN.out.1; omega
            have hwc : wrap64 ((cn : Int) + 1) = ((cn + 1 : Nat) : Int) := by unfold wrap64; omega
            have hwj : wrap64 ((j : Int) + 1) = ((j + 1 : Nat) : Int) := by unfold wrap64; have := HS1.out; omega
            have HWC := Aside0.mk hwc
            have HWJ := Aside0.mk hwj
            have HRK := Aside0.mk hle
            have hxc := HX.out
            have HRc := Aside0.mk (Kd.C_below HR1.out HB.out)
            obtain ⟨rk, hrk⟩ : ∃ rk, rankN l1 x = rk := ⟨_, rfl⟩
            have HK := Aside0.mk hrk
            clear hj hle hcnt hwc hwj hrk
            by_cases h1 : least < rk
            · have b1 : decide ((rk : Int) > (least : Int)) = true := decide_eq_true (by omega)
              have b2 : decide ((least : Int) < (rk : Int)) = true := decide_eq_true (by omega)
              have b3 : decide (least < rk) = true := decide_eq_true h1
              have H1 := Aside0.mk h1
              clear h1
              go_wp2
              go_quiet ((go_at_fn 96; refine (rank_fn _ A1 c1 l1 x _ HLN.out.2.2 ?hcell ?hread HC1.out).mono ?_; (case hcell => exact hxc); (case hread => repeat (first | exact HRc.out | (with_reducible refine Kd.C_drewN ?_ _) | (with_reducible refine Kd.C_drew ?_))); rw [HK.out]; rintro e w' ⟨rfl, ⟨nd, rfl⟩⟩; (try first | exact ⟨rfl, _, rfl⟩ | exact ⟨rfl, _, World.drewN_drewN _ _ _⟩ | exact ⟨rfl, _, Eq.trans (World.drewN_drewN _ _ _) (congrArg (World.drewN _) (Nat.add_assoc _ _ _))⟩)))
              go_wp2_with (go_at_fn 96; refine (rank_fn _ A1 c1 l1 x _ HLN.out.2.2 ?hcell ?hread HC1.out).mono ?_; (case hcell => exact hxc); (case hread => repeat (first | exact HRc.out | (with_reducible refine Kd.C_drewN ?_ _) | (with_reducible refine Kd.C_drew ?_))); rw [HK.out]; rintro e w' ⟨rfl, ⟨nd, rfl⟩⟩)
              go_roundg (s.length - (j + 1))
              case measure => have := HNj.out; have := HLTj.out; omega
              case rel =>
                refine ⟨j + 1, cn + 1, min least rk, by first | rfl | (rw [HWC.out]), congrArg (Value.int .i64) (by omega), by rw [HWJ.out], ⟨by have := HLTj.out; omega, Nat.le_refl _⟩, ⟨?_⟩, ⟨hxc⟩, ⟨by repeat (first | (with_reducible first | exact HB.out | apply pw_below_drewN | apply below_drew1) | exact HB.out)⟩⟩
                have hs := HSj.out
                rw [HDj.out] at hs
                have hb : badN l1 least x = true := by unfold badN; rw [HK.out]; rw [decide_eq_true H1.out]; rfl
                simp only [bRow, hb, HK.out, if_true, Bool.false_eq_true, if_false] at hs
                omega
            · have b1 : decide ((rk : Int) > (least : Int)) = false := decide_eq_false (by omega)
              have b2 : decide ((least : Int) < (rk : Int)) = false := decide_eq_false (by omega)
              have b3 : decide (least < rk) = false := decide_eq_false h1
              have H1 := Aside0.mk h1
              by_cases h2 : rk = l1.length
              · have b4 : ((rk : Int) == (l1.length : Int)) = true := beq_iff_eq.2 (by omega)
                have b5 : (rk == l1.length) = true := beq_iff_eq.2 h2
                have b6 : decide ((least : Int) < (l1.length : Int)) = false := decide_eq_false (by omega)
                have b7 : decide (least < l1.length) = false := decide_eq_false (by omega)
                have H2 := Aside0.mk b7
                clear h1 h2
                go_wp2
                go_quiet ((go_at_fn 96; refine (rank_fn _ A1 c1 l1 x _ HLN.out.2.2 ?hcell ?hread HC1.out).mono ?_; (case hcell => exact hxc); (case hread => repeat (first | exact HRc.out | (with_reducible refine Kd.C_drewN ?_ _) | (with_reducible refine Kd.C_drew ?_))); rw [HK.out]; rintro e w' ⟨rfl, ⟨nd, rfl⟩⟩; (try first | exact ⟨rfl, _, rfl⟩ | exact ⟨rfl, _, World.drewN_drewN _ _ _⟩ | exact ⟨rfl, _, Eq.trans (World.drewN_drewN _ _ _) (congrArg (World.drewN _) (Nat.add_assoc _ _ _))⟩)))
                go_wp2_with (go_at_fn 96; refine (rank_fn _ A1 c1 l1 x _ HLN.out.2.2 ?hcell ?hread HC1.out).mono ?_; (case hcell => exact hxc); (case hread => repeat (first | exact HRc.out | (with_reducible refine Kd.C_drewN ?_ _) | (with_reducible refine Kd.C_drew ?_))); rw [HK.out]; rintro e w' ⟨rfl, ⟨nd, rfl⟩⟩)
                go_roundg (s.length - (j + 1))
                case measure => have := HNj.out; have := HLTj.out; omega
                case rel =>
                  refine ⟨j + 1, cn, min least rk, by first | rfl | (rw [HWC.out]), congrArg (Value.int .i64) (by omega), by rw [HWJ.out], ⟨by have := HLTj.out; omega, Nat.le_refl _⟩, ⟨?_⟩, ⟨hxc⟩, ⟨by repeat (first | (with_reducible first | exact HB.out | apply pw_below_drewN | apply below_drew1) | exact HB.out)⟩⟩
                  have hs := HSj.out
                  rw [HDj.out] at hs
                  have hb : badN l1 least x = false := by unfold badN; rw [HK.out]; rw [decide_eq_false H1.out, H2.out, Bool.and_false]; rfl
                  simp only [bRow, hb, HK.out, if_true, Bool.false_eq_true, if_false] at hs
                  omega
              · have b4 : ((rk : Int) == (l1.length : Int)) = false := beq_eq_false_iff_ne.2 (by omega)
                have b5 : (rk == l1.length) = false := beq_eq_false_iff_ne.2 h2
                have H2 := Aside0.mk h2
                clear h1 h2
                go_wp2
                go_quiet ((go_at_fn 96; refine (rank_fn _ A1 c1 l1 x _ HLN.out.2.2 ?hcell ?hread HC1.out).mono ?_; (case hcell => exact hxc); (case hread => repeat (first | exact HRc.out | (with_reducible refine Kd.C_drewN ?_ _) | (with_reducible refine Kd.C_drew ?_))); rw [HK.out]; rintro e w' ⟨rfl, ⟨nd, rfl⟩⟩; (try first | exact ⟨rfl, _, rfl⟩ | exact ⟨rfl, _, World.drewN_drewN _ _ _⟩ | exact ⟨rfl, _, Eq.trans (World.drewN_drewN _ _ _) (congrArg (World.drewN _) (Nat.add_assoc _ _ _))⟩)))
                go_wp2_with (go_at_fn 96; refine (rank_fn _ A1 c1 l1 x _ HLN.out.2.2 ?hcell ?hread HC1.out).mono ?_; (case hcell => exact hxc); (case hread => repeat (first | exact HRc.out | (with_reducible refine Kd.C_drewN ?_ _) | (with_reducible refine Kd.C_drew ?_))); rw [HK.out]; rintro e w' ⟨rfl, ⟨nd, rfl⟩⟩)
                go_roundg (s.length - (j + 1))
                case measure => have := HNj.out; have := HLTj.out; omega
                case rel =>
                  refine ⟨j + 1, cn, min least rk, by first | rfl | (rw [HWC.out]), congrArg (Value.int .i64) (by omega), by rw [HWJ.out], ⟨by have := HLTj.out; omega, Nat.le_refl _⟩, ⟨?_⟩, ⟨hxc⟩, ⟨by repeat (first | (with_reducible first | exact HB.out | apply pw_below_drewN | apply below_drew1) | exact HB.out)⟩⟩
                  have hs := HSj.out
                  rw [HDj.out] at hs
                  have hb : badN l1 least x = false := by unfold badN; rw [HK.out]; rw [decide_eq_false H1.out, decide_eq_false H2.out, Bool.false_and]; rfl
                  simp only [bRow, hb, HK.out, if_true, Bool.false_eq_true, if_false] at hs
                  omega
          · have c2b : decide ((j : Int) < (s.length : Int)) = false := decide_eq_false (by omega)
            have c2n : decide (j < s.length) = false := decide_eq_false hj
            have hE : s.drop j = [] := List.drop_of_length_le (by omega)
            have HE := Aside0.mk hE
            have hwi : wrap64 ((i : Int) + 1) = ((i + 1 : Nat) : Int) := by unfold wrap64; have := HLT.out; have := HLN.out.1; omega
            have HWI := Aside0.mk hwi
            clear hj hE hwi
            go_wp2
            go_roundg (l0_0.length - (i + 1))
            case measure => have := HN.out; have := HLT.out; omega
            case rel =>
              refine ⟨i + 1, cn, rfl, by rw [HWI.out], ⟨by have := HLT.out; omega, Nat.le_refl _⟩, ⟨?_⟩, HX, HB⟩
              have := HSj.out
              rw [HE.out] at this
              simpa [bRow] using this
      · have c1b : decide ((i : Int) < (l0_0.length : Int)) = false := decide_eq_false (by omega)
        have c1n : decide (i < l0_0.length) = false := decide_eq_false hlt
        have hE : l0_0.drop i = [] := List.drop_of_length_le (by omega)
        have hs := HS.out
        rw [hE] at hs
        simp only [bAll, Nat.add_zero] at hs
        have HE := Aside0.mk hs
        clear hlt hE hs
        go_wp2
        go_ret
        exact ⟨by rw [HE.out]; rfl, HB.out⟩
  · rw [if_neg hlen] at h
    cases h
end Go.Proofs.Ytagbfaacklilbaa.X
