/- The program's manifestText, walked: a strings.Builder to which each container's text and a newline are written. The library's copyCheck and WriteString are walked as this translation has them. -/
import Derived.Test.YtfindomajbjacaaGreatDoorX0
import Derived.Test.YtfindomajbjacaaGreatDoorLaid
import Derived.Test.YtfindomajbjacaaGreatDoorShelf
import Derived.Test.YtfindomajbjacaaGreatDoorFbCText
import Derived.Lib.Builder
import Derived.Lib.AppendStr
import Derived.Lib.UnsafeStr
import Derived.Lib.Walk
import Derived.WalkKit
import Derived.Laws.Externs
import Derived.Deep.LoopGhost
namespace Go.Proofs.YtfindomajbjacaaGreatDoor.X
open Go.RowKit Go.Proofs.YtfindomajbjacaaGreatDoorW.PrintWords Go.Proofs.YtfindomajbjacaaGreatDoorW.PrintLast Go.Proofs.YtfindomajbjacaaGreatDoorW.PrintMore
set_option linter.unusedVariables false
set_option linter.unusedSimpArgs false

theorem builder_stays {T e : TypeId} {B b : Nat} {bs : List Value} {w w' : World} (h : Lib.IsBuilder T e B b bs w) (hb : Below w.heap.size w w') : Lib.IsBuilder T e B b bs w' := by
  have one : ∀ p, Lib.BuilderAt T e B b p bs w → Lib.BuilderAt T e B b p bs w' := by
    intro p h
    have hlt := h.lt
    obtain ⟨hB, v, hv, hown, hne⟩ := h
    refine ⟨hB, v, (hb.block b hlt).trans hv, hown.kept (row := none) ⟨hb.os, hb.tape, hb.output, hb.size, fun k hk _ => hb.block k hk⟩ ?_, hne⟩
    cases hk : v.ownBlock with
    | none => exact .inl rfl
    | some k => exact .inr (by simp)
  rcases h with h | h
  · exact .inl (one _ h)
  · exact .inr (one _ h)

set_option maxHeartbeats 1000000 in
set_option maxRecDepth 100000 in
theorem copyCheck_used (b : Nat) (w : World) (h0 : w.cell? ⟨b, 0, none⟩ = some (.pointer (some ⟨b, 0, none⟩))) :
    Calls Tryz.prog 102 #[.pointer (some ⟨b, 0, none⟩)] w fun e w' => e = .returned (.tuple #[]) ∧ w' = w := by
  obtain ⟨j, hj, _⟩ := Option.map_eq_some_iff.1 (show (Tryz.prog.info? 99).map (·.size) = some 2 by kernel_rfl)
  go_enter Tryz.func102, Tryz.ntmps102
  go_wp2
  rw [Lib.run_neq_ptr_same w _ Tryz.underlying97 hj]
  go_wp2
  go_end0
  exact ⟨rfl, rfl⟩

set_option maxHeartbeats 1000000 in
set_option maxRecDepth 100000 in
theorem copyCheck_fresh (b : Nat) (w : World) (h0 : w.cell? ⟨b, 0, none⟩ = some (.pointer none)) (hsh : w.shape? b = some (99, 2)) (hfz : w.frozen? ⟨b, 0, none⟩ = false) :
    Calls Tryz.prog 102 #[.pointer (some ⟨b, 0, none⟩)] w fun e w' => e = .returned (.tuple #[]) ∧ w' = w.setCell ⟨b, 0, none⟩ (.pointer (some ⟨b, 0, none⟩)) := by
  obtain ⟨j, hj, hjs⟩ := Option.map_eq_some_iff.1 (show (Tryz.prog.info? 99).map (·.size) = some 2 by kernel_rfl)
  go_enter Tryz.func102, Tryz.ntmps102
  go_wp2
  rw [Lib.run_to_unsafe w ⟨b, 0, none⟩ Tryz.underlying97 Tryz.underlying126 hj (by rw [hjs]; decide) hsh (Nat.zero_lt_succ 1)]
  simp only [Result.andThen]
  rw [Oper.upon_value]
  go_wp2
  rw [run_callFunc_extern Tryz.func122 (by kernel_rfl) (by kernel_rfl) (by kernel_rfl) (e := Extern.AbiNoEscape.same) (by kernel_rfl)]
  rw [Lib.run_noEscape]
  simp only [Result.andThen]
  rw [Oper.upon_value]
  go_wp2
  rw [Lib.run_from_unsafe w ⟨b, 0, none⟩ Tryz.underlying126 Tryz.underlying97 hj hsh (by kernel_rfl)]
  simp only [Result.andThen]
  rw [Oper.upon_value]
  go_wp2
  go_end0
  exact ⟨rfl, rfl⟩
theorem copyCheck (B b : Nat) (bs : List Value) (w : World) (h : Lib.IsBuilder 99 5 B b bs w) :
    Calls Tryz.prog 102 #[.pointer (some ⟨b, 0, none⟩)] w fun e w' => e = .returned (.tuple #[]) ∧ (Lib.BuilderAt 99 5 B b (.pointer (some ⟨b, 0, none⟩)) bs w' ∧ Below B w w') := by
  rcases h with h | h
  · refine (copyCheck_fresh b w h.cell0 h.shape h.frozen0).mono ?_
    rintro e w' ⟨rfl, rfl⟩
    exact ⟨rfl, h.used _, (Below.refl B w).setCell (p := ⟨b, 0, none⟩) h.1 _⟩
  · refine (copyCheck_used b w h.cell0).mono ?_
    rintro e w' ⟨rfl, rfl⟩
    exact ⟨rfl, h, Below.refl B _⟩

set_option maxHeartbeats 2000000 in
set_option maxRecDepth 100000 in
theorem writeString (B b : Nat) (bs : List Value) (s : ByteArray) (w : World) (h : Lib.IsBuilder 99 5 B b bs w) (hlen : bs.length + s.size ≤ 140737488355328) (hBw : B ≤ w.heap.size) :
    Calls Tryz.prog 81 #[.pointer (some ⟨b, 0, none⟩), .string s] w fun e w' => e = .returned (.tuple #[.int .i64 s.size, .nilIface]) ∧ (Lib.BuilderAt 99 5 B b (.pointer (some ⟨b, 0, none⟩)) (bs ++ Lib.strCells s) w' ∧ Below B w w') := by
  obtain ⟨i0, hi, hz0, hz1, hz2⟩ := info_parts (show (Tryz.prog.info? 5).map (fun i => (i.zero, i.size, i.bytes)) = some (some (.int .u8 0), 1, 1) by kernel_rfl)
  go_enter Tryz.func81, Tryz.ntmps81
  go_wp2_with (go_at_call 102; refine (copyCheck B b bs _ h).mono ?_)
  rintro e w1 ⟨rfl, h1, hb1⟩
  obtain ⟨hB, v, hbk, hown, hne⟩ := h1
  have c0 : w1.cell? ⟨b, 0, none⟩ = some (.pointer (some ⟨b, 0, none⟩)) := by rw [Lib.cell_of_heap hbk]; rfl
  have c1 : w1.cell? ⟨b, 1, none⟩ = some v := by rw [Lib.cell_of_heap hbk]; rfl
  go_wp2_with (at_builtin; refine Lib.wpList_append_own_string _ rfl _ _ 22 9 rfl B 5 i0 Tryz.underlying22 Tryz.underlying9 hi hz0 hz1 hz2 _ _ _ rfl hown s rfl ?c3 ?c4 ?c5 ?_)
  case c3 => unfold maxLen; omega
  case c4 => omega
  case c5 => have := hb1.size; omega
  intro v' w2 hown' hgrow _
  have hlt : b < w1.heap.size := by
    rcases Nat.lt_or_ge b w1.heap.size with h' | h'
    · exact h'
    · simp [Array.getElem?_eq_none h'] at hbk
  have hb2 : w2.heap[b]? = some (.cells #[.pointer (some ⟨b, 0, none⟩), v] 99 (0, 0)) := by
    rw [hgrow.block b hlt (fun e => hne e.symm)]
    exact hbk
  have d0 : w2.cell? ⟨b, 0, none⟩ = some (.pointer (some ⟨b, 0, none⟩)) := by rw [Lib.cell_of_heap hb2]; rfl
  have d1 : w2.cell? ⟨b, 1, none⟩ = some v := by rw [Lib.cell_of_heap hb2]; rfl
  have f1 : w2.frozen? ⟨b, 1, none⟩ = false := Lib.frozen_of_heap hb2 1
  obtain ⟨ao, n', cap, rfl⟩ : ∃ ao n' cap, v' = .slice ao n' cap := by
    rcases hown'.2 with ⟨hv, _⟩ | ⟨g, cap, cur, hv, _⟩
    · exact ⟨_, _, _, hv⟩
    · exact ⟨_, _, _, hv⟩
  go_wp2
  go_ret2
  refine ⟨rfl, ?_, ?_⟩
  · exact Lib.BuilderAt.put (T := 99) (e := 5) hB hb2 (bs' := bs ++ Lib.strCells s) (by simpa [Lib.strCells_length] using hown') (by decide)
  · exact (hb1.grown hgrow (by have := hb1.size; omega) (fun k hk => (hown.lt k hk).1)).setCell (p := ⟨b, 1, none⟩) hB _

/-- The bytes that stand in the builder behind the containers of the list. -/
def manB : List UInt8 → List S50 → Option (List UInt8)
  | acc, [] => some acc
  | acc, x :: r => (impl_containerText.f x.f0 x.f1 x.f2 x.f3 x.f4).bind fun t => if t.size ≤ 1000000000 ∧ acc.length ≤ 100000000000 then manB (acc ++ (t ++ (⟨#[10]⟩ : ByteArray)).data.toList) r else none
def impl_manifestText.f (l0 : List S50) : Option ByteArray := (manB [] l0).map fun l => ⟨l.toArray⟩
theorem newline_size : (⟨#[10]⟩ : ByteArray).size = 1 := rfl
theorem strCells_eq (s : ByteArray) : Lib.strCells s = Lib.byteCells s.data.toList := by
  simp [Lib.strCells, Lib.byteCells]
theorem byteCells_append (a b : List UInt8) : Lib.byteCells (a ++ b) = Lib.byteCells a ++ Lib.byteCells b := by
  simp [Lib.byteCells]
set_option maxHeartbeats 4000000 in
set_option maxRecDepth 100000 in
theorem impl_manifestText.calls (A0 : Option Addr) (c0 : Nat) (l0 : List S50) (r : ByteArray) (w : World) (hr0 : Kd.C k50 w A0 l0.length l0) (hc0 : l0.length ≤ c0) (hL : Laid w) (h : impl_manifestText.f l0 = some r) :
    Calls Tryz.prog 56 #[.slice A0 l0.length c0] w fun e w' => e = .returned (.string r) ∧ Below w.heap.size w w' := by
  have huC := Tryz.underlying50
  obtain ⟨bsR, hbs, rfl⟩ := Option.map_eq_some_iff.mp h
  have HF := Aside0.mk hbs
  have HR0 := Aside0.mk hr0
  have HM := Aside0.mk (Kd.C_max hr0)
  have HL := Aside0.mk hL
  have HI0 := Aside0.mk (Lib.fresh_isBuilder 99 5 w)
  have HB0 := Aside0.mk ((Below.refl w.heap.size w).alloc (Nat.le_refl _) (.cells #[.pointer none, .slice none 0 0] 99))
  clear h hbs hr0 hc0 hL
  go_enter Tryz.func56, Tryz.ntmps56
  go_wp2
  go_loopg [8] l0.length (fun kq v8 w' => ∃ (n : Nat) (acc : List UInt8), v8 = .int .i64 (n : Int) ∧ Aside0 (n ≤ l0.length ∧ l0.length - n ≤ kq) ∧ Aside0 (manB acc (l0.drop n) = some bsR) ∧ Aside0 (Lib.IsBuilder 99 5 w.heap.size w.heap.size (Lib.byteCells acc) w') ∧ Aside0 (Below w.heap.size w w'))
  case atStart => exact ⟨0, [], rfl, ⟨Nat.zero_le _, by omega⟩, ⟨by simpa using HF.out⟩, ⟨HI0.out⟩, HB0⟩
  case round =>
    clear HI0 HB0 HF
    obtain ⟨n, acc, rfl, HN, HF, HI, HB⟩ := hrel
    by_cases hlt : n < l0.length
    · have c3b0 : decide ((n : Int) < (l0.length : Int)) = true := decide_eq_true (by omega)
      have c3b1 : decide (n < l0.length) = true := decide_eq_true hlt
      have hD : l0.drop n = rd_T50 l0 (n : Int) :: l0.drop (n + 1) := by
        unfold rd_T50
        rw [Int.toNat_natCast, List.getD_eq_getElem?_getD, List.getElem?_eq_getElem hlt]
        exact List.drop_eq_getElem_cons hlt
      obtain ⟨ad, e, h0, h1, h2, h3, h4⟩ := at_T50 HR0.out (n : Int) (by omega) (by omega)
      cases e
      rw [Int.toNat_natCast] at h0 h1 h2 h3 h4
      replace h0 := (HB.out.cell (World.block_lt_of_cell? w _ h0)).trans h0
      replace h1 := (HB.out.cell (World.block_lt_of_cell? w _ h1)).trans h1
      replace h2 := (HB.out.cell (World.block_lt_of_cell? w _ h2)).trans h2
      replace h3 := (HB.out.cell (World.block_lt_of_cell? w _ h3)).trans h3
      replace h4 := (HB.out.cell (World.block_lt_of_cell? w _ h4)).trans h4
      have hF := HF.out
      rw [hD] at hF
      clear HF hD
      generalize rd_T50 l0 (n : Int) = x at hF h0 h1 h2 h3 h4
      obtain ⟨t, ht, hF⟩ := Option.bind_eq_some_iff.mp hF
      by_cases hs : t.size ≤ 1000000000 ∧ acc.length ≤ 100000000000
      · rw [if_pos hs] at hF
        have HF := Aside0.mk hF
        have HT := Aside0.mk ht
        have hts : (9223372036854775807 < t.size + 1) = False := eq_false (by omega)
        have hts2 : decide (9223372036854775807 < (t.size : Int) + 1) = false := decide_eq_false (by omega)
        have HS := Aside0.mk hs
        have hw : wrap64 ((n : Int) + 1) = ((n + 1 : Nat) : Int) := by unfold wrap64; have := HM.out; omega
        have HW := Aside0.mk hw
        clear hw hF ht hs
        have HLT := Aside0.mk hlt
        have p4 : (0 ≤ (n : Int)) = True := eq_true (by omega)
        have q4 : ((n : Int) < (l0.length : Int)) = True := eq_true (by omega)
        clear hlt
        have HA := Aside0.mk ((Below.refl wr.heap.size wr).alloc (Nat.le_refl _) (.cells #[.string x.f0, .int .i64 x.f1, .int .i64 x.f2, .int .i64 x.f3, .int .i64 x.f4] 50))
        go_wp2_with (go_at_call 66; refine (impl_containerText.calls x.f0 x.f1 x.f2 x.f3 x.f4 t _ (Laid.below HL.out (HB.out.trans (HA.out.mono HB.out.size))) HT.out).mono ?_; rintro e w4 ⟨rfl, hb⟩; have HA2 := Aside0.mk (below_then HA.out HA.out.size hb); clear hb)
        go_wp2_with (go_at_call 81; refine (writeString w.heap.size w.heap.size (Lib.byteCells acc) _ _ (builder_stays HI.out HA2.out) ?hl (Nat.le_trans HB.out.size HA2.out.size)).mono ?_; (case hl => have h_ := HS.out; simp only [Lib.byteCells_length, ByteArray.size_append, newline_size]; omega); rintro e w5 ⟨rfl, hw5, hb5⟩; have HI5 := Aside0.mk hw5; have HB5 := Aside0.mk hb5; clear hw5 hb5)
        go_roundg (l0.length - (n + 1))
        case measure => have := HN.out; have := HLT.out; omega
        case rel =>
          refine ⟨n + 1, acc ++ (t ++ (⟨#[10]⟩ : ByteArray)).data.toList, by rw [HW.out], ⟨by have := HLT.out; omega, Nat.le_refl _⟩, HF, ⟨.inr ?_⟩, ⟨(HB.out.trans (HA2.out.mono HB.out.size)).trans HB5.out⟩⟩
          rw [byteCells_append, ← strCells_eq]
          exact HI5.out
      · rw [if_neg hs] at hF
        cases hF
    · have c3b0 : decide ((n : Int) < (l0.length : Int)) = false := decide_eq_false (by omega)
      have c3b1 : decide (n < l0.length) = false := decide_eq_false hlt
      have hE := HF.out
      rw [show l0.drop n = [] from List.drop_of_length_le (by omega)] at hE
      obtain rfl := Option.some.inj hE
      clear hlt hE
      go_wp2_with (go_at_call 82; refine (Tryz.Builder_String_any w.heap.size w.heap.size _ _ HI.out HB.out.size).mono ?_; rintro e w3 ⟨rfl, hb⟩; have HB3 := Aside0.mk (HB.out.trans hb); clear hb)
      go_ret
      exact ⟨rfl, HB3.out⟩
end Go.Proofs.YtfindomajbjacaaGreatDoor.X
