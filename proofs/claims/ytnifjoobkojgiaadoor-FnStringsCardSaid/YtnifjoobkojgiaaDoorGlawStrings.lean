/- The law FnStrings, walked by hand: the program's and the reference's answers agree; what is written is read back; a changed byte is found. -/
import Derived.Test.YtnifjoobkojgiaaDoorLaidE
import Derived.Test.YtnifjoobkojgiaaDoorGParseInt
import Derived.Test.YtnifjoobkojgiaaDoorFspecDrawFormatInt
import Derived.Test.YtnifjoobkojgiaaDoorFimplFormatInt
import Derived.Test.YtnifjoobkojgiaaDoorFspecFormatInt
import Derived.Test.YtnifjoobkojgiaaDoorFspecDrawParseInt
import Derived.Test.YtnifjoobkojgiaaDoorFspecParseInt
import Derived.Test.YtnifjoobkojgiaaDoorFspecDrawAppendChecksum
import Derived.Test.YtnifjoobkojgiaaDoorFspecAppendChecksum
import Derived.Test.YtnifjoobkojgiaaDoorFimplAppendChecksum
import Derived.Test.YtnifjoobkojgiaaDoorFimplVerifyChecksum
import Derived.Test.YtnifjoobkojgiaaDoorFbV
import Derived.Test.YtnifjoobkojgiaaDoorMVer
import Derived.Test.YtnifjoobkojgiaaDoorMStrD
namespace Go.Proofs.YtnifjoobkojgiaaDoor.X
open Go.RowKit Go.Lib Go.Proofs.YtnifjoobkojgiaaDoorW.PrintWords Go.Proofs.YtnifjoobkojgiaaDoorW.PrintLast Go.Proofs.YtnifjoobkojgiaaDoorW.PrintMore
set_option linter.unusedVariables false
set_option linter.unusedSimpArgs false
theorem bytes_frozen (w : World) (e : TypeId) (s : ByteArray) (j : Nat) (hj : j < s.size) : (Lib.bytesWorld w e s).frozen? ⟨w.heap.size, j, none⟩ = false := by
  have h : (Lib.bytesCells w e s).size ≥ s.size := by unfold Lib.bytesCells; simp
  unfold World.frozen?
  rw [Lib.bytesWorld_at_new]
  simp
  omega
theorem reads_put {w : World} {g n : Nat} {xs : List Int} (h : ReadsInt w .u8 (some ⟨g, 0, none⟩) n xs) (q : Nat) (hq : q < n) (v : Int) : ReadsInt (w.setCell ⟨g, q, none⟩ (.int .u8 v)) .u8 (some ⟨g, 0, none⟩) n (xs.set q v) := by
  obtain ⟨h1, h2, h3⟩ := h
  refine ⟨by rw [List.length_set]; exact h1, h2, fun hn => ⟨_, rfl, fun j hj => ?_⟩⟩
  obtain ⟨ad, e, hc⟩ := h3 hn
  cases e
  have hj2 := hc j hj
  rw [Go.Proofs.YtnifjoobkojgiaaDoorW.PrintWords.add_plain] at hj2 ⊢
  by_cases e : q = j
  · subst e
    rw [World.cell?_setCell_same _ _ _ hj2, List.getD_eq_getElem?_getD, List.getElem?_set_self (by omega)]
    rfl
  · rw [World.cell?_setCell_other _ _ _ _ (by intro e2; injection e2 with _ e3 _; exact e e3), hj2, List.getD_eq_getElem?_getD, List.getD_eq_getElem?_getD, List.getElem?_set_ne e]
theorem laidE_one {w : World} (h : LaidE w) : Laid w := h.1
set_option maxHeartbeats 8000000 in
set_option maxRecDepth 100000 in
theorem strings_big (A0 : Option Addr) (c0 : Nat) (l0 : List Int) (W : World) (hr0 : Kd.C (Kd.int .u8) W A0 l0.length l0) (hc0 : l0.length ≤ c0) (eb : laws_vBig.f l0 = some true) :
    Calls Tryd.prog 11 #[.slice A0 l0.length c0] W fun e w' => e = .returned (.bool true) ∧ Below W.heap.size W w' := by
  have HR := Aside0.mk hr0
  have HC := Aside0.mk hc0
  have EB := Aside0.mk eb
  have HB := Aside0.mk (Below.refl W.heap.size W)
  clear hr0 hc0 eb
  go_enter Tryd.func11, Tryd.ntmps11
  go_wp2_with (go_at_call 27; with_reducible refine (laws_vBig.calls A0 c0 l0 true _ (Kd.C_below HR.out HB.out) HC.out EB.out).mono ?_; rintro e w1 ⟨rfl, ⟨⟨nd, rfl⟩⟩⟩; replace HB := Aside0.mk (pw_below_drewN HB.out nd))
  go_ret
  exact ⟨rfl, HB.out⟩
set_option maxHeartbeats 8000000 in
set_option maxRecDepth 100000 in
theorem strings_bare_true (KF : Nat) (A0 : Option Addr) (c0 : Nat) (l0 : List Int) (n m back : Int) (s t x y : ByteArray) (fine there : Bool) (W : World) (hr0 : Kd.C (Kd.int .u8) W A0 l0.length l0) (hc0 : l0.length ≤ c0) (hL : LaidE W)
    (eb : laws_vBig.f l0 = some false) (e1 : spec_DrawFormatInt.f l0 = some n) (e2 : impl_FormatInt.f n = some (s, true)) (e3 : spec_FormatInt.f KF n = some (s, true)) (e4 : spec_DrawParseInt.f KF l0 = some t) (e5 : impl_ParseInt.f t = some (m, fine)) (e6 : spec_ParseInt.f KF t = some (m, fine))
    (e7 : spec_DrawAppendChecksum.f l0 = some x) (e8 : impl_AppendChecksum.f KF x = some ((⟨#[]⟩ : ByteArray), false)) (e9 : spec_AppendChecksum.f KF x = some ((⟨#[]⟩ : ByteArray), false)) (e10 : impl_ParseInt.f s = some (n, true)) :
    Calls Tryd.prog 11 #[.slice A0 l0.length c0] W fun e w' => e = .returned (.bool true) ∧ Below W.heap.size W w' := by
  have HR := Aside0.mk hr0
  have HC := Aside0.mk hc0
  have HL := Aside0.mk hL
  have EB := Aside0.mk eb
  have E1 := Aside0.mk e1
  have E2 := Aside0.mk e2
  have E3 := Aside0.mk e3
  have E4 := Aside0.mk e4
  have E5 := Aside0.mk e5
  have E6 := Aside0.mk e6
  have E7 := Aside0.mk e7
  have E8 := Aside0.mk e8
  have E9 := Aside0.mk e9
  have E10 := Aside0.mk e10
  have HB := Aside0.mk (Below.refl W.heap.size W)
  clear hr0 hc0 hL eb e1 e2 e3 e4 e5 e6 e7 e8 e9 e10
  go_enter Tryd.func11, Tryd.ntmps11
  go_wp2_with (first | (go_at_call 27; with_reducible refine (laws_vBig.calls A0 c0 l0 false _ (Kd.C_below HR.out HB.out) HC.out EB.out).mono ?_; rintro e w1 ⟨rfl, ⟨⟨nd, rfl⟩⟩⟩; replace HB := Aside0.mk (pw_below_drewN HB.out nd)) | (go_at_call 41; with_reducible refine (spec_DrawFormatInt.calls A0 c0 l0 n _ (Kd.C_below HR.out HB.out) HC.out E1.out).mono ?_; rintro e w1 ⟨rfl, hb⟩; replace HB := Aside0.mk (below_then HB.out HB.out.size hb); clear hb) | (go_at_call 13; with_reducible refine (impl_FormatInt.calls n s true _ (laidE_one (LaidE.below HL.out HB.out)) E2.out).mono ?_; rintro e w1 ⟨rfl, hb⟩; replace HB := Aside0.mk (below_then HB.out HB.out.size hb); clear hb) | (go_at_call 12; with_reducible refine (spec_FormatInt.calls KF n s true _ E3.out).mono ?_; rintro e w1 ⟨rfl, hb⟩; replace HB := Aside0.mk (below_then HB.out HB.out.size hb); clear hb) | (go_at_call 42; with_reducible refine (spec_DrawParseInt.calls KF A0 c0 l0 t _ (Kd.C_below HR.out HB.out) HC.out E4.out).mono ?_; rintro e w1 ⟨rfl, hb⟩; replace HB := Aside0.mk (below_then HB.out HB.out.size hb); clear hb) | (go_at_call 24; with_reducible refine (impl_ParseInt.calls t m fine _ (LaidE.below HL.out HB.out) E5.out).mono ?_; rintro e w1 ⟨rfl, hb⟩; replace HB := Aside0.mk (below_then HB.out HB.out.size hb); clear hb) | (go_at_call 23; with_reducible refine (spec_ParseInt.calls KF t m fine _ E6.out).mono ?_; rintro e w1 ⟨rfl, hb⟩; replace HB := Aside0.mk (below_then HB.out HB.out.size hb); clear hb) | (go_at_call 43; with_reducible refine (spec_DrawAppendChecksum.calls A0 c0 l0 x _ (Kd.C_below HR.out HB.out) HC.out E7.out).mono ?_; rintro e w1 ⟨rfl, hb⟩; replace HB := Aside0.mk (below_then HB.out HB.out.size hb); clear hb) | (go_at_call 20; with_reducible refine (impl_AppendChecksum.calls KF x (⟨#[]⟩ : ByteArray) false _ (laidE_one (LaidE.below HL.out HB.out)) E8.out).mono ?_; rintro e w1 ⟨rfl, hb⟩; replace HB := Aside0.mk (below_then HB.out HB.out.size hb); clear hb) | (go_at_call 19; with_reducible refine (spec_AppendChecksum.calls KF x (⟨#[]⟩ : ByteArray) false _ E9.out).mono ?_; rintro e w1 ⟨rfl, hb⟩; replace HB := Aside0.mk (below_then HB.out HB.out.size hb); clear hb) | (go_at_call 24; with_reducible refine (impl_ParseInt.calls s n true _ (LaidE.below HL.out HB.out) E10.out).mono ?_; rintro e w1 ⟨rfl, hb⟩; replace HB := Aside0.mk (below_then HB.out HB.out.size hb); clear hb))
  go_ret
  exact ⟨rfl, HB.out⟩
set_option maxHeartbeats 8000000 in
set_option maxRecDepth 100000 in
theorem strings_bare_false (KF : Nat) (A0 : Option Addr) (c0 : Nat) (l0 : List Int) (n m back : Int) (s t x y : ByteArray) (fine there : Bool) (W : World) (hr0 : Kd.C (Kd.int .u8) W A0 l0.length l0) (hc0 : l0.length ≤ c0) (hL : LaidE W)
    (eb : laws_vBig.f l0 = some false) (e1 : spec_DrawFormatInt.f l0 = some n) (e2 : impl_FormatInt.f n = some (s, false)) (e3 : spec_FormatInt.f KF n = some (s, false)) (e4 : spec_DrawParseInt.f KF l0 = some t) (e5 : impl_ParseInt.f t = some (m, fine)) (e6 : spec_ParseInt.f KF t = some (m, fine))
    (e7 : spec_DrawAppendChecksum.f l0 = some x) (e8 : impl_AppendChecksum.f KF x = some ((⟨#[]⟩ : ByteArray), false)) (e9 : spec_AppendChecksum.f KF x = some ((⟨#[]⟩ : ByteArray), false)) (e10 : impl_ParseInt.f s = some (back, there)) :
    Calls Tryd.prog 11 #[.slice A0 l0.length c0] W fun e w' => e = .returned (.bool true) ∧ Below W.heap.size W w' := by
  have HR := Aside0.mk hr0
  have HC := Aside0.mk hc0
  have HL := Aside0.mk hL
  have EB := Aside0.mk eb
  have E1 := Aside0.mk e1
  have E2 := Aside0.mk e2
  have E3 := Aside0.mk e3
  have E4 := Aside0.mk e4
  have E5 := Aside0.mk e5
  have E6 := Aside0.mk e6
  have E7 := Aside0.mk e7
  have E8 := Aside0.mk e8
  have E9 := Aside0.mk e9
  have E10 := Aside0.mk e10
  have HB := Aside0.mk (Below.refl W.heap.size W)
  clear hr0 hc0 hL eb e1 e2 e3 e4 e5 e6 e7 e8 e9 e10
  go_enter Tryd.func11, Tryd.ntmps11
  go_wp2_with (first | (go_at_call 27; with_reducible refine (laws_vBig.calls A0 c0 l0 false _ (Kd.C_below HR.out HB.out) HC.out EB.out).mono ?_; rintro e w1 ⟨rfl, ⟨⟨nd, rfl⟩⟩⟩; replace HB := Aside0.mk (pw_below_drewN HB.out nd)) | (go_at_call 41; with_reducible refine (spec_DrawFormatInt.calls A0 c0 l0 n _ (Kd.C_below HR.out HB.out) HC.out E1.out).mono ?_; rintro e w1 ⟨rfl, hb⟩; replace HB := Aside0.mk (below_then HB.out HB.out.size hb); clear hb) | (go_at_call 13; with_reducible refine (impl_FormatInt.calls n s false _ (laidE_one (LaidE.below HL.out HB.out)) E2.out).mono ?_; rintro e w1 ⟨rfl, hb⟩; replace HB := Aside0.mk (below_then HB.out HB.out.size hb); clear hb) | (go_at_call 12; with_reducible refine (spec_FormatInt.calls KF n s false _ E3.out).mono ?_; rintro e w1 ⟨rfl, hb⟩; replace HB := Aside0.mk (below_then HB.out HB.out.size hb); clear hb) | (go_at_call 42; with_reducible refine (spec_DrawParseInt.calls KF A0 c0 l0 t _ (Kd.C_below HR.out HB.out) HC.out E4.out).mono ?_; rintro e w1 ⟨rfl, hb⟩; replace HB := Aside0.mk (below_then HB.out HB.out.size hb); clear hb) | (go_at_call 24; with_reducible refine (impl_ParseInt.calls t m fine _ (LaidE.below HL.out HB.out) E5.out).mono ?_; rintro e w1 ⟨rfl, hb⟩; replace HB := Aside0.mk (below_then HB.out HB.out.size hb); clear hb) | (go_at_call 23; with_reducible refine (spec_ParseInt.calls KF t m fine _ E6.out).mono ?_; rintro e w1 ⟨rfl, hb⟩; replace HB := Aside0.mk (below_then HB.out HB.out.size hb); clear hb) | (go_at_call 43; with_reducible refine (spec_DrawAppendChecksum.calls A0 c0 l0 x _ (Kd.C_below HR.out HB.out) HC.out E7.out).mono ?_; rintro e w1 ⟨rfl, hb⟩; replace HB := Aside0.mk (below_then HB.out HB.out.size hb); clear hb) | (go_at_call 20; with_reducible refine (impl_AppendChecksum.calls KF x (⟨#[]⟩ : ByteArray) false _ (laidE_one (LaidE.below HL.out HB.out)) E8.out).mono ?_; rintro e w1 ⟨rfl, hb⟩; replace HB := Aside0.mk (below_then HB.out HB.out.size hb); clear hb) | (go_at_call 19; with_reducible refine (spec_AppendChecksum.calls KF x (⟨#[]⟩ : ByteArray) false _ E9.out).mono ?_; rintro e w1 ⟨rfl, hb⟩; replace HB := Aside0.mk (below_then HB.out HB.out.size hb); clear hb) | (go_at_call 24; with_reducible refine (impl_ParseInt.calls s back there _ (LaidE.below HL.out HB.out) E10.out).mono ?_; rintro e w1 ⟨rfl, hb⟩; replace HB := Aside0.mk (below_then HB.out HB.out.size hb); clear hb))
  go_ret
  exact ⟨rfl, HB.out⟩
set_option maxHeartbeats 8000000 in
set_option maxRecDepth 100000 in
theorem strings_full_true (KF : Nat) (A0 : Option Addr) (c0 : Nat) (l0 : List Int) (n m back : Int) (s t x y : ByteArray) (fine there : Bool) (W : World) (hr0 : Kd.C (Kd.int .u8) W A0 l0.length l0) (hc0 : l0.length ≤ c0) (hL : LaidE W)
    (eb : laws_vBig.f l0 = some false) (e1 : spec_DrawFormatInt.f l0 = some n) (e2 : impl_FormatInt.f n = some (s, true)) (e3 : spec_FormatInt.f KF n = some (s, true)) (e4 : spec_DrawParseInt.f KF l0 = some t) (e5 : impl_ParseInt.f t = some (m, fine)) (e6 : spec_ParseInt.f KF t = some (m, fine))
    (e7 : spec_DrawAppendChecksum.f l0 = some x) (e8 : impl_AppendChecksum.f KF x = some (y, true)) (e9 : spec_AppendChecksum.f KF x = some (y, true)) (e10 : impl_ParseInt.f s = some (n, true)) (v1 v2 b : Int) (z : ByteArray) (e11 : impl_VerifyChecksum.f KF y = some (x, true)) (e12 : laws_vAt.f l0 9 = some v1) (e13 : laws_vAt.f l0 10 = some v2) (hv1 : 0 ≤ v1) (hv2 : 0 ≤ v2 ∧ v2 ≤ 255) (hy : 0 < y.size) (hy2 : y.size ≤ 1000000) (q : Nat) (hq : (q : Int) = v1 % (y.size : Int)) (hq2 : q < y.size) (hbb : (bytesOf y).getD q 0 = b) (nb : Int) (hnb : Go.bits .xor .u8 b (IntKind.u8.wrap (wrap64 (1 + v2.tmod 255))) = nb) (e14 : impl_VerifyChecksum.f KF (strOfNums ((bytesOf y).set q nb)) = some (z, false)) :
    Calls Tryd.prog 11 #[.slice A0 l0.length c0] W fun e w' => e = .returned (.bool true) ∧ Below W.heap.size W w' := by
  have HR := Aside0.mk hr0
  have HC := Aside0.mk hc0
  have HL := Aside0.mk hL
  have EB := Aside0.mk eb
  have E1 := Aside0.mk e1
  have E2 := Aside0.mk e2
  have E3 := Aside0.mk e3
  have E4 := Aside0.mk e4
  have E5 := Aside0.mk e5
  have E6 := Aside0.mk e6
  have E7 := Aside0.mk e7
  have E8 := Aside0.mk e8
  have E9 := Aside0.mk e9
  have E10 := Aside0.mk e10
  have HB := Aside0.mk (Below.refl W.heap.size W)
  clear hr0 hc0 hL eb e1 e2 e3 e4 e5 e6 e7 e8 e9 e10
  have E11 := Aside0.mk e11
  have E12 := Aside0.mk e12
  have E13 := Aside0.mk e13
  have E14 := Aside0.mk e14
  have HQ := Aside0.mk hq
  have HNB := Aside0.mk hnb
  have HQ2 := Aside0.mk hq2
  have HBB := Aside0.mk hbb
  have HY := Aside0.mk hy
  have HY2 := Aside0.mk hy2
  have v20 := hv2.1
  have v21 := hv2.2
  clear hv2
  clear e11 e12 e13 e14 hq hnb hy2 hq2 hbb hy
  have kb := fun W => print_bytes (P := Tryd.prog) 9 35 5 Tryd.underlying9 Tryd.underlying35 Tryd.underlying5 y W
  go_enter Tryd.func11, Tryd.ntmps11
  go_upto_region 20 with (first | (go_at_call 27; with_reducible refine (laws_vBig.calls A0 c0 l0 false _ (Kd.C_below HR.out HB.out) HC.out EB.out).mono ?_; rintro e w1 ⟨rfl, ⟨⟨nd, rfl⟩⟩⟩; replace HB := Aside0.mk (pw_below_drewN HB.out nd)) | (go_at_call 41; with_reducible refine (spec_DrawFormatInt.calls A0 c0 l0 n _ (Kd.C_below HR.out HB.out) HC.out E1.out).mono ?_; rintro e w1 ⟨rfl, hb⟩; replace HB := Aside0.mk (below_then HB.out HB.out.size hb); clear hb) | (go_at_call 13; with_reducible refine (impl_FormatInt.calls n s true _ (laidE_one (LaidE.below HL.out HB.out)) E2.out).mono ?_; rintro e w1 ⟨rfl, hb⟩; replace HB := Aside0.mk (below_then HB.out HB.out.size hb); clear hb) | (go_at_call 12; with_reducible refine (spec_FormatInt.calls KF n s true _ E3.out).mono ?_; rintro e w1 ⟨rfl, hb⟩; replace HB := Aside0.mk (below_then HB.out HB.out.size hb); clear hb) | (go_at_call 42; with_reducible refine (spec_DrawParseInt.calls KF A0 c0 l0 t _ (Kd.C_below HR.out HB.out) HC.out E4.out).mono ?_; rintro e w1 ⟨rfl, hb⟩; replace HB := Aside0.mk (below_then HB.out HB.out.size hb); clear hb) | (go_at_call 24; with_reducible refine (impl_ParseInt.calls t m fine _ (LaidE.below HL.out HB.out) E5.out).mono ?_; rintro e w1 ⟨rfl, hb⟩; replace HB := Aside0.mk (below_then HB.out HB.out.size hb); clear hb) | (go_at_call 23; with_reducible refine (spec_ParseInt.calls KF t m fine _ E6.out).mono ?_; rintro e w1 ⟨rfl, hb⟩; replace HB := Aside0.mk (below_then HB.out HB.out.size hb); clear hb) | (go_at_call 43; with_reducible refine (spec_DrawAppendChecksum.calls A0 c0 l0 x _ (Kd.C_below HR.out HB.out) HC.out E7.out).mono ?_; rintro e w1 ⟨rfl, hb⟩; replace HB := Aside0.mk (below_then HB.out HB.out.size hb); clear hb) | (go_at_call 20; with_reducible refine (impl_AppendChecksum.calls KF x y true _ (laidE_one (LaidE.below HL.out HB.out)) E8.out).mono ?_; rintro e w1 ⟨rfl, hb⟩; replace HB := Aside0.mk (below_then HB.out HB.out.size hb); clear hb) | (go_at_call 19; with_reducible refine (spec_AppendChecksum.calls KF x y true _ E9.out).mono ?_; rintro e w1 ⟨rfl, hb⟩; replace HB := Aside0.mk (below_then HB.out HB.out.size hb); clear hb) | (go_at_call 24; with_reducible refine (impl_ParseInt.calls s n true _ (LaidE.below HL.out HB.out) E10.out).mono ?_; rintro e w1 ⟨rfl, hb⟩; replace HB := Aside0.mk (below_then HB.out HB.out.size hb); clear hb) | (go_at_call 22; with_reducible refine (impl_VerifyChecksum.calls KF y x true _ (laidE_one (LaidE.below HL.out HB.out)) E11.out).mono ?_; rintro e w1 ⟨rfl, hb⟩; replace HB := Aside0.mk (below_then HB.out HB.out.size hb); clear hb) | (go_at_call 44; with_reducible refine (laws_vAt.calls A0 c0 l0 9 v1 _ (Kd.C_below HR.out HB.out) HC.out E12.out).mono ?_; rintro e w1 ⟨rfl, ⟨⟨nd, rfl⟩⟩⟩; replace HB := Aside0.mk (pw_below_drewN HB.out nd)))
  go_upto_region 21 with (fail)
  have hbw := bytes_below HB.out HB.out.size 5 y
  have hrd := bytes_reads w1 5 y (by have := HY2.out; omega)
  have hfw := bytes_frozen w1 5 y q (by have := HQ2.out; omega)
  have hgw : W.heap.size ≤ w1.heap.size := HB.out.size
  generalize grownCap w1 y.size 0 5 = cap
  generalize w1.heap.size = g at hrd hfw hgw ⊢
  generalize Lib.bytesWorld w1 5 y = W5 at hbw hrd hfw ⊢
  replace HB := Aside0.mk hbw
  have HRD := Aside0.mk hrd
  have HGW := Aside0.mk hgw
  clear hbw hrd hgw kb
  have yz1 : (y.size = 0) = False := eq_false (by have := HY.out; omega)
  have yz0 : (y = ByteArray.empty) = False := eq_false (fun h => by have := HY.out; rw [h] at this; exact absurd this (by decide))
  go_upto_region 22 with (go_at_call 44; (with_reducible refine (laws_vAt.calls A0 c0 l0 9 v1 _ (Kd.C_below HR.out HB.out) HC.out E12.out).mono ?_); rintro e w3 ⟨rfl, ⟨⟨nd, rfl⟩⟩⟩; replace HB := Aside0.mk (pw_below_drewN HB.out nd); replace HRD := Aside0.mk (show ReadsInt (W5.drewN nd) .u8 (some ⟨g, 0, none⟩) y.size (bytesOf y) from HRD.out); replace hfw := (show (W5.drewN nd).frozen? ⟨g, q, none⟩ = false from hfw))
  generalize W5.drewN nd = W6 at HB HRD hfw ⊢
  rw [show v1 % (y.size : Int) = (q : Int) from HQ.out.symm]
  have hfq := hfw
  have hcq : W6.cell? ⟨g, q, none⟩ = some (.int .u8 b) := by
    obtain ⟨ad, e, hc⟩ := HRD.out.2.2 (by have := HY.out; omega)
    cases e
    have := hc q (by have := HQ2.out; omega)
    rw [Go.Proofs.YtnifjoobkojgiaaDoorW.PrintWords.add_plain] at this
    rw [this, HBB.out]
  have q0 : 0 ≤ (q : Int) := by omega
  have q1 : (q : Int) < (y.size : Int) := by have := HQ2.out; omega
  have y0 := HY.out
  clear hfw
  refine start_ (n := 14) (S := fun w' => w'.cell? ⟨g, q, none⟩ = some (.int .u8 b)) (ds := [13]) #[false, false, false, false, false, false, false, false, false, false, false, false, false, false] (by kernel_rfl) rfl rfl hcq (fun hHeld => ?_)
  replace HB := Aside0.mk (below_drew1 HB.out)
  replace HRD := Aside0.mk (show ReadsInt W6.drew .u8 (some ⟨g, 0, none⟩) y.size (bytesOf y) from HRD.out)
  replace hfq := (show W6.drew.frozen? ⟨g, q, none⟩ = false from hfq)
  clear hcq
  generalize W6.drew = W7 at HB HRD hfq hHeld ⊢
  refine pure_ (i := 0) (N := some 123) (v := ?_) (a' := ?_) #[true, false, false, false, false, false, false, false, false, false, false, false, false, false] rfl rfl (by kernel_rfl) (fun _ _ _ h => h) (Or.inl ⟨by rfl, ?_⟩) ?_ ?_
  rotate_left
  · intro w'
    go_simp
    with_reducible rfl
  rotate_left
  · simp only [Act.put, List.setIfInBounds_toArray, List.set_cons_zero, List.set_cons_succ, i64_w, i32_w]
    rfl
  refine pure_ (i := 1) (N := some 124) (v := ?_) (a' := ?_) #[true, true, false, false, false, false, false, false, false, false, false, false, false, false] rfl rfl (by kernel_rfl) (fun _ _ _ h => h) (Or.inl ⟨by rfl, ?_⟩) ?_ ?_
  rotate_left
  · intro w'
    go_simp
    with_reducible rfl
  rotate_left
  · simp only [Act.put, List.setIfInBounds_toArray, List.set_cons_zero, List.set_cons_succ, i64_w, i32_w]
    rfl
  refine pure_ (i := 2) (N := some 125) (v := ?_) (a' := ?_) #[true, true, true, false, false, false, false, false, false, false, false, false, false, false] rfl rfl (by kernel_rfl) (fun _ _ _ h => h) (Or.inl ⟨by rfl, ?_⟩) ?_ ?_
  rotate_left
  · intro w'
    go_simp
    with_reducible rfl
  rotate_left
  · simp only [Act.put, List.setIfInBounds_toArray, List.set_cons_zero, List.set_cons_succ, i64_w, i32_w]
    rfl
  refine pure_ (i := 3) (N := some 126) (v := ?_) (a' := ?_) #[true, true, true, true, false, false, false, false, false, false, false, false, false, false] rfl rfl (by kernel_rfl) (fun _ _ _ h => h) (Or.inl ⟨by rfl, ?_⟩) ?_ ?_
  rotate_left
  · intro w'
    go_simp
    with_reducible rfl
  rotate_left
  · simp only [Act.put, List.setIfInBounds_toArray, List.set_cons_zero, List.set_cons_succ, i64_w, i32_w]
    rfl
  refine pure_ (i := 4) (N := some 127) (v := ?_) (a' := ?_) #[true, true, true, true, true, false, false, false, false, false, false, false, false, false] rfl rfl (by kernel_rfl) (fun _ _ _ h => h) (Or.inl ⟨by rfl, ?_⟩) ?_ ?_
  rotate_left
  · intro w'
    go_simp
    with_reducible rfl
  rotate_left
  · simp only [Act.put, List.setIfInBounds_toArray, List.set_cons_zero, List.set_cons_succ, i64_w, i32_w]
    rfl
  refine take_ (i := 5) (N := some 128) (v := ?_) (a' := ?_) #[true, true, true, true, true, true, false, false, false, false, false, false, false, false] rfl rfl (by kernel_rfl) (fun _ _ _ h => h) (Or.inl ⟨by rfl, ?_⟩) hHeld ?_ ?_
  rotate_left
  · rintro w' s0_
    go_simp
    with_reducible rfl
  rotate_left
  · simp only [Act.put, List.setIfInBounds_toArray, List.set_cons_zero, List.set_cons_succ, i64_w, i32_w]
    rfl
  refine pure_ (i := 6) (N := some 129) (v := ?_) (a' := ?_) #[true, true, true, true, true, true, true, false, false, false, false, false, false, false] rfl rfl (by kernel_rfl) (fun _ _ _ h => h) (Or.inl ⟨by rfl, ?_⟩) ?_ ?_
  rotate_left
  · intro w'
    go_simp
    with_reducible rfl
  rotate_left
  · simp only [Act.put, List.setIfInBounds_toArray, List.set_cons_zero, List.set_cons_succ, i64_w, i32_w]
    rfl
  refine one_ (i := 7) (N := some 130) #[true, true, true, true, true, true, true, true, false, false, false, false, false, false] rfl rfl (by kernel_rfl) (by decide) (fun K hK => ?_)
  refine goes_ Tryd.func44 (by kernel_rfl) rfl #[.slice A0 l0.length c0, .int .i64 10] (by rfl) rfl rfl (by (try simp only [List.map_toArray, List.map_cons, List.map_nil]); first | done | rfl) ?_
  refine (laws_vAt.calls A0 c0 l0 10 v2 _ (Kd.C_below HR.out HB.out) HC.out E13.out).mono ?_
  rintro e w4 ⟨rfl, ⟨⟨nd, rfl⟩⟩⟩
  replace HB := Aside0.mk (pw_below_drewN HB.out nd)
  refine ⟨_, rfl, ?_⟩
  refine hK.out _ _ hHeld (fun hHeld => ?_)
  clear hK K
  refine norm_ (a' := ?_) ?_ ?_
  rotate_left
  · show Act.put _ (some 130) _ = _
    simp only [Act.put, List.setIfInBounds_toArray, List.set_cons_zero, List.set_cons_succ, i64_w, i32_w]
    rfl
  refine pure_ (i := 8) (N := some 131) (v := ?_) (a' := ?_) #[true, true, true, true, true, true, true, true, true, false, false, false, false, false] rfl rfl (by kernel_rfl) (fun _ _ _ h => h) (Or.inl ⟨by rfl, ?_⟩) ?_ ?_
  rotate_left
  · intro w'
    go_simp
    with_reducible rfl
  rotate_left
  · simp only [Act.put, List.setIfInBounds_toArray, List.set_cons_zero, List.set_cons_succ, i64_w, i32_w]
    rfl
  refine pure_ (i := 9) (N := some 132) (v := ?_) (a' := ?_) #[true, true, true, true, true, true, true, true, true, true, false, false, false, false] rfl rfl (by kernel_rfl) (fun _ _ _ h => h) (Or.inl ⟨by rfl, ?_⟩) ?_ ?_
  rotate_left
  · intro w'
    go_simp
    with_reducible rfl
  rotate_left
  · simp only [Act.put, List.setIfInBounds_toArray, List.set_cons_zero, List.set_cons_succ, i64_w, i32_w]
    rfl
  refine pure_ (i := 10) (N := some 133) (v := ?_) (a' := ?_) #[true, true, true, true, true, true, true, true, true, true, true, false, false, false] rfl rfl (by kernel_rfl) (fun _ _ _ h => h) (Or.inl ⟨by rfl, ?_⟩) ?_ ?_
  rotate_left
  · intro w'
    go_simp
    with_reducible rfl
  rotate_left
  · simp only [Act.put, List.setIfInBounds_toArray, List.set_cons_zero, List.set_cons_succ, i64_w, i32_w]
    rfl
  refine pure_ (i := 11) (N := some 134) (v := ?_) (a' := ?_) #[true, true, true, true, true, true, true, true, true, true, true, true, false, false] rfl rfl (by kernel_rfl) (fun _ _ _ h => h) (Or.inl ⟨by rfl, ?_⟩) ?_ ?_
  rotate_left
  · intro w'
    go_simp
    with_reducible rfl
  rotate_left
  · simp only [Act.put, List.setIfInBounds_toArray, List.set_cons_zero, List.set_cons_succ, i64_w, i32_w]
    rfl
  refine pure_ (i := 12) (N := some 135) (v := ?_) (a' := ?_) #[true, true, true, true, true, true, true, true, true, true, true, true, true, false] rfl rfl (by kernel_rfl) (fun _ _ _ h => h) (Or.inl ⟨by rfl, ?_⟩) ?_ ?_
  rotate_left
  · intro w'
    go_simp
    with_reducible rfl
  rotate_left
  · simp only [Act.put, List.setIfInBounds_toArray, List.set_cons_zero, List.set_cons_succ, i64_w, i32_w]
    rfl
  refine last_ (i := 13) (N := none) #[true, true, true, true, true, true, true, true, true, true, true, true, true, true] rfl rfl (by kernel_rfl) (by decide) (fun K hK => ?_)
  refine skip_ (w1 := ?_) (by rfl) rfl ?_ ?_
  rotate_left
  · go_simp
    rfl
  refine hK.out _ _ ?_
  clear hK K
  refine done_ (by kernel_rfl) ?_
  replace HRD := Aside0.mk (show ReadsInt (W7.drewN nd) .u8 (some ⟨g, 0, none⟩) y.size (bytesOf y) from HRD.out)
  rw [HNB.out]
  have hrd8 := reads_put HRD.out q HQ2.out nb
  have hb8 := below_set (j := q) (v := .int .u8 nb) HB.out HGW.out
  generalize (W7.drewN nd).setCell ⟨g, q, none⟩ (.int .u8 nb) = W8 at hrd8 hb8 ⊢
  have hcv := string_of_reads (P := Tryd.prog) (c := cap) Tryd.underlying35 Tryd.underlying5 Tryd.underlying9 hrd8
  replace HB := Aside0.mk hb8
  clear hrd8 hb8 HRD
  go_wp2_with (go_at_call 22; with_reducible refine (impl_VerifyChecksum.calls KF (strOfNums ((bytesOf y).set q nb)) z false _ (laidE_one (LaidE.below HL.out HB.out)) E14.out).mono ?_; rintro e w1 ⟨rfl, hb⟩; replace HB := Aside0.mk (below_then HB.out HB.out.size hb); clear hb)
  go_ret
  exact ⟨rfl, HB.out⟩
set_option maxHeartbeats 8000000 in
set_option maxRecDepth 100000 in
theorem strings_full_false (KF : Nat) (A0 : Option Addr) (c0 : Nat) (l0 : List Int) (n m back : Int) (s t x y : ByteArray) (fine there : Bool) (W : World) (hr0 : Kd.C (Kd.int .u8) W A0 l0.length l0) (hc0 : l0.length ≤ c0) (hL : LaidE W)
    (eb : laws_vBig.f l0 = some false) (e1 : spec_DrawFormatInt.f l0 = some n) (e2 : impl_FormatInt.f n = some (s, false)) (e3 : spec_FormatInt.f KF n = some (s, false)) (e4 : spec_DrawParseInt.f KF l0 = some t) (e5 : impl_ParseInt.f t = some (m, fine)) (e6 : spec_ParseInt.f KF t = some (m, fine))
    (e7 : spec_DrawAppendChecksum.f l0 = some x) (e8 : impl_AppendChecksum.f KF x = some (y, true)) (e9 : spec_AppendChecksum.f KF x = some (y, true)) (e10 : impl_ParseInt.f s = some (back, there)) (v1 v2 b : Int) (z : ByteArray) (e11 : impl_VerifyChecksum.f KF y = some (x, true)) (e12 : laws_vAt.f l0 9 = some v1) (e13 : laws_vAt.f l0 10 = some v2) (hv1 : 0 ≤ v1) (hv2 : 0 ≤ v2 ∧ v2 ≤ 255) (hy : 0 < y.size) (hy2 : y.size ≤ 1000000) (q : Nat) (hq : (q : Int) = v1 % (y.size : Int)) (hq2 : q < y.size) (hbb : (bytesOf y).getD q 0 = b) (nb : Int) (hnb : Go.bits .xor .u8 b (IntKind.u8.wrap (wrap64 (1 + v2.tmod 255))) = nb) (e14 : impl_VerifyChecksum.f KF (strOfNums ((bytesOf y).set q nb)) = some (z, false)) :
    Calls Tryd.prog 11 #[.slice A0 l0.length c0] W fun e w' => e = .returned (.bool true) ∧ Below W.heap.size W w' := by
  have HR := Aside0.mk hr0
  have HC := Aside0.mk hc0
  have HL := Aside0.mk hL
  have EB := Aside0.mk eb
  have E1 := Aside0.mk e1
  have E2 := Aside0.mk e2
  have E3 := Aside0.mk e3
  have E4 := Aside0.mk e4
  have E5 := Aside0.mk e5
  have E6 := Aside0.mk e6
  have E7 := Aside0.mk e7
  have E8 := Aside0.mk e8
  have E9 := Aside0.mk e9
  have E10 := Aside0.mk e10
  have HB := Aside0.mk (Below.refl W.heap.size W)
  clear hr0 hc0 hL eb e1 e2 e3 e4 e5 e6 e7 e8 e9 e10
  have E11 := Aside0.mk e11
  have E12 := Aside0.mk e12
  have E13 := Aside0.mk e13
  have E14 := Aside0.mk e14
  have HQ := Aside0.mk hq
  have HNB := Aside0.mk hnb
  have HQ2 := Aside0.mk hq2
  have HBB := Aside0.mk hbb
  have HY := Aside0.mk hy
  have HY2 := Aside0.mk hy2
  have v20 := hv2.1
  have v21 := hv2.2
  clear hv2
  clear e11 e12 e13 e14 hq hnb hy2 hq2 hbb hy
  have kb := fun W => print_bytes (P := Tryd.prog) 9 35 5 Tryd.underlying9 Tryd.underlying35 Tryd.underlying5 y W
  go_enter Tryd.func11, Tryd.ntmps11
  go_upto_region 20 with (first | (go_at_call 27; with_reducible refine (laws_vBig.calls A0 c0 l0 false _ (Kd.C_below HR.out HB.out) HC.out EB.out).mono ?_; rintro e w1 ⟨rfl, ⟨⟨nd, rfl⟩⟩⟩; replace HB := Aside0.mk (pw_below_drewN HB.out nd)) | (go_at_call 41; with_reducible refine (spec_DrawFormatInt.calls A0 c0 l0 n _ (Kd.C_below HR.out HB.out) HC.out E1.out).mono ?_; rintro e w1 ⟨rfl, hb⟩; replace HB := Aside0.mk (below_then HB.out HB.out.size hb); clear hb) | (go_at_call 13; with_reducible refine (impl_FormatInt.calls n s false _ (laidE_one (LaidE.below HL.out HB.out)) E2.out).mono ?_; rintro e w1 ⟨rfl, hb⟩; replace HB := Aside0.mk (below_then HB.out HB.out.size hb); clear hb) | (go_at_call 12; with_reducible refine (spec_FormatInt.calls KF n s false _ E3.out).mono ?_; rintro e w1 ⟨rfl, hb⟩; replace HB := Aside0.mk (below_then HB.out HB.out.size hb); clear hb) | (go_at_call 42; with_reducible refine (spec_DrawParseInt.calls KF A0 c0 l0 t _ (Kd.C_below HR.out HB.out) HC.out E4.out).mono ?_; rintro e w1 ⟨rfl, hb⟩; replace HB := Aside0.mk (below_then HB.out HB.out.size hb); clear hb) | (go_at_call 24; with_reducible refine (impl_ParseInt.calls t m fine _ (LaidE.below HL.out HB.out) E5.out).mono ?_; rintro e w1 ⟨rfl, hb⟩; replace HB := Aside0.mk (below_then HB.out HB.out.size hb); clear hb) | (go_at_call 23; with_reducible refine (spec_ParseInt.calls KF t m fine _ E6.out).mono ?_; rintro e w1 ⟨rfl, hb⟩; replace HB := Aside0.mk (below_then HB.out HB.out.size hb); clear hb) | (go_at_call 43; with_reducible refine (spec_DrawAppendChecksum.calls A0 c0 l0 x _ (Kd.C_below HR.out HB.out) HC.out E7.out).mono ?_; rintro e w1 ⟨rfl, hb⟩; replace HB := Aside0.mk (below_then HB.out HB.out.size hb); clear hb) | (go_at_call 20; with_reducible refine (impl_AppendChecksum.calls KF x y true _ (laidE_one (LaidE.below HL.out HB.out)) E8.out).mono ?_; rintro e w1 ⟨rfl, hb⟩; replace HB := Aside0.mk (below_then HB.out HB.out.size hb); clear hb) | (go_at_call 19; with_reducible refine (spec_AppendChecksum.calls KF x y true _ E9.out).mono ?_; rintro e w1 ⟨rfl, hb⟩; replace HB := Aside0.mk (below_then HB.out HB.out.size hb); clear hb) | (go_at_call 24; with_reducible refine (impl_ParseInt.calls s back there _ (LaidE.below HL.out HB.out) E10.out).mono ?_; rintro e w1 ⟨rfl, hb⟩; replace HB := Aside0.mk (below_then HB.out HB.out.size hb); clear hb) | (go_at_call 22; with_reducible refine (impl_VerifyChecksum.calls KF y x true _ (laidE_one (LaidE.below HL.out HB.out)) E11.out).mono ?_; rintro e w1 ⟨rfl, hb⟩; replace HB := Aside0.mk (below_then HB.out HB.out.size hb); clear hb) | (go_at_call 44; with_reducible refine (laws_vAt.calls A0 c0 l0 9 v1 _ (Kd.C_below HR.out HB.out) HC.out E12.out).mono ?_; rintro e w1 ⟨rfl, ⟨⟨nd, rfl⟩⟩⟩; replace HB := Aside0.mk (pw_below_drewN HB.out nd)))
  go_upto_region 21 with (fail)
  have hbw := bytes_below HB.out HB.out.size 5 y
  have hrd := bytes_reads w1 5 y (by have := HY2.out; omega)
  have hfw := bytes_frozen w1 5 y q (by have := HQ2.out; omega)
  have hgw : W.heap.size ≤ w1.heap.size := HB.out.size
  generalize grownCap w1 y.size 0 5 = cap
  generalize w1.heap.size = g at hrd hfw hgw ⊢
  generalize Lib.bytesWorld w1 5 y = W5 at hbw hrd hfw ⊢
  replace HB := Aside0.mk hbw
  have HRD := Aside0.mk hrd
  have HGW := Aside0.mk hgw
  clear hbw hrd hgw kb
  have yz1 : (y.size = 0) = False := eq_false (by have := HY.out; omega)
  have yz0 : (y = ByteArray.empty) = False := eq_false (fun h => by have := HY.out; rw [h] at this; exact absurd this (by decide))
  go_upto_region 22 with (go_at_call 44; (with_reducible refine (laws_vAt.calls A0 c0 l0 9 v1 _ (Kd.C_below HR.out HB.out) HC.out E12.out).mono ?_); rintro e w3 ⟨rfl, ⟨⟨nd, rfl⟩⟩⟩; replace HB := Aside0.mk (pw_below_drewN HB.out nd); replace HRD := Aside0.mk (show ReadsInt (W5.drewN nd) .u8 (some ⟨g, 0, none⟩) y.size (bytesOf y) from HRD.out); replace hfw := (show (W5.drewN nd).frozen? ⟨g, q, none⟩ = false from hfw))
  generalize W5.drewN nd = W6 at HB HRD hfw ⊢
  rw [show v1 % (y.size : Int) = (q : Int) from HQ.out.symm]
  have hfq := hfw
  have hcq : W6.cell? ⟨g, q, none⟩ = some (.int .u8 b) := by
    obtain ⟨ad, e, hc⟩ := HRD.out.2.2 (by have := HY.out; omega)
    cases e
    have := hc q (by have := HQ2.out; omega)
    rw [Go.Proofs.YtnifjoobkojgiaaDoorW.PrintWords.add_plain] at this
    rw [this, HBB.out]
  have q0 : 0 ≤ (q : Int) := by omega
  have q1 : (q : Int) < (y.size : Int) := by have := HQ2.out; omega
  have y0 := HY.out
  clear hfw
  refine start_ (n := 14) (S := fun w' => w'.cell? ⟨g, q, none⟩ = some (.int .u8 b)) (ds := [13]) #[false, false, false, false, false, false, false, false, false, false, false, false, false, false] (by kernel_rfl) rfl rfl hcq (fun hHeld => ?_)
  replace HB := Aside0.mk (below_drew1 HB.out)
  replace HRD := Aside0.mk (show ReadsInt W6.drew .u8 (some ⟨g, 0, none⟩) y.size (bytesOf y) from HRD.out)
  replace hfq := (show W6.drew.frozen? ⟨g, q, none⟩ = false from hfq)
  clear hcq
  generalize W6.drew = W7 at HB HRD hfq hHeld ⊢
  refine pure_ (i := 0) (N := some 123) (v := ?_) (a' := ?_) #[true, false, false, false, false, false, false, false, false, false, false, false, false, false] rfl rfl (by kernel_rfl) (fun _ _ _ h => h) (Or.inl ⟨by rfl, ?_⟩) ?_ ?_
  rotate_left
  · intro w'
    go_simp
    with_reducible rfl
  rotate_left
  · simp only [Act.put, List.setIfInBounds_toArray, List.set_cons_zero, List.set_cons_succ, i64_w, i32_w]
    rfl
  refine pure_ (i := 1) (N := some 124) (v := ?_) (a' := ?_) #[true, true, false, false, false, false, false, false, false, false, false, false, false, false] rfl rfl (by kernel_rfl) (fun _ _ _ h => h) (Or.inl ⟨by rfl, ?_⟩) ?_ ?_
  rotate_left
  · intro w'
    go_simp
    with_reducible rfl
  rotate_left
  · simp only [Act.put, List.setIfInBounds_toArray, List.set_cons_zero, List.set_cons_succ, i64_w, i32_w]
    rfl
  refine pure_ (i := 2) (N := some 125) (v := ?_) (a' := ?_) #[true, true, true, false, false, false, false, false, false, false, false, false, false, false] rfl rfl (by kernel_rfl) (fun _ _ _ h => h) (Or.inl ⟨by rfl, ?_⟩) ?_ ?_
  rotate_left
  · intro w'
    go_simp
    with_reducible rfl
  rotate_left
  · simp only [Act.put, List.setIfInBounds_toArray, List.set_cons_zero, List.set_cons_succ, i64_w, i32_w]
    rfl
  refine pure_ (i := 3) (N := some 126) (v := ?_) (a' := ?_) #[true, true, true, true, false, false, false, false, false, false, false, false, false, false] rfl rfl (by kernel_rfl) (fun _ _ _ h => h) (Or.inl ⟨by rfl, ?_⟩) ?_ ?_
  rotate_left
  · intro w'
    go_simp
    with_reducible rfl
  rotate_left
  · simp only [Act.put, List.setIfInBounds_toArray, List.set_cons_zero, List.set_cons_succ, i64_w, i32_w]
    rfl
  refine pure_ (i := 4) (N := some 127) (v := ?_) (a' := ?_) #[true, true, true, true, true, false, false, false, false, false, false, false, false, false] rfl rfl (by kernel_rfl) (fun _ _ _ h => h) (Or.inl ⟨by rfl, ?_⟩) ?_ ?_
  rotate_left
  · intro w'
    go_simp
    with_reducible rfl
  rotate_left
  · simp only [Act.put, List.setIfInBounds_toArray, List.set_cons_zero, List.set_cons_succ, i64_w, i32_w]
    rfl
  refine take_ (i := 5) (N := some 128) (v := ?_) (a' := ?_) #[true, true, true, true, true, true, false, false, false, false, false, false, false, false] rfl rfl (by kernel_rfl) (fun _ _ _ h => h) (Or.inl ⟨by rfl, ?_⟩) hHeld ?_ ?_
  rotate_left
  · rintro w' s0_
    go_simp
    with_reducible rfl
  rotate_left
  · simp only [Act.put, List.setIfInBounds_toArray, List.set_cons_zero, List.set_cons_succ, i64_w, i32_w]
    rfl
  refine pure_ (i := 6) (N := some 129) (v := ?_) (a' := ?_) #[true, true, true, true, true, true, true, false, false, false, false, false, false, false] rfl rfl (by kernel_rfl) (fun _ _ _ h => h) (Or.inl ⟨by rfl, ?_⟩) ?_ ?_
  rotate_left
  · intro w'
    go_simp
    with_reducible rfl
  rotate_left
  · simp only [Act.put, List.setIfInBounds_toArray, List.set_cons_zero, List.set_cons_succ, i64_w, i32_w]
    rfl
  refine one_ (i := 7) (N := some 130) #[true, true, true, true, true, true, true, true, false, false, false, false, false, false] rfl rfl (by kernel_rfl) (by decide) (fun K hK => ?_)
  refine goes_ Tryd.func44 (by kernel_rfl) rfl #[.slice A0 l0.length c0, .int .i64 10] (by rfl) rfl rfl (by (try simp only [List.map_toArray, List.map_cons, List.map_nil]); first | done | rfl) ?_
  refine (laws_vAt.calls A0 c0 l0 10 v2 _ (Kd.C_below HR.out HB.out) HC.out E13.out).mono ?_
  rintro e w4 ⟨rfl, ⟨⟨nd, rfl⟩⟩⟩
  replace HB := Aside0.mk (pw_below_drewN HB.out nd)
  refine ⟨_, rfl, ?_⟩
  refine hK.out _ _ hHeld (fun hHeld => ?_)
  clear hK K
  refine norm_ (a' := ?_) ?_ ?_
  rotate_left
  · show Act.put _ (some 130) _ = _
    simp only [Act.put, List.setIfInBounds_toArray, List.set_cons_zero, List.set_cons_succ, i64_w, i32_w]
    rfl
  refine pure_ (i := 8) (N := some 131) (v := ?_) (a' := ?_) #[true, true, true, true, true, true, true, true, true, false, false, false, false, false] rfl rfl (by kernel_rfl) (fun _ _ _ h => h) (Or.inl ⟨by rfl, ?_⟩) ?_ ?_
  rotate_left
  · intro w'
    go_simp
    with_reducible rfl
  rotate_left
  · simp only [Act.put, List.setIfInBounds_toArray, List.set_cons_zero, List.set_cons_succ, i64_w, i32_w]
    rfl
  refine pure_ (i := 9) (N := some 132) (v := ?_) (a' := ?_) #[true, true, true, true, true, true, true, true, true, true, false, false, false, false] rfl rfl (by kernel_rfl) (fun _ _ _ h => h) (Or.inl ⟨by rfl, ?_⟩) ?_ ?_
  rotate_left
  · intro w'
    go_simp
    with_reducible rfl
  rotate_left
  · simp only [Act.put, List.setIfInBounds_toArray, List.set_cons_zero, List.set_cons_succ, i64_w, i32_w]
    rfl
  refine pure_ (i := 10) (N := some 133) (v := ?_) (a' := ?_) #[true, true, true, true, true, true, true, true, true, true, true, false, false, false] rfl rfl (by kernel_rfl) (fun _ _ _ h => h) (Or.inl ⟨by rfl, ?_⟩) ?_ ?_
  rotate_left
  · intro w'
    go_simp
    with_reducible rfl
  rotate_left
  · simp only [Act.put, List.setIfInBounds_toArray, List.set_cons_zero, List.set_cons_succ, i64_w, i32_w]
    rfl
  refine pure_ (i := 11) (N := some 134) (v := ?_) (a' := ?_) #[true, true, true, true, true, true, true, true, true, true, true, true, false, false] rfl rfl (by kernel_rfl) (fun _ _ _ h => h) (Or.inl ⟨by rfl, ?_⟩) ?_ ?_
  rotate_left
  · intro w'
    go_simp
    with_reducible rfl
  rotate_left
  · simp only [Act.put, List.setIfInBounds_toArray, List.set_cons_zero, List.set_cons_succ, i64_w, i32_w]
    rfl
  refine pure_ (i := 12) (N := some 135) (v := ?_) (a' := ?_) #[true, true, true, true, true, true, true, true, true, true, true, true, true, false] rfl rfl (by kernel_rfl) (fun _ _ _ h => h) (Or.inl ⟨by rfl, ?_⟩) ?_ ?_
  rotate_left
  · intro w'
    go_simp
    with_reducible rfl
  rotate_left
  · simp only [Act.put, List.setIfInBounds_toArray, List.set_cons_zero, List.set_cons_succ, i64_w, i32_w]
    rfl
  refine last_ (i := 13) (N := none) #[true, true, true, true, true, true, true, true, true, true, true, true, true, true] rfl rfl (by kernel_rfl) (by decide) (fun K hK => ?_)
  refine skip_ (w1 := ?_) (by rfl) rfl ?_ ?_
  rotate_left
  · go_simp
    rfl
  refine hK.out _ _ ?_
  clear hK K
  refine done_ (by kernel_rfl) ?_
  replace HRD := Aside0.mk (show ReadsInt (W7.drewN nd) .u8 (some ⟨g, 0, none⟩) y.size (bytesOf y) from HRD.out)
  rw [HNB.out]
  have hrd8 := reads_put HRD.out q HQ2.out nb
  have hb8 := below_set (j := q) (v := .int .u8 nb) HB.out HGW.out
  generalize (W7.drewN nd).setCell ⟨g, q, none⟩ (.int .u8 nb) = W8 at hrd8 hb8 ⊢
  have hcv := string_of_reads (P := Tryd.prog) (c := cap) Tryd.underlying35 Tryd.underlying5 Tryd.underlying9 hrd8
  replace HB := Aside0.mk hb8
  clear hrd8 hb8 HRD
  go_wp2_with (go_at_call 22; with_reducible refine (impl_VerifyChecksum.calls KF (strOfNums ((bytesOf y).set q nb)) z false _ (laidE_one (LaidE.below HL.out HB.out)) E14.out).mono ?_; rintro e w1 ⟨rfl, hb⟩; replace HB := Aside0.mk (below_then HB.out HB.out.size hb); clear hb)
  go_ret
  exact ⟨rfl, HB.out⟩
def laws_FnStrings.f (_k : Nat) (l0 : List Int) : Option Bool := if (∀ x ∈ l0, 0 ≤ x ∧ x ≤ 255) then some true else none
theorem laws_FnStrings.mono : ∀ a0 k, LeO (laws_FnStrings.f k a0) (laws_FnStrings.f (k + 1) a0) := fun _ _ => LeO.refl _
theorem full_facts (x : ByteArray) (h2 : (bs x).any (fun b => b == 35) = false) (h3 : ¬ ((sealB x).size : Int) > 4000) (v1 v2 : Int) (h10 : 0 ≤ v1) (h20 : 0 ≤ v2) (h21 : v2 ≤ 255) : ∃ (q : Nat) (b nb : Int), 0 < (sealB x).size ∧ (q : Int) = v1 % ((sealB x).size : Int) ∧ q < (sealB x).size ∧ (bytesOf (sealB x)).getD q 0 = b ∧ Go.bits .xor .u8 b (IntKind.u8.wrap (wrap64 (1 + v2.tmod 255))) = nb ∧
    impl_VerifyChecksum.f 1048600 (sealB x) = some (x, true) ∧ impl_VerifyChecksum.f 1048600 (strOfNums ((bytesOf (sealB x)).set q nb)) = some (⟨#[]⟩, false) := by
  have hpos : 0 < (sealB x).size := by
    rw [← bs_length, seal_bs, List.length_append, List.length_cons]
    omega
  have hm0 := Int.emod_nonneg v1 (show ((sealB x).size : Int) ≠ 0 by omega)
  have hm1 := Int.emod_lt_of_pos v1 (show (0 : Int) < ((sealB x).size : Int) by omega)
  obtain ⟨q, hq⟩ : ∃ q : Nat, (q : Int) = v1 % ((sealB x).size : Int) := ⟨(v1 % ((sealB x).size : Int)).toNat, by omega⟩
  have hq2 : q < (sealB x).size := by omega
  obtain ⟨C, hC, hC0, hC1⟩ := wrap_byte v2 h20 h21
  obtain ⟨g1, g2⟩ := byte_at (sealB x) q hq2
  obtain ⟨x1, x2⟩ := xor_byte ((bs (sealB x)).getD q 0) C hC0 hC1
  refine ⟨q, _, _, hpos, hq, hq2, g2, by rw [hC, x1], ?_, ?_⟩
  · rw [impl_ver _ (by omega) _ (by omega), ver_seal x h2 h3]
  · have hy := nums_set (sealB x) q (UInt8.ofNat (((bs (sealB x)).getD q 0).toNat ^^^ C))
    have hz : (strOfNums ((bytesOf (sealB x)).set q (((UInt8.ofNat (((bs (sealB x)).getD q 0).toNat ^^^ C)).toNat : Nat) : Int))).size = (sealB x).size := by
      rw [← bs_length, hy, List.length_set, bs_length]
    rw [impl_ver _ (by omega) _ (by omega), ver_spoilt x _ h2 q _ hq2 (by rw [g1]; intro e; exact x2 (Option.some.inj e).symm) hy]
theorem laws_FnStrings.calls (k : Nat) (A0 : Option Addr) (c0 : Nat) (l0 : List Int) (r : Bool) (w : World) (hr0 : Kd.C (Kd.int .u8) w A0 l0.length l0) (hc0 : l0.length ≤ c0) (hL : LaidE w) (h : laws_FnStrings.f k l0 = some r) :
    Calls Tryd.prog 11 #[.slice A0 l0.length c0] w fun e w' => e = .returned (.bool r) ∧ Below w.heap.size w w' := by
  unfold laws_FnStrings.f at h
  split at h
  · rename_i hby
    cases h
    by_cases hbig : (l0.length : Int) > 65536
    · exact strings_big A0 c0 l0 w hr0 hc0 (by unfold laws_vBig.f; rw [decide_eq_true hbig])
    · have eb : laws_vBig.f l0 = some false := by unfold laws_vBig.f; rw [decide_eq_false hbig]
      have hl : Byt l0 := ⟨by omega, hby⟩
      obtain ⟨n, e1⟩ := drawFmt hl
      obtain ⟨t, e4, ht⟩ := drawPar hl 1048600 (by omega)
      obtain ⟨x, e7, hx⟩ := drawApp hl
      obtain ⟨e3, e2⟩ := fmt_both n 1048600 (by omega)
      obtain ⟨e6, e5⟩ := par_both t (by omega) 1048600 (by omega)
      have e8 := impl_Append x (by omega) 1048600 (by omega)
      have e9 := spec_Append x (by omega) 1048600 (by omega)
      obtain ⟨v1, e12, v10, v11⟩ := vAt_ok hl 9 (by omega) (by omega)
      obtain ⟨v2, e13, v20, v21⟩ := vAt_ok hl 10 (by omega) (by omega)
      have hs0 : (⟨#[]⟩ : ByteArray).size ≤ 1000000 := by decide
      by_cases hf : inB n (-999999) 999999 = true
      · have hb : -999999 ≤ n ∧ n ≤ 999999 := by unfold inB at hf; simpa using hf
        have ef : fmtA n = (tx (Lib.itoa n), true) := if_pos hf
        have hz := itoa_length n (by omega) (by omega)
        have e10 : impl_ParseInt.f (tx (Lib.itoa n)) = some (n, true) := by rw [(par_both (tx (Lib.itoa n)) (by rw [tx_size]; omega) 1048600 (by omega)).2, readR_itoa n hf]
        rw [ef] at e2 e3
        rcases seal_cases x with hs | ⟨hs, h2, h3⟩
        · rw [hs] at e8 e9
          exact strings_bare_true 1048600 A0 c0 l0 n (readR t).1 0 _ t x ⟨#[]⟩ (readR t).2 false w hr0 hc0 hL eb e1 e2 e3 e4 e5 e6 e7 e8 e9 e10
        · rw [hs] at e8 e9
          obtain ⟨q, b, nb, f1, f2, f3, f4, f5, f6, f7⟩ := full_facts x h2 h3 v1 v2 v10 v20 v21
          exact strings_full_true 1048600 A0 c0 l0 n (readR t).1 0 _ t x (sealB x) (readR t).2 false w hr0 hc0 hL eb e1 e2 e3 e4 e5 e6 e7 e8 e9 e10 v1 v2 b ⟨#[]⟩ f6 e12 e13 v10 ⟨v20, v21⟩ f1 (by omega) q f2 f3 f4 nb f5 f7
      · have ef : fmtA n = (⟨#[]⟩, false) := if_neg hf
        have e10 := (par_both (⟨#[]⟩ : ByteArray) hs0 1048600 (by omega)).2
        rw [ef] at e2 e3
        rcases seal_cases x with hs | ⟨hs, h2, h3⟩
        · rw [hs] at e8 e9
          exact strings_bare_false 1048600 A0 c0 l0 n (readR t).1 (readR (⟨#[]⟩ : ByteArray)).1 ⟨#[]⟩ t x ⟨#[]⟩ (readR t).2 (readR (⟨#[]⟩ : ByteArray)).2 w hr0 hc0 hL eb e1 e2 e3 e4 e5 e6 e7 e8 e9 e10
        · rw [hs] at e8 e9
          obtain ⟨q, b, nb, f1, f2, f3, f4, f5, f6, f7⟩ := full_facts x h2 h3 v1 v2 v10 v20 v21
          exact strings_full_false 1048600 A0 c0 l0 n (readR t).1 (readR (⟨#[]⟩ : ByteArray)).1 ⟨#[]⟩ t x (sealB x) (readR t).2 (readR (⟨#[]⟩ : ByteArray)).2 w hr0 hc0 hL eb e1 e2 e3 e4 e5 e6 e7 e8 e9 e10 v1 v2 b ⟨#[]⟩ f6 e12 e13 v10 ⟨v20, v21⟩ f1 (by omega) q f2 f3 f4 nb f5 f7
  · cases h
end Go.Proofs.YtnifjoobkojgiaaDoor.X
