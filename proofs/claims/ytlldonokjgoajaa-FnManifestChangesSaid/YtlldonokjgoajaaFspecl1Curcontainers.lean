-- Written by a program of ours (wip/bin/xprint.py,over the kit's print.py) out of the translation. Not trusted: Lean checks it.
import Derived.Test.YtlldonokjgoajaaX0
import Derived.Test.YtlldonokjgoajaaFbCur
import Derived.Test.YtlldonokjgoajaaFbGood
import Derived.Test.YtlldonokjgoajaaFspecl1CuranyContainer
import Derived.Test.YtlldonokjgoajaaFspecl1Curcontainer
import Derived.Test.YtlldonokjgoajaaFspecl2Number
namespace Go.Proofs.Ytlldonokjgoajaa.X
open Go.RowKit Go.Proofs.YtlldonokjgoajaaW.PrintWords Go.Proofs.YtlldonokjgoajaaW.PrintLast Go.Proofs.YtlldonokjgoajaaW.PrintMore
attribute [local go_sem] max2_int min2_int max_two min_two max_three min_three max_four min_four   -- for this text's walks alone
set_option linter.unusedVariables false
set_option linter.unusedSimpArgs false

/-! ### spec_l1Cur_containers: function 150 -/
mutual
def spec_l1Cur_containers.l0 : Nat → List (S89) → Int → List Int → Int → Int → Option ((List (S89)) × Int × Int)
 | 0,_,_,_,_,_ => none
 | k + 1,x3,x4,x1000,x1001,x1002 => if x4 > 0 then ((spec_l1Cur_container.f k x1000 x1001 x1002).bind fun bt1246 => ((spec_l2Find.f k x3 bt1246.1).bind fun t1254 => (if t1254 < 0 then (if x3.length < 2932031007402 then (spec_l1Cur_containers.l0 k (x3 ++ [(⟨bt1246.1,bt1246.2.1,bt1246.2.2.1,bt1246.2.2.2.1,bt1246.2.2.2.2.1⟩ : S89)]) (wrap64 (x4 - 1)) x1000 bt1246.2.2.2.2.2.1 bt1246.2.2.2.2.2.2) else (none)) else (spec_l1Cur_containers.l0 k x3 (wrap64 (x4 - 1)) x1000 bt1246.2.2.2.2.2.1 bt1246.2.2.2.2.2.2)))) else ((spec_l1Cur_pick.f x1000 x1001 x1002 20).bind fun bt1258 => (if bt1258.1 = 0 then ((spec_l1Cur_anyContainer.f k x1000 bt1258.2.1 bt1258.2.2).bind fun bt1261 => (if x3.length < 2932031007402 then (some ((x3 ++ [(⟨bt1261.1,bt1261.2.1,bt1261.2.2.1,bt1261.2.2.2.1,bt1261.2.2.2.2.1⟩ : S89)]),bt1261.2.2.2.2.2.1,bt1261.2.2.2.2.2.2)) else (none))) else (if bt1258.1 = 1 then (if (x3.length : Int) > 0 then ((spec_l1Cur_pick.f x1000 bt1258.2.1 bt1258.2.2 (x3.length : Int)).bind fun bt1271 => (if 0 ≤ bt1271.1 then (if bt1271.1 < (x3.length : Int) then (if x3.length < 2932031007402 then (some ((x3 ++ [(⟨(rd_T89 x3 bt1271.1).f0,(rd_T89 x3 bt1271.1).f1,(rd_T89 x3 bt1271.1).f2,(rd_T89 x3 bt1271.1).f3,(rd_T89 x3 bt1271.1).f4⟩ : S89)]),bt1271.2.1,bt1271.2.2)) else (none)) else (none)) else (none))) else (some (x3,bt1258.2.1,bt1258.2.2))) else (if bt1258.1 = 2 then (spec_l1Cur_containers.l1 k x3 0 x1000 bt1258.2.1 bt1258.2.2) else (some (x3,bt1258.2.1,bt1258.2.2))))))
def spec_l1Cur_containers.l1 : Nat → List (S89) → Int → List Int → Int → Int → Option ((List (S89)) × Int × Int)
 | 0,_,_,_,_,_ => none
 | k + 1,x3,x6,x1000,x1001,x1002 => (spec_l1Cur_pick.f x1000 x1001 x1002 2).bind fun bt1278 => (if (x3.length : Int) < (wrap64 (12 + bt1278.1)) then (if x6 < 14 then ((spec_l2Number.f k (⟨#[77,65,88]⟩ : ByteArray) x6).bind fun t1281 => (if x3.length < 2932031007402 then (spec_l1Cur_containers.l1 k (x3 ++ [(⟨t1281,1,wrap64 (100 + x6),1,wrap64 (1 + (Int.tmod x6 9))⟩ : S89)]) (wrap64 (x6 + 1)) x1000 bt1278.2.1 bt1278.2.2) else (none))) else (some (x3,bt1278.2.1,bt1278.2.2))) else (some (x3,bt1278.2.1,bt1278.2.2)))
end
def spec_l1Cur_containers.f (k : Nat) (s0_0 : List Int) (s0_1 : Int) (s0_2 : Int) : Option ((List (S89)) × Int × Int):=(spec_l1Cur_pick.f s0_0 s0_1 s0_2 8).bind fun bt1243 => (spec_l1Cur_containers.l0 k (([] : List (S89))) bt1243.1 s0_0 bt1243.2.1 bt1243.2.2)
theorem spec_l1Cur_containers.mono_l : ∀ k,(∀ y0 y1 y2 y3 y4,LeO (spec_l1Cur_containers.l0 k y0 y1 y2 y3 y4) (spec_l1Cur_containers.l0 (k + 1) y0 y1 y2 y3 y4)) ∧ (∀ y0 y1 y2 y3 y4,LeO (spec_l1Cur_containers.l1 k y0 y1 y2 y3 y4) (spec_l1Cur_containers.l1 (k + 1) y0 y1 y2 y3 y4))
 | 0 => ⟨fun _ _ _ _ _ r h => by simp [spec_l1Cur_containers.l0] at h,fun _ _ _ _ _ r h => by simp [spec_l1Cur_containers.l1] at h⟩
 | k + 1 => by
  obtain ⟨ih0,ih1⟩:=spec_l1Cur_containers.mono_l k
  refine ⟨?_,?_⟩
  ·intro y0 y1 y2 y3 y4
   unfold spec_l1Cur_containers.l0
   repeat' first
   | (with_reducible exact ih0 _ _ _ _ _)
   | (with_reducible exact ih1 _ _ _ _ _)
   | (with_reducible exact spec_l1Cur_anyContainer.mono _ _ _ _)
   | (with_reducible exact spec_l1Cur_container.mono _ _ _ _)
   | (with_reducible exact spec_l2Find.mono _ _ _)
   | (with_reducible exact spec_l2Number.mono _ _ _)
   | (with_reducible exact LeO.refl _)
   | (with_reducible exact LeO.none _)
   | (with_reducible refine LeO.ite ?_ ?_)
   | (with_reducible refine LeO.bind ?_ (fun _ => ?_))
   | exact ih0 _ _ _ _ _
   | exact ih1 _ _ _ _ _
   | exact spec_l1Cur_anyContainer.mono _ _ _ _
   | exact spec_l1Cur_container.mono _ _ _ _
   | exact spec_l2Find.mono _ _ _
   | exact spec_l2Number.mono _ _ _
   | exact LeO.none _
   | refine LeO.ite ?_ ?_
   | refine LeO.bind ?_ (fun _ => ?_)
  ·intro y0 y1 y2 y3 y4
   unfold spec_l1Cur_containers.l1
   repeat' first
   | (with_reducible exact ih0 _ _ _ _ _)
   | (with_reducible exact ih1 _ _ _ _ _)
   | (with_reducible exact spec_l1Cur_anyContainer.mono _ _ _ _)
   | (with_reducible exact spec_l1Cur_container.mono _ _ _ _)
   | (with_reducible exact spec_l2Find.mono _ _ _)
   | (with_reducible exact spec_l2Number.mono _ _ _)
   | (with_reducible exact LeO.refl _)
   | (with_reducible exact LeO.none _)
   | (with_reducible refine LeO.ite ?_ ?_)
   | (with_reducible refine LeO.bind ?_ (fun _ => ?_))
   | exact ih0 _ _ _ _ _
   | exact ih1 _ _ _ _ _
   | exact spec_l1Cur_anyContainer.mono _ _ _ _
   | exact spec_l1Cur_container.mono _ _ _ _
   | exact spec_l2Find.mono _ _ _
   | exact spec_l2Number.mono _ _ _
   | exact LeO.none _
   | refine LeO.ite ?_ ?_
   | refine LeO.bind ?_ (fun _ => ?_)
theorem spec_l1Cur_containers.mono : ∀ a0 a1 a2 k,LeO (spec_l1Cur_containers.f k a0 a1 a2) (spec_l1Cur_containers.f (k + 1) a0 a1 a2):=by
 intro a0 a1 a2 k
 obtain ⟨ih0,ih1⟩:=spec_l1Cur_containers.mono_l k
 unfold spec_l1Cur_containers.f
 repeat' first
   | (with_reducible exact ih0 _ _ _ _ _)
   | (with_reducible exact ih1 _ _ _ _ _)
   | (with_reducible exact spec_l1Cur_anyContainer.mono _ _ _ _)
   | (with_reducible exact spec_l1Cur_container.mono _ _ _ _)
   | (with_reducible exact spec_l2Find.mono _ _ _)
   | (with_reducible exact spec_l2Number.mono _ _ _)
   | (with_reducible exact LeO.refl _)
   | (with_reducible exact LeO.none _)
   | (with_reducible refine LeO.ite ?_ ?_)
   | (with_reducible refine LeO.bind ?_ (fun _ => ?_))
   | exact ih0 _ _ _ _ _
   | exact ih1 _ _ _ _ _
   | exact spec_l1Cur_anyContainer.mono _ _ _ _
   | exact spec_l1Cur_container.mono _ _ _ _
   | exact spec_l2Find.mono _ _ _
   | exact spec_l2Number.mono _ _ _
   | exact LeO.none _
   | refine LeO.ite ?_ ?_
   | refine LeO.bind ?_ (fun _ => ?_)
set_option maxHeartbeats 8000000 in
set_option maxRecDepth 100000 in
theorem spec_l1Cur_containers.calls (k : Nat) (g : Nat) (s0_0 : List Int) (s0_1 : Int) (s0_2 : Int) (r1 : List (S89)) (r2 : Int) (r3 : Int) (w0 w : World) (hI : IsS112 w0 w g s0_0 s0_1 s0_2) (hB : Below w0.heap.size w0 w) (h : spec_l1Cur_containers.f k s0_0 s0_1 s0_2 = some (r1,r2,r3)) :
  Calls Try.prog 150 #[.pointer (some ⟨g,0,none⟩)] w fun e w' => ∃ v0_ : Value,e = .returned (v0_) ∧ Kd.R k89 89 w' w.heap.size (fun _ => True) v0_ r1 ∧ IsS112 w0 w' g s0_0 r2 r3 ∧ Below w0.heap.size w0 w' ∧ KeepBut w w' g none:=by
 have hu89:=Try.underlying89
 have HI0:=Aside0.mk hI
 have HK:=Aside0.mk (KeepBut.refl w g none)
 have HL:=Aside0.mk hB.size
 clear hI
 have HW0:=Aside0.mk hB.size
 have HB:=Aside0.mk hB
 clear hB
 have H : ((spec_l1Cur_pick.f s0_0 s0_1 s0_2 8).bind fun bt1243 => (spec_l1Cur_containers.l0 k (([] : List (S89))) bt1243.1 s0_0 bt1243.2.1 bt1243.2.2)) = some (r1,r2,r3):=h
 clear h
 obtain ⟨y1240,hy1240⟩ : ∃ y_ : List (S89),y_ = (([] : List (S89))):=⟨_,rfl⟩
 replace H : ((spec_l1Cur_pick.f s0_0 s0_1 s0_2 8).bind fun bt1243 => (spec_l1Cur_containers.l0 k y1240 bt1243.1 s0_0 bt1243.2.1 bt1243.2.2)) = some (r1,r2,r3):=by (rw [hy1240]; with_reducible exact H)
 have Ny1240:=Aside0.mk hy1240
 clear hy1240
 replace H:=Option.bind_eq_some_iff.mp H
 obtain ⟨⟨t1243,t1244,t1245⟩,A20,H⟩:=H
 replace H : (spec_l1Cur_containers.l0 k y1240 t1243 s0_0 t1244 t1245) = some (r1,r2,r3):=H
 have A2:=Aside0.mk A20
 clear A20
 have H':=Aside0.mk H
 clear H
 go_enter Try.func150,Try.ntmps150
 go_wp2_with (first|((with_reducible refine gate_dst (N:=7) rfl ?_); refine Kd.R_lit k89 _ 89 ?hg (N:=7) ?hd (xs:=([] : List (S89))) (inner:=[]) (ok:=fun _ => True) (okp:=fun _ => True) ?hr ?hp (fun _ hk => hk) trivial (Below.refl _ _) (Nat.le_refl _) (by simp) ?_; (case hd => rfl); (case hg => rfl); (case hr => (go_simp; done)); (case hp => exact (Reps.none _ _)); intro v1241 w3 ho4 hb hg_ hnew_; clear hg_ hnew_; (rw [← Ny1240.out] at ho4); have n0_:=Aside0.mk (Kd.R_lower ho4 (keep_size (w:=w) (g:=g) (row:=none) (by repeat (((with_reducible (exact HK.out))))))); have n1_:=Aside0.mk (IsS112.below (by repeat (((with_reducible (exact HI0.out))))) hb); have n2_:=Aside0.mk (KeepBut.trans (by repeat (((with_reducible (exact HK.out))))) (KeepBut.of_below hb g none) (.inl rfl)); have n3_:=Aside0.mk (below_step (by repeat (((with_reducible (exact HB.out))))) hb); clear HI0; clear HK; clear HB; have HO1242:=n0_; have HI0:=n1_; have HK:=n2_; have HB:=n3_; clear n0_ n1_ n2_ n3_; clear hb ho4)|((with_reducible refine gate_callee (f:=97) rfl ?_); refine goesL_ (some 9) rfl rfl Try.func97 (by kernel_rfl) rfl #[.pointer (some ⟨g,0,none⟩),.int .i64 8] rfl (by (try simp only [List.map_toArray,List.map_cons,List.map_nil]); (rfl)) ?_; (with_reducible refine (spec_l1Cur_pick.calls g s0_0 s0_1 s0_2 8 t1243 t1244 t1245 w0 _ ?side1 ?side2 A2.out).mono ?_); (case side1 => repeat (((with_reducible (exact HI0.out))))); (case side2 => repeat (((with_reducible (exact HB.out))))); rintro e w5 ⟨rfl,hi,hb,hk⟩; refine ⟨_,rfl,?_⟩; have n0_:=Aside0.mk (Kd.R_mono (Kd.R_keep (IsS112.apart (show IsS112 w0 _ g s0_0 s0_1 s0_2 from by repeat (((with_reducible (exact HI0.out))))) (by exact HO1242.out) (by decide)) hk (fun _ h => h.2)) (fun _ h => h.1)); have n1_:=Aside0.mk (KeepBut.trans (by repeat (((with_reducible (exact HK.out))))) hk (.inl rfl)); have n2_:=Aside0.mk (hb); have n3_:=Aside0.mk (hi); clear HO1242; clear HK; clear HB; clear HI0; have HO1242:=n0_; have HK:=n1_; have HB:=n2_; have HI0:=n3_; clear n0_ n1_ n2_ n3_; (try clear hb); (try clear hb2); (try clear hk); (try clear hi)))
 go_loopg [3,4] k (fun kq v3 v4 w' => ∃ (x3_1 : List (S89)) (x4_1 : Int) (x1001_1 : Int) (x1002_1 : Int),v4 = .int .i64 x4_1 ∧ Aside0 (spec_l1Cur_containers.l0 kq x3_1 x4_1 s0_0 x1001_1 x1002_1 = some (r1,r2,r3)) ∧ Aside0 (kq ≤ k) ∧ Aside0 (Kd.R k89 89 w' w.heap.size (fun _ => True) v3 x3_1) ∧ Aside0 (IsS112 w0 w' g s0_0 x1001_1 x1002_1) ∧ Aside0 (KeepBut w w' g none) ∧ Aside0 (Below w0.heap.size w0 w'))
 case atStart => exact ⟨(y1240),(t1243),(t1244),(t1245),(by (rfl)),H',⟨Nat.le_refl _⟩,⟨by exact HO1242.out⟩,⟨by repeat (((with_reducible (exact HI0.out))))⟩,⟨by repeat (((with_reducible (exact HK.out))))⟩,⟨by repeat (((with_reducible (exact HB.out))))⟩⟩
 case round =>
  clear H'
  try clear c1
  try clear p2
  obtain ⟨x3_1,x4_1,x1001_1,x1002_1,rfl,HA,HK1,HO_3,HI0,HK,HB⟩:=hrel
  cases gk with
  | zero => exact absurd HA.out (by simp [spec_l1Cur_containers.l0])
  | succ k1 =>
   have H:=HA.out
   clear HA
   simp only [spec_l1Cur_containers.l0] at H
   by_cases c6 : x4_1 > 0
   ·rw [if_pos c6] at H
    have c6b0 : decide (0 < x4_1) = true:=decide_eq_true c6
    clear c6
    replace H:=Option.bind_eq_some_iff.mp H
    obtain ⟨⟨t1246,t1247,t1248,t1249,t1250,t1251,t1252⟩,A70,H⟩:=H
    replace H : ((spec_l2Find.f k1 x3_1 t1246).bind fun t1254 => (if t1254 < 0 then (if x3_1.length < 2932031007402 then (spec_l1Cur_containers.l0 k1 (x3_1 ++ [(⟨t1246,t1247,t1248,t1249,t1250⟩ : S89)]) (wrap64 (x4_1 - 1)) s0_0 t1251 t1252) else (none)) else (spec_l1Cur_containers.l0 k1 x3_1 (wrap64 (x4_1 - 1)) s0_0 t1251 t1252))) = some (r1,r2,r3):=H
    have A7:=Aside0.mk A70
    clear A70
    replace H:=Option.bind_eq_some_iff.mp H
    obtain ⟨t1254,A80,H⟩:=H
    replace H : (if t1254 < 0 then (if x3_1.length < 2932031007402 then (spec_l1Cur_containers.l0 k1 (x3_1 ++ [(⟨t1246,t1247,t1248,t1249,t1250⟩ : S89)]) (wrap64 (x4_1 - 1)) s0_0 t1251 t1252) else (none)) else (spec_l1Cur_containers.l0 k1 x3_1 (wrap64 (x4_1 - 1)) s0_0 t1251 t1252)) = some (r1,r2,r3):=H
    have A8:=Aside0.mk A80
    clear A80
    by_cases c9 : t1254 < 0
    ·rw [if_pos c9] at H
     have c9b0 : decide (t1254 < 0) = true:=decide_eq_true c9
     clear c9
     by_cases c10 : x3_1.length < 2932031007402
     ·rw [if_pos c10] at H
      have LMc10:=Aside0.mk c10
      clear c10
      obtain ⟨y1255,hy1255⟩ : ∃ y_ : List (S89),y_ = (x3_1 ++ [(⟨t1246,t1247,t1248,t1249,t1250⟩ : S89)]):=⟨_,rfl⟩
      replace H : (spec_l1Cur_containers.l0 k1 y1255 (wrap64 (x4_1 - 1)) s0_0 t1251 t1252) = some (r1,r2,r3):=by (rw [hy1255]; with_reducible exact H)
      have Ny1255:=Aside0.mk hy1255
      clear hy1255
      have H':=Aside0.mk H
      clear H
      go_upto_region 6 with (first|((with_reducible refine gate_callee (f:=180) rfl ?_); refine goesL_ (some 15) rfl rfl Try.func180 (by kernel_rfl) rfl #[.pointer (some ⟨g,0,none⟩)] rfl (by (try simp only [List.map_toArray,List.map_cons,List.map_nil]); (rfl)) ?_; (with_reducible refine (spec_l1Cur_container.calls k1 g s0_0 x1001_1 x1002_1 t1246 t1247 t1248 t1249 t1250 t1251 t1252 w0 _ ?side1 ?side2 A7.out).mono ?_); (case side1 => repeat (((with_reducible (exact HI0.out))))); (case side2 => repeat (((with_reducible (exact HB.out))))); rintro e w11 ⟨rfl,hi,hb,hk⟩; refine ⟨_,rfl,?_⟩; have n0_:=Aside0.mk (Kd.R_mono (Kd.R_keep (IsS112.apart (show IsS112 w0 _ g s0_0 x1001_1 x1002_1 from by repeat (((with_reducible (exact HI0.out))))) (by exact HO_3.out) (by decide)) hk (fun _ h => h.2)) (fun _ h => h.1)); have n1_:=Aside0.mk (KeepBut.trans (by repeat (((with_reducible (exact HK.out))))) hk (.inl rfl)); have n2_:=Aside0.mk (hb); have n3_:=Aside0.mk (hi); clear HO_3; clear HK; clear HB; clear HI0; have HO_3:=n0_; have HK:=n1_; have HB:=n2_; have HI0:=n3_; clear n0_ n1_ n2_ n3_; (try clear hb); (try clear hb2); (try clear hk); (try clear hi))|((with_reducible refine gate_dst (N:=5) rfl ?_); refine box_event ?hg (N:=5) ?hd (cs:=#[.string (⟨#[]⟩ : ByteArray),.int .i64 0,.int .i64 0,.int .i64 0,.int .i64 0]) (t:=89) ?hr ?_; (case hd => rfl); (case hg => rfl); (case hr => (go_simp; done)); intro gb1253 hg w12 hbox hb; have n0_:=Aside0.mk (Kd.R_below (Kd.R_elderB (by exact HO_3.out) gb1253 (Nat.le_of_eq hg.symm)) hb); have n1_:=Aside0.mk (IsS112.below (by repeat (((with_reducible (exact HI0.out))))) hb); have n2_:=Aside0.mk (KeepBut.trans (by repeat (((with_reducible (exact HK.out))))) (KeepBut.of_below hb g none) (.inl rfl)); have n3_:=Aside0.mk (below_step (by repeat (((with_reducible (exact HB.out))))) hb); have n4_:=Aside0.mk (hbox); have n5_:=Aside0.mk ((by rw [hg]; exact (keep_size (w:=w) (g:=g) (row:=none) (by repeat (((with_reducible (exact HK.out)))))) : w.heap.size ≤ gb1253)); have n6_:=Aside0.mk ((Nat.le_trans HW0.out (by rw [hg]; exact (keep_size (w:=w) (g:=g) (row:=none) (by repeat (((with_reducible (exact HK.out)))))) : w.heap.size ≤ gb1253) : w0.heap.size ≤ gb1253)); have n7_:=Aside0.mk ((by rw [hg]; exact Nat.ne_of_lt (IsS112.lt (show IsS112 w0 _ g s0_0 t1251 t1252 from by repeat (((with_reducible (exact HI0.out)))))) : g ≠ gb1253)); have n8_:=Aside0.mk ((by rw [hg]; exact Nat.ne_of_gt (IsS112.lt (show IsS112 w0 _ g s0_0 t1251 t1252 from by repeat (((with_reducible (exact HI0.out)))))) : gb1253 ≠ g)); clear HO_3; clear HI0; clear HK; clear HB; have HO_3:=n0_; have HI0:=n1_; have HK:=n2_; have HB:=n3_; have BK1253:=n4_; have GW1253:=n5_; have GE1253:=n6_; have NB0_1253:=n7_; have NB1253_0:=n8_; clear n0_ n1_ n2_ n3_ n4_ n5_ n6_ n7_ n8_; clear hb hbox hg; have hnb13:=NB1253_0.out; have hnc13:=NB0_1253.out; have hcz14_0 : w12.cell? ⟨gb1253,0,none⟩ = some (.string (⟨#[]⟩ : ByteArray)):=(blk_cell BK1253.out 0).trans rfl; have hcz14_1 : w12.cell? ⟨gb1253,1,none⟩ = some (.int .i64 0):=(blk_cell BK1253.out 1).trans rfl; have hcz14_2 : w12.cell? ⟨gb1253,2,none⟩ = some (.int .i64 0):=(blk_cell BK1253.out 2).trans rfl; have hcz14_3 : w12.cell? ⟨gb1253,3,none⟩ = some (.int .i64 0):=(blk_cell BK1253.out 3).trans rfl; have hcz14_4 : w12.cell? ⟨gb1253,4,none⟩ = some (.int .i64 0):=(blk_cell BK1253.out 4).trans rfl; have hfz14_0:=blk_frozen BK1253.out 0; have hfz14_1:=blk_frozen BK1253.out 1; have hfz14_2:=blk_frozen BK1253.out 2; have hfz14_3:=blk_frozen BK1253.out 3; have hfz14_4:=blk_frozen BK1253.out 4; obtain ⟨Ao15,co15,eo15⟩:=Kd.R_slice HO_3.out; subst eo15))
      have m0_ : Aside0 (Kd.R k89 89 (((((w12.setCell ⟨gb1253,0,none⟩ (.string t1246)).setCell ⟨gb1253,1,none⟩ (.int .i64 t1247)).setCell ⟨gb1253,2,none⟩ (.int .i64 t1248)).setCell ⟨gb1253,3,none⟩ (.int .i64 t1249)).setCell ⟨gb1253,4,none⟩ (.int .i64 t1250)) w.heap.size (fun k_ => (True ∧ k_ ≠ gb1253)) (.slice Ao15 x3_1.length co15) x3_1):=⟨by (iterate 5 (refine Kd.R_far ?_ (fun _ hk => hk.2) _)); exact Kd.R_mono HO_3.out (fun k_ hk => ⟨trivial,hk.2⟩)⟩
      have m1_ : Aside0 ((((((w12.setCell ⟨gb1253,0,none⟩ (.string t1246)).setCell ⟨gb1253,1,none⟩ (.int .i64 t1247)).setCell ⟨gb1253,2,none⟩ (.int .i64 t1248)).setCell ⟨gb1253,3,none⟩ (.int .i64 t1249)).setCell ⟨gb1253,4,none⟩ (.int .i64 t1250)).heap[gb1253]? = some (.cells #[.string t1246,.int .i64 t1247,.int .i64 t1248,.int .i64 t1249,.int .i64 t1250] 89 (0,0))):=⟨by refine blk_put (cs:=#[.string t1246,.int .i64 t1247,.int .i64 t1248,.int .i64 t1249,.int .i64 0]) ?_ 4 _ rfl; refine blk_put (cs:=#[.string t1246,.int .i64 t1247,.int .i64 t1248,.int .i64 0,.int .i64 0]) ?_ 3 _ rfl; refine blk_put (cs:=#[.string t1246,.int .i64 t1247,.int .i64 0,.int .i64 0,.int .i64 0]) ?_ 2 _ rfl; refine blk_put (cs:=#[.string t1246,.int .i64 0,.int .i64 0,.int .i64 0,.int .i64 0]) ?_ 1 _ rfl; refine blk_put (cs:=#[.string (⟨#[]⟩ : ByteArray),.int .i64 0,.int .i64 0,.int .i64 0,.int .i64 0]) ?_ 0 _ rfl; exact BK1253.out⟩
      have m2_ : Aside0 (IsS112 w0 (((((w12.setCell ⟨gb1253,0,none⟩ (.string t1246)).setCell ⟨gb1253,1,none⟩ (.int .i64 t1247)).setCell ⟨gb1253,2,none⟩ (.int .i64 t1248)).setCell ⟨gb1253,3,none⟩ (.int .i64 t1249)).setCell ⟨gb1253,4,none⟩ (.int .i64 t1250)) g s0_0 t1251 t1252):=⟨by (iterate 5 (refine IsS112.far ?_ NB0_1253.out _)); exact HI0.out⟩
      have m3_ : Aside0 (KeepBut w (((((w12.setCell ⟨gb1253,0,none⟩ (.string t1246)).setCell ⟨gb1253,1,none⟩ (.int .i64 t1247)).setCell ⟨gb1253,2,none⟩ (.int .i64 t1248)).setCell ⟨gb1253,3,none⟩ (.int .i64 t1249)).setCell ⟨gb1253,4,none⟩ (.int .i64 t1250)) g none):=⟨by (iterate 5 (refine keep_far ?_ GW1253.out _)); exact HK.out⟩
      have m4_ : Aside0 (Below w0.heap.size w0 (((((w12.setCell ⟨gb1253,0,none⟩ (.string t1246)).setCell ⟨gb1253,1,none⟩ (.int .i64 t1247)).setCell ⟨gb1253,2,none⟩ (.int .i64 t1248)).setCell ⟨gb1253,3,none⟩ (.int .i64 t1249)).setCell ⟨gb1253,4,none⟩ (.int .i64 t1250))):=⟨by (iterate 5 (refine below_set ?_ GE1253.out)); exact HB.out⟩
      clear HO_3 BK1253 HI0 HK HB
      clear hcz14_0 hfz14_0 hcz14_1 hfz14_1 hcz14_2 hfz14_2 hcz14_3 hfz14_3 hcz14_4 hfz14_4
      generalize (((((w12.setCell ⟨gb1253,0,none⟩ (.string t1246)).setCell ⟨gb1253,1,none⟩ (.int .i64 t1247)).setCell ⟨gb1253,2,none⟩ (.int .i64 t1248)).setCell ⟨gb1253,3,none⟩ (.int .i64 t1249)).setCell ⟨gb1253,4,none⟩ (.int .i64 t1250)) = wg_ at m0_ m1_ m2_ m3_ m4_ ⊢
      have HO_3:=m0_
      have BK1253:=m1_
      have HI0:=m2_
      have HK:=m3_
      have HB:=m4_
      clear m0_ m1_ m2_ m3_ m4_
      have hcy_0 : wg_.cell? ⟨gb1253,0,none⟩ = some (.string t1246):=(blk_cell BK1253.out 0).trans rfl
      have hcy_1 : wg_.cell? ⟨gb1253,1,none⟩ = some (.int .i64 t1247):=(blk_cell BK1253.out 1).trans rfl
      have hcy_2 : wg_.cell? ⟨gb1253,2,none⟩ = some (.int .i64 t1248):=(blk_cell BK1253.out 2).trans rfl
      have hcy_3 : wg_.cell? ⟨gb1253,3,none⟩ = some (.int .i64 t1249):=(blk_cell BK1253.out 3).trans rfl
      have hcy_4 : wg_.cell? ⟨gb1253,4,none⟩ = some (.int .i64 t1250):=(blk_cell BK1253.out 4).trans rfl
      have hfy_0:=blk_frozen BK1253.out 0
      have hfy_1:=blk_frozen BK1253.out 1
      have hfy_2:=blk_frozen BK1253.out 2
      have hfy_3:=blk_frozen BK1253.out 3
      have hfy_4:=blk_frozen BK1253.out 4
      go_wp2_with (first|((with_reducible refine gate_callee (f:=152) rfl ?_); refine goesL_ (some 19) rfl rfl Try.func152 (by kernel_rfl) rfl #[.slice Ao15 x3_1.length co15,.string t1246] rfl (by (try simp only [List.map_toArray,List.map_cons,List.map_nil]); (rfl)) ?_; (with_reducible refine (spec_l2Find.calls k1 _ _ x3_1 t1246 t1254 _ ?side1 ?side2 A8.out).mono ?_); (case side1 => refine (Kd.R_reads' (e:=89) (base:=w.heap.size) (ok:=fun k_ => (True ∧ k_ ≠ gb1253)) (n:=x3_1.length) (c:=co15) ?_).2.2; exact (by exact (Kd.R_mono (Kd.R_mono HO_3.out (fun k_ hk => (⟨hk,hk.2⟩ : _ ∧ k_ ≠ gb1253))) (fun _ h_ => h_.1)))); (case side2 => exact (Kd.R_reads' HO_3.out).2.1); rintro e w' ⟨rfl,⟨nd,rfl⟩⟩; refine ⟨_,rfl,?_⟩)|((with_reducible refine gate_builtin (b:=.append) (xs:=#[.tmp 21,.tmp 23]) rfl ?_); at_builtin; refine Kd.R_append k89 w.heap.size rfl (.tmp 21) (.tmp 23) 74 89 (.agg #[(.string ⟨#[]⟩),(.int .i64 0),(.int .i64 0),(.int .i64 0),(.int .i64 0)]) 48 rfl Try.underlying74 info89 rfl (by decide) (by omega) (.slice Ao15 x3_1.length co15) x3_1 (⟨t1246,t1247,t1248,t1249,t1250⟩ : S89) [.string t1246,.int .i64 t1247,.int .i64 t1248,.int .i64 t1249,.int .i64 t1250] (fun k_ => k_ ≠ gb1253) (fun _ => False) rfl (by (go_simp; done)) ?aP (fun _ hk => hk.elim) ?aF ?aO (Below.refl _ _) ?aS ?aL ?_; (case aP => exact k89_mkM _ _ _ (⟨t1246,t1247,t1248,t1249,t1250⟩ : S89)); (case aF => exact (fun k_ hk => Kd.freshB (g:=gb1253) (o:=.cells #[.string t1246,.int .i64 t1247,.int .i64 t1248,.int .i64 t1249,.int .i64 t1250] 89 (0,0)) (by (with_reducible repeat (refine blk_drewN ?_ _)); exact BK1253.out) k_ hk)); (case aO => exact (by (with_reducible repeat (apply Kd.R_drewN)); exact Kd.R_mono (Kd.R_mono HO_3.out (fun k_ hk => (⟨hk,hk.2⟩ : _ ∧ k_ ≠ gb1253))) (fun _ hk => hk.1.2))); (case aS => exact (keep_size (w:=w) (g:=g) (row:=none) (by repeat (with_reducible first|exact HK.out|apply keep_drewN)))); (case aL => have:=LMc10.out; omega); intro v1256 w16 ho hb hg hat; rw [← Ny1255.out] at ho; have n0_:=Aside0.mk (IsS112.grown (by repeat (with_reducible first|exact HI0.out|apply IsS112.drewN)) hg (IsS112.own_ne HI0.out HO_3.out (by decide))); have n1_:=Aside0.mk (blk_grown (g:=gb1253) (o:=.cells #[.string t1246,.int .i64 t1247,.int .i64 t1248,.int .i64 t1249,.int .i64 t1250] 89 (0,0)) (by (with_reducible repeat (refine blk_drewN ?_ _)); exact BK1253.out) hg (Kd.R_away HO_3.out (fun _ hk => hk.2))); have n2_:=Aside0.mk (below_weaken (by repeat (with_reducible first|exact HB.out|apply pw_below_drewN)) HL.out hb); have n3_:=Aside0.mk (KeepBut.trans (by repeat (with_reducible first|exact HK.out|apply keep_drewN)) (KeepBut.of_grown hg g) (Kd.R_base2 HO_3.out)); have n4_:=Aside0.mk (ho); clear HI0; clear BK1253; clear HB; clear HK; clear HO_3; have HI0:=n0_; have BK1253:=n1_; have HB:=n2_; have HK:=n3_; have HO1257:=n4_; clear n0_ n1_ n2_ n3_ n4_; clear ho hb hg hat))
      go_roundg k1
      case measure => have:=HK1.out; omega
      case rel => exact ⟨(y1255),(wrap64 (x4_1 - 1)),(t1251),(t1252),(by (rfl)),H',⟨by have:=HK1.out; omega⟩,⟨by exact Kd.R_mono HO1257.out (fun _ hk => trivial)⟩,⟨by repeat (((with_reducible (exact HI0.out))))⟩,⟨by repeat (((with_reducible (exact HK.out))))⟩,⟨by repeat (((with_reducible (exact HB.out))))⟩⟩
     ·rw [if_neg c10] at H
      exact absurd H (by simp)
    ·rw [if_neg c9] at H
     have c9b0 : decide (t1254 < 0) = false:=decide_eq_false c9
     clear c9
     have H':=Aside0.mk H
     clear H
     go_upto_region 6 with (first|((with_reducible refine gate_callee (f:=180) rfl ?_); refine goesL_ (some 15) rfl rfl Try.func180 (by kernel_rfl) rfl #[.pointer (some ⟨g,0,none⟩)] rfl (by (try simp only [List.map_toArray,List.map_cons,List.map_nil]); (rfl)) ?_; (with_reducible refine (spec_l1Cur_container.calls k1 g s0_0 x1001_1 x1002_1 t1246 t1247 t1248 t1249 t1250 t1251 t1252 w0 _ ?side1 ?side2 A7.out).mono ?_); (case side1 => repeat (((with_reducible (exact HI0.out))))); (case side2 => repeat (((with_reducible (exact HB.out))))); rintro e w17 ⟨rfl,hi,hb,hk⟩; refine ⟨_,rfl,?_⟩; have n0_:=Aside0.mk (Kd.R_mono (Kd.R_keep (IsS112.apart (show IsS112 w0 _ g s0_0 x1001_1 x1002_1 from by repeat (((with_reducible (exact HI0.out))))) (by exact HO_3.out) (by decide)) hk (fun _ h => h.2)) (fun _ h => h.1)); have n1_:=Aside0.mk (KeepBut.trans (by repeat (((with_reducible (exact HK.out))))) hk (.inl rfl)); have n2_:=Aside0.mk (hb); have n3_:=Aside0.mk (hi); clear HO_3; clear HK; clear HB; clear HI0; have HO_3:=n0_; have HK:=n1_; have HB:=n2_; have HI0:=n3_; clear n0_ n1_ n2_ n3_; (try clear hb); (try clear hb2); (try clear hk); (try clear hi))|((with_reducible refine gate_dst (N:=5) rfl ?_); refine box_event ?hg (N:=5) ?hd (cs:=#[.string (⟨#[]⟩ : ByteArray),.int .i64 0,.int .i64 0,.int .i64 0,.int .i64 0]) (t:=89) ?hr ?_; (case hd => rfl); (case hg => rfl); (case hr => (go_simp; done)); intro gb1253 hg w18 hbox hb; have n0_:=Aside0.mk (Kd.R_below (Kd.R_elderB (by exact HO_3.out) gb1253 (Nat.le_of_eq hg.symm)) hb); have n1_:=Aside0.mk (IsS112.below (by repeat (((with_reducible (exact HI0.out))))) hb); have n2_:=Aside0.mk (KeepBut.trans (by repeat (((with_reducible (exact HK.out))))) (KeepBut.of_below hb g none) (.inl rfl)); have n3_:=Aside0.mk (below_step (by repeat (((with_reducible (exact HB.out))))) hb); have n4_:=Aside0.mk (hbox); have n5_:=Aside0.mk ((by rw [hg]; exact (keep_size (w:=w) (g:=g) (row:=none) (by repeat (((with_reducible (exact HK.out)))))) : w.heap.size ≤ gb1253)); have n6_:=Aside0.mk ((Nat.le_trans HW0.out (by rw [hg]; exact (keep_size (w:=w) (g:=g) (row:=none) (by repeat (((with_reducible (exact HK.out)))))) : w.heap.size ≤ gb1253) : w0.heap.size ≤ gb1253)); have n7_:=Aside0.mk ((by rw [hg]; exact Nat.ne_of_lt (IsS112.lt (show IsS112 w0 _ g s0_0 t1251 t1252 from by repeat (((with_reducible (exact HI0.out)))))) : g ≠ gb1253)); have n8_:=Aside0.mk ((by rw [hg]; exact Nat.ne_of_gt (IsS112.lt (show IsS112 w0 _ g s0_0 t1251 t1252 from by repeat (((with_reducible (exact HI0.out)))))) : gb1253 ≠ g)); clear HO_3; clear HI0; clear HK; clear HB; have HO_3:=n0_; have HI0:=n1_; have HK:=n2_; have HB:=n3_; have BK1253:=n4_; have GW1253:=n5_; have GE1253:=n6_; have NB0_1253:=n7_; have NB1253_0:=n8_; clear n0_ n1_ n2_ n3_ n4_ n5_ n6_ n7_ n8_; clear hb hbox hg; have hnb19:=NB1253_0.out; have hnc19:=NB0_1253.out; have hcz20_0 : w18.cell? ⟨gb1253,0,none⟩ = some (.string (⟨#[]⟩ : ByteArray)):=(blk_cell BK1253.out 0).trans rfl; have hcz20_1 : w18.cell? ⟨gb1253,1,none⟩ = some (.int .i64 0):=(blk_cell BK1253.out 1).trans rfl; have hcz20_2 : w18.cell? ⟨gb1253,2,none⟩ = some (.int .i64 0):=(blk_cell BK1253.out 2).trans rfl; have hcz20_3 : w18.cell? ⟨gb1253,3,none⟩ = some (.int .i64 0):=(blk_cell BK1253.out 3).trans rfl; have hcz20_4 : w18.cell? ⟨gb1253,4,none⟩ = some (.int .i64 0):=(blk_cell BK1253.out 4).trans rfl; have hfz20_0:=blk_frozen BK1253.out 0; have hfz20_1:=blk_frozen BK1253.out 1; have hfz20_2:=blk_frozen BK1253.out 2; have hfz20_3:=blk_frozen BK1253.out 3; have hfz20_4:=blk_frozen BK1253.out 4; obtain ⟨Ao21,co21,eo21⟩:=Kd.R_slice HO_3.out; subst eo21))
     have m0_ : Aside0 (Kd.R k89 89 (((((w18.setCell ⟨gb1253,0,none⟩ (.string t1246)).setCell ⟨gb1253,1,none⟩ (.int .i64 t1247)).setCell ⟨gb1253,2,none⟩ (.int .i64 t1248)).setCell ⟨gb1253,3,none⟩ (.int .i64 t1249)).setCell ⟨gb1253,4,none⟩ (.int .i64 t1250)) w.heap.size (fun k_ => (True ∧ k_ ≠ gb1253)) (.slice Ao21 x3_1.length co21) x3_1):=⟨by (iterate 5 (refine Kd.R_far ?_ (fun _ hk => hk.2) _)); exact Kd.R_mono HO_3.out (fun k_ hk => ⟨trivial,hk.2⟩)⟩
     have m1_ : Aside0 ((((((w18.setCell ⟨gb1253,0,none⟩ (.string t1246)).setCell ⟨gb1253,1,none⟩ (.int .i64 t1247)).setCell ⟨gb1253,2,none⟩ (.int .i64 t1248)).setCell ⟨gb1253,3,none⟩ (.int .i64 t1249)).setCell ⟨gb1253,4,none⟩ (.int .i64 t1250)).heap[gb1253]? = some (.cells #[.string t1246,.int .i64 t1247,.int .i64 t1248,.int .i64 t1249,.int .i64 t1250] 89 (0,0))):=⟨by refine blk_put (cs:=#[.string t1246,.int .i64 t1247,.int .i64 t1248,.int .i64 t1249,.int .i64 0]) ?_ 4 _ rfl; refine blk_put (cs:=#[.string t1246,.int .i64 t1247,.int .i64 t1248,.int .i64 0,.int .i64 0]) ?_ 3 _ rfl; refine blk_put (cs:=#[.string t1246,.int .i64 t1247,.int .i64 0,.int .i64 0,.int .i64 0]) ?_ 2 _ rfl; refine blk_put (cs:=#[.string t1246,.int .i64 0,.int .i64 0,.int .i64 0,.int .i64 0]) ?_ 1 _ rfl; refine blk_put (cs:=#[.string (⟨#[]⟩ : ByteArray),.int .i64 0,.int .i64 0,.int .i64 0,.int .i64 0]) ?_ 0 _ rfl; exact BK1253.out⟩
     have m2_ : Aside0 (IsS112 w0 (((((w18.setCell ⟨gb1253,0,none⟩ (.string t1246)).setCell ⟨gb1253,1,none⟩ (.int .i64 t1247)).setCell ⟨gb1253,2,none⟩ (.int .i64 t1248)).setCell ⟨gb1253,3,none⟩ (.int .i64 t1249)).setCell ⟨gb1253,4,none⟩ (.int .i64 t1250)) g s0_0 t1251 t1252):=⟨by (iterate 5 (refine IsS112.far ?_ NB0_1253.out _)); exact HI0.out⟩
     have m3_ : Aside0 (KeepBut w (((((w18.setCell ⟨gb1253,0,none⟩ (.string t1246)).setCell ⟨gb1253,1,none⟩ (.int .i64 t1247)).setCell ⟨gb1253,2,none⟩ (.int .i64 t1248)).setCell ⟨gb1253,3,none⟩ (.int .i64 t1249)).setCell ⟨gb1253,4,none⟩ (.int .i64 t1250)) g none):=⟨by (iterate 5 (refine keep_far ?_ GW1253.out _)); exact HK.out⟩
     have m4_ : Aside0 (Below w0.heap.size w0 (((((w18.setCell ⟨gb1253,0,none⟩ (.string t1246)).setCell ⟨gb1253,1,none⟩ (.int .i64 t1247)).setCell ⟨gb1253,2,none⟩ (.int .i64 t1248)).setCell ⟨gb1253,3,none⟩ (.int .i64 t1249)).setCell ⟨gb1253,4,none⟩ (.int .i64 t1250))):=⟨by (iterate 5 (refine below_set ?_ GE1253.out)); exact HB.out⟩
     clear HO_3 BK1253 HI0 HK HB
     clear hcz20_0 hfz20_0 hcz20_1 hfz20_1 hcz20_2 hfz20_2 hcz20_3 hfz20_3 hcz20_4 hfz20_4
     generalize (((((w18.setCell ⟨gb1253,0,none⟩ (.string t1246)).setCell ⟨gb1253,1,none⟩ (.int .i64 t1247)).setCell ⟨gb1253,2,none⟩ (.int .i64 t1248)).setCell ⟨gb1253,3,none⟩ (.int .i64 t1249)).setCell ⟨gb1253,4,none⟩ (.int .i64 t1250)) = wg_ at m0_ m1_ m2_ m3_ m4_ ⊢
     have HO_3:=m0_
     have BK1253:=m1_
     have HI0:=m2_
     have HK:=m3_
     have HB:=m4_
     clear m0_ m1_ m2_ m3_ m4_
     have hcy_0 : wg_.cell? ⟨gb1253,0,none⟩ = some (.string t1246):=(blk_cell BK1253.out 0).trans rfl
     have hcy_1 : wg_.cell? ⟨gb1253,1,none⟩ = some (.int .i64 t1247):=(blk_cell BK1253.out 1).trans rfl
     have hcy_2 : wg_.cell? ⟨gb1253,2,none⟩ = some (.int .i64 t1248):=(blk_cell BK1253.out 2).trans rfl
     have hcy_3 : wg_.cell? ⟨gb1253,3,none⟩ = some (.int .i64 t1249):=(blk_cell BK1253.out 3).trans rfl
     have hcy_4 : wg_.cell? ⟨gb1253,4,none⟩ = some (.int .i64 t1250):=(blk_cell BK1253.out 4).trans rfl
     have hfy_0:=blk_frozen BK1253.out 0
     have hfy_1:=blk_frozen BK1253.out 1
     have hfy_2:=blk_frozen BK1253.out 2
     have hfy_3:=blk_frozen BK1253.out 3
     have hfy_4:=blk_frozen BK1253.out 4
     go_wp2_with ((((with_reducible refine gate_callee (f:=152) rfl ?_); refine goesL_ (some 19) rfl rfl Try.func152 (by kernel_rfl) rfl #[.slice Ao21 x3_1.length co21,.string t1246] rfl (by (try simp only [List.map_toArray,List.map_cons,List.map_nil]); (rfl)) ?_; (with_reducible refine (spec_l2Find.calls k1 _ _ x3_1 t1246 t1254 _ ?side1 ?side2 A8.out).mono ?_); (case side1 => refine (Kd.R_reads' (e:=89) (base:=w.heap.size) (ok:=fun k_ => (True ∧ k_ ≠ gb1253)) (n:=x3_1.length) (c:=co21) ?_).2.2; exact (by exact (Kd.R_mono (Kd.R_mono HO_3.out (fun k_ hk => (⟨hk,hk.2⟩ : _ ∧ k_ ≠ gb1253))) (fun _ h_ => h_.1)))); (case side2 => exact (Kd.R_reads' HO_3.out).2.1); rintro e w' ⟨rfl,⟨nd,rfl⟩⟩; refine ⟨_,rfl,?_⟩)))
     go_roundg k1
     case measure => have:=HK1.out; omega
     case rel => exact ⟨(x3_1),(wrap64 (x4_1 - 1)),(t1251),(t1252),(by (rfl)),H',⟨by have:=HK1.out; omega⟩,⟨by (with_reducible repeat (apply Kd.R_drewN)); exact Kd.R_mono (Kd.R_mono HO_3.out (fun k_ hk => (⟨hk,hk.2⟩ : _ ∧ k_ ≠ gb1253))) (fun _ hk => trivial)⟩,⟨by repeat (with_reducible first|exact HI0.out|apply IsS112.drewN)⟩,⟨by repeat (with_reducible first|exact HK.out|apply keep_drewN)⟩,⟨by repeat (with_reducible first|exact HB.out|apply pw_below_drewN)⟩⟩
   ·rw [if_neg c6] at H
    have c6b0 : decide (0 < x4_1) = false:=decide_eq_false c6
    clear c6
    replace H:=Option.bind_eq_some_iff.mp H
    obtain ⟨⟨t1258,t1259,t1260⟩,A220,H⟩:=H
    replace H : (if t1258 = 0 then ((spec_l1Cur_anyContainer.f k1 s0_0 t1259 t1260).bind fun bt1261 => (if x3_1.length < 2932031007402 then (some ((x3_1 ++ [(⟨bt1261.1,bt1261.2.1,bt1261.2.2.1,bt1261.2.2.2.1,bt1261.2.2.2.2.1⟩ : S89)]),bt1261.2.2.2.2.2.1,bt1261.2.2.2.2.2.2)) else (none))) else (if t1258 = 1 then (if (x3_1.length : Int) > 0 then ((spec_l1Cur_pick.f s0_0 t1259 t1260 (x3_1.length : Int)).bind fun bt1271 => (if 0 ≤ bt1271.1 then (if bt1271.1 < (x3_1.length : Int) then (if x3_1.length < 2932031007402 then (some ((x3_1 ++ [(⟨(rd_T89 x3_1 bt1271.1).f0,(rd_T89 x3_1 bt1271.1).f1,(rd_T89 x3_1 bt1271.1).f2,(rd_T89 x3_1 bt1271.1).f3,(rd_T89 x3_1 bt1271.1).f4⟩ : S89)]),bt1271.2.1,bt1271.2.2)) else (none)) else (none)) else (none))) else (some (x3_1,t1259,t1260))) else (if t1258 = 2 then (spec_l1Cur_containers.l1 k1 x3_1 0 s0_0 t1259 t1260) else (some (x3_1,t1259,t1260))))) = some (r1,r2,r3):=H
    have A22:=Aside0.mk A220
    clear A220
    by_cases c23 : t1258 = 0
    ·rw [if_pos c23] at H
     have c23b0 : (t1258 == 0) = true:=beq_iff_eq.mpr c23
     have c23b1 : (t1258 != 0) = false:=bne_eq_false_iff_eq.mpr c23
     clear c23
     replace H:=Option.bind_eq_some_iff.mp H
     obtain ⟨⟨t1261,t1262,t1263,t1264,t1265,t1266,t1267⟩,A240,H⟩:=H
     replace H : (if x3_1.length < 2932031007402 then (some ((x3_1 ++ [(⟨t1261,t1262,t1263,t1264,t1265⟩ : S89)]),t1266,t1267)) else (none)) = some (r1,r2,r3):=H
     have A24:=Aside0.mk A240
     clear A240
     by_cases c25 : x3_1.length < 2932031007402
     ·rw [if_pos c25] at H
      have LMc25:=Aside0.mk c25
      clear c25
      obtain ⟨y1268,hy1268⟩ : ∃ y_ : List (S89),y_ = (x3_1 ++ [(⟨t1261,t1262,t1263,t1264,t1265⟩ : S89)]):=⟨_,rfl⟩
      replace H : (some (y1268,t1266,t1267)) = some (r1,r2,r3):=by (rw [hy1268]; with_reducible exact H)
      have Ny1268:=Aside0.mk hy1268
      clear hy1268
      simp only [Option.some.injEq,Prod.mk.injEq] at H
      obtain ⟨rfl,rfl,rfl⟩:=H
      go_wp2_with (first|((with_reducible refine gate_callee (f:=97) rfl ?_); refine goesL_ (some 26) rfl rfl Try.func97 (by kernel_rfl) rfl #[.pointer (some ⟨g,0,none⟩),.int .i64 20] rfl (by (try simp only [List.map_toArray,List.map_cons,List.map_nil]); (rfl)) ?_; (with_reducible refine (spec_l1Cur_pick.calls g s0_0 x1001_1 x1002_1 20 t1258 t1259 t1260 w0 _ ?side1 ?side2 A22.out).mono ?_); (case side1 => repeat (((with_reducible (exact HI0.out))))); (case side2 => repeat (((with_reducible (exact HB.out))))); rintro e w26 ⟨rfl,hi,hb,hk⟩; refine ⟨_,rfl,?_⟩; have n0_:=Aside0.mk (Kd.R_mono (Kd.R_keep (IsS112.apart (show IsS112 w0 _ g s0_0 x1001_1 x1002_1 from by repeat (((with_reducible (exact HI0.out))))) (by exact HO_3.out) (by decide)) hk (fun _ h => h.2)) (fun _ h => h.1)); have n1_:=Aside0.mk (KeepBut.trans (by repeat (((with_reducible (exact HK.out))))) hk (.inl rfl)); have n2_:=Aside0.mk (hb); have n3_:=Aside0.mk (hi); clear HO_3; clear HK; clear HB; clear HI0; have HO_3:=n0_; have HK:=n1_; have HB:=n2_; have HI0:=n3_; clear n0_ n1_ n2_ n3_; (try clear hb); (try clear hb2); (try clear hk); (try clear hi))|((with_reducible refine gate_callee (f:=181) rfl ?_); refine goesL_ (some 31) rfl rfl Try.func181 (by kernel_rfl) rfl #[.pointer (some ⟨g,0,none⟩)] rfl (by (try simp only [List.map_toArray,List.map_cons,List.map_nil]); (rfl)) ?_; (with_reducible refine (spec_l1Cur_anyContainer.calls k1 g s0_0 t1259 t1260 t1261 t1262 t1263 t1264 t1265 t1266 t1267 w0 _ ?side1 ?side2 A24.out).mono ?_); (case side1 => repeat (((with_reducible (exact HI0.out))))); (case side2 => repeat (((with_reducible (exact HB.out))))); rintro e w27 ⟨rfl,hi,hb,hk⟩; refine ⟨_,rfl,?_⟩; have n0_:=Aside0.mk (Kd.R_mono (Kd.R_keep (IsS112.apart (show IsS112 w0 _ g s0_0 t1259 t1260 from by repeat (((with_reducible (exact HI0.out))))) (by exact HO_3.out) (by decide)) hk (fun _ h => h.2)) (fun _ h => h.1)); have n1_:=Aside0.mk (KeepBut.trans (by repeat (((with_reducible (exact HK.out))))) hk (.inl rfl)); have n2_:=Aside0.mk (hb); have n3_:=Aside0.mk (hi); clear HO_3; clear HK; clear HB; clear HI0; have HO_3:=n0_; have HK:=n1_; have HB:=n2_; have HI0:=n3_; clear n0_ n1_ n2_ n3_; (try clear hb); (try clear hb2); (try clear hk); (try clear hi))|((with_reducible refine gate_builtin (b:=.append) (xs:=#[.tmp 29,.tmp 32]) rfl ?_); at_builtin; refine Kd.R_append k89 w.heap.size rfl (.tmp 29) (.tmp 32) 74 89 (.agg #[(.string ⟨#[]⟩),(.int .i64 0),(.int .i64 0),(.int .i64 0),(.int .i64 0)]) 48 rfl Try.underlying74 info89 rfl (by decide) (by omega) u3 x3_1 (⟨t1261,t1262,t1263,t1264,t1265⟩ : S89) [.string t1261,.int .i64 t1262,.int .i64 t1263,.int .i64 t1264,.int .i64 t1265] (fun _ => True) (fun _ => False) rfl rfl ?aP (fun _ hk => hk.elim) ?aF ?aO (Below.refl _ _) ?aS ?aL ?_; (case aP => exact k89_mkM _ _ _ (⟨t1261,t1262,t1263,t1264,t1265⟩ : S89)); (case aF => exact (fun _ _ => trivial)); (case aO => exact (by exact HO_3.out)); (case aS => exact (keep_size (w:=w) (g:=g) (row:=none) (by repeat (((with_reducible (exact HK.out))))))); (case aL => have:=LMc25.out; omega); intro v1269 w28 ho hb hg hat; rw [← Ny1268.out] at ho; have n0_:=Aside0.mk (IsS112.grown (by repeat (((with_reducible (exact HI0.out))))) hg (IsS112.own_ne HI0.out HO_3.out (by decide))); have n1_:=Aside0.mk (below_weaken (by repeat (((with_reducible (exact HB.out))))) HL.out hb); have n2_:=Aside0.mk (KeepBut.trans (by repeat (((with_reducible (exact HK.out))))) (KeepBut.of_grown hg g) (Kd.R_base2 HO_3.out)); have n3_:=Aside0.mk (ho); clear HI0; clear HB; clear HK; clear HO_3; have HI0:=n0_; have HB:=n1_; have HK:=n2_; have HO1270:=n3_; clear n0_ n1_ n2_ n3_; clear ho hb hg hat))
      go_ret
      exact ⟨_,by (rfl),by exact HO1270.out,by repeat (((with_reducible (exact HI0.out)))),by repeat (((with_reducible (exact HB.out)))),by repeat (((with_reducible (exact HK.out))))⟩
     ·rw [if_neg c25] at H
      exact absurd H (by simp)
    ·rw [if_neg c23] at H
     have c23b0 : (t1258 == 0) = false:=beq_eq_false_iff_ne.mpr c23
     have c23b1 : (t1258 != 0) = true:=bne_iff_ne.mpr c23
     by_cases c29 : t1258 = 1
     ·rw [if_pos c29] at H
      have c29b0 : (t1258 == 1) = true:=beq_iff_eq.mpr c29
      have c29b1 : (t1258 != 1) = false:=bne_eq_false_iff_eq.mpr c29
      clear c29
      by_cases c30 : (x3_1.length : Int) > 0
      ·rw [if_pos c30] at H
       have c30b0 : decide (0 < (x3_1.length : Int)) = true:=decide_eq_true c30
       have c30b1 : decide (0 < x3_1.length) = true:=decide_eq_true (by omega)
       clear c30
       replace H:=Option.bind_eq_some_iff.mp H
       obtain ⟨⟨t1271,t1272,t1273⟩,A310,H⟩:=H
       replace H : (if 0 ≤ t1271 then (if t1271 < (x3_1.length : Int) then (if x3_1.length < 2932031007402 then (some ((x3_1 ++ [(⟨(rd_T89 x3_1 t1271).f0,(rd_T89 x3_1 t1271).f1,(rd_T89 x3_1 t1271).f2,(rd_T89 x3_1 t1271).f3,(rd_T89 x3_1 t1271).f4⟩ : S89)]),t1272,t1273)) else (none)) else (none)) else (none)) = some (r1,r2,r3):=H
       have A31:=Aside0.mk A310
       clear A310
       by_cases c32 : 0 ≤ t1271
       ·rw [if_pos c32] at H
        have c32b0 : decide (0 ≤ t1271) = true:=decide_eq_true c32
        clear c32
        by_cases c33 : t1271 < (x3_1.length : Int)
        ·rw [if_pos c33] at H
         have c33b0 : decide (t1271 < (x3_1.length : Int)) = true:=decide_eq_true c33
         clear c33
         by_cases c34 : x3_1.length < 2932031007402
         ·rw [if_pos c34] at H
          have LMc34:=Aside0.mk c34
          clear c34
          obtain ⟨y1275,hy1275⟩ : ∃ y_ : List (S89),y_ = (x3_1 ++ [(⟨(rd_T89 x3_1 t1271).f0,(rd_T89 x3_1 t1271).f1,(rd_T89 x3_1 t1271).f2,(rd_T89 x3_1 t1271).f3,(rd_T89 x3_1 t1271).f4⟩ : S89)]):=⟨_,rfl⟩
          replace H : (some (y1275,t1272,t1273)) = some (r1,r2,r3):=by (rw [hy1275]; with_reducible exact H)
          have Ny1275:=Aside0.mk hy1275
          clear hy1275
          simp only [Option.some.injEq,Prod.mk.injEq] at H
          obtain ⟨rfl,rfl,rfl⟩:=H
          go_wp2_with (first|((with_reducible refine gate_callee (f:=97) rfl ?_); refine goesL_ (some 26) rfl rfl Try.func97 (by kernel_rfl) rfl #[.pointer (some ⟨g,0,none⟩),.int .i64 20] rfl (by (try simp only [List.map_toArray,List.map_cons,List.map_nil]); (rfl)) ?_; (with_reducible refine (spec_l1Cur_pick.calls g s0_0 x1001_1 x1002_1 20 t1258 t1259 t1260 w0 _ ?side1 ?side2 A22.out).mono ?_); (case side1 => repeat (((with_reducible (exact HI0.out))))); (case side2 => repeat (((with_reducible (exact HB.out))))); rintro e w35 ⟨rfl,hi,hb,hk⟩; refine ⟨_,rfl,?_⟩; have n0_:=Aside0.mk (Kd.R_mono (Kd.R_keep (IsS112.apart (show IsS112 w0 _ g s0_0 x1001_1 x1002_1 from by repeat (((with_reducible (exact HI0.out))))) (by exact HO_3.out) (by decide)) hk (fun _ h => h.2)) (fun _ h => h.1)); have n1_:=Aside0.mk (KeepBut.trans (by repeat (((with_reducible (exact HK.out))))) hk (.inl rfl)); have n2_:=Aside0.mk (hb); have n3_:=Aside0.mk (hi); clear HO_3; clear HK; clear HB; clear HI0; have HO_3:=n0_; have HK:=n1_; have HB:=n2_; have HI0:=n3_; clear n0_ n1_ n2_ n3_; (try clear hb); (try clear hb2); (try clear hk); (try clear hi); obtain ⟨Ao36,co36,eo36⟩:=Kd.R_slice HO_3.out; subst eo36)|((with_reducible refine gate_callee (f:=97) rfl ?_); refine goesL_ (some 44) rfl rfl Try.func97 (by kernel_rfl) rfl #[.pointer (some ⟨g,0,none⟩),.int .i64 (x3_1.length : Int)] rfl (by (try simp only [List.map_toArray,List.map_cons,List.map_nil]); (rfl)) ?_; (with_reducible refine (spec_l1Cur_pick.calls g s0_0 t1259 t1260 (x3_1.length : Int) t1271 t1272 t1273 w0 _ ?side1 ?side2 A31.out).mono ?_); (case side1 => repeat (((with_reducible (exact HI0.out))))); (case side2 => repeat (((with_reducible (exact HB.out))))); rintro e w37 ⟨rfl,hi,hb,hk⟩; refine ⟨_,rfl,?_⟩; have n0_:=Aside0.mk (Kd.R_mono (Kd.R_keep (IsS112.apart (show IsS112 w0 _ g s0_0 t1259 t1260 from by repeat (((with_reducible (exact HI0.out))))) (by exact HO_3.out) (by decide)) hk (fun _ h => h.2)) (fun _ h => h.1)); have n1_:=Aside0.mk (KeepBut.trans (by repeat (((with_reducible (exact HK.out))))) hk (.inl rfl)); have n2_:=Aside0.mk (hb); have n3_:=Aside0.mk (hi); clear HO_3; clear HK; clear HB; clear HI0; have HO_3:=n0_; have HK:=n1_; have HB:=n2_; have HI0:=n3_; clear n0_ n1_ n2_ n3_; (try clear hb); (try clear hb2); (try clear hk); (try clear hi); have p1274 : 0 ≤ (t1271 : Int):=of_decide_eq_true (by (with_reducible assumption)); have q1274 : t1271 < (x3_1.length : Int):=of_decide_eq_true (by (with_reducible assumption)); obtain ⟨ad1274,e1274,hx1274_0,hx1274_1,hx1274_2,hx1274_3,hx1274_4⟩:=at_T89 (Kd.R_reads' HO_3.out).2.2 t1271 p1274 q1274; cases e1274; replace p1274:=eq_true p1274; replace q1274:=eq_true q1274)|((with_reducible refine gate_builtin (b:=.append) (xs:=#[.tmp 39,.tmp 47]) rfl ?_); at_builtin; refine Kd.R_append k89 w.heap.size rfl (.tmp 39) (.tmp 47) 74 89 (.agg #[(.string ⟨#[]⟩),(.int .i64 0),(.int .i64 0),(.int .i64 0),(.int .i64 0)]) 48 rfl Try.underlying74 info89 rfl (by decide) (by omega) (.slice (some ad1274) x3_1.length co36) x3_1 (⟨(rd_T89 x3_1 t1271).f0,(rd_T89 x3_1 t1271).f1,(rd_T89 x3_1 t1271).f2,(rd_T89 x3_1 t1271).f3,(rd_T89 x3_1 t1271).f4⟩ : S89) [.string ((rd_T89 x3_1 t1271).f0),.int .i64 ((rd_T89 x3_1 t1271).f1),.int .i64 ((rd_T89 x3_1 t1271).f2),.int .i64 ((rd_T89 x3_1 t1271).f3),.int .i64 ((rd_T89 x3_1 t1271).f4)] (fun _ => True) (fun _ => False) rfl rfl ?aP (fun _ hk => hk.elim) ?aF ?aO (Below.refl _ _) ?aS ?aL ?_; (case aP => exact k89_mkM _ _ _ (⟨(rd_T89 x3_1 t1271).f0,(rd_T89 x3_1 t1271).f1,(rd_T89 x3_1 t1271).f2,(rd_T89 x3_1 t1271).f3,(rd_T89 x3_1 t1271).f4⟩ : S89)); (case aF => exact (fun _ _ => trivial)); (case aO => exact (by exact HO_3.out)); (case aS => exact (keep_size (w:=w) (g:=g) (row:=none) (by repeat (((with_reducible (exact HK.out))))))); (case aL => have:=LMc34.out; omega); intro v1276 w38 ho hb hg hat; rw [← Ny1275.out] at ho; have n0_:=Aside0.mk (IsS112.grown (by repeat (((with_reducible (exact HI0.out))))) hg (IsS112.own_ne HI0.out HO_3.out (by decide))); have n1_:=Aside0.mk (below_weaken (by repeat (((with_reducible (exact HB.out))))) HL.out hb); have n2_:=Aside0.mk (KeepBut.trans (by repeat (((with_reducible (exact HK.out))))) (KeepBut.of_grown hg g) (Kd.R_base2 HO_3.out)); have n3_:=Aside0.mk (ho); clear HI0; clear HB; clear HK; clear HO_3; have HI0:=n0_; have HB:=n1_; have HK:=n2_; have HO1277:=n3_; clear n0_ n1_ n2_ n3_; clear ho hb hg hat))
          go_ret
          exact ⟨_,by (rfl),by exact HO1277.out,by repeat (((with_reducible (exact HI0.out)))),by repeat (((with_reducible (exact HB.out)))),by repeat (((with_reducible (exact HK.out))))⟩
         ·rw [if_neg c34] at H
          exact absurd H (by simp)
        ·rw [if_neg c33] at H
         exact absurd H (by simp)
       ·rw [if_neg c32] at H
        exact absurd H (by simp)
      ·rw [if_neg c30] at H
       have c30b0 : decide (0 < (x3_1.length : Int)) = false:=decide_eq_false c30
       have c30b1 : decide (0 < x3_1.length) = false:=decide_eq_false (by omega)
       clear c30
       simp only [Option.some.injEq,Prod.mk.injEq] at H
       obtain ⟨rfl,rfl,rfl⟩:=H
       go_wp2_with ((((with_reducible refine gate_callee (f:=97) rfl ?_); refine goesL_ (some 26) rfl rfl Try.func97 (by kernel_rfl) rfl #[.pointer (some ⟨g,0,none⟩),.int .i64 20] rfl (by (try simp only [List.map_toArray,List.map_cons,List.map_nil]); (rfl)) ?_; (with_reducible refine (spec_l1Cur_pick.calls g s0_0 x1001_1 x1002_1 20 t1258 t1259 t1260 w0 _ ?side1 ?side2 A22.out).mono ?_); (case side1 => repeat (((with_reducible (exact HI0.out))))); (case side2 => repeat (((with_reducible (exact HB.out))))); rintro e w39 ⟨rfl,hi,hb,hk⟩; refine ⟨_,rfl,?_⟩; have n0_:=Aside0.mk (Kd.R_mono (Kd.R_keep (IsS112.apart (show IsS112 w0 _ g s0_0 x1001_1 x1002_1 from by repeat (((with_reducible (exact HI0.out))))) (by exact HO_3.out) (by decide)) hk (fun _ h => h.2)) (fun _ h => h.1)); have n1_:=Aside0.mk (KeepBut.trans (by repeat (((with_reducible (exact HK.out))))) hk (.inl rfl)); have n2_:=Aside0.mk (hb); have n3_:=Aside0.mk (hi); clear HO_3; clear HK; clear HB; clear HI0; have HO_3:=n0_; have HK:=n1_; have HB:=n2_; have HI0:=n3_; clear n0_ n1_ n2_ n3_; (try clear hb); (try clear hb2); (try clear hk); (try clear hi); obtain ⟨Ao40,co40,eo40⟩:=Kd.R_slice HO_3.out; subst eo40)))
       go_ret
       exact ⟨_,by (rfl),by exact HO_3.out,by repeat (((with_reducible (exact HI0.out)))),by repeat (((with_reducible (exact HB.out)))),by repeat (((with_reducible (exact HK.out))))⟩
     ·rw [if_neg c29] at H
      have c29b0 : (t1258 == 1) = false:=beq_eq_false_iff_ne.mpr c29
      have c29b1 : (t1258 != 1) = true:=bne_iff_ne.mpr c29
      by_cases c41 : t1258 = 2
      ·rw [if_pos c41] at H
       have c41b0 : (t1258 == 2) = true:=beq_iff_eq.mpr c41
       have c41b1 : (t1258 != 2) = false:=bne_eq_false_iff_eq.mpr c41
       clear c41
       have H':=Aside0.mk H
       clear H
       go_wp2_with ((((with_reducible refine gate_callee (f:=97) rfl ?_); refine goesL_ (some 26) rfl rfl Try.func97 (by kernel_rfl) rfl #[.pointer (some ⟨g,0,none⟩),.int .i64 20] rfl (by (try simp only [List.map_toArray,List.map_cons,List.map_nil]); (rfl)) ?_; (with_reducible refine (spec_l1Cur_pick.calls g s0_0 x1001_1 x1002_1 20 t1258 t1259 t1260 w0 _ ?side1 ?side2 A22.out).mono ?_); (case side1 => repeat (((with_reducible (exact HI0.out))))); (case side2 => repeat (((with_reducible (exact HB.out))))); rintro e w42 ⟨rfl,hi,hb,hk⟩; refine ⟨_,rfl,?_⟩; have n0_:=Aside0.mk (Kd.R_mono (Kd.R_keep (IsS112.apart (show IsS112 w0 _ g s0_0 x1001_1 x1002_1 from by repeat (((with_reducible (exact HI0.out))))) (by exact HO_3.out) (by decide)) hk (fun _ h => h.2)) (fun _ h => h.1)); have n1_:=Aside0.mk (KeepBut.trans (by repeat (((with_reducible (exact HK.out))))) hk (.inl rfl)); have n2_:=Aside0.mk (hb); have n3_:=Aside0.mk (hi); clear HO_3; clear HK; clear HB; clear HI0; have HO_3:=n0_; have HK:=n1_; have HB:=n2_; have HI0:=n3_; clear n0_ n1_ n2_ n3_; (try clear hb); (try clear hb2); (try clear hk); (try clear hi))))
       go_loopg [3,6] k1 (fun kq v3 v6 w' => ∃ (x3_2 : List (S89)) (x6_2 : Int) (x1001_2 : Int) (x1002_2 : Int),v6 = .int .i64 x6_2 ∧ Aside0 (spec_l1Cur_containers.l1 kq x3_2 x6_2 s0_0 x1001_2 x1002_2 = some (r1,r2,r3)) ∧ Aside0 (kq ≤ k1) ∧ Aside0 (Kd.R k89 89 w' w.heap.size (fun _ => True) v3 x3_2) ∧ Aside0 (IsS112 w0 w' g s0_0 x1001_2 x1002_2) ∧ Aside0 (KeepBut w w' g none) ∧ Aside0 (Below w0.heap.size w0 w'))
       case atStart => exact ⟨(x3_1),(0),(t1259),(t1260),(by (rfl)),H',⟨Nat.le_refl _⟩,⟨by exact HO_3.out⟩,⟨by repeat (((with_reducible (exact HI0.out))))⟩,⟨by repeat (((with_reducible (exact HK.out))))⟩,⟨by repeat (((with_reducible (exact HB.out))))⟩⟩
       case round =>
        clear H'
        try clear c1
        try clear p1
        try clear q1
        try clear hx1
        try clear c2
        try clear p2
        try clear c3
        try clear c4
        try clear c6
        try clear c6b0
        try clear p6
        try clear c9
        try clear c9b0
        try clear c10
        try clear p12
        try clear q12
        try clear hx12
        try clear c13
        try clear c15
        try clear c18
        try clear c19
        try clear c23
        try clear c23b0
        try clear c23b1
        try clear c25
        try clear c29
        try clear c29b0
        try clear c29b1
        try clear c30
        try clear c30b0
        try clear c30b1
        try clear c32
        try clear c32b0
        try clear c33
        try clear c33b0
        try clear c34
        try clear c41
        try clear c41b0
        try clear c41b1
        try clear hcz14_0
        try clear hcz14_1
        try clear hcz14_2
        try clear hcz14_3
        try clear hcz14_4
        try clear hcz20_0
        try clear hcz20_1
        try clear hcz20_2
        try clear hcz20_3
        try clear hcz20_4
        try clear hfz14_0
        try clear hfz14_1
        try clear hfz14_2
        try clear hfz14_3
        try clear hfz14_4
        try clear hfz20_0
        try clear hfz20_1
        try clear hfz20_2
        try clear hfz20_3
        try clear hfz20_4
        try clear hx1274_0
        try clear hx1274_1
        try clear hx1274_2
        try clear hx1274_3
        try clear hx1274_4
        try clear p1274
        try clear p2
        try clear q1274
        obtain ⟨x3_2,x6_2,x1001_2,x1002_2,rfl,HA,HK2,HO_3,HI0,HK,HB⟩:=hrel
        cases gk with
        | zero => exact absurd HA.out (by simp [spec_l1Cur_containers.l1])
        | succ k2 =>
         have H:=HA.out
         clear HA
         simp only [spec_l1Cur_containers.l1] at H
         replace H:=Option.bind_eq_some_iff.mp H
         obtain ⟨⟨t1278,t1279,t1280⟩,A430,H⟩:=H
         replace H : (if (x3_2.length : Int) < (wrap64 (12 + t1278)) then (if x6_2 < 14 then ((spec_l2Number.f k2 (⟨#[77,65,88]⟩ : ByteArray) x6_2).bind fun t1281 => (if x3_2.length < 2932031007402 then (spec_l1Cur_containers.l1 k2 (x3_2 ++ [(⟨t1281,1,wrap64 (100 + x6_2),1,wrap64 (1 + (Int.tmod x6_2 9))⟩ : S89)]) (wrap64 (x6_2 + 1)) s0_0 t1279 t1280) else (none))) else (some (x3_2,t1279,t1280))) else (some (x3_2,t1279,t1280))) = some (r1,r2,r3):=H
         have A43:=Aside0.mk A430
         clear A430
         by_cases c44 : (x3_2.length : Int) < (wrap64 (12 + t1278))
         ·rw [if_pos c44] at H
          have c44b0 : decide ((x3_2.length : Int) < (wrap64 (12 + t1278))) = true:=decide_eq_true c44
          clear c44
          by_cases c45 : x6_2 < 14
          ·rw [if_pos c45] at H
           have c45b0 : decide (x6_2 < 14) = true:=decide_eq_true c45
           clear c45
           replace H:=Option.bind_eq_some_iff.mp H
           obtain ⟨t1281,A460,H⟩:=H
           replace H : (if x3_2.length < 2932031007402 then (spec_l1Cur_containers.l1 k2 (x3_2 ++ [(⟨t1281,1,wrap64 (100 + x6_2),1,wrap64 (1 + (Int.tmod x6_2 9))⟩ : S89)]) (wrap64 (x6_2 + 1)) s0_0 t1279 t1280) else (none)) = some (r1,r2,r3):=H
           have A46:=Aside0.mk A460
           clear A460
           by_cases c47 : x3_2.length < 2932031007402
           ·rw [if_pos c47] at H
            have LMc47:=Aside0.mk c47
            clear c47
            obtain ⟨y1282,hy1282⟩ : ∃ y_ : List (S89),y_ = (x3_2 ++ [(⟨t1281,1,wrap64 (100 + x6_2),1,wrap64 (1 + (Int.tmod x6_2 9))⟩ : S89)]):=⟨_,rfl⟩
            replace H : (spec_l1Cur_containers.l1 k2 y1282 (wrap64 (x6_2 + 1)) s0_0 t1279 t1280) = some (r1,r2,r3):=by (rw [hy1282]; with_reducible exact H)
            have Ny1282:=Aside0.mk hy1282
            clear hy1282
            have H':=Aside0.mk H
            clear H
            obtain ⟨Ao48,co48,eo48⟩:=Kd.R_slice HO_3.out
            subst eo48
            go_wp2_with (first|((with_reducible refine gate_callee (f:=97) rfl ?_); refine goesL_ (some 54) rfl rfl Try.func97 (by kernel_rfl) rfl #[.pointer (some ⟨g,0,none⟩),.int .i64 2] rfl (by (try simp only [List.map_toArray,List.map_cons,List.map_nil]); (rfl)) ?_; (with_reducible refine (spec_l1Cur_pick.calls g s0_0 x1001_2 x1002_2 2 t1278 t1279 t1280 w0 _ ?side1 ?side2 A43.out).mono ?_); (case side1 => repeat (((with_reducible (exact HI0.out))))); (case side2 => repeat (((with_reducible (exact HB.out))))); rintro e w49 ⟨rfl,hi,hb,hk⟩; refine ⟨_,rfl,?_⟩; have n0_:=Aside0.mk (Kd.R_mono (Kd.R_keep (IsS112.apart (show IsS112 w0 _ g s0_0 x1001_2 x1002_2 from by repeat (((with_reducible (exact HI0.out))))) (by exact HO_3.out) (by decide)) hk (fun _ h => h.2)) (fun _ h => h.1)); have n1_:=Aside0.mk (KeepBut.trans (by repeat (((with_reducible (exact HK.out))))) hk (.inl rfl)); have n2_:=Aside0.mk (hb); have n3_:=Aside0.mk (hi); clear HO_3; clear HK; clear HB; clear HI0; have HO_3:=n0_; have HK:=n1_; have HB:=n2_; have HI0:=n3_; clear n0_ n1_ n2_ n3_; (try clear hb); (try clear hb2); (try clear hk); (try clear hi))|((with_reducible refine gate_callee (f:=182) rfl ?_); refine goesL_ (some 65) rfl rfl Try.func182 (by kernel_rfl) rfl #[.string (⟨#[77,65,88]⟩ : ByteArray),.int .i64 x6_2] rfl (by (try simp only [List.map_toArray,List.map_cons,List.map_nil]); (rfl)) ?_; (with_reducible refine (spec_l2Number.calls k2 (⟨#[77,65,88]⟩ : ByteArray) x6_2 t1281 _ A46.out).mono ?_); rintro e w50 ⟨rfl,hb⟩; refine ⟨_,rfl,?_⟩; have n0_:=Aside0.mk (Kd.R_below (by exact HO_3.out) hb); have n1_:=Aside0.mk (IsS112.below (by repeat (((with_reducible (exact HI0.out))))) hb); have n2_:=Aside0.mk (KeepBut.trans (by repeat (((with_reducible (exact HK.out))))) (KeepBut.of_below hb g none) (.inl rfl)); have n3_:=Aside0.mk (below_step (by repeat (((with_reducible (exact HB.out))))) hb); clear HO_3; clear HI0; clear HK; clear HB; have HO_3:=n0_; have HI0:=n1_; have HK:=n2_; have HB:=n3_; clear n0_ n1_ n2_ n3_; (try clear hb); (try clear hb2); (try clear hk); (try clear hi))|((with_reducible refine gate_builtin (b:=.append) (xs:=#[.tmp 63,.tmp 72]) rfl ?_); at_builtin; refine Kd.R_append k89 w.heap.size rfl (.tmp 63) (.tmp 72) 74 89 (.agg #[(.string ⟨#[]⟩),(.int .i64 0),(.int .i64 0),(.int .i64 0),(.int .i64 0)]) 48 rfl Try.underlying74 info89 rfl (by decide) (by omega) (.slice Ao48 x3_2.length co48) x3_2 (⟨t1281,1,wrap64 (100 + x6_2),1,wrap64 (1 + (Int.tmod x6_2 9))⟩ : S89) [.string t1281,.int .i64 1,.int .i64 (wrap64 (100 + x6_2)),.int .i64 1,.int .i64 (wrap64 (1 + (Int.tmod x6_2 9)))] (fun _ => True) (fun _ => False) rfl rfl ?aP (fun _ hk => hk.elim) ?aF ?aO (Below.refl _ _) ?aS ?aL ?_; (case aP => exact k89_mkM _ _ _ (⟨t1281,1,wrap64 (100 + x6_2),1,wrap64 (1 + (Int.tmod x6_2 9))⟩ : S89)); (case aF => exact (fun _ _ => trivial)); (case aO => exact (by exact HO_3.out)); (case aS => exact (keep_size (w:=w) (g:=g) (row:=none) (by repeat (((with_reducible (exact HK.out))))))); (case aL => have:=LMc47.out; omega); intro v1283 w51 ho hb hg hat; rw [← Ny1282.out] at ho; have n0_:=Aside0.mk (IsS112.grown (by repeat (((with_reducible (exact HI0.out))))) hg (IsS112.own_ne HI0.out HO_3.out (by decide))); have n1_:=Aside0.mk (below_weaken (by repeat (((with_reducible (exact HB.out))))) HL.out hb); have n2_:=Aside0.mk (KeepBut.trans (by repeat (((with_reducible (exact HK.out))))) (KeepBut.of_grown hg g) (Kd.R_base2 HO_3.out)); have n3_:=Aside0.mk (ho); clear HI0; clear HB; clear HK; clear HO_3; have HI0:=n0_; have HB:=n1_; have HK:=n2_; have HO1284:=n3_; clear n0_ n1_ n2_ n3_; clear ho hb hg hat))
            go_roundg k2
            case measure => have:=HK1.out; have:=HK2.out; omega
            case rel => exact ⟨(y1282),(wrap64 (x6_2 + 1)),(t1279),(t1280),(by (rfl)),H',⟨by have:=HK1.out; have:=HK2.out; omega⟩,⟨by exact HO1284.out⟩,⟨by repeat (((with_reducible (exact HI0.out))))⟩,⟨by repeat (((with_reducible (exact HK.out))))⟩,⟨by repeat (((with_reducible (exact HB.out))))⟩⟩
           ·rw [if_neg c47] at H
            exact absurd H (by simp)
          ·rw [if_neg c45] at H
           have c45b0 : decide (x6_2 < 14) = false:=decide_eq_false c45
           clear c45
           simp only [Option.some.injEq,Prod.mk.injEq] at H
           obtain ⟨rfl,rfl,rfl⟩:=H
           obtain ⟨Ao52,co52,eo52⟩:=Kd.R_slice HO_3.out
           subst eo52
           go_wp2_with ((((with_reducible refine gate_callee (f:=97) rfl ?_); refine goesL_ (some 54) rfl rfl Try.func97 (by kernel_rfl) rfl #[.pointer (some ⟨g,0,none⟩),.int .i64 2] rfl (by (try simp only [List.map_toArray,List.map_cons,List.map_nil]); (rfl)) ?_; (with_reducible refine (spec_l1Cur_pick.calls g s0_0 x1001_2 x1002_2 2 t1278 t1279 t1280 w0 _ ?side1 ?side2 A43.out).mono ?_); (case side1 => repeat (((with_reducible (exact HI0.out))))); (case side2 => repeat (((with_reducible (exact HB.out))))); rintro e w53 ⟨rfl,hi,hb,hk⟩; refine ⟨_,rfl,?_⟩; have n0_:=Aside0.mk (Kd.R_mono (Kd.R_keep (IsS112.apart (show IsS112 w0 _ g s0_0 x1001_2 x1002_2 from by repeat (((with_reducible (exact HI0.out))))) (by exact HO_3.out) (by decide)) hk (fun _ h => h.2)) (fun _ h => h.1)); have n1_:=Aside0.mk (KeepBut.trans (by repeat (((with_reducible (exact HK.out))))) hk (.inl rfl)); have n2_:=Aside0.mk (hb); have n3_:=Aside0.mk (hi); clear HO_3; clear HK; clear HB; clear HI0; have HO_3:=n0_; have HK:=n1_; have HB:=n2_; have HI0:=n3_; clear n0_ n1_ n2_ n3_; (try clear hb); (try clear hb2); (try clear hk); (try clear hi))))
           go_ret
           exact ⟨_,by (rfl),by exact HO_3.out,by repeat (((with_reducible (exact HI0.out)))),by repeat (((with_reducible (exact HB.out)))),by repeat (((with_reducible (exact HK.out))))⟩
         ·rw [if_neg c44] at H
          have c44b0 : decide ((x3_2.length : Int) < (wrap64 (12 + t1278))) = false:=decide_eq_false c44
          clear c44
          simp only [Option.some.injEq,Prod.mk.injEq] at H
          obtain ⟨rfl,rfl,rfl⟩:=H
          obtain ⟨Ao54,co54,eo54⟩:=Kd.R_slice HO_3.out
          subst eo54
          go_wp2_with ((((with_reducible refine gate_callee (f:=97) rfl ?_); refine goesL_ (some 54) rfl rfl Try.func97 (by kernel_rfl) rfl #[.pointer (some ⟨g,0,none⟩),.int .i64 2] rfl (by (try simp only [List.map_toArray,List.map_cons,List.map_nil]); (rfl)) ?_; (with_reducible refine (spec_l1Cur_pick.calls g s0_0 x1001_2 x1002_2 2 t1278 t1279 t1280 w0 _ ?side1 ?side2 A43.out).mono ?_); (case side1 => repeat (((with_reducible (exact HI0.out))))); (case side2 => repeat (((with_reducible (exact HB.out))))); rintro e w55 ⟨rfl,hi,hb,hk⟩; refine ⟨_,rfl,?_⟩; have n0_:=Aside0.mk (Kd.R_mono (Kd.R_keep (IsS112.apart (show IsS112 w0 _ g s0_0 x1001_2 x1002_2 from by repeat (((with_reducible (exact HI0.out))))) (by exact HO_3.out) (by decide)) hk (fun _ h => h.2)) (fun _ h => h.1)); have n1_:=Aside0.mk (KeepBut.trans (by repeat (((with_reducible (exact HK.out))))) hk (.inl rfl)); have n2_:=Aside0.mk (hb); have n3_:=Aside0.mk (hi); clear HO_3; clear HK; clear HB; clear HI0; have HO_3:=n0_; have HK:=n1_; have HB:=n2_; have HI0:=n3_; clear n0_ n1_ n2_ n3_; (try clear hb); (try clear hb2); (try clear hk); (try clear hi))))
          go_ret
          exact ⟨_,by (rfl),by exact HO_3.out,by repeat (((with_reducible (exact HI0.out)))),by repeat (((with_reducible (exact HB.out)))),by repeat (((with_reducible (exact HK.out))))⟩
      ·rw [if_neg c41] at H
       have c41b0 : (t1258 == 2) = false:=beq_eq_false_iff_ne.mpr c41
       have c41b1 : (t1258 != 2) = true:=bne_iff_ne.mpr c41
       simp only [Option.some.injEq,Prod.mk.injEq] at H
       obtain ⟨rfl,rfl,rfl⟩:=H
       go_wp2_with ((((with_reducible refine gate_callee (f:=97) rfl ?_); refine goesL_ (some 26) rfl rfl Try.func97 (by kernel_rfl) rfl #[.pointer (some ⟨g,0,none⟩),.int .i64 20] rfl (by (try simp only [List.map_toArray,List.map_cons,List.map_nil]); (rfl)) ?_; (with_reducible refine (spec_l1Cur_pick.calls g s0_0 x1001_1 x1002_1 20 t1258 t1259 t1260 w0 _ ?side1 ?side2 A22.out).mono ?_); (case side1 => repeat (((with_reducible (exact HI0.out))))); (case side2 => repeat (((with_reducible (exact HB.out))))); rintro e w56 ⟨rfl,hi,hb,hk⟩; refine ⟨_,rfl,?_⟩; have n0_:=Aside0.mk (Kd.R_mono (Kd.R_keep (IsS112.apart (show IsS112 w0 _ g s0_0 x1001_1 x1002_1 from by repeat (((with_reducible (exact HI0.out))))) (by exact HO_3.out) (by decide)) hk (fun _ h => h.2)) (fun _ h => h.1)); have n1_:=Aside0.mk (KeepBut.trans (by repeat (((with_reducible (exact HK.out))))) hk (.inl rfl)); have n2_:=Aside0.mk (hb); have n3_:=Aside0.mk (hi); clear HO_3; clear HK; clear HB; clear HI0; have HO_3:=n0_; have HK:=n1_; have HB:=n2_; have HI0:=n3_; clear n0_ n1_ n2_ n3_; (try clear hb); (try clear hb2); (try clear hk); (try clear hi))))
       go_ret
       exact ⟨_,by (rfl),by exact HO_3.out,by repeat (((with_reducible (exact HI0.out)))),by repeat (((with_reducible (exact HB.out)))),by repeat (((with_reducible (exact HK.out))))⟩

end Go.Proofs.Ytlldonokjgoajaa.X
