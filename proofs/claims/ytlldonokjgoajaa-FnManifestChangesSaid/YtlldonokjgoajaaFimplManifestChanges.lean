-- Written by a program of ours (wip/bin/xprint.py,over the kit's print.py) out of the translation. Not trusted: Lean checks it.
import Derived.Test.YtlldonokjgoajaaX0
import Derived.Test.YtlldonokjgoajaaXE0
import Derived.Test.YtlldonokjgoajaaFbGood
import Derived.Test.YtlldonokjgoajaaGSortS
import Derived.Test.YtlldonokjgoajaaGindexOf
namespace Go.Proofs.Ytlldonokjgoajaa.X
open Go.RowKit Go.Proofs.YtlldonokjgoajaaW.PrintWords Go.Proofs.YtlldonokjgoajaaW.PrintLast Go.Proofs.YtlldonokjgoajaaW.PrintMore
attribute [local go_sem] max2_int min2_int max_two min_two max_three min_three max_four min_four   -- for this text's walks alone
set_option linter.unusedVariables false
set_option linter.unusedSimpArgs false

attribute [local go_sem high] eqA89
/-! ### impl_ManifestChanges: function 79 -/
mutual
def impl_ManifestChanges.j0 : Nat → List (S89) → List (S89) → Bool → Option (List ByteArray × List ByteArray × List ByteArray × Bool)
 | 0,_,_,_ => none
 | k + 1,x0,x1,x23 => if x23 = true then (some (([] : List ByteArray),([] : List ByteArray),([] : List ByteArray),false)) else (impl_ManifestChanges.l0 k x0 x1 ([] : List ByteArray) ([] : List ByteArray) ([] : List ByteArray) x1 (x1.length : Int) 0)
def impl_ManifestChanges.l0 : Nat → List (S89) → List (S89) → List ByteArray → List ByteArray → List ByteArray → List (S89) → Int → Int → Option (List ByteArray × List ByteArray × List ByteArray × Bool)
 | 0,_,_,_,_,_,_,_,_ => none
 | k + 1,x0,x1,x8,x9,x10,x27,x28,x29 => if x29 < x28 then (if 0 ≤ x29 then (if x29 < (x27.length : Int) then ((impl_indexOf.f x0 ((rd_T89 x27 x29).f0)).bind fun t1388 => (if t1388 < 0 then (if x8.length < 8796093022208 then (impl_ManifestChanges.l0 k x0 x1 (x8 ++ [(rd_T89 x27 x29).f0]) x9 x10 x27 x28 (wrap64 (x29 + 1))) else (none)) else (if 0 ≤ t1388 then (if t1388 < (x0.length : Int) then (if (!((((rd_T89 x0 t1388).f0).toList) == (((rd_T89 x27 x29).f0).toList)) || (!(((rd_T89 x0 t1388).f1) == ((rd_T89 x27 x29).f1)) || (!(((rd_T89 x0 t1388).f2) == ((rd_T89 x27 x29).f2)) || (!(((rd_T89 x0 t1388).f3) == ((rd_T89 x27 x29).f3)) || (!(((rd_T89 x0 t1388).f4) == ((rd_T89 x27 x29).f4))))))) = true then (if x10.length < 8796093022208 then (impl_ManifestChanges.l0 k x0 x1 x8 x9 (x10 ++ [(rd_T89 x27 x29).f0]) x27 x28 (wrap64 (x29 + 1))) else (none)) else (impl_ManifestChanges.l0 k x0 x1 x8 x9 x10 x27 x28 (wrap64 (x29 + 1)))) else (none)) else (none)))) else (none)) else (none)) else (impl_ManifestChanges.l1 k x1 x8 x9 x10 x0 (x0.length : Int) 0)
def impl_ManifestChanges.l1 : Nat → List (S89) → List ByteArray → List ByteArray → List ByteArray → List (S89) → Int → Int → Option (List ByteArray × List ByteArray × List ByteArray × Bool)
 | 0,_,_,_,_,_,_,_ => none
 | k + 1,x1,x8,x9,x10,x58,x59,x60 => if x60 < x59 then (if 0 ≤ x60 then (if x60 < (x58.length : Int) then ((impl_indexOf.f x1 ((rd_T89 x58 x60).f0)).bind fun t1398 => (if t1398 < 0 then (if x9.length < 8796093022208 then (impl_ManifestChanges.l1 k x1 x8 (x9 ++ [(rd_T89 x58 x60).f0]) x10 x58 x59 (wrap64 (x60 + 1))) else (none)) else (impl_ManifestChanges.l1 k x1 x8 x9 x10 x58 x59 (wrap64 (x60 + 1))))) else (none)) else (none)) else ((slices_Sort_string_string.f x8).bind fun t1402 => ((slices_Sort_string_string.f x9).bind fun t1403 => ((slices_Sort_string_string.f x10).bind fun t1404 => (some (t1402,t1403,t1404,true)))))
end
def impl_ManifestChanges.f (k : Nat) (l0 : List (S89)) (l1 : List (S89)) : Option (List ByteArray × List ByteArray × List ByteArray × Bool):=(impl_IsValidContainers.f k l0).bind fun t1375 => (if t1375 = true then ((impl_IsValidContainers.f k l1).bind fun t1376 => (impl_ManifestChanges.j0 k l0 l1 (!t1376))) else (impl_ManifestChanges.j0 k l0 l1 true))
theorem impl_ManifestChanges.mono_l : ∀ k,(∀ y0 y1 y2,LeO (impl_ManifestChanges.j0 k y0 y1 y2) (impl_ManifestChanges.j0 (k + 1) y0 y1 y2)) ∧ (∀ y0 y1 y2 y3 y4 y5 y6 y7,LeO (impl_ManifestChanges.l0 k y0 y1 y2 y3 y4 y5 y6 y7) (impl_ManifestChanges.l0 (k + 1) y0 y1 y2 y3 y4 y5 y6 y7)) ∧ (∀ y0 y1 y2 y3 y4 y5 y6,LeO (impl_ManifestChanges.l1 k y0 y1 y2 y3 y4 y5 y6) (impl_ManifestChanges.l1 (k + 1) y0 y1 y2 y3 y4 y5 y6))
 | 0 => ⟨fun _ _ _ r h => by simp [impl_ManifestChanges.j0] at h,fun _ _ _ _ _ _ _ _ r h => by simp [impl_ManifestChanges.l0] at h,fun _ _ _ _ _ _ _ r h => by simp [impl_ManifestChanges.l1] at h⟩
 | k + 1 => by
  obtain ⟨ih0,ih1,ih2⟩:=impl_ManifestChanges.mono_l k
  refine ⟨?_,?_,?_⟩
  ·intro y0 y1 y2
   unfold impl_ManifestChanges.j0
   repeat' first
   | (with_reducible exact ih0 _ _ _)
   | (with_reducible exact ih1 _ _ _ _ _ _ _ _)
   | (with_reducible exact ih2 _ _ _ _ _ _ _)
   | (with_reducible exact impl_IsValidContainers.mono _ _)
   | (with_reducible exact LeO.refl _)
   | (with_reducible exact LeO.none _)
   | (with_reducible refine LeO.ite ?_ ?_)
   | (with_reducible refine LeO.bind ?_ (fun _ => ?_))
   | exact ih0 _ _ _
   | exact ih1 _ _ _ _ _ _ _ _
   | exact ih2 _ _ _ _ _ _ _
   | exact impl_IsValidContainers.mono _ _
   | exact LeO.none _
   | refine LeO.ite ?_ ?_
   | refine LeO.bind ?_ (fun _ => ?_)
  ·intro y0 y1 y2 y3 y4 y5 y6 y7
   unfold impl_ManifestChanges.l0
   repeat' first
   | (with_reducible exact ih0 _ _ _)
   | (with_reducible exact ih1 _ _ _ _ _ _ _ _)
   | (with_reducible exact ih2 _ _ _ _ _ _ _)
   | (with_reducible exact impl_IsValidContainers.mono _ _)
   | (with_reducible exact LeO.refl _)
   | (with_reducible exact LeO.none _)
   | (with_reducible refine LeO.ite ?_ ?_)
   | (with_reducible refine LeO.bind ?_ (fun _ => ?_))
   | exact ih0 _ _ _
   | exact ih1 _ _ _ _ _ _ _ _
   | exact ih2 _ _ _ _ _ _ _
   | exact impl_IsValidContainers.mono _ _
   | exact LeO.none _
   | refine LeO.ite ?_ ?_
   | refine LeO.bind ?_ (fun _ => ?_)
  ·intro y0 y1 y2 y3 y4 y5 y6
   unfold impl_ManifestChanges.l1
   repeat' first
   | (with_reducible exact ih0 _ _ _)
   | (with_reducible exact ih1 _ _ _ _ _ _ _ _)
   | (with_reducible exact ih2 _ _ _ _ _ _ _)
   | (with_reducible exact impl_IsValidContainers.mono _ _)
   | (with_reducible exact LeO.refl _)
   | (with_reducible exact LeO.none _)
   | (with_reducible refine LeO.ite ?_ ?_)
   | (with_reducible refine LeO.bind ?_ (fun _ => ?_))
   | exact ih0 _ _ _
   | exact ih1 _ _ _ _ _ _ _ _
   | exact ih2 _ _ _ _ _ _ _
   | exact impl_IsValidContainers.mono _ _
   | exact LeO.none _
   | refine LeO.ite ?_ ?_
   | refine LeO.bind ?_ (fun _ => ?_)
theorem impl_ManifestChanges.mono : ∀ a0 a1 k,LeO (impl_ManifestChanges.f k a0 a1) (impl_ManifestChanges.f (k + 1) a0 a1):=by
 intro a0 a1 k
 obtain ⟨ih0,ih1,ih2⟩:=impl_ManifestChanges.mono_l k
 unfold impl_ManifestChanges.f
 repeat' first
   | (with_reducible exact ih0 _ _ _)
   | (with_reducible exact ih1 _ _ _ _ _ _ _ _)
   | (with_reducible exact ih2 _ _ _ _ _ _ _)
   | (with_reducible exact impl_IsValidContainers.mono _ _)
   | (with_reducible exact LeO.refl _)
   | (with_reducible exact LeO.none _)
   | (with_reducible refine LeO.ite ?_ ?_)
   | (with_reducible refine LeO.bind ?_ (fun _ => ?_))
   | exact ih0 _ _ _
   | exact ih1 _ _ _ _ _ _ _ _
   | exact ih2 _ _ _ _ _ _ _
   | exact impl_IsValidContainers.mono _ _
   | exact LeO.none _
   | refine LeO.ite ?_ ?_
   | refine LeO.bind ?_ (fun _ => ?_)
set_option maxHeartbeats 8000000 in
set_option maxRecDepth 100000 in
theorem impl_ManifestChanges.calls (k : Nat) (A0 : Option Addr) (c0 : Nat) (l0 : List (S89)) (A1 : Option Addr) (c1 : Nat) (l1 : List (S89)) (r1 : List ByteArray) (r2 : List ByteArray) (r3 : List ByteArray) (r4 : Bool) (w : World) (hr0 : Kd.C k89 w A0 l0.length l0) (hc0 : l0.length ≤ c0) (hr1 : Kd.C k89 w A1 l1.length l1) (hc1 : l1.length ≤ c1) (h : impl_ManifestChanges.f k l0 l1 = some (r1,r2,r3,r4)) :
  Calls Try.prog 79 #[.slice A0 l0.length c0,.slice A1 l1.length c1] w fun e w' => ∃ v0_ v1_ v2_ : Value,e = .returned (.tuple #[v0_,v1_,v2_,.bool r4]) ∧ Kd.R Kd.string 9 w' w.heap.size (fun k_ => some k_ ≠ (v1_ : Value).ownBlock ∧ some k_ ≠ (v2_ : Value).ownBlock) v0_ r1 ∧ Kd.R Kd.string 9 w' w.heap.size (fun k_ => some k_ ≠ (v0_ : Value).ownBlock ∧ some k_ ≠ (v2_ : Value).ownBlock) v1_ r2 ∧ Kd.R Kd.string 9 w' w.heap.size (fun k_ => some k_ ≠ (v0_ : Value).ownBlock ∧ some k_ ≠ (v1_ : Value).ownBlock) v2_ r3 ∧ Below w.heap.size w w':=by
 have hu89:=Try.underlying89
 have HR0:=Aside0.mk hr0
 have HC0:=Aside0.mk hc0
 clear hr0 hc0
 have HR1:=Aside0.mk hr1
 have HC1:=Aside0.mk hc1
 clear hr1 hc1
 have HB:=Aside0.mk (Below.refl w.heap.size w)
 have H : ((impl_IsValidContainers.f k l0).bind fun t1375 => (if t1375 = true then ((impl_IsValidContainers.f k l1).bind fun t1376 => (impl_ManifestChanges.j0 k l0 l1 (!t1376))) else (impl_ManifestChanges.j0 k l0 l1 true))) = some (r1,r2,r3,r4):=h
 clear h
 have HC3:=Aside0.mk H
 clear H
 go_enter Try.func79,Try.ntmps79
 go_upto_region 1 with (fail)
 go_cut [23] (fun v23 wc => ∃ (kq : Nat) (x23_2 : Bool),v23 = .bool x23_2 ∧ Aside0 (impl_ManifestChanges.j0 kq l0 l1 x23_2 = some (r1,r2,r3,r4)) ∧ Aside0 (kq ≤ k) ∧ Aside0 (Below w.heap.size w wc))
 case first =>
  have H:=HC3.out
  clear HC3
  replace H:=Option.bind_eq_some_iff.mp H
  obtain ⟨t1375,A40,H⟩:=H
  replace H : (if t1375 = true then ((impl_IsValidContainers.f k l1).bind fun t1376 => (impl_ManifestChanges.j0 k l0 l1 (!t1376))) else (impl_ManifestChanges.j0 k l0 l1 true)) = some (r1,r2,r3,r4):=H
  have A4:=Aside0.mk A40
  clear A40
  by_cases c5 : t1375 = true
  ·subst c5
   have H1 : ((impl_IsValidContainers.f k l1).bind fun t1376 => (impl_ManifestChanges.j0 k l0 l1 (!t1376))) = some (r1,r2,r3,r4):=by rw [if_pos rfl] at H; exact H
   clear H
   have H:=H1
   clear H1
   replace H:=Option.bind_eq_some_iff.mp H
   obtain ⟨t1376,A60,H⟩:=H
   replace H : (impl_ManifestChanges.j0 k l0 l1 (!t1376)) = some (r1,r2,r3,r4):=H
   have A6:=Aside0.mk A60
   clear A60
   have H':=Aside0.mk H
   clear H
   go_wp2_with (first|(go_at_call 72; (with_reducible refine (impl_IsValidContainers.calls k _ _ l0 true _ ?side1 ?side2 A4.out).mono ?_); (case side1 => repeat ((exact (Kd.C_below HR0.out HB.out)))); (case side2 => exact HC0.out); rintro e w7 ⟨rfl,hb⟩; have n0_:=Aside0.mk (below_step (by repeat (((with_reducible (exact HB.out))))) hb); clear HB; have HB:=n0_; clear n0_; (try clear hb); (try clear hb2); (try clear hk); (try clear hi))|(go_at_call 72; (with_reducible refine (impl_IsValidContainers.calls k _ _ l1 t1376 _ ?side1 ?side2 A6.out).mono ?_); (case side1 => repeat ((exact (Kd.C_below HR1.out HB.out)))); (case side2 => exact HC1.out); rintro e w8 ⟨rfl,hb⟩; have n0_:=Aside0.mk (below_step (by repeat (((with_reducible (exact HB.out))))) hb); clear HB; have HB:=n0_; clear n0_; (try clear hb); (try clear hb2); (try clear hk); (try clear hi)))
   go_meet
   case rel => exact ⟨_,(!t1376),(by (rfl)),H',⟨by (omega)⟩,⟨by repeat (((with_reducible (exact HB.out))))⟩⟩
  ·replace c5:=Bool.eq_false_iff.mpr c5
   subst c5
   have H1 : (impl_ManifestChanges.j0 k l0 l1 true) = some (r1,r2,r3,r4):=by rw [if_neg (show ¬ (false = true) by decide)] at H; exact H
   clear H
   have H:=H1
   clear H1
   have H':=Aside0.mk H
   clear H
   go_wp2_with (((go_at_call 72; (with_reducible refine (impl_IsValidContainers.calls k _ _ l0 false _ ?side1 ?side2 A4.out).mono ?_); (case side1 => repeat ((exact (Kd.C_below HR0.out HB.out)))); (case side2 => exact HC0.out); rintro e w9 ⟨rfl,hb⟩; have n0_:=Aside0.mk (below_step (by repeat (((with_reducible (exact HB.out))))) hb); clear HB; have HB:=n0_; clear n0_; (try clear hb); (try clear hb2); (try clear hk); (try clear hi))))
   go_meet
   case rel => exact ⟨_,(true),(by (rfl)),H',⟨by (omega)⟩,⟨by repeat (((with_reducible (exact HB.out))))⟩⟩
 case rest =>
  clear HC3
  try clear c1
  try clear p2
  try clear c5
  try clear c7
  obtain ⟨kq,x23_2,rfl,HA,HJ2,HB⟩:=hcut
  cases kq with
  | zero => exact absurd HA.out (by simp [impl_ManifestChanges.j0])
  | succ kj2 =>
   have H:=HA.out
   clear HA
   simp only [impl_ManifestChanges.j0] at H
   by_cases c10 : x23_2 = true
   ·subst c10
    have H1 : (some (([] : List ByteArray),([] : List ByteArray),([] : List ByteArray),false)) = some (r1,r2,r3,r4):=by rw [if_pos rfl] at H; exact H
    clear H
    have H:=H1
    clear H1
    simp only [Option.some.injEq,Prod.mk.injEq] at H
    obtain ⟨rfl,rfl,rfl,rfl⟩:=H
    go_wp2
    refine bodyPost_ret (results_list (rs:=[.tmp 4,.tmp 5,.tmp 6,.tmp 7]) rfl (by simp) (.tmp (.tmp (.tmp (.tmp .nil))))) rfl ?_
    exact ⟨_,_,_,by (rfl),by (exact Kd.R_nil _ _ _ _ _),by (exact Kd.R_nil _ _ _ _ _),by (exact Kd.R_nil _ _ _ _ _),by repeat (((with_reducible (exact HB.out))))⟩
   ·replace c10:=Bool.eq_false_iff.mpr c10
    subst c10
    have H1 : (impl_ManifestChanges.l0 kj2 l0 l1 ([] : List ByteArray) ([] : List ByteArray) ([] : List ByteArray) l1 (l1.length : Int) 0) = some (r1,r2,r3,r4):=by rw [if_neg (show ¬ (false = true) by decide)] at H; exact H
    clear H
    have H:=H1
    clear H1
    obtain ⟨y1377,hy1377⟩ : ∃ y_ : List ByteArray,y_ = ([] : List ByteArray):=⟨_,rfl⟩
    replace H : (impl_ManifestChanges.l0 kj2 l0 l1 y1377 ([] : List ByteArray) ([] : List ByteArray) l1 (l1.length : Int) 0) = some (r1,r2,r3,r4):=by (rw [hy1377]; with_reducible exact H)
    have Ny1377:=Aside0.mk hy1377
    clear hy1377
    obtain ⟨y1380,hy1380⟩ : ∃ y_ : List ByteArray,y_ = ([] : List ByteArray):=⟨_,rfl⟩
    replace H : (impl_ManifestChanges.l0 kj2 l0 l1 y1377 y1380 ([] : List ByteArray) l1 (l1.length : Int) 0) = some (r1,r2,r3,r4):=by (rw [hy1380]; with_reducible exact H)
    have Ny1380:=Aside0.mk hy1380
    clear hy1380
    obtain ⟨y1383,hy1383⟩ : ∃ y_ : List ByteArray,y_ = ([] : List ByteArray):=⟨_,rfl⟩
    replace H : (impl_ManifestChanges.l0 kj2 l0 l1 y1377 y1380 y1383 l1 (l1.length : Int) 0) = some (r1,r2,r3,r4):=by (rw [hy1383]; with_reducible exact H)
    have Ny1383:=Aside0.mk hy1383
    clear hy1383
    have H':=Aside0.mk H
    clear H
    go_wp2_with (first|((with_reducible refine gate_dst (N:=24) rfl ?_); refine Kd.R_lit Kd.string _ 9 ?hg (N:=24) ?hd (xs:=([] : List ByteArray)) (inner:=[]) (ok:=fun _ => True) (okp:=fun _ => True) ?hr ?hp (fun _ hk => hk) trivial (Below.refl _ _) (Nat.le_refl _) (by simp) ?_; (case hd => rfl); (case hg => rfl); (case hr => (go_simp; done)); (case hp => exact (Reps.none _ _)); intro v1378 w11 ho12 hb hg_ hnew_; clear hg_ hnew_; (rw [← Ny1377.out] at ho12); have n0_:=Aside0.mk (Kd.R_lower ho12 (below_size (by repeat (((with_reducible (exact HB.out))))))); have n1_:=Aside0.mk (below_step (by repeat (((with_reducible (exact HB.out))))) hb); clear HB; have HO1379:=n0_; have HB:=n1_; clear n0_ n1_; clear hb ho12)|((with_reducible refine gate_dst (N:=25) rfl ?_); refine Kd.R_lit Kd.string _ 9 ?hg (N:=25) ?hd (xs:=([] : List ByteArray)) (inner:=[]) (ok:=fun _ => True) (okp:=fun _ => True) ?hr ?hp (fun _ hk => hk) trivial (Below.refl _ _) (Nat.le_refl _) (by simp) ?_; (case hd => rfl); (case hg => rfl); (case hr => (go_simp; done)); (case hp => exact (Reps.none _ _)); intro v1381 w13 ho14 hb hg_ hnew_; clear hg_ hnew_; (rw [← Ny1380.out] at ho14); have n0_:=Aside0.mk (Kd.R_elder' (by exact HO1379.out) (Kd.R_base ho14) hb); have n1_:=Aside0.mk (Kd.R_lower (Kd.R_new' ho14 (Kd.R_lt (by exact HO1379.out))) (below_size (by repeat (((with_reducible (exact HB.out))))))); have n2_:=Aside0.mk (below_step (by repeat (((with_reducible (exact HB.out))))) hb); clear HO1379; clear HB; have HO1379:=n0_; have HO1382:=n1_; have HB:=n2_; clear n0_ n1_ n2_; clear hb ho14)|((with_reducible refine gate_dst (N:=26) rfl ?_); refine Kd.R_lit Kd.string _ 9 ?hg (N:=26) ?hd (xs:=([] : List ByteArray)) (inner:=[]) (ok:=fun _ => True) (okp:=fun _ => True) ?hr ?hp (fun _ hk => hk) trivial (Below.refl _ _) (Nat.le_refl _) (by simp) ?_; (case hd => rfl); (case hg => rfl); (case hr => (go_simp; done)); (case hp => exact (Reps.none _ _)); intro v1384 w15 ho16 hb hg_ hnew_; clear hg_ hnew_; (rw [← Ny1383.out] at ho16); have n0_:=Aside0.mk (Kd.R_elder' (by exact HO1379.out) (Kd.R_base ho16) hb); have n1_:=Aside0.mk (Kd.R_elder' (by exact HO1382.out) (Kd.R_base ho16) hb); have n2_:=Aside0.mk (Kd.R_lower (Kd.R_new' (Kd.R_new' ho16 (Kd.R_lt (by exact HO1379.out))) (Kd.R_lt (by exact HO1382.out))) (below_size (by repeat (((with_reducible (exact HB.out))))))); have n3_:=Aside0.mk (below_step (by repeat (((with_reducible (exact HB.out))))) hb); clear HO1379; clear HO1382; clear HB; have HO1379:=n0_; have HO1382:=n1_; have HO1385:=n2_; have HB:=n3_; clear n0_ n1_ n2_ n3_; clear hb ho16))
    go_loopg [8,10,29] kj2 (fun kq v8 v10 v29 w' => ∃ (x8_2 : List ByteArray) (x10_2 : List ByteArray) (x29_2 : Int),v29 = .int .i64 x29_2 ∧ Aside0 (impl_ManifestChanges.l0 kq l0 l1 x8_2 y1380 x10_2 l1 (l1.length : Int) x29_2 = some (r1,r2,r3,r4)) ∧ Aside0 (kq ≤ kj2) ∧ Aside0 (Kd.R Kd.string 9 w' w.heap.size (fun k_ => some k_ ≠ (v1381 : Value).ownBlock ∧ some k_ ≠ (v10 : Value).ownBlock) v8 x8_2) ∧ Aside0 (Kd.R Kd.string 9 w' w.heap.size (fun k_ => some k_ ≠ (v8 : Value).ownBlock ∧ some k_ ≠ (v10 : Value).ownBlock) v1381 y1380) ∧ Aside0 (Kd.R Kd.string 9 w' w.heap.size (fun k_ => some k_ ≠ (v8 : Value).ownBlock ∧ some k_ ≠ (v1381 : Value).ownBlock) v10 x10_2) ∧ Aside0 (Below w.heap.size w w'))
    case atStart => exact ⟨(y1377),(y1383),(0),(by (rfl)),H',⟨Nat.le_refl _⟩,⟨by exact Kd.R_mono HO1379.out (fun _ hk => ⟨hk.1.2,hk.2⟩)⟩,⟨by exact Kd.R_mono HO1382.out (fun _ hk => ⟨hk.1.2,hk.2⟩)⟩,⟨by exact Kd.R_mono HO1385.out (fun _ hk => ⟨hk.1.2,hk.2⟩)⟩,⟨by repeat (((with_reducible (exact HB.out))))⟩⟩
    case round =>
     clear H'
     try clear c1
     try clear p2
     try clear c5
     try clear c7
     try clear c10
     try clear p2
     obtain ⟨x8_2,x10_2,x29_2,rfl,HA,HK2,HO_8,HO_9,HO_10,HB⟩:=hrel
     cases gk with
     | zero => exact absurd HA.out (by simp [impl_ManifestChanges.l0])
     | succ k2 =>
      have H:=HA.out
      clear HA
      simp only [impl_ManifestChanges.l0] at H
      by_cases c17 : x29_2 < (l1.length : Int)
      ·rw [if_pos c17] at H
       have c17b0 : decide (x29_2 < (l1.length : Int)) = true:=decide_eq_true c17
       clear c17
       by_cases c18 : 0 ≤ x29_2
       ·rw [if_pos c18] at H
        have c18b0 : decide (0 ≤ x29_2) = true:=decide_eq_true c18
        clear c18
        by_cases c19 : x29_2 < (l1.length : Int)
        ·rw [if_pos c19] at H
         have c19b0 : decide (x29_2 < (l1.length : Int)) = true:=decide_eq_true c19
         clear c19
         replace H:=Option.bind_eq_some_iff.mp H
         obtain ⟨t1388,A200,H⟩:=H
         replace H : (if t1388 < 0 then (if x8_2.length < 8796093022208 then (impl_ManifestChanges.l0 k2 l0 l1 (x8_2 ++ [(rd_T89 l1 x29_2).f0]) y1380 x10_2 l1 (l1.length : Int) (wrap64 (x29_2 + 1))) else (none)) else (if 0 ≤ t1388 then (if t1388 < (l0.length : Int) then (if (!((((rd_T89 l0 t1388).f0).toList) == (((rd_T89 l1 x29_2).f0).toList)) || (!(((rd_T89 l0 t1388).f1) == ((rd_T89 l1 x29_2).f1)) || (!(((rd_T89 l0 t1388).f2) == ((rd_T89 l1 x29_2).f2)) || (!(((rd_T89 l0 t1388).f3) == ((rd_T89 l1 x29_2).f3)) || (!(((rd_T89 l0 t1388).f4) == ((rd_T89 l1 x29_2).f4))))))) = true then (if x10_2.length < 8796093022208 then (impl_ManifestChanges.l0 k2 l0 l1 x8_2 y1380 (x10_2 ++ [(rd_T89 l1 x29_2).f0]) l1 (l1.length : Int) (wrap64 (x29_2 + 1))) else (none)) else (impl_ManifestChanges.l0 k2 l0 l1 x8_2 y1380 x10_2 l1 (l1.length : Int) (wrap64 (x29_2 + 1)))) else (none)) else (none))) = some (r1,r2,r3,r4):=H
         have A20:=Aside0.mk A200
         clear A200
         by_cases c21 : t1388 < 0
         ·rw [if_pos c21] at H
          have c21b0 : decide (t1388 < 0) = true:=decide_eq_true c21
          clear c21
          by_cases c22 : x8_2.length < 8796093022208
          ·rw [if_pos c22] at H
           have LMc22:=Aside0.mk c22
           clear c22
           obtain ⟨y1389,hy1389⟩ : ∃ y_ : List ByteArray,y_ = (x8_2 ++ [(rd_T89 l1 x29_2).f0]):=⟨_,rfl⟩
           replace H : (impl_ManifestChanges.l0 k2 l0 l1 y1389 y1380 x10_2 l1 (l1.length : Int) (wrap64 (x29_2 + 1))) = some (r1,r2,r3,r4):=by (rw [hy1389]; with_reducible exact H)
           have Ny1389:=Aside0.mk hy1389
           clear hy1389
           have H':=Aside0.mk H
           clear H
           have p1386 : 0 ≤ (x29_2 : Int):=of_decide_eq_true (by (with_reducible assumption))
           have q1386 : x29_2 < (l1.length : Int):=of_decide_eq_true (by (with_reducible assumption))
           obtain ⟨ad1386,e1386,hx1386_0,hx1386_1,hx1386_2,hx1386_3,hx1386_4⟩:=at_T89 HR1.out x29_2 p1386 q1386
           cases e1386
           replace hx1386_0:=(HB.out.cell (World.block_lt_of_cell? w _ hx1386_0)).trans hx1386_0
           replace hx1386_1:=(HB.out.cell (World.block_lt_of_cell? w _ hx1386_1)).trans hx1386_1
           replace hx1386_2:=(HB.out.cell (World.block_lt_of_cell? w _ hx1386_2)).trans hx1386_2
           replace hx1386_3:=(HB.out.cell (World.block_lt_of_cell? w _ hx1386_3)).trans hx1386_3
           replace hx1386_4:=(HB.out.cell (World.block_lt_of_cell? w _ hx1386_4)).trans hx1386_4
           replace p1386:=eq_true p1386
           replace q1386:=eq_true q1386
           go_wp2_with (first|((with_reducible refine gate_dst (N:=12) rfl ?_); refine box_event ?hg (N:=12) ?hd (cs:=#[.string (⟨#[]⟩ : ByteArray),.int .i64 0,.int .i64 0,.int .i64 0,.int .i64 0]) (t:=89) ?hr ?_; (case hd => rfl); (case hg => rfl); (case hr => (go_simp; done)); intro gb1387 hg w23 hbox hb; have n0_:=Aside0.mk (Kd.R_below (by exact HO_8.out) hb); have n1_:=Aside0.mk (Kd.R_below (by exact HO_9.out) hb); have n2_:=Aside0.mk (Kd.R_below (by exact HO_10.out) hb); have n3_:=Aside0.mk (below_step (by repeat (((with_reducible (exact HB.out))))) hb); have n4_:=Aside0.mk (hbox); have n5_:=Aside0.mk ((by rw [hg]; exact (below_size (by repeat (((with_reducible (exact HB.out)))))) : w.heap.size ≤ gb1387)); have n6_:=Aside0.mk ((by rw [hg]; exact (below_size (by repeat (((with_reducible (exact HB.out)))))) : w.heap.size ≤ gb1387)); clear HO_8; clear HO_9; clear HO_10; clear HB; have HO_8:=n0_; have HO_9:=n1_; have HO_10:=n2_; have HB:=n3_; have BK1387:=n4_; have GW1387:=n5_; have GE1387:=n6_; clear n0_ n1_ n2_ n3_ n4_ n5_ n6_; clear hb hbox hg; have hcz24_0 : w23.cell? ⟨gb1387,0,none⟩ = some (.string (⟨#[]⟩ : ByteArray)):=(blk_cell BK1387.out 0).trans rfl; have hcz24_1 : w23.cell? ⟨gb1387,1,none⟩ = some (.int .i64 0):=(blk_cell BK1387.out 1).trans rfl; have hcz24_2 : w23.cell? ⟨gb1387,2,none⟩ = some (.int .i64 0):=(blk_cell BK1387.out 2).trans rfl; have hcz24_3 : w23.cell? ⟨gb1387,3,none⟩ = some (.int .i64 0):=(blk_cell BK1387.out 3).trans rfl; have hcz24_4 : w23.cell? ⟨gb1387,4,none⟩ = some (.int .i64 0):=(blk_cell BK1387.out 4).trans rfl; have hfz24_0:=blk_frozen BK1387.out 0; have hfz24_1:=blk_frozen BK1387.out 1; have hfz24_2:=blk_frozen BK1387.out 2; have hfz24_3:=blk_frozen BK1387.out 3; have hfz24_4:=blk_frozen BK1387.out 4)|(go_at_call 148; (with_reducible refine (impl_indexOf.calls _ _ l0 ((rd_T89 l1 x29_2).f0) t1388 _ ?side1 ?side2 A20.out).mono ?_); (case side1 => exact Kd.C_below HR0.out (by repeat (with_reducible first|exact HB.out|refine below_set ?_ GE1387.out))); (case side2 => exact HC0.out); rintro e w25 ⟨rfl,hb⟩; have n0_:=Aside0.mk (Kd.R_below (by exact (Kd.R_mono (Kd.R_far (p:=⟨gb1387,4,none⟩) (Kd.R_far (p:=⟨gb1387,3,none⟩) (Kd.R_far (p:=⟨gb1387,2,none⟩) (Kd.R_far (p:=⟨gb1387,1,none⟩) (Kd.R_far (p:=⟨gb1387,0,none⟩) (Kd.R_types HO_8.out BK1387.out (by decide)) (fun _ hk => hk.2) (.string ((rd_T89 l1 x29_2).f0))) (fun _ hk => hk.2) (.int .i64 ((rd_T89 l1 x29_2).f1))) (fun _ hk => hk.2) (.int .i64 ((rd_T89 l1 x29_2).f2))) (fun _ hk => hk.2) (.int .i64 ((rd_T89 l1 x29_2).f3))) (fun _ hk => hk.2) (.int .i64 ((rd_T89 l1 x29_2).f4))) (fun _ h_ => h_.1))) hb); have n1_:=Aside0.mk (Kd.R_below (by exact (Kd.R_mono (Kd.R_far (p:=⟨gb1387,4,none⟩) (Kd.R_far (p:=⟨gb1387,3,none⟩) (Kd.R_far (p:=⟨gb1387,2,none⟩) (Kd.R_far (p:=⟨gb1387,1,none⟩) (Kd.R_far (p:=⟨gb1387,0,none⟩) (Kd.R_types HO_9.out BK1387.out (by decide)) (fun _ hk => hk.2) (.string ((rd_T89 l1 x29_2).f0))) (fun _ hk => hk.2) (.int .i64 ((rd_T89 l1 x29_2).f1))) (fun _ hk => hk.2) (.int .i64 ((rd_T89 l1 x29_2).f2))) (fun _ hk => hk.2) (.int .i64 ((rd_T89 l1 x29_2).f3))) (fun _ hk => hk.2) (.int .i64 ((rd_T89 l1 x29_2).f4))) (fun _ h_ => h_.1))) hb); have n2_:=Aside0.mk (Kd.R_below (by exact (Kd.R_mono (Kd.R_far (p:=⟨gb1387,4,none⟩) (Kd.R_far (p:=⟨gb1387,3,none⟩) (Kd.R_far (p:=⟨gb1387,2,none⟩) (Kd.R_far (p:=⟨gb1387,1,none⟩) (Kd.R_far (p:=⟨gb1387,0,none⟩) (Kd.R_types HO_10.out BK1387.out (by decide)) (fun _ hk => hk.2) (.string ((rd_T89 l1 x29_2).f0))) (fun _ hk => hk.2) (.int .i64 ((rd_T89 l1 x29_2).f1))) (fun _ hk => hk.2) (.int .i64 ((rd_T89 l1 x29_2).f2))) (fun _ hk => hk.2) (.int .i64 ((rd_T89 l1 x29_2).f3))) (fun _ hk => hk.2) (.int .i64 ((rd_T89 l1 x29_2).f4))) (fun _ h_ => h_.1))) hb); have n3_:=Aside0.mk (blk_below (g:=gb1387) (o:=.cells #[.string ((rd_T89 l1 x29_2).f0),.int .i64 ((rd_T89 l1 x29_2).f1),.int .i64 ((rd_T89 l1 x29_2).f2),.int .i64 ((rd_T89 l1 x29_2).f3),.int .i64 ((rd_T89 l1 x29_2).f4)] 89 (0,0)) (by refine blk_put (cs:=#[.string ((rd_T89 l1 x29_2).f0),.int .i64 ((rd_T89 l1 x29_2).f1),.int .i64 ((rd_T89 l1 x29_2).f2),.int .i64 ((rd_T89 l1 x29_2).f3),.int .i64 0]) ?_ 4 _ rfl; refine blk_put (cs:=#[.string ((rd_T89 l1 x29_2).f0),.int .i64 ((rd_T89 l1 x29_2).f1),.int .i64 ((rd_T89 l1 x29_2).f2),.int .i64 0,.int .i64 0]) ?_ 3 _ rfl; refine blk_put (cs:=#[.string ((rd_T89 l1 x29_2).f0),.int .i64 ((rd_T89 l1 x29_2).f1),.int .i64 0,.int .i64 0,.int .i64 0]) ?_ 2 _ rfl; refine blk_put (cs:=#[.string ((rd_T89 l1 x29_2).f0),.int .i64 0,.int .i64 0,.int .i64 0,.int .i64 0]) ?_ 1 _ rfl; refine blk_put (cs:=#[.string (⟨#[]⟩ : ByteArray),.int .i64 0,.int .i64 0,.int .i64 0,.int .i64 0]) ?_ 0 _ rfl; exact BK1387.out) hb); have n4_:=Aside0.mk (below_step (by repeat (with_reducible first|exact HB.out|refine below_set ?_ GE1387.out)) hb); clear HO_8; clear HO_9; clear HO_10; clear BK1387; clear HB; have HO_8:=n0_; have HO_9:=n1_; have HO_10:=n2_; have BK1387:=n3_; have HB:=n4_; clear n0_ n1_ n2_ n3_ n4_; (try clear hb); (try clear hb2); (try clear hk); (try clear hi); have hcz26_0 : w25.cell? ⟨gb1387,0,none⟩ = some (.string ((rd_T89 l1 x29_2).f0)):=(blk_cell BK1387.out 0).trans rfl; have hcz26_1 : w25.cell? ⟨gb1387,1,none⟩ = some (.int .i64 ((rd_T89 l1 x29_2).f1)):=(blk_cell BK1387.out 1).trans rfl; have hcz26_2 : w25.cell? ⟨gb1387,2,none⟩ = some (.int .i64 ((rd_T89 l1 x29_2).f2)):=(blk_cell BK1387.out 2).trans rfl; have hcz26_3 : w25.cell? ⟨gb1387,3,none⟩ = some (.int .i64 ((rd_T89 l1 x29_2).f3)):=(blk_cell BK1387.out 3).trans rfl; have hcz26_4 : w25.cell? ⟨gb1387,4,none⟩ = some (.int .i64 ((rd_T89 l1 x29_2).f4)):=(blk_cell BK1387.out 4).trans rfl; have hfz26_0:=blk_frozen BK1387.out 0; have hfz26_1:=blk_frozen BK1387.out 1; have hfz26_2:=blk_frozen BK1387.out 2; have hfz26_3:=blk_frozen BK1387.out 3; have hfz26_4:=blk_frozen BK1387.out 4)|((with_reducible refine gate_builtin (b:=.append) (xs:=#[.tmp 40,.tmp 43]) rfl ?_); at_builtin; refine Kd.R_append Kd.string (w0:=w) w.heap.size rfl (.tmp 40) (.tmp 43) 92 9 (.string ⟨#[]⟩) 16 rfl Try.underlying92 info9 rfl (by decide) (by omega) u8 x8_2 ((rd_T89 l1 x29_2).f0) [.string ((rd_T89 l1 x29_2).f0)] (fun k_ => some k_ ≠ (v1381 : Value).ownBlock ∧ some k_ ≠ (u10 : Value).ownBlock) (fun _ => False) rfl rfl ?aP (fun _ hk => hk.elim) ?aF ?aO ?aB ?aS ?aL ?_; (case aP => exact rfl); (case aB => exact (by repeat (((with_reducible (exact HB.out)))))); (case aF => exact (fun k_ hk => ⟨Kd.fresh' (Kd.R_lt (by exact HO_9.out)) k_ hk,Kd.fresh' (Kd.R_lt (by exact HO_10.out)) k_ hk⟩)); (case aO => exact (by exact HO_8.out)); (case aS => exact (below_size (by repeat (((with_reducible (exact HB.out))))))); (case aL => have:=LMc22.out; omega); intro v1390 w27 ho hb hg hat; rw [← Ny1389.out] at ho; have n0_:=Aside0.mk (Kd.R_after (ok:=(fun k_ => some k_ ≠ (u10 : Value).ownBlock)) (by exact Kd.R_mono HO_9.out (fun _ hk => ⟨hk.2,hk.1⟩)) hg hat); have n1_:=Aside0.mk (Kd.R_after (ok:=(fun k_ => some k_ ≠ (v1381 : Value).ownBlock)) (by exact Kd.R_mono HO_10.out (fun _ hk => ⟨hk.2,hk.1⟩)) hg hat); have n2_:=Aside0.mk (blk_grown (g:=gb1387) (o:=.cells #[.string ((rd_T89 l1 x29_2).f0),.int .i64 ((rd_T89 l1 x29_2).f1),.int .i64 ((rd_T89 l1 x29_2).f2),.int .i64 ((rd_T89 l1 x29_2).f3),.int .i64 ((rd_T89 l1 x29_2).f4)] 89 (0,0)) (by exact BK1387.out) hg (Kd.R_ne HO_8.out BK1387.out (by decide))); have n3_:=Aside0.mk (hb); have n4_:=Aside0.mk (ho); clear HO_9; clear HO_10; clear BK1387; clear HB; clear HO_8; have HO_9:=n0_; have HO_10:=n1_; have BK1387:=n2_; have HB:=n3_; have HO1391:=n4_; clear n0_ n1_ n2_ n3_ n4_; clear ho hb hg hat))
           go_roundg k2
           case measure => have:=HJ2.out; have:=HK2.out; omega
           case rel => exact ⟨(y1389),(x10_2),(wrap64 (x29_2 + 1)),(by (rfl)),H',⟨by have:=HJ2.out; have:=HK2.out; omega⟩,⟨by exact HO1391.out⟩,⟨by exact Kd.R_mono HO_9.out (fun _ hk => ⟨hk.2,hk.1⟩)⟩,⟨by exact Kd.R_mono HO_10.out (fun _ hk => ⟨hk.2,hk.1⟩)⟩,⟨by repeat (((with_reducible (exact HB.out))))⟩⟩
          ·rw [if_neg c22] at H
           exact absurd H (by simp)
         ·rw [if_neg c21] at H
          have c21b0 : decide (t1388 < 0) = false:=decide_eq_false c21
          clear c21
          by_cases c28 : 0 ≤ t1388
          ·rw [if_pos c28] at H
           have c28b0 : decide (0 ≤ t1388) = true:=decide_eq_true c28
           clear c28
           by_cases c29 : t1388 < (l0.length : Int)
           ·rw [if_pos c29] at H
            have c29b0 : decide (t1388 < (l0.length : Int)) = true:=decide_eq_true c29
            clear c29
            by_cases c30 : (!((((rd_T89 l0 t1388).f0).toList) == (((rd_T89 l1 x29_2).f0).toList)) || (!(((rd_T89 l0 t1388).f1) == ((rd_T89 l1 x29_2).f1)) || (!(((rd_T89 l0 t1388).f2) == ((rd_T89 l1 x29_2).f2)) || (!(((rd_T89 l0 t1388).f3) == ((rd_T89 l1 x29_2).f3)) || (!(((rd_T89 l0 t1388).f4) == ((rd_T89 l1 x29_2).f4))))))) = true
            ·rw [if_pos c30] at H
             have c30b0 : (!((((rd_T89 l0 t1388).f0).toList) == (((rd_T89 l1 x29_2).f0).toList)) || (!(((rd_T89 l0 t1388).f1) == ((rd_T89 l1 x29_2).f1)) || (!(((rd_T89 l0 t1388).f2) == ((rd_T89 l1 x29_2).f2)) || (!(((rd_T89 l0 t1388).f3) == ((rd_T89 l1 x29_2).f3)) || (!(((rd_T89 l0 t1388).f4) == ((rd_T89 l1 x29_2).f4))))))) = true:=c30
             clear c30
             by_cases c31 : x10_2.length < 8796093022208
             ·rw [if_pos c31] at H
              have LMc31:=Aside0.mk c31
              clear c31
              obtain ⟨y1393,hy1393⟩ : ∃ y_ : List ByteArray,y_ = (x10_2 ++ [(rd_T89 l1 x29_2).f0]):=⟨_,rfl⟩
              replace H : (impl_ManifestChanges.l0 k2 l0 l1 x8_2 y1380 y1393 l1 (l1.length : Int) (wrap64 (x29_2 + 1))) = some (r1,r2,r3,r4):=by (rw [hy1393]; with_reducible exact H)
              have Ny1393:=Aside0.mk hy1393
              clear hy1393
              have H':=Aside0.mk H
              clear H
              have p1386 : 0 ≤ (x29_2 : Int):=of_decide_eq_true (by (with_reducible assumption))
              have q1386 : x29_2 < (l1.length : Int):=of_decide_eq_true (by (with_reducible assumption))
              obtain ⟨ad1386,e1386,hx1386_0,hx1386_1,hx1386_2,hx1386_3,hx1386_4⟩:=at_T89 HR1.out x29_2 p1386 q1386
              cases e1386
              replace hx1386_0:=(HB.out.cell (World.block_lt_of_cell? w _ hx1386_0)).trans hx1386_0
              replace hx1386_1:=(HB.out.cell (World.block_lt_of_cell? w _ hx1386_1)).trans hx1386_1
              replace hx1386_2:=(HB.out.cell (World.block_lt_of_cell? w _ hx1386_2)).trans hx1386_2
              replace hx1386_3:=(HB.out.cell (World.block_lt_of_cell? w _ hx1386_3)).trans hx1386_3
              replace hx1386_4:=(HB.out.cell (World.block_lt_of_cell? w _ hx1386_4)).trans hx1386_4
              replace p1386:=eq_true p1386
              replace q1386:=eq_true q1386
              go_wp2_with (first|((with_reducible refine gate_dst (N:=12) rfl ?_); refine box_event ?hg (N:=12) ?hd (cs:=#[.string (⟨#[]⟩ : ByteArray),.int .i64 0,.int .i64 0,.int .i64 0,.int .i64 0]) (t:=89) ?hr ?_; (case hd => rfl); (case hg => rfl); (case hr => (go_simp; done)); intro gb1387 hg w32 hbox hb; have n0_:=Aside0.mk (Kd.R_below (by exact HO_8.out) hb); have n1_:=Aside0.mk (Kd.R_below (by exact HO_9.out) hb); have n2_:=Aside0.mk (Kd.R_below (by exact HO_10.out) hb); have n3_:=Aside0.mk (below_step (by repeat (((with_reducible (exact HB.out))))) hb); have n4_:=Aside0.mk (hbox); have n5_:=Aside0.mk ((by rw [hg]; exact (below_size (by repeat (((with_reducible (exact HB.out)))))) : w.heap.size ≤ gb1387)); have n6_:=Aside0.mk ((by rw [hg]; exact (below_size (by repeat (((with_reducible (exact HB.out)))))) : w.heap.size ≤ gb1387)); clear HO_8; clear HO_9; clear HO_10; clear HB; have HO_8:=n0_; have HO_9:=n1_; have HO_10:=n2_; have HB:=n3_; have BK1387:=n4_; have GW1387:=n5_; have GE1387:=n6_; clear n0_ n1_ n2_ n3_ n4_ n5_ n6_; clear hb hbox hg; have hcz33_0 : w32.cell? ⟨gb1387,0,none⟩ = some (.string (⟨#[]⟩ : ByteArray)):=(blk_cell BK1387.out 0).trans rfl; have hcz33_1 : w32.cell? ⟨gb1387,1,none⟩ = some (.int .i64 0):=(blk_cell BK1387.out 1).trans rfl; have hcz33_2 : w32.cell? ⟨gb1387,2,none⟩ = some (.int .i64 0):=(blk_cell BK1387.out 2).trans rfl; have hcz33_3 : w32.cell? ⟨gb1387,3,none⟩ = some (.int .i64 0):=(blk_cell BK1387.out 3).trans rfl; have hcz33_4 : w32.cell? ⟨gb1387,4,none⟩ = some (.int .i64 0):=(blk_cell BK1387.out 4).trans rfl; have hfz33_0:=blk_frozen BK1387.out 0; have hfz33_1:=blk_frozen BK1387.out 1; have hfz33_2:=blk_frozen BK1387.out 2; have hfz33_3:=blk_frozen BK1387.out 3; have hfz33_4:=blk_frozen BK1387.out 4)|(go_at_call 148; (with_reducible refine (impl_indexOf.calls _ _ l0 ((rd_T89 l1 x29_2).f0) t1388 _ ?side1 ?side2 A20.out).mono ?_); (case side1 => exact Kd.C_below HR0.out (by repeat (with_reducible first|exact HB.out|refine below_set ?_ GE1387.out))); (case side2 => exact HC0.out); rintro e w34 ⟨rfl,hb⟩; have n0_:=Aside0.mk (Kd.R_below (by exact (Kd.R_mono (Kd.R_far (p:=⟨gb1387,4,none⟩) (Kd.R_far (p:=⟨gb1387,3,none⟩) (Kd.R_far (p:=⟨gb1387,2,none⟩) (Kd.R_far (p:=⟨gb1387,1,none⟩) (Kd.R_far (p:=⟨gb1387,0,none⟩) (Kd.R_types HO_8.out BK1387.out (by decide)) (fun _ hk => hk.2) (.string ((rd_T89 l1 x29_2).f0))) (fun _ hk => hk.2) (.int .i64 ((rd_T89 l1 x29_2).f1))) (fun _ hk => hk.2) (.int .i64 ((rd_T89 l1 x29_2).f2))) (fun _ hk => hk.2) (.int .i64 ((rd_T89 l1 x29_2).f3))) (fun _ hk => hk.2) (.int .i64 ((rd_T89 l1 x29_2).f4))) (fun _ h_ => h_.1))) hb); have n1_:=Aside0.mk (Kd.R_below (by exact (Kd.R_mono (Kd.R_far (p:=⟨gb1387,4,none⟩) (Kd.R_far (p:=⟨gb1387,3,none⟩) (Kd.R_far (p:=⟨gb1387,2,none⟩) (Kd.R_far (p:=⟨gb1387,1,none⟩) (Kd.R_far (p:=⟨gb1387,0,none⟩) (Kd.R_types HO_9.out BK1387.out (by decide)) (fun _ hk => hk.2) (.string ((rd_T89 l1 x29_2).f0))) (fun _ hk => hk.2) (.int .i64 ((rd_T89 l1 x29_2).f1))) (fun _ hk => hk.2) (.int .i64 ((rd_T89 l1 x29_2).f2))) (fun _ hk => hk.2) (.int .i64 ((rd_T89 l1 x29_2).f3))) (fun _ hk => hk.2) (.int .i64 ((rd_T89 l1 x29_2).f4))) (fun _ h_ => h_.1))) hb); have n2_:=Aside0.mk (Kd.R_below (by exact (Kd.R_mono (Kd.R_far (p:=⟨gb1387,4,none⟩) (Kd.R_far (p:=⟨gb1387,3,none⟩) (Kd.R_far (p:=⟨gb1387,2,none⟩) (Kd.R_far (p:=⟨gb1387,1,none⟩) (Kd.R_far (p:=⟨gb1387,0,none⟩) (Kd.R_types HO_10.out BK1387.out (by decide)) (fun _ hk => hk.2) (.string ((rd_T89 l1 x29_2).f0))) (fun _ hk => hk.2) (.int .i64 ((rd_T89 l1 x29_2).f1))) (fun _ hk => hk.2) (.int .i64 ((rd_T89 l1 x29_2).f2))) (fun _ hk => hk.2) (.int .i64 ((rd_T89 l1 x29_2).f3))) (fun _ hk => hk.2) (.int .i64 ((rd_T89 l1 x29_2).f4))) (fun _ h_ => h_.1))) hb); have n3_:=Aside0.mk (blk_below (g:=gb1387) (o:=.cells #[.string ((rd_T89 l1 x29_2).f0),.int .i64 ((rd_T89 l1 x29_2).f1),.int .i64 ((rd_T89 l1 x29_2).f2),.int .i64 ((rd_T89 l1 x29_2).f3),.int .i64 ((rd_T89 l1 x29_2).f4)] 89 (0,0)) (by refine blk_put (cs:=#[.string ((rd_T89 l1 x29_2).f0),.int .i64 ((rd_T89 l1 x29_2).f1),.int .i64 ((rd_T89 l1 x29_2).f2),.int .i64 ((rd_T89 l1 x29_2).f3),.int .i64 0]) ?_ 4 _ rfl; refine blk_put (cs:=#[.string ((rd_T89 l1 x29_2).f0),.int .i64 ((rd_T89 l1 x29_2).f1),.int .i64 ((rd_T89 l1 x29_2).f2),.int .i64 0,.int .i64 0]) ?_ 3 _ rfl; refine blk_put (cs:=#[.string ((rd_T89 l1 x29_2).f0),.int .i64 ((rd_T89 l1 x29_2).f1),.int .i64 0,.int .i64 0,.int .i64 0]) ?_ 2 _ rfl; refine blk_put (cs:=#[.string ((rd_T89 l1 x29_2).f0),.int .i64 0,.int .i64 0,.int .i64 0,.int .i64 0]) ?_ 1 _ rfl; refine blk_put (cs:=#[.string (⟨#[]⟩ : ByteArray),.int .i64 0,.int .i64 0,.int .i64 0,.int .i64 0]) ?_ 0 _ rfl; exact BK1387.out) hb); have n4_:=Aside0.mk (below_step (by repeat (with_reducible first|exact HB.out|refine below_set ?_ GE1387.out)) hb); clear HO_8; clear HO_9; clear HO_10; clear BK1387; clear HB; have HO_8:=n0_; have HO_9:=n1_; have HO_10:=n2_; have BK1387:=n3_; have HB:=n4_; clear n0_ n1_ n2_ n3_ n4_; (try clear hb); (try clear hb2); (try clear hk); (try clear hi); have p1392 : 0 ≤ (t1388 : Int):=of_decide_eq_true (by (with_reducible assumption)); have q1392 : t1388 < (l0.length : Int):=of_decide_eq_true (by (with_reducible assumption)); obtain ⟨ad1392,e1392,hx1392_0,hx1392_1,hx1392_2,hx1392_3,hx1392_4⟩:=at_T89 HR0.out t1388 p1392 q1392; cases e1392; replace hx1392_0:=(HB.out.cell (World.block_lt_of_cell? w _ hx1392_0)).trans hx1392_0; replace hx1392_1:=(HB.out.cell (World.block_lt_of_cell? w _ hx1392_1)).trans hx1392_1; replace hx1392_2:=(HB.out.cell (World.block_lt_of_cell? w _ hx1392_2)).trans hx1392_2; replace hx1392_3:=(HB.out.cell (World.block_lt_of_cell? w _ hx1392_3)).trans hx1392_3; replace hx1392_4:=(HB.out.cell (World.block_lt_of_cell? w _ hx1392_4)).trans hx1392_4; replace p1392:=eq_true p1392; replace q1392:=eq_true q1392; have hcz35_0 : w34.cell? ⟨gb1387,0,none⟩ = some (.string ((rd_T89 l1 x29_2).f0)):=(blk_cell BK1387.out 0).trans rfl; have hcz35_1 : w34.cell? ⟨gb1387,1,none⟩ = some (.int .i64 ((rd_T89 l1 x29_2).f1)):=(blk_cell BK1387.out 1).trans rfl; have hcz35_2 : w34.cell? ⟨gb1387,2,none⟩ = some (.int .i64 ((rd_T89 l1 x29_2).f2)):=(blk_cell BK1387.out 2).trans rfl; have hcz35_3 : w34.cell? ⟨gb1387,3,none⟩ = some (.int .i64 ((rd_T89 l1 x29_2).f3)):=(blk_cell BK1387.out 3).trans rfl; have hcz35_4 : w34.cell? ⟨gb1387,4,none⟩ = some (.int .i64 ((rd_T89 l1 x29_2).f4)):=(blk_cell BK1387.out 4).trans rfl; have hfz35_0:=blk_frozen BK1387.out 0; have hfz35_1:=blk_frozen BK1387.out 1; have hfz35_2:=blk_frozen BK1387.out 2; have hfz35_3:=blk_frozen BK1387.out 3; have hfz35_4:=blk_frozen BK1387.out 4))
              repeat (go_quiet ((((with_reducible refine gate_dst (N:=12) rfl ?_); refine box_event ?hg (N:=12) ?hd (cs:=#[.string (⟨#[]⟩ : ByteArray),.int .i64 0,.int .i64 0,.int .i64 0,.int .i64 0]) (t:=89) ?hr ?_; (case hd => rfl); (case hg => rfl); (case hr => first|(go_simp; done)|(go_simp; rfl)); intro gb1387 hg w32 hbox hb; have n0_:=Aside0.mk (Kd.R_below (by (with_reducible repeat (first|apply Kd.R_alloc|apply Kd.R_drewN|apply Kd.R_drew)); exact HO_8.out) hb); have n1_:=Aside0.mk (Kd.R_below (by (with_reducible repeat (first|apply Kd.R_alloc|apply Kd.R_drewN|apply Kd.R_drew)); exact HO_9.out) hb); have n2_:=Aside0.mk (Kd.R_below (by (with_reducible repeat (first|apply Kd.R_alloc|apply Kd.R_drewN|apply Kd.R_drew)); exact HO_10.out) hb); have n3_:=Aside0.mk (below_step (by repeat (first|(with_reducible first|exact HB.out|apply below_alloc|apply pw_below_drewN|apply below_drew1)|exact HB.out)) hb); have n4_:=Aside0.mk (hbox); have n5_:=Aside0.mk ((by rw [hg]; exact (below_size (by repeat (first|(with_reducible first|exact HB.out|apply below_alloc|apply pw_below_drewN|apply below_drew1)|exact HB.out))) : w.heap.size ≤ gb1387)); have n6_:=Aside0.mk ((by rw [hg]; exact (below_size (by repeat (first|(with_reducible first|exact HB.out|apply below_alloc|apply pw_below_drewN|apply below_drew1)|exact HB.out))) : w.heap.size ≤ gb1387)); clear HO_8; clear HO_9; clear HO_10; clear HB; have HO_8:=n0_; have HO_9:=n1_; have HO_10:=n2_; have HB:=n3_; have BK1387:=n4_; have GW1387:=n5_; have GE1387:=n6_; clear n0_ n1_ n2_ n3_ n4_ n5_ n6_; clear hb hbox hg; have hcz33_0 : w32.cell? ⟨gb1387,0,none⟩ = some (.string (⟨#[]⟩ : ByteArray)):=(blk_cell BK1387.out 0).trans rfl; have hcz33_1 : w32.cell? ⟨gb1387,1,none⟩ = some (.int .i64 0):=(blk_cell BK1387.out 1).trans rfl; have hcz33_2 : w32.cell? ⟨gb1387,2,none⟩ = some (.int .i64 0):=(blk_cell BK1387.out 2).trans rfl; have hcz33_3 : w32.cell? ⟨gb1387,3,none⟩ = some (.int .i64 0):=(blk_cell BK1387.out 3).trans rfl; have hcz33_4 : w32.cell? ⟨gb1387,4,none⟩ = some (.int .i64 0):=(blk_cell BK1387.out 4).trans rfl; have hfz33_0:=blk_frozen BK1387.out 0; have hfz33_1:=blk_frozen BK1387.out 1; have hfz33_2:=blk_frozen BK1387.out 2; have hfz33_3:=blk_frozen BK1387.out 3; have hfz33_4:=blk_frozen BK1387.out 4))); try go_wp2_with ((((with_reducible refine gate_builtin (b:=.append) (xs:=#[.tmp 52,.tmp 55]) rfl ?_); at_builtin; refine Kd.R_append Kd.string (w0:=w) w.heap.size rfl (.tmp 52) (.tmp 55) 92 9 (.string ⟨#[]⟩) 16 rfl Try.underlying92 info9 rfl (by decide) (by omega) u10 x10_2 ((rd_T89 l1 x29_2).f0) [.string ((rd_T89 l1 x29_2).f0)] (fun k_ => some k_ ≠ (u8 : Value).ownBlock ∧ some k_ ≠ (v1381 : Value).ownBlock) (fun _ => False) rfl rfl ?aP (fun _ hk => hk.elim) ?aF ?aO ?aB ?aS ?aL ?_; (case aP => exact rfl); (case aB => exact (by repeat (with_reducible first|exact HB.out|apply pw_below_drewN))); (case aF => exact (fun k_ hk => ⟨Kd.fresh' (Kd.R_lt (by (with_reducible repeat (apply Kd.R_drewN)); exact HO_8.out)) k_ hk,Kd.fresh' (Kd.R_lt (by (with_reducible repeat (apply Kd.R_drewN)); exact HO_9.out)) k_ hk⟩)); (case aO => exact (by (with_reducible repeat (apply Kd.R_drewN)); exact HO_10.out)); (case aS => exact (below_size (by repeat (with_reducible first|exact HB.out|apply pw_below_drewN)))); (case aL => have:=LMc31.out; omega); intro v1394 w36 ho hb hg hat; rw [← Ny1393.out] at ho; have n0_:=Aside0.mk (Kd.R_after (ok:=(fun k_ => some k_ ≠ (v1381 : Value).ownBlock)) (by (with_reducible repeat (apply Kd.R_drewN)); exact HO_8.out) hg hat); have n1_:=Aside0.mk (Kd.R_after (ok:=(fun k_ => some k_ ≠ (u8 : Value).ownBlock)) (by (with_reducible repeat (apply Kd.R_drewN)); exact HO_9.out) hg hat); have n2_:=Aside0.mk (blk_grown (g:=gb1387) (o:=.cells #[.string ((rd_T89 l1 x29_2).f0),.int .i64 ((rd_T89 l1 x29_2).f1),.int .i64 ((rd_T89 l1 x29_2).f2),.int .i64 ((rd_T89 l1 x29_2).f3),.int .i64 ((rd_T89 l1 x29_2).f4)] 89 (0,0)) (by (with_reducible repeat (refine blk_drewN ?_ _)); exact BK1387.out) hg (Kd.R_ne HO_10.out BK1387.out (by decide))); have n3_:=Aside0.mk (hb); have n4_:=Aside0.mk (ho); clear HO_8; clear HO_9; clear BK1387; clear HB; clear HO_10; have HO_8:=n0_; have HO_9:=n1_; have BK1387:=n2_; have HB:=n3_; have HO1395:=n4_; clear n0_ n1_ n2_ n3_ n4_; clear ho hb hg hat))))
              go_roundg k2
              case measure => have:=HJ2.out; have:=HK2.out; omega
              case rel => exact ⟨(x8_2),(y1393),(wrap64 (x29_2 + 1)),(by (rfl)),H',⟨by have:=HJ2.out; have:=HK2.out; omega⟩,⟨by exact HO_8.out⟩,⟨by exact HO_9.out⟩,⟨by exact HO1395.out⟩,⟨by repeat (((with_reducible (exact HB.out))))⟩⟩
             ·rw [if_neg c31] at H
              exact absurd H (by simp)
            ·rw [if_neg c30] at H
             have c30b0 : (!((((rd_T89 l0 t1388).f0).toList) == (((rd_T89 l1 x29_2).f0).toList)) || (!(((rd_T89 l0 t1388).f1) == ((rd_T89 l1 x29_2).f1)) || (!(((rd_T89 l0 t1388).f2) == ((rd_T89 l1 x29_2).f2)) || (!(((rd_T89 l0 t1388).f3) == ((rd_T89 l1 x29_2).f3)) || (!(((rd_T89 l0 t1388).f4) == ((rd_T89 l1 x29_2).f4))))))) = false:=by simpa using c30
             clear c30
             have H':=Aside0.mk H
             clear H
             have p1386 : 0 ≤ (x29_2 : Int):=of_decide_eq_true (by (with_reducible assumption))
             have q1386 : x29_2 < (l1.length : Int):=of_decide_eq_true (by (with_reducible assumption))
             obtain ⟨ad1386,e1386,hx1386_0,hx1386_1,hx1386_2,hx1386_3,hx1386_4⟩:=at_T89 HR1.out x29_2 p1386 q1386
             cases e1386
             replace hx1386_0:=(HB.out.cell (World.block_lt_of_cell? w _ hx1386_0)).trans hx1386_0
             replace hx1386_1:=(HB.out.cell (World.block_lt_of_cell? w _ hx1386_1)).trans hx1386_1
             replace hx1386_2:=(HB.out.cell (World.block_lt_of_cell? w _ hx1386_2)).trans hx1386_2
             replace hx1386_3:=(HB.out.cell (World.block_lt_of_cell? w _ hx1386_3)).trans hx1386_3
             replace hx1386_4:=(HB.out.cell (World.block_lt_of_cell? w _ hx1386_4)).trans hx1386_4
             replace p1386:=eq_true p1386
             replace q1386:=eq_true q1386
             go_wp2_with (first|((with_reducible refine gate_dst (N:=12) rfl ?_); refine box_event ?hg (N:=12) ?hd (cs:=#[.string (⟨#[]⟩ : ByteArray),.int .i64 0,.int .i64 0,.int .i64 0,.int .i64 0]) (t:=89) ?hr ?_; (case hd => rfl); (case hg => rfl); (case hr => (go_simp; done)); intro gb1387 hg w37 hbox hb; have n0_:=Aside0.mk (Kd.R_below (by exact HO_8.out) hb); have n1_:=Aside0.mk (Kd.R_below (by exact HO_9.out) hb); have n2_:=Aside0.mk (Kd.R_below (by exact HO_10.out) hb); have n3_:=Aside0.mk (below_step (by repeat (((with_reducible (exact HB.out))))) hb); have n4_:=Aside0.mk (hbox); have n5_:=Aside0.mk ((by rw [hg]; exact (below_size (by repeat (((with_reducible (exact HB.out)))))) : w.heap.size ≤ gb1387)); have n6_:=Aside0.mk ((by rw [hg]; exact (below_size (by repeat (((with_reducible (exact HB.out)))))) : w.heap.size ≤ gb1387)); clear HO_8; clear HO_9; clear HO_10; clear HB; have HO_8:=n0_; have HO_9:=n1_; have HO_10:=n2_; have HB:=n3_; have BK1387:=n4_; have GW1387:=n5_; have GE1387:=n6_; clear n0_ n1_ n2_ n3_ n4_ n5_ n6_; clear hb hbox hg; have hcz38_0 : w37.cell? ⟨gb1387,0,none⟩ = some (.string (⟨#[]⟩ : ByteArray)):=(blk_cell BK1387.out 0).trans rfl; have hcz38_1 : w37.cell? ⟨gb1387,1,none⟩ = some (.int .i64 0):=(blk_cell BK1387.out 1).trans rfl; have hcz38_2 : w37.cell? ⟨gb1387,2,none⟩ = some (.int .i64 0):=(blk_cell BK1387.out 2).trans rfl; have hcz38_3 : w37.cell? ⟨gb1387,3,none⟩ = some (.int .i64 0):=(blk_cell BK1387.out 3).trans rfl; have hcz38_4 : w37.cell? ⟨gb1387,4,none⟩ = some (.int .i64 0):=(blk_cell BK1387.out 4).trans rfl; have hfz38_0:=blk_frozen BK1387.out 0; have hfz38_1:=blk_frozen BK1387.out 1; have hfz38_2:=blk_frozen BK1387.out 2; have hfz38_3:=blk_frozen BK1387.out 3; have hfz38_4:=blk_frozen BK1387.out 4)|(go_at_call 148; (with_reducible refine (impl_indexOf.calls _ _ l0 ((rd_T89 l1 x29_2).f0) t1388 _ ?side1 ?side2 A20.out).mono ?_); (case side1 => exact Kd.C_below HR0.out (by repeat (with_reducible first|exact HB.out|refine below_set ?_ GE1387.out))); (case side2 => exact HC0.out); rintro e w39 ⟨rfl,hb⟩; have n0_:=Aside0.mk (Kd.R_below (by exact (Kd.R_mono (Kd.R_far (p:=⟨gb1387,4,none⟩) (Kd.R_far (p:=⟨gb1387,3,none⟩) (Kd.R_far (p:=⟨gb1387,2,none⟩) (Kd.R_far (p:=⟨gb1387,1,none⟩) (Kd.R_far (p:=⟨gb1387,0,none⟩) (Kd.R_types HO_8.out BK1387.out (by decide)) (fun _ hk => hk.2) (.string ((rd_T89 l1 x29_2).f0))) (fun _ hk => hk.2) (.int .i64 ((rd_T89 l1 x29_2).f1))) (fun _ hk => hk.2) (.int .i64 ((rd_T89 l1 x29_2).f2))) (fun _ hk => hk.2) (.int .i64 ((rd_T89 l1 x29_2).f3))) (fun _ hk => hk.2) (.int .i64 ((rd_T89 l1 x29_2).f4))) (fun _ h_ => h_.1))) hb); have n1_:=Aside0.mk (Kd.R_below (by exact (Kd.R_mono (Kd.R_far (p:=⟨gb1387,4,none⟩) (Kd.R_far (p:=⟨gb1387,3,none⟩) (Kd.R_far (p:=⟨gb1387,2,none⟩) (Kd.R_far (p:=⟨gb1387,1,none⟩) (Kd.R_far (p:=⟨gb1387,0,none⟩) (Kd.R_types HO_9.out BK1387.out (by decide)) (fun _ hk => hk.2) (.string ((rd_T89 l1 x29_2).f0))) (fun _ hk => hk.2) (.int .i64 ((rd_T89 l1 x29_2).f1))) (fun _ hk => hk.2) (.int .i64 ((rd_T89 l1 x29_2).f2))) (fun _ hk => hk.2) (.int .i64 ((rd_T89 l1 x29_2).f3))) (fun _ hk => hk.2) (.int .i64 ((rd_T89 l1 x29_2).f4))) (fun _ h_ => h_.1))) hb); have n2_:=Aside0.mk (Kd.R_below (by exact (Kd.R_mono (Kd.R_far (p:=⟨gb1387,4,none⟩) (Kd.R_far (p:=⟨gb1387,3,none⟩) (Kd.R_far (p:=⟨gb1387,2,none⟩) (Kd.R_far (p:=⟨gb1387,1,none⟩) (Kd.R_far (p:=⟨gb1387,0,none⟩) (Kd.R_types HO_10.out BK1387.out (by decide)) (fun _ hk => hk.2) (.string ((rd_T89 l1 x29_2).f0))) (fun _ hk => hk.2) (.int .i64 ((rd_T89 l1 x29_2).f1))) (fun _ hk => hk.2) (.int .i64 ((rd_T89 l1 x29_2).f2))) (fun _ hk => hk.2) (.int .i64 ((rd_T89 l1 x29_2).f3))) (fun _ hk => hk.2) (.int .i64 ((rd_T89 l1 x29_2).f4))) (fun _ h_ => h_.1))) hb); have n3_:=Aside0.mk (blk_below (g:=gb1387) (o:=.cells #[.string ((rd_T89 l1 x29_2).f0),.int .i64 ((rd_T89 l1 x29_2).f1),.int .i64 ((rd_T89 l1 x29_2).f2),.int .i64 ((rd_T89 l1 x29_2).f3),.int .i64 ((rd_T89 l1 x29_2).f4)] 89 (0,0)) (by refine blk_put (cs:=#[.string ((rd_T89 l1 x29_2).f0),.int .i64 ((rd_T89 l1 x29_2).f1),.int .i64 ((rd_T89 l1 x29_2).f2),.int .i64 ((rd_T89 l1 x29_2).f3),.int .i64 0]) ?_ 4 _ rfl; refine blk_put (cs:=#[.string ((rd_T89 l1 x29_2).f0),.int .i64 ((rd_T89 l1 x29_2).f1),.int .i64 ((rd_T89 l1 x29_2).f2),.int .i64 0,.int .i64 0]) ?_ 3 _ rfl; refine blk_put (cs:=#[.string ((rd_T89 l1 x29_2).f0),.int .i64 ((rd_T89 l1 x29_2).f1),.int .i64 0,.int .i64 0,.int .i64 0]) ?_ 2 _ rfl; refine blk_put (cs:=#[.string ((rd_T89 l1 x29_2).f0),.int .i64 0,.int .i64 0,.int .i64 0,.int .i64 0]) ?_ 1 _ rfl; refine blk_put (cs:=#[.string (⟨#[]⟩ : ByteArray),.int .i64 0,.int .i64 0,.int .i64 0,.int .i64 0]) ?_ 0 _ rfl; exact BK1387.out) hb); have n4_:=Aside0.mk (below_step (by repeat (with_reducible first|exact HB.out|refine below_set ?_ GE1387.out)) hb); clear HO_8; clear HO_9; clear HO_10; clear BK1387; clear HB; have HO_8:=n0_; have HO_9:=n1_; have HO_10:=n2_; have BK1387:=n3_; have HB:=n4_; clear n0_ n1_ n2_ n3_ n4_; (try clear hb); (try clear hb2); (try clear hk); (try clear hi); have p1392 : 0 ≤ (t1388 : Int):=of_decide_eq_true (by (with_reducible assumption)); have q1392 : t1388 < (l0.length : Int):=of_decide_eq_true (by (with_reducible assumption)); obtain ⟨ad1392,e1392,hx1392_0,hx1392_1,hx1392_2,hx1392_3,hx1392_4⟩:=at_T89 HR0.out t1388 p1392 q1392; cases e1392; replace hx1392_0:=(HB.out.cell (World.block_lt_of_cell? w _ hx1392_0)).trans hx1392_0; replace hx1392_1:=(HB.out.cell (World.block_lt_of_cell? w _ hx1392_1)).trans hx1392_1; replace hx1392_2:=(HB.out.cell (World.block_lt_of_cell? w _ hx1392_2)).trans hx1392_2; replace hx1392_3:=(HB.out.cell (World.block_lt_of_cell? w _ hx1392_3)).trans hx1392_3; replace hx1392_4:=(HB.out.cell (World.block_lt_of_cell? w _ hx1392_4)).trans hx1392_4; replace p1392:=eq_true p1392; replace q1392:=eq_true q1392; have hcz40_0 : w39.cell? ⟨gb1387,0,none⟩ = some (.string ((rd_T89 l1 x29_2).f0)):=(blk_cell BK1387.out 0).trans rfl; have hcz40_1 : w39.cell? ⟨gb1387,1,none⟩ = some (.int .i64 ((rd_T89 l1 x29_2).f1)):=(blk_cell BK1387.out 1).trans rfl; have hcz40_2 : w39.cell? ⟨gb1387,2,none⟩ = some (.int .i64 ((rd_T89 l1 x29_2).f2)):=(blk_cell BK1387.out 2).trans rfl; have hcz40_3 : w39.cell? ⟨gb1387,3,none⟩ = some (.int .i64 ((rd_T89 l1 x29_2).f3)):=(blk_cell BK1387.out 3).trans rfl; have hcz40_4 : w39.cell? ⟨gb1387,4,none⟩ = some (.int .i64 ((rd_T89 l1 x29_2).f4)):=(blk_cell BK1387.out 4).trans rfl; have hfz40_0:=blk_frozen BK1387.out 0; have hfz40_1:=blk_frozen BK1387.out 1; have hfz40_2:=blk_frozen BK1387.out 2; have hfz40_3:=blk_frozen BK1387.out 3; have hfz40_4:=blk_frozen BK1387.out 4))
             repeat (go_quiet ((((with_reducible refine gate_dst (N:=12) rfl ?_); refine box_event ?hg (N:=12) ?hd (cs:=#[.string (⟨#[]⟩ : ByteArray),.int .i64 0,.int .i64 0,.int .i64 0,.int .i64 0]) (t:=89) ?hr ?_; (case hd => rfl); (case hg => rfl); (case hr => first|(go_simp; done)|(go_simp; rfl)); intro gb1387 hg w37 hbox hb; have n0_:=Aside0.mk (Kd.R_below (by (with_reducible repeat (first|apply Kd.R_alloc|apply Kd.R_drewN|apply Kd.R_drew)); exact HO_8.out) hb); have n1_:=Aside0.mk (Kd.R_below (by (with_reducible repeat (first|apply Kd.R_alloc|apply Kd.R_drewN|apply Kd.R_drew)); exact HO_9.out) hb); have n2_:=Aside0.mk (Kd.R_below (by (with_reducible repeat (first|apply Kd.R_alloc|apply Kd.R_drewN|apply Kd.R_drew)); exact HO_10.out) hb); have n3_:=Aside0.mk (below_step (by repeat (first|(with_reducible first|exact HB.out|apply below_alloc|apply pw_below_drewN|apply below_drew1)|exact HB.out)) hb); have n4_:=Aside0.mk (hbox); have n5_:=Aside0.mk ((by rw [hg]; exact (below_size (by repeat (first|(with_reducible first|exact HB.out|apply below_alloc|apply pw_below_drewN|apply below_drew1)|exact HB.out))) : w.heap.size ≤ gb1387)); have n6_:=Aside0.mk ((by rw [hg]; exact (below_size (by repeat (first|(with_reducible first|exact HB.out|apply below_alloc|apply pw_below_drewN|apply below_drew1)|exact HB.out))) : w.heap.size ≤ gb1387)); clear HO_8; clear HO_9; clear HO_10; clear HB; have HO_8:=n0_; have HO_9:=n1_; have HO_10:=n2_; have HB:=n3_; have BK1387:=n4_; have GW1387:=n5_; have GE1387:=n6_; clear n0_ n1_ n2_ n3_ n4_ n5_ n6_; clear hb hbox hg; have hcz38_0 : w37.cell? ⟨gb1387,0,none⟩ = some (.string (⟨#[]⟩ : ByteArray)):=(blk_cell BK1387.out 0).trans rfl; have hcz38_1 : w37.cell? ⟨gb1387,1,none⟩ = some (.int .i64 0):=(blk_cell BK1387.out 1).trans rfl; have hcz38_2 : w37.cell? ⟨gb1387,2,none⟩ = some (.int .i64 0):=(blk_cell BK1387.out 2).trans rfl; have hcz38_3 : w37.cell? ⟨gb1387,3,none⟩ = some (.int .i64 0):=(blk_cell BK1387.out 3).trans rfl; have hcz38_4 : w37.cell? ⟨gb1387,4,none⟩ = some (.int .i64 0):=(blk_cell BK1387.out 4).trans rfl; have hfz38_0:=blk_frozen BK1387.out 0; have hfz38_1:=blk_frozen BK1387.out 1; have hfz38_2:=blk_frozen BK1387.out 2; have hfz38_3:=blk_frozen BK1387.out 3; have hfz38_4:=blk_frozen BK1387.out 4))); try go_wp2_with ((((with_reducible refine gate_dst (N:=12) rfl ?_); refine box_event ?hg (N:=12) ?hd (cs:=#[.string (⟨#[]⟩ : ByteArray),.int .i64 0,.int .i64 0,.int .i64 0,.int .i64 0]) (t:=89) ?hr ?_; (case hd => rfl); (case hg => rfl); (case hr => first|(go_simp; done)|(go_simp; rfl)); intro gb1387 hg w37 hbox hb; have n0_:=Aside0.mk (Kd.R_below (by (with_reducible repeat (first|apply Kd.R_alloc|apply Kd.R_drewN|apply Kd.R_drew)); exact HO_8.out) hb); have n1_:=Aside0.mk (Kd.R_below (by (with_reducible repeat (first|apply Kd.R_alloc|apply Kd.R_drewN|apply Kd.R_drew)); exact HO_9.out) hb); have n2_:=Aside0.mk (Kd.R_below (by (with_reducible repeat (first|apply Kd.R_alloc|apply Kd.R_drewN|apply Kd.R_drew)); exact HO_10.out) hb); have n3_:=Aside0.mk (below_step (by repeat (first|(with_reducible first|exact HB.out|apply below_alloc|apply pw_below_drewN|apply below_drew1)|exact HB.out)) hb); have n4_:=Aside0.mk (hbox); have n5_:=Aside0.mk ((by rw [hg]; exact (below_size (by repeat (first|(with_reducible first|exact HB.out|apply below_alloc|apply pw_below_drewN|apply below_drew1)|exact HB.out))) : w.heap.size ≤ gb1387)); have n6_:=Aside0.mk ((by rw [hg]; exact (below_size (by repeat (first|(with_reducible first|exact HB.out|apply below_alloc|apply pw_below_drewN|apply below_drew1)|exact HB.out))) : w.heap.size ≤ gb1387)); clear HO_8; clear HO_9; clear HO_10; clear HB; have HO_8:=n0_; have HO_9:=n1_; have HO_10:=n2_; have HB:=n3_; have BK1387:=n4_; have GW1387:=n5_; have GE1387:=n6_; clear n0_ n1_ n2_ n3_ n4_ n5_ n6_; clear hb hbox hg; have hcz38_0 : w37.cell? ⟨gb1387,0,none⟩ = some (.string (⟨#[]⟩ : ByteArray)):=(blk_cell BK1387.out 0).trans rfl; have hcz38_1 : w37.cell? ⟨gb1387,1,none⟩ = some (.int .i64 0):=(blk_cell BK1387.out 1).trans rfl; have hcz38_2 : w37.cell? ⟨gb1387,2,none⟩ = some (.int .i64 0):=(blk_cell BK1387.out 2).trans rfl; have hcz38_3 : w37.cell? ⟨gb1387,3,none⟩ = some (.int .i64 0):=(blk_cell BK1387.out 3).trans rfl; have hcz38_4 : w37.cell? ⟨gb1387,4,none⟩ = some (.int .i64 0):=(blk_cell BK1387.out 4).trans rfl; have hfz38_0:=blk_frozen BK1387.out 0; have hfz38_1:=blk_frozen BK1387.out 1; have hfz38_2:=blk_frozen BK1387.out 2; have hfz38_3:=blk_frozen BK1387.out 3; have hfz38_4:=blk_frozen BK1387.out 4))))
             go_roundg k2
             case measure => have:=HJ2.out; have:=HK2.out; omega
             case rel => exact ⟨(x8_2),(x10_2),(wrap64 (x29_2 + 1)),(by (rfl)),H',⟨by have:=HJ2.out; have:=HK2.out; omega⟩,⟨by (with_reducible repeat (apply Kd.R_drewN)); exact HO_8.out⟩,⟨by (with_reducible repeat (apply Kd.R_drewN)); exact HO_9.out⟩,⟨by (with_reducible repeat (apply Kd.R_drewN)); exact HO_10.out⟩,⟨by repeat (with_reducible first|exact HB.out|apply pw_below_drewN)⟩⟩
           ·rw [if_neg c29] at H
            exact absurd H (by simp)
          ·rw [if_neg c28] at H
           exact absurd H (by simp)
        ·rw [if_neg c19] at H
         exact absurd H (by simp)
       ·rw [if_neg c18] at H
        exact absurd H (by simp)
      ·rw [if_neg c17] at H
       have c17b0 : decide (x29_2 < (l1.length : Int)) = false:=decide_eq_false c17
       clear c17
       have H':=Aside0.mk H
       clear H
       go_wp2
       go_loopg [9,60] k2 (fun kq v9 v60 w' => ∃ (x9_3 : List ByteArray) (x60_3 : Int),v60 = .int .i64 x60_3 ∧ Aside0 (impl_ManifestChanges.l1 kq l1 x8_2 x9_3 x10_2 l0 (l0.length : Int) x60_3 = some (r1,r2,r3,r4)) ∧ Aside0 (kq ≤ k2) ∧ Aside0 (Kd.R Kd.string 9 w' w.heap.size (fun k_ => some k_ ≠ (v9 : Value).ownBlock ∧ some k_ ≠ (u10 : Value).ownBlock) u8 x8_2) ∧ Aside0 (Kd.R Kd.string 9 w' w.heap.size (fun k_ => some k_ ≠ (u8 : Value).ownBlock ∧ some k_ ≠ (u10 : Value).ownBlock) v9 x9_3) ∧ Aside0 (Kd.R Kd.string 9 w' w.heap.size (fun k_ => some k_ ≠ (u8 : Value).ownBlock ∧ some k_ ≠ (v9 : Value).ownBlock) u10 x10_2) ∧ Aside0 (Below w.heap.size w w'))
       case atStart => exact ⟨(y1380),(0),(by (rfl)),H',⟨Nat.le_refl _⟩,⟨by exact HO_8.out⟩,⟨by exact HO_9.out⟩,⟨by exact HO_10.out⟩,⟨by repeat (((with_reducible (exact HB.out))))⟩⟩
       case round =>
        clear H'
        try clear c1
        try clear p1
        try clear q1
        try clear hx1
        try clear c2
        try clear p2
        try clear c3
        try clear c5
        try clear p6
        try clear c7
        try clear c10
        try clear p13
        try clear q13
        try clear hx13
        try clear c17
        try clear c17b0
        try clear c18
        try clear c18b0
        try clear c19
        try clear c19b0
        try clear c21
        try clear c21b0
        try clear c22
        try clear c28
        try clear c28b0
        try clear c29
        try clear c29b0
        try clear c30
        try clear c30b0
        try clear c31
        try clear hcz24_0
        try clear hcz24_1
        try clear hcz24_2
        try clear hcz24_3
        try clear hcz24_4
        try clear hcz26_0
        try clear hcz26_1
        try clear hcz26_2
        try clear hcz26_3
        try clear hcz26_4
        try clear hcz33_0
        try clear hcz33_1
        try clear hcz33_2
        try clear hcz33_3
        try clear hcz33_4
        try clear hcz35_0
        try clear hcz35_1
        try clear hcz35_2
        try clear hcz35_3
        try clear hcz35_4
        try clear hcz38_0
        try clear hcz38_1
        try clear hcz38_2
        try clear hcz38_3
        try clear hcz38_4
        try clear hcz40_0
        try clear hcz40_1
        try clear hcz40_2
        try clear hcz40_3
        try clear hcz40_4
        try clear hfz24_0
        try clear hfz24_1
        try clear hfz24_2
        try clear hfz24_3
        try clear hfz24_4
        try clear hfz26_0
        try clear hfz26_1
        try clear hfz26_2
        try clear hfz26_3
        try clear hfz26_4
        try clear hfz33_0
        try clear hfz33_1
        try clear hfz33_2
        try clear hfz33_3
        try clear hfz33_4
        try clear hfz35_0
        try clear hfz35_1
        try clear hfz35_2
        try clear hfz35_3
        try clear hfz35_4
        try clear hfz38_0
        try clear hfz38_1
        try clear hfz38_2
        try clear hfz38_3
        try clear hfz38_4
        try clear hfz40_0
        try clear hfz40_1
        try clear hfz40_2
        try clear hfz40_3
        try clear hfz40_4
        try clear hx1386_0
        try clear hx1386_1
        try clear hx1386_2
        try clear hx1386_3
        try clear hx1386_4
        try clear hx1392_0
        try clear hx1392_1
        try clear hx1392_2
        try clear hx1392_3
        try clear hx1392_4
        try clear p1386
        try clear p1392
        try clear p2
        try clear q1386
        try clear q1392
        obtain ⟨x9_3,x60_3,rfl,HA,HK3,HO_8,HO_9,HO_10,HB⟩:=hrel
        cases gk with
        | zero => exact absurd HA.out (by simp [impl_ManifestChanges.l1])
        | succ k3 =>
         have H:=HA.out
         clear HA
         simp only [impl_ManifestChanges.l1] at H
         by_cases c41 : x60_3 < (l0.length : Int)
         ·rw [if_pos c41] at H
          have c41b0 : decide (x60_3 < (l0.length : Int)) = true:=decide_eq_true c41
          clear c41
          by_cases c42 : 0 ≤ x60_3
          ·rw [if_pos c42] at H
           have c42b0 : decide (0 ≤ x60_3) = true:=decide_eq_true c42
           clear c42
           by_cases c43 : x60_3 < (l0.length : Int)
           ·rw [if_pos c43] at H
            have c43b0 : decide (x60_3 < (l0.length : Int)) = true:=decide_eq_true c43
            clear c43
            replace H:=Option.bind_eq_some_iff.mp H
            obtain ⟨t1398,A440,H⟩:=H
            replace H : (if t1398 < 0 then (if x9_3.length < 8796093022208 then (impl_ManifestChanges.l1 k3 l1 x8_2 (x9_3 ++ [(rd_T89 l0 x60_3).f0]) x10_2 l0 (l0.length : Int) (wrap64 (x60_3 + 1))) else (none)) else (impl_ManifestChanges.l1 k3 l1 x8_2 x9_3 x10_2 l0 (l0.length : Int) (wrap64 (x60_3 + 1)))) = some (r1,r2,r3,r4):=H
            have A44:=Aside0.mk A440
            clear A440
            by_cases c45 : t1398 < 0
            ·rw [if_pos c45] at H
             have c45b0 : decide (t1398 < 0) = true:=decide_eq_true c45
             clear c45
             by_cases c46 : x9_3.length < 8796093022208
             ·rw [if_pos c46] at H
              have LMc46:=Aside0.mk c46
              clear c46
              obtain ⟨y1399,hy1399⟩ : ∃ y_ : List ByteArray,y_ = (x9_3 ++ [(rd_T89 l0 x60_3).f0]):=⟨_,rfl⟩
              replace H : (impl_ManifestChanges.l1 k3 l1 x8_2 y1399 x10_2 l0 (l0.length : Int) (wrap64 (x60_3 + 1))) = some (r1,r2,r3,r4):=by (rw [hy1399]; with_reducible exact H)
              have Ny1399:=Aside0.mk hy1399
              clear hy1399
              have H':=Aside0.mk H
              clear H
              have p1396 : 0 ≤ (x60_3 : Int):=of_decide_eq_true (by (with_reducible assumption))
              have q1396 : x60_3 < (l0.length : Int):=of_decide_eq_true (by (with_reducible assumption))
              obtain ⟨ad1396,e1396,hx1396_0,hx1396_1,hx1396_2,hx1396_3,hx1396_4⟩:=at_T89 HR0.out x60_3 p1396 q1396
              cases e1396
              replace hx1396_0:=(HB.out.cell (World.block_lt_of_cell? w _ hx1396_0)).trans hx1396_0
              replace hx1396_1:=(HB.out.cell (World.block_lt_of_cell? w _ hx1396_1)).trans hx1396_1
              replace hx1396_2:=(HB.out.cell (World.block_lt_of_cell? w _ hx1396_2)).trans hx1396_2
              replace hx1396_3:=(HB.out.cell (World.block_lt_of_cell? w _ hx1396_3)).trans hx1396_3
              replace hx1396_4:=(HB.out.cell (World.block_lt_of_cell? w _ hx1396_4)).trans hx1396_4
              replace p1396:=eq_true p1396
              replace q1396:=eq_true q1396
              go_wp2_with (first|((with_reducible refine gate_dst (N:=15) rfl ?_); refine box_event ?hg (N:=15) ?hd (cs:=#[.string (⟨#[]⟩ : ByteArray),.int .i64 0,.int .i64 0,.int .i64 0,.int .i64 0]) (t:=89) ?hr ?_; (case hd => rfl); (case hg => rfl); (case hr => (go_simp; done)); intro gb1397 hg w47 hbox hb; have n0_:=Aside0.mk (Kd.R_below (by exact HO_8.out) hb); have n1_:=Aside0.mk (Kd.R_below (by exact HO_9.out) hb); have n2_:=Aside0.mk (Kd.R_below (by exact HO_10.out) hb); have n3_:=Aside0.mk (below_step (by repeat (((with_reducible (exact HB.out))))) hb); have n4_:=Aside0.mk (hbox); have n5_:=Aside0.mk ((by rw [hg]; exact (below_size (by repeat (((with_reducible (exact HB.out)))))) : w.heap.size ≤ gb1397)); have n6_:=Aside0.mk ((by rw [hg]; exact (below_size (by repeat (((with_reducible (exact HB.out)))))) : w.heap.size ≤ gb1397)); clear HO_8; clear HO_9; clear HO_10; clear HB; have HO_8:=n0_; have HO_9:=n1_; have HO_10:=n2_; have HB:=n3_; have BK1397:=n4_; have GW1397:=n5_; have GE1397:=n6_; clear n0_ n1_ n2_ n3_ n4_ n5_ n6_; clear hb hbox hg; have hcz48_0 : w47.cell? ⟨gb1397,0,none⟩ = some (.string (⟨#[]⟩ : ByteArray)):=(blk_cell BK1397.out 0).trans rfl; have hcz48_1 : w47.cell? ⟨gb1397,1,none⟩ = some (.int .i64 0):=(blk_cell BK1397.out 1).trans rfl; have hcz48_2 : w47.cell? ⟨gb1397,2,none⟩ = some (.int .i64 0):=(blk_cell BK1397.out 2).trans rfl; have hcz48_3 : w47.cell? ⟨gb1397,3,none⟩ = some (.int .i64 0):=(blk_cell BK1397.out 3).trans rfl; have hcz48_4 : w47.cell? ⟨gb1397,4,none⟩ = some (.int .i64 0):=(blk_cell BK1397.out 4).trans rfl; have hfz48_0:=blk_frozen BK1397.out 0; have hfz48_1:=blk_frozen BK1397.out 1; have hfz48_2:=blk_frozen BK1397.out 2; have hfz48_3:=blk_frozen BK1397.out 3; have hfz48_4:=blk_frozen BK1397.out 4)|(go_at_call 148; (with_reducible refine (impl_indexOf.calls _ _ l1 ((rd_T89 l0 x60_3).f0) t1398 _ ?side1 ?side2 A44.out).mono ?_); (case side1 => exact Kd.C_below HR1.out (by repeat (with_reducible first|exact HB.out|refine below_set ?_ GE1397.out))); (case side2 => exact HC1.out); rintro e w49 ⟨rfl,hb⟩; have n0_:=Aside0.mk (Kd.R_below (by exact (Kd.R_mono (Kd.R_far (p:=⟨gb1397,4,none⟩) (Kd.R_far (p:=⟨gb1397,3,none⟩) (Kd.R_far (p:=⟨gb1397,2,none⟩) (Kd.R_far (p:=⟨gb1397,1,none⟩) (Kd.R_far (p:=⟨gb1397,0,none⟩) (Kd.R_types HO_8.out BK1397.out (by decide)) (fun _ hk => hk.2) (.string ((rd_T89 l0 x60_3).f0))) (fun _ hk => hk.2) (.int .i64 ((rd_T89 l0 x60_3).f1))) (fun _ hk => hk.2) (.int .i64 ((rd_T89 l0 x60_3).f2))) (fun _ hk => hk.2) (.int .i64 ((rd_T89 l0 x60_3).f3))) (fun _ hk => hk.2) (.int .i64 ((rd_T89 l0 x60_3).f4))) (fun _ h_ => h_.1))) hb); have n1_:=Aside0.mk (Kd.R_below (by exact (Kd.R_mono (Kd.R_far (p:=⟨gb1397,4,none⟩) (Kd.R_far (p:=⟨gb1397,3,none⟩) (Kd.R_far (p:=⟨gb1397,2,none⟩) (Kd.R_far (p:=⟨gb1397,1,none⟩) (Kd.R_far (p:=⟨gb1397,0,none⟩) (Kd.R_types HO_9.out BK1397.out (by decide)) (fun _ hk => hk.2) (.string ((rd_T89 l0 x60_3).f0))) (fun _ hk => hk.2) (.int .i64 ((rd_T89 l0 x60_3).f1))) (fun _ hk => hk.2) (.int .i64 ((rd_T89 l0 x60_3).f2))) (fun _ hk => hk.2) (.int .i64 ((rd_T89 l0 x60_3).f3))) (fun _ hk => hk.2) (.int .i64 ((rd_T89 l0 x60_3).f4))) (fun _ h_ => h_.1))) hb); have n2_:=Aside0.mk (Kd.R_below (by exact (Kd.R_mono (Kd.R_far (p:=⟨gb1397,4,none⟩) (Kd.R_far (p:=⟨gb1397,3,none⟩) (Kd.R_far (p:=⟨gb1397,2,none⟩) (Kd.R_far (p:=⟨gb1397,1,none⟩) (Kd.R_far (p:=⟨gb1397,0,none⟩) (Kd.R_types HO_10.out BK1397.out (by decide)) (fun _ hk => hk.2) (.string ((rd_T89 l0 x60_3).f0))) (fun _ hk => hk.2) (.int .i64 ((rd_T89 l0 x60_3).f1))) (fun _ hk => hk.2) (.int .i64 ((rd_T89 l0 x60_3).f2))) (fun _ hk => hk.2) (.int .i64 ((rd_T89 l0 x60_3).f3))) (fun _ hk => hk.2) (.int .i64 ((rd_T89 l0 x60_3).f4))) (fun _ h_ => h_.1))) hb); have n3_:=Aside0.mk (blk_below (g:=gb1397) (o:=.cells #[.string ((rd_T89 l0 x60_3).f0),.int .i64 ((rd_T89 l0 x60_3).f1),.int .i64 ((rd_T89 l0 x60_3).f2),.int .i64 ((rd_T89 l0 x60_3).f3),.int .i64 ((rd_T89 l0 x60_3).f4)] 89 (0,0)) (by refine blk_put (cs:=#[.string ((rd_T89 l0 x60_3).f0),.int .i64 ((rd_T89 l0 x60_3).f1),.int .i64 ((rd_T89 l0 x60_3).f2),.int .i64 ((rd_T89 l0 x60_3).f3),.int .i64 0]) ?_ 4 _ rfl; refine blk_put (cs:=#[.string ((rd_T89 l0 x60_3).f0),.int .i64 ((rd_T89 l0 x60_3).f1),.int .i64 ((rd_T89 l0 x60_3).f2),.int .i64 0,.int .i64 0]) ?_ 3 _ rfl; refine blk_put (cs:=#[.string ((rd_T89 l0 x60_3).f0),.int .i64 ((rd_T89 l0 x60_3).f1),.int .i64 0,.int .i64 0,.int .i64 0]) ?_ 2 _ rfl; refine blk_put (cs:=#[.string ((rd_T89 l0 x60_3).f0),.int .i64 0,.int .i64 0,.int .i64 0,.int .i64 0]) ?_ 1 _ rfl; refine blk_put (cs:=#[.string (⟨#[]⟩ : ByteArray),.int .i64 0,.int .i64 0,.int .i64 0,.int .i64 0]) ?_ 0 _ rfl; exact BK1397.out) hb); have n4_:=Aside0.mk (below_step (by repeat (with_reducible first|exact HB.out|refine below_set ?_ GE1397.out)) hb); clear HO_8; clear HO_9; clear HO_10; clear BK1397; clear HB; have HO_8:=n0_; have HO_9:=n1_; have HO_10:=n2_; have BK1397:=n3_; have HB:=n4_; clear n0_ n1_ n2_ n3_ n4_; (try clear hb); (try clear hb2); (try clear hk); (try clear hi); have hcz50_0 : w49.cell? ⟨gb1397,0,none⟩ = some (.string ((rd_T89 l0 x60_3).f0)):=(blk_cell BK1397.out 0).trans rfl; have hcz50_1 : w49.cell? ⟨gb1397,1,none⟩ = some (.int .i64 ((rd_T89 l0 x60_3).f1)):=(blk_cell BK1397.out 1).trans rfl; have hcz50_2 : w49.cell? ⟨gb1397,2,none⟩ = some (.int .i64 ((rd_T89 l0 x60_3).f2)):=(blk_cell BK1397.out 2).trans rfl; have hcz50_3 : w49.cell? ⟨gb1397,3,none⟩ = some (.int .i64 ((rd_T89 l0 x60_3).f3)):=(blk_cell BK1397.out 3).trans rfl; have hcz50_4 : w49.cell? ⟨gb1397,4,none⟩ = some (.int .i64 ((rd_T89 l0 x60_3).f4)):=(blk_cell BK1397.out 4).trans rfl; have hfz50_0:=blk_frozen BK1397.out 0; have hfz50_1:=blk_frozen BK1397.out 1; have hfz50_2:=blk_frozen BK1397.out 2; have hfz50_3:=blk_frozen BK1397.out 3; have hfz50_4:=blk_frozen BK1397.out 4)|((with_reducible refine gate_builtin (b:=.append) (xs:=#[.tmp 69,.tmp 72]) rfl ?_); at_builtin; refine Kd.R_append Kd.string (w0:=w) w.heap.size rfl (.tmp 69) (.tmp 72) 92 9 (.string ⟨#[]⟩) 16 rfl Try.underlying92 info9 rfl (by decide) (by omega) u9 x9_3 ((rd_T89 l0 x60_3).f0) [.string ((rd_T89 l0 x60_3).f0)] (fun k_ => some k_ ≠ (u8 : Value).ownBlock ∧ some k_ ≠ (u10 : Value).ownBlock) (fun _ => False) rfl rfl ?aP (fun _ hk => hk.elim) ?aF ?aO ?aB ?aS ?aL ?_; (case aP => exact rfl); (case aB => exact (by repeat (((with_reducible (exact HB.out)))))); (case aF => exact (fun k_ hk => ⟨Kd.fresh' (Kd.R_lt (by exact HO_8.out)) k_ hk,Kd.fresh' (Kd.R_lt (by exact HO_10.out)) k_ hk⟩)); (case aO => exact (by exact HO_9.out)); (case aS => exact (below_size (by repeat (((with_reducible (exact HB.out))))))); (case aL => have:=LMc46.out; omega); intro v1400 w51 ho hb hg hat; rw [← Ny1399.out] at ho; have n0_:=Aside0.mk (Kd.R_after (ok:=(fun k_ => some k_ ≠ (u10 : Value).ownBlock)) (by exact Kd.R_mono HO_8.out (fun _ hk => ⟨hk.2,hk.1⟩)) hg hat); have n1_:=Aside0.mk (Kd.R_after (ok:=(fun k_ => some k_ ≠ (u8 : Value).ownBlock)) (by exact HO_10.out) hg hat); have n2_:=Aside0.mk (blk_grown (g:=gb1397) (o:=.cells #[.string ((rd_T89 l0 x60_3).f0),.int .i64 ((rd_T89 l0 x60_3).f1),.int .i64 ((rd_T89 l0 x60_3).f2),.int .i64 ((rd_T89 l0 x60_3).f3),.int .i64 ((rd_T89 l0 x60_3).f4)] 89 (0,0)) (by exact BK1397.out) hg (Kd.R_ne HO_9.out BK1397.out (by decide))); have n3_:=Aside0.mk (hb); have n4_:=Aside0.mk (ho); clear HO_8; clear HO_10; clear BK1397; clear HB; clear HO_9; have HO_8:=n0_; have HO_10:=n1_; have BK1397:=n2_; have HB:=n3_; have HO1401:=n4_; clear n0_ n1_ n2_ n3_ n4_; clear ho hb hg hat))
              go_roundg k3
              case measure => have:=HJ2.out; have:=HK2.out; have:=HK3.out; omega
              case rel => exact ⟨(y1399),(wrap64 (x60_3 + 1)),(by (rfl)),H',⟨by have:=HJ2.out; have:=HK2.out; have:=HK3.out; omega⟩,⟨by exact Kd.R_mono HO_8.out (fun _ hk => ⟨hk.2,hk.1⟩)⟩,⟨by exact HO1401.out⟩,⟨by exact HO_10.out⟩,⟨by repeat (((with_reducible (exact HB.out))))⟩⟩
             ·rw [if_neg c46] at H
              exact absurd H (by simp)
            ·rw [if_neg c45] at H
             have c45b0 : decide (t1398 < 0) = false:=decide_eq_false c45
             clear c45
             have H':=Aside0.mk H
             clear H
             have p1396 : 0 ≤ (x60_3 : Int):=of_decide_eq_true (by (with_reducible assumption))
             have q1396 : x60_3 < (l0.length : Int):=of_decide_eq_true (by (with_reducible assumption))
             obtain ⟨ad1396,e1396,hx1396_0,hx1396_1,hx1396_2,hx1396_3,hx1396_4⟩:=at_T89 HR0.out x60_3 p1396 q1396
             cases e1396
             replace hx1396_0:=(HB.out.cell (World.block_lt_of_cell? w _ hx1396_0)).trans hx1396_0
             replace hx1396_1:=(HB.out.cell (World.block_lt_of_cell? w _ hx1396_1)).trans hx1396_1
             replace hx1396_2:=(HB.out.cell (World.block_lt_of_cell? w _ hx1396_2)).trans hx1396_2
             replace hx1396_3:=(HB.out.cell (World.block_lt_of_cell? w _ hx1396_3)).trans hx1396_3
             replace hx1396_4:=(HB.out.cell (World.block_lt_of_cell? w _ hx1396_4)).trans hx1396_4
             replace p1396:=eq_true p1396
             replace q1396:=eq_true q1396
             go_wp2_with (first|((with_reducible refine gate_dst (N:=15) rfl ?_); refine box_event ?hg (N:=15) ?hd (cs:=#[.string (⟨#[]⟩ : ByteArray),.int .i64 0,.int .i64 0,.int .i64 0,.int .i64 0]) (t:=89) ?hr ?_; (case hd => rfl); (case hg => rfl); (case hr => (go_simp; done)); intro gb1397 hg w52 hbox hb; have n0_:=Aside0.mk (Kd.R_below (by exact HO_8.out) hb); have n1_:=Aside0.mk (Kd.R_below (by exact HO_9.out) hb); have n2_:=Aside0.mk (Kd.R_below (by exact HO_10.out) hb); have n3_:=Aside0.mk (below_step (by repeat (((with_reducible (exact HB.out))))) hb); have n4_:=Aside0.mk (hbox); have n5_:=Aside0.mk ((by rw [hg]; exact (below_size (by repeat (((with_reducible (exact HB.out)))))) : w.heap.size ≤ gb1397)); have n6_:=Aside0.mk ((by rw [hg]; exact (below_size (by repeat (((with_reducible (exact HB.out)))))) : w.heap.size ≤ gb1397)); clear HO_8; clear HO_9; clear HO_10; clear HB; have HO_8:=n0_; have HO_9:=n1_; have HO_10:=n2_; have HB:=n3_; have BK1397:=n4_; have GW1397:=n5_; have GE1397:=n6_; clear n0_ n1_ n2_ n3_ n4_ n5_ n6_; clear hb hbox hg; have hcz53_0 : w52.cell? ⟨gb1397,0,none⟩ = some (.string (⟨#[]⟩ : ByteArray)):=(blk_cell BK1397.out 0).trans rfl; have hcz53_1 : w52.cell? ⟨gb1397,1,none⟩ = some (.int .i64 0):=(blk_cell BK1397.out 1).trans rfl; have hcz53_2 : w52.cell? ⟨gb1397,2,none⟩ = some (.int .i64 0):=(blk_cell BK1397.out 2).trans rfl; have hcz53_3 : w52.cell? ⟨gb1397,3,none⟩ = some (.int .i64 0):=(blk_cell BK1397.out 3).trans rfl; have hcz53_4 : w52.cell? ⟨gb1397,4,none⟩ = some (.int .i64 0):=(blk_cell BK1397.out 4).trans rfl; have hfz53_0:=blk_frozen BK1397.out 0; have hfz53_1:=blk_frozen BK1397.out 1; have hfz53_2:=blk_frozen BK1397.out 2; have hfz53_3:=blk_frozen BK1397.out 3; have hfz53_4:=blk_frozen BK1397.out 4)|(go_at_call 148; (with_reducible refine (impl_indexOf.calls _ _ l1 ((rd_T89 l0 x60_3).f0) t1398 _ ?side1 ?side2 A44.out).mono ?_); (case side1 => exact Kd.C_below HR1.out (by repeat (with_reducible first|exact HB.out|refine below_set ?_ GE1397.out))); (case side2 => exact HC1.out); rintro e w54 ⟨rfl,hb⟩; have n0_:=Aside0.mk (Kd.R_below (by exact (Kd.R_mono (Kd.R_far (p:=⟨gb1397,4,none⟩) (Kd.R_far (p:=⟨gb1397,3,none⟩) (Kd.R_far (p:=⟨gb1397,2,none⟩) (Kd.R_far (p:=⟨gb1397,1,none⟩) (Kd.R_far (p:=⟨gb1397,0,none⟩) (Kd.R_types HO_8.out BK1397.out (by decide)) (fun _ hk => hk.2) (.string ((rd_T89 l0 x60_3).f0))) (fun _ hk => hk.2) (.int .i64 ((rd_T89 l0 x60_3).f1))) (fun _ hk => hk.2) (.int .i64 ((rd_T89 l0 x60_3).f2))) (fun _ hk => hk.2) (.int .i64 ((rd_T89 l0 x60_3).f3))) (fun _ hk => hk.2) (.int .i64 ((rd_T89 l0 x60_3).f4))) (fun _ h_ => h_.1))) hb); have n1_:=Aside0.mk (Kd.R_below (by exact (Kd.R_mono (Kd.R_far (p:=⟨gb1397,4,none⟩) (Kd.R_far (p:=⟨gb1397,3,none⟩) (Kd.R_far (p:=⟨gb1397,2,none⟩) (Kd.R_far (p:=⟨gb1397,1,none⟩) (Kd.R_far (p:=⟨gb1397,0,none⟩) (Kd.R_types HO_9.out BK1397.out (by decide)) (fun _ hk => hk.2) (.string ((rd_T89 l0 x60_3).f0))) (fun _ hk => hk.2) (.int .i64 ((rd_T89 l0 x60_3).f1))) (fun _ hk => hk.2) (.int .i64 ((rd_T89 l0 x60_3).f2))) (fun _ hk => hk.2) (.int .i64 ((rd_T89 l0 x60_3).f3))) (fun _ hk => hk.2) (.int .i64 ((rd_T89 l0 x60_3).f4))) (fun _ h_ => h_.1))) hb); have n2_:=Aside0.mk (Kd.R_below (by exact (Kd.R_mono (Kd.R_far (p:=⟨gb1397,4,none⟩) (Kd.R_far (p:=⟨gb1397,3,none⟩) (Kd.R_far (p:=⟨gb1397,2,none⟩) (Kd.R_far (p:=⟨gb1397,1,none⟩) (Kd.R_far (p:=⟨gb1397,0,none⟩) (Kd.R_types HO_10.out BK1397.out (by decide)) (fun _ hk => hk.2) (.string ((rd_T89 l0 x60_3).f0))) (fun _ hk => hk.2) (.int .i64 ((rd_T89 l0 x60_3).f1))) (fun _ hk => hk.2) (.int .i64 ((rd_T89 l0 x60_3).f2))) (fun _ hk => hk.2) (.int .i64 ((rd_T89 l0 x60_3).f3))) (fun _ hk => hk.2) (.int .i64 ((rd_T89 l0 x60_3).f4))) (fun _ h_ => h_.1))) hb); have n3_:=Aside0.mk (blk_below (g:=gb1397) (o:=.cells #[.string ((rd_T89 l0 x60_3).f0),.int .i64 ((rd_T89 l0 x60_3).f1),.int .i64 ((rd_T89 l0 x60_3).f2),.int .i64 ((rd_T89 l0 x60_3).f3),.int .i64 ((rd_T89 l0 x60_3).f4)] 89 (0,0)) (by refine blk_put (cs:=#[.string ((rd_T89 l0 x60_3).f0),.int .i64 ((rd_T89 l0 x60_3).f1),.int .i64 ((rd_T89 l0 x60_3).f2),.int .i64 ((rd_T89 l0 x60_3).f3),.int .i64 0]) ?_ 4 _ rfl; refine blk_put (cs:=#[.string ((rd_T89 l0 x60_3).f0),.int .i64 ((rd_T89 l0 x60_3).f1),.int .i64 ((rd_T89 l0 x60_3).f2),.int .i64 0,.int .i64 0]) ?_ 3 _ rfl; refine blk_put (cs:=#[.string ((rd_T89 l0 x60_3).f0),.int .i64 ((rd_T89 l0 x60_3).f1),.int .i64 0,.int .i64 0,.int .i64 0]) ?_ 2 _ rfl; refine blk_put (cs:=#[.string ((rd_T89 l0 x60_3).f0),.int .i64 0,.int .i64 0,.int .i64 0,.int .i64 0]) ?_ 1 _ rfl; refine blk_put (cs:=#[.string (⟨#[]⟩ : ByteArray),.int .i64 0,.int .i64 0,.int .i64 0,.int .i64 0]) ?_ 0 _ rfl; exact BK1397.out) hb); have n4_:=Aside0.mk (below_step (by repeat (with_reducible first|exact HB.out|refine below_set ?_ GE1397.out)) hb); clear HO_8; clear HO_9; clear HO_10; clear BK1397; clear HB; have HO_8:=n0_; have HO_9:=n1_; have HO_10:=n2_; have BK1397:=n3_; have HB:=n4_; clear n0_ n1_ n2_ n3_ n4_; (try clear hb); (try clear hb2); (try clear hk); (try clear hi)))
             go_roundg k3
             case measure => have:=HJ2.out; have:=HK2.out; have:=HK3.out; omega
             case rel => exact ⟨(x9_3),(wrap64 (x60_3 + 1)),(by (rfl)),H',⟨by have:=HJ2.out; have:=HK2.out; have:=HK3.out; omega⟩,⟨by exact HO_8.out⟩,⟨by exact HO_9.out⟩,⟨by exact HO_10.out⟩,⟨by repeat (((with_reducible (exact HB.out))))⟩⟩
           ·rw [if_neg c43] at H
            exact absurd H (by simp)
          ·rw [if_neg c42] at H
           exact absurd H (by simp)
         ·rw [if_neg c41] at H
          have c41b0 : decide (x60_3 < (l0.length : Int)) = false:=decide_eq_false c41
          clear c41
          replace H:=Option.bind_eq_some_iff.mp H
          obtain ⟨t1402,A550,H⟩:=H
          replace H : ((slices_Sort_string_string.f x9_3).bind fun t1403 => ((slices_Sort_string_string.f x10_2).bind fun t1404 => (some (t1402,t1403,t1404,true)))) = some (r1,r2,r3,r4):=H
          have A55:=Aside0.mk A550
          clear A550
          replace H:=Option.bind_eq_some_iff.mp H
          obtain ⟨t1403,A560,H⟩:=H
          replace H : ((slices_Sort_string_string.f x10_2).bind fun t1404 => (some (t1402,t1403,t1404,true))) = some (r1,r2,r3,r4):=H
          have A56:=Aside0.mk A560
          clear A560
          replace H:=Option.bind_eq_some_iff.mp H
          obtain ⟨t1404,A570,H⟩:=H
          replace H : (some (t1402,t1403,t1404,true)) = some (r1,r2,r3,r4):=H
          have A57:=Aside0.mk A570
          clear A570
          simp only [Option.some.injEq,Prod.mk.injEq] at H
          obtain ⟨rfl,rfl,rfl,rfl⟩:=H
          obtain ⟨Ao58,co58,eo58⟩:=Kd.R_slice HO_8.out
          subst eo58
          go_wp2_with (first|(go_at_call 153; (with_reducible refine (slices_Sort_string_string.calls (fun k_ => some k_ = (.slice Ao58 x8_2.length co58 : Value).ownBlock) (.slice Ao58 x8_2.length co58) x8_2 t1402 w _ ?side1 ?side2 A55.out).mono ?_); (case side1 => repeat (((with_reducible (exact HB.out))))); (case side2 => exact Kd.R_tight rfl HO_8.out); rintro e w59 ⟨rfl,hy0,hb,hkp⟩; have n0_:=Aside0.mk (Kd.R_reok rfl hy0 (fun k_ e_ => HO_8.out.1 k_ e_)); have n1_:=Aside0.mk (Kd.R_mono (ok':=fun k_ => some k_ ≠ (.slice Ao58 x8_2.length co58 : Value).ownBlock ∧ some k_ ≠ (u10 : Value).ownBlock) (Kd.R_keptB (HO_9.out) hkp (fun k_ hk_ hs_ => (hk_.1) hs_)) (fun k_ hk_ => ⟨hk_.1.1,hk_.1.2⟩)); have n2_:=Aside0.mk (Kd.R_mono (ok':=fun k_ => some k_ ≠ (.slice Ao58 x8_2.length co58 : Value).ownBlock ∧ some k_ ≠ (u9 : Value).ownBlock) (Kd.R_keptB (HO_10.out) hkp (fun k_ hk_ hs_ => (hk_.1) hs_)) (fun k_ hk_ => ⟨hk_.1.1,hk_.1.2⟩)); have n3_:=Aside0.mk (hb); clear HO_8; clear HO_9; clear HO_10; clear HB; have HO_8:=n0_; have HO_9:=n1_; have HO_10:=n2_; have HB:=n3_; clear n0_ n1_ n2_ n3_; (try clear hb); (try clear hkp); (try clear hy0); obtain ⟨Ao60,co60,eo60⟩:=Kd.R_slice HO_9.out; subst eo60)|(go_at_call 153; (with_reducible refine (slices_Sort_string_string.calls (fun k_ => some k_ = (.slice Ao60 x9_3.length co60 : Value).ownBlock) (.slice Ao60 x9_3.length co60) x9_3 t1403 w _ ?side1 ?side2 A56.out).mono ?_); (case side1 => repeat (((with_reducible (exact HB.out))))); (case side2 => exact Kd.R_tight rfl HO_9.out); rintro e w61 ⟨rfl,hy0,hb,hkp⟩; have n0_:=Aside0.mk (Kd.R_mono (ok':=fun k_ => some k_ ≠ (.slice Ao60 x9_3.length co60 : Value).ownBlock ∧ some k_ ≠ (u10 : Value).ownBlock) (Kd.R_keptB (HO_8.out) hkp (fun k_ hk_ hs_ => (hk_.1) hs_)) (fun k_ hk_ => ⟨hk_.1.1,hk_.1.2⟩)); have n1_:=Aside0.mk (Kd.R_reok rfl hy0 (fun k_ e_ => HO_9.out.1 k_ e_)); have n2_:=Aside0.mk (Kd.R_mono (ok':=fun k_ => some k_ ≠ (.slice Ao58 x8_2.length co58 : Value).ownBlock ∧ some k_ ≠ (.slice Ao60 x9_3.length co60 : Value).ownBlock) (Kd.R_keptB (HO_10.out) hkp (fun k_ hk_ hs_ => (hk_.2) hs_)) (fun k_ hk_ => ⟨hk_.1.1,hk_.1.2⟩)); have n3_:=Aside0.mk (hb); clear HO_8; clear HO_9; clear HO_10; clear HB; have HO_8:=n0_; have HO_9:=n1_; have HO_10:=n2_; have HB:=n3_; clear n0_ n1_ n2_ n3_; (try clear hb); (try clear hkp); (try clear hy0); obtain ⟨Ao62,co62,eo62⟩:=Kd.R_slice HO_10.out; subst eo62)|(go_at_call 153; (with_reducible refine (slices_Sort_string_string.calls (fun k_ => some k_ = (.slice Ao62 x10_2.length co62 : Value).ownBlock) (.slice Ao62 x10_2.length co62) x10_2 t1404 w _ ?side1 ?side2 A57.out).mono ?_); (case side1 => repeat (((with_reducible (exact HB.out))))); (case side2 => exact Kd.R_tight rfl HO_10.out); rintro e w63 ⟨rfl,hy0,hb,hkp⟩; have n0_:=Aside0.mk (Kd.R_mono (ok':=fun k_ => some k_ ≠ (.slice Ao60 x9_3.length co60 : Value).ownBlock ∧ some k_ ≠ (.slice Ao62 x10_2.length co62 : Value).ownBlock) (Kd.R_keptB (HO_8.out) hkp (fun k_ hk_ hs_ => (hk_.2) hs_)) (fun k_ hk_ => ⟨hk_.1.1,hk_.1.2⟩)); have n1_:=Aside0.mk (Kd.R_mono (ok':=fun k_ => some k_ ≠ (.slice Ao58 x8_2.length co58 : Value).ownBlock ∧ some k_ ≠ (.slice Ao62 x10_2.length co62 : Value).ownBlock) (Kd.R_keptB (HO_9.out) hkp (fun k_ hk_ hs_ => (hk_.2) hs_)) (fun k_ hk_ => ⟨hk_.1.1,hk_.1.2⟩)); have n2_:=Aside0.mk (Kd.R_reok rfl hy0 (fun k_ e_ => HO_10.out.1 k_ e_)); have n3_:=Aside0.mk (hb); clear HO_8; clear HO_9; clear HO_10; clear HB; have HO_8:=n0_; have HO_9:=n1_; have HO_10:=n2_; have HB:=n3_; clear n0_ n1_ n2_ n3_; (try clear hb); (try clear hkp); (try clear hy0)))
          refine bodyPost_ret (results_list (rs:=[.tmp 4,.tmp 5,.tmp 6,.tmp 7]) rfl (by simp) (.tmp (.tmp (.tmp (.tmp .nil))))) rfl ?_
          exact ⟨_,_,_,by (rfl),by exact HO_8.out,by exact HO_9.out,by exact HO_10.out,by repeat (((with_reducible (exact HB.out))))⟩

end Go.Proofs.Ytlldonokjgoajaa.X
