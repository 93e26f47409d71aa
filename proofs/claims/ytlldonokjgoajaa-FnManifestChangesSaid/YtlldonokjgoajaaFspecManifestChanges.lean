-- Written by a program of ours (wip/bin/xprint.py,over the kit's print.py) out of the translation. Not trusted: Lean checks it.
import Derived.Test.YtlldonokjgoajaaX0
import Derived.Test.YtlldonokjgoajaaXE0
import Derived.Test.YtlldonokjgoajaaFbGood
import Derived.Test.YtlldonokjgoajaaFspecl4Put
namespace Go.Proofs.Ytlldonokjgoajaa.X
open Go.RowKit Go.Proofs.YtlldonokjgoajaaW.PrintWords Go.Proofs.YtlldonokjgoajaaW.PrintLast Go.Proofs.YtlldonokjgoajaaW.PrintMore
attribute [local go_sem] max2_int min2_int max_two min_two max_three min_three max_four min_four   -- for this text's walks alone
set_option linter.unusedVariables false
set_option linter.unusedSimpArgs false

attribute [local go_sem high] eqA89
/-! ### spec_ManifestChanges: function 80 -/
mutual
def spec_ManifestChanges.j0 : Nat → List (S89) → List (S89) → List ByteArray → List ByteArray → List ByteArray → Bool → Option (List ByteArray × List ByteArray × List ByteArray × Bool)
 | 0,_,_,_,_,_,_ => none
 | k + 1,x0,x1,x8,x9,x10,x24 => if x24 = true then (some (x8,x9,x10,false)) else (spec_ManifestChanges.l0 k x0 x1 x8 x9 x10 0)
def spec_ManifestChanges.l0 : Nat → List (S89) → List (S89) → List ByteArray → List ByteArray → List ByteArray → Int → Option (List ByteArray × List ByteArray × List ByteArray × Bool)
 | 0,_,_,_,_,_,_ => none
 | k + 1,x0,x1,x8,x9,x10,x11 => if x11 < (x1.length : Int) then (if 0 ≤ x11 then ((spec_l2Find.f k x0 ((rd_T89 x1 x11).f0)).bind fun t1452 => (if t1452 < 0 then ((spec_l4Put.f k x8 ((rd_T89 x1 x11).f0)).bind fun t1454 => (spec_ManifestChanges.l0 k x0 x1 t1454 x9 x10 (wrap64 (x11 + 1)))) else (if 0 ≤ t1452 then (if t1452 < (x0.length : Int) then (if (!((((rd_T89 x0 t1452).f0).toList) == (((rd_T89 x1 x11).f0).toList)) || (!(((rd_T89 x0 t1452).f1) == ((rd_T89 x1 x11).f1)) || (!(((rd_T89 x0 t1452).f2) == ((rd_T89 x1 x11).f2)) || (!(((rd_T89 x0 t1452).f3) == ((rd_T89 x1 x11).f3)) || (!(((rd_T89 x0 t1452).f4) == ((rd_T89 x1 x11).f4))))))) = true then ((spec_l4Put.f k x10 ((rd_T89 x1 x11).f0)).bind fun t1460 => (spec_ManifestChanges.l0 k x0 x1 x8 x9 t1460 (wrap64 (x11 + 1)))) else (spec_ManifestChanges.l0 k x0 x1 x8 x9 x10 (wrap64 (x11 + 1)))) else (none)) else (none)))) else (none)) else (spec_ManifestChanges.l1 k x0 x1 x8 x9 x10 0)
def spec_ManifestChanges.l1 : Nat → List (S89) → List (S89) → List ByteArray → List ByteArray → List ByteArray → Int → Option (List ByteArray × List ByteArray × List ByteArray × Bool)
 | 0,_,_,_,_,_,_ => none
 | k + 1,x0,x1,x8,x9,x10,x13 => if x13 < (x0.length : Int) then (if 0 ≤ x13 then ((spec_l2Find.f k x1 ((rd_T89 x0 x13).f0)).bind fun t1464 => (if t1464 < 0 then ((spec_l4Put.f k x9 ((rd_T89 x0 x13).f0)).bind fun t1466 => (spec_ManifestChanges.l1 k x0 x1 x8 t1466 x10 (wrap64 (x13 + 1)))) else (spec_ManifestChanges.l1 k x0 x1 x8 x9 x10 (wrap64 (x13 + 1))))) else (none)) else (some (x8,x9,x10,true))
end
def spec_ManifestChanges.f (k : Nat) (l0 : List (S89)) (l1 : List (S89)) : Option (List ByteArray × List ByteArray × List ByteArray × Bool):=(some (([] : List ByteArray) : List ByteArray)).bind fun y1440 => ((some (([] : List ByteArray) : List ByteArray)).bind fun y1443 => ((some (([] : List ByteArray) : List ByteArray)).bind fun y1446 => ((spec_l2List.f k l0).bind fun t1449 => (if t1449 = true then ((spec_l2List.f k l1).bind fun t1450 => (spec_ManifestChanges.j0 k l0 l1 y1440 y1443 y1446 (!t1450))) else (spec_ManifestChanges.j0 k l0 l1 y1440 y1443 y1446 true)))))
theorem spec_ManifestChanges.mono_l : ∀ k,(∀ y0 y1 y2 y3 y4 y5,LeO (spec_ManifestChanges.j0 k y0 y1 y2 y3 y4 y5) (spec_ManifestChanges.j0 (k + 1) y0 y1 y2 y3 y4 y5)) ∧ (∀ y0 y1 y2 y3 y4 y5,LeO (spec_ManifestChanges.l0 k y0 y1 y2 y3 y4 y5) (spec_ManifestChanges.l0 (k + 1) y0 y1 y2 y3 y4 y5)) ∧ (∀ y0 y1 y2 y3 y4 y5,LeO (spec_ManifestChanges.l1 k y0 y1 y2 y3 y4 y5) (spec_ManifestChanges.l1 (k + 1) y0 y1 y2 y3 y4 y5))
 | 0 => ⟨fun _ _ _ _ _ _ r h => by simp [spec_ManifestChanges.j0] at h,fun _ _ _ _ _ _ r h => by simp [spec_ManifestChanges.l0] at h,fun _ _ _ _ _ _ r h => by simp [spec_ManifestChanges.l1] at h⟩
 | k + 1 => by
  obtain ⟨ih0,ih1,ih2⟩:=spec_ManifestChanges.mono_l k
  refine ⟨?_,?_,?_⟩
  ·intro y0 y1 y2 y3 y4 y5
   unfold spec_ManifestChanges.j0
   repeat' first
   | (with_reducible exact ih0 _ _ _ _ _ _)
   | (with_reducible exact ih1 _ _ _ _ _ _)
   | (with_reducible exact ih2 _ _ _ _ _ _)
   | (with_reducible exact spec_l2Find.mono _ _ _)
   | (with_reducible exact spec_l2List.mono _ _)
   | (with_reducible exact spec_l4Put.mono _ _ _)
   | (with_reducible exact LeO.refl _)
   | (with_reducible exact LeO.none _)
   | (with_reducible refine LeO.ite ?_ ?_)
   | (with_reducible refine LeO.bind ?_ (fun _ => ?_))
   | exact ih0 _ _ _ _ _ _
   | exact ih1 _ _ _ _ _ _
   | exact ih2 _ _ _ _ _ _
   | exact spec_l2Find.mono _ _ _
   | exact spec_l2List.mono _ _
   | exact spec_l4Put.mono _ _ _
   | exact LeO.none _
   | refine LeO.ite ?_ ?_
   | refine LeO.bind ?_ (fun _ => ?_)
  ·intro y0 y1 y2 y3 y4 y5
   unfold spec_ManifestChanges.l0
   repeat' first
   | (with_reducible exact ih0 _ _ _ _ _ _)
   | (with_reducible exact ih1 _ _ _ _ _ _)
   | (with_reducible exact ih2 _ _ _ _ _ _)
   | (with_reducible exact spec_l2Find.mono _ _ _)
   | (with_reducible exact spec_l2List.mono _ _)
   | (with_reducible exact spec_l4Put.mono _ _ _)
   | (with_reducible exact LeO.refl _)
   | (with_reducible exact LeO.none _)
   | (with_reducible refine LeO.ite ?_ ?_)
   | (with_reducible refine LeO.bind ?_ (fun _ => ?_))
   | exact ih0 _ _ _ _ _ _
   | exact ih1 _ _ _ _ _ _
   | exact ih2 _ _ _ _ _ _
   | exact spec_l2Find.mono _ _ _
   | exact spec_l2List.mono _ _
   | exact spec_l4Put.mono _ _ _
   | exact LeO.none _
   | refine LeO.ite ?_ ?_
   | refine LeO.bind ?_ (fun _ => ?_)
  ·intro y0 y1 y2 y3 y4 y5
   unfold spec_ManifestChanges.l1
   repeat' first
   | (with_reducible exact ih0 _ _ _ _ _ _)
   | (with_reducible exact ih1 _ _ _ _ _ _)
   | (with_reducible exact ih2 _ _ _ _ _ _)
   | (with_reducible exact spec_l2Find.mono _ _ _)
   | (with_reducible exact spec_l2List.mono _ _)
   | (with_reducible exact spec_l4Put.mono _ _ _)
   | (with_reducible exact LeO.refl _)
   | (with_reducible exact LeO.none _)
   | (with_reducible refine LeO.ite ?_ ?_)
   | (with_reducible refine LeO.bind ?_ (fun _ => ?_))
   | exact ih0 _ _ _ _ _ _
   | exact ih1 _ _ _ _ _ _
   | exact ih2 _ _ _ _ _ _
   | exact spec_l2Find.mono _ _ _
   | exact spec_l2List.mono _ _
   | exact spec_l4Put.mono _ _ _
   | exact LeO.none _
   | refine LeO.ite ?_ ?_
   | refine LeO.bind ?_ (fun _ => ?_)
theorem spec_ManifestChanges.mono : ∀ a0 a1 k,LeO (spec_ManifestChanges.f k a0 a1) (spec_ManifestChanges.f (k + 1) a0 a1):=by
 intro a0 a1 k
 obtain ⟨ih0,ih1,ih2⟩:=spec_ManifestChanges.mono_l k
 unfold spec_ManifestChanges.f
 repeat' first
   | (with_reducible exact ih0 _ _ _ _ _ _)
   | (with_reducible exact ih1 _ _ _ _ _ _)
   | (with_reducible exact ih2 _ _ _ _ _ _)
   | (with_reducible exact spec_l2Find.mono _ _ _)
   | (with_reducible exact spec_l2List.mono _ _)
   | (with_reducible exact spec_l4Put.mono _ _ _)
   | (with_reducible exact LeO.refl _)
   | (with_reducible exact LeO.none _)
   | (with_reducible refine LeO.ite ?_ ?_)
   | (with_reducible refine LeO.bind ?_ (fun _ => ?_))
   | exact ih0 _ _ _ _ _ _
   | exact ih1 _ _ _ _ _ _
   | exact ih2 _ _ _ _ _ _
   | exact spec_l2Find.mono _ _ _
   | exact spec_l2List.mono _ _
   | exact spec_l4Put.mono _ _ _
   | exact LeO.none _
   | refine LeO.ite ?_ ?_
   | refine LeO.bind ?_ (fun _ => ?_)
set_option maxHeartbeats 8000000 in
set_option maxRecDepth 100000 in
theorem spec_ManifestChanges.calls (k : Nat) (A0 : Option Addr) (c0 : Nat) (l0 : List (S89)) (A1 : Option Addr) (c1 : Nat) (l1 : List (S89)) (r1 : List ByteArray) (r2 : List ByteArray) (r3 : List ByteArray) (r4 : Bool) (w : World) (hr0 : Kd.C k89 w A0 l0.length l0) (hc0 : l0.length ≤ c0) (hr1 : Kd.C k89 w A1 l1.length l1) (hc1 : l1.length ≤ c1) (h : spec_ManifestChanges.f k l0 l1 = some (r1,r2,r3,r4)) :
  Calls Try.prog 80 #[.slice A0 l0.length c0,.slice A1 l1.length c1] w fun e w' => ∃ v0_ v1_ v2_ : Value,e = .returned (.tuple #[v0_,v1_,v2_,.bool r4]) ∧ Kd.R Kd.string 9 w' w.heap.size (fun k_ => some k_ ≠ (v1_ : Value).ownBlock ∧ some k_ ≠ (v2_ : Value).ownBlock) v0_ r1 ∧ Kd.R Kd.string 9 w' w.heap.size (fun k_ => some k_ ≠ (v0_ : Value).ownBlock ∧ some k_ ≠ (v2_ : Value).ownBlock) v1_ r2 ∧ Kd.R Kd.string 9 w' w.heap.size (fun k_ => some k_ ≠ (v0_ : Value).ownBlock ∧ some k_ ≠ (v1_ : Value).ownBlock) v2_ r3 ∧ Below w.heap.size w w':=by
 have hu89:=Try.underlying89
 have HR0:=Aside0.mk hr0
 have HC0:=Aside0.mk hc0
 clear hr0 hc0
 have HR1:=Aside0.mk hr1
 have HC1:=Aside0.mk hc1
 clear hr1 hc1
 have HB:=Aside0.mk (Below.refl w.heap.size w)
 have H : ((some (([] : List ByteArray) : List ByteArray)).bind fun y1440 => ((some (([] : List ByteArray) : List ByteArray)).bind fun y1443 => ((some (([] : List ByteArray) : List ByteArray)).bind fun y1446 => ((spec_l2List.f k l0).bind fun t1449 => (if t1449 = true then ((spec_l2List.f k l1).bind fun t1450 => (spec_ManifestChanges.j0 k l0 l1 y1440 y1443 y1446 (!t1450))) else (spec_ManifestChanges.j0 k l0 l1 y1440 y1443 y1446 true)))))) = some (r1,r2,r3,r4):=h
 clear h
 obtain ⟨y1440,hy1440⟩ : ∃ y_ : List ByteArray,y_ = ([] : List ByteArray):=⟨_,rfl⟩
 replace H : ((some (([] : List ByteArray) : List ByteArray)).bind fun y1443 => ((some (([] : List ByteArray) : List ByteArray)).bind fun y1446 => ((spec_l2List.f k l0).bind fun t1449 => (if t1449 = true then ((spec_l2List.f k l1).bind fun t1450 => (spec_ManifestChanges.j0 k l0 l1 y1440 y1443 y1446 (!t1450))) else (spec_ManifestChanges.j0 k l0 l1 y1440 y1443 y1446 true))))) = some (r1,r2,r3,r4):=by ((have H2_:=(Option.bind_some _ _).symm.trans H; rw [hy1440]; with_reducible exact H2_))
 have Ny1440:=Aside0.mk hy1440
 clear hy1440
 obtain ⟨y1443,hy1443⟩ : ∃ y_ : List ByteArray,y_ = ([] : List ByteArray):=⟨_,rfl⟩
 replace H : ((some (([] : List ByteArray) : List ByteArray)).bind fun y1446 => ((spec_l2List.f k l0).bind fun t1449 => (if t1449 = true then ((spec_l2List.f k l1).bind fun t1450 => (spec_ManifestChanges.j0 k l0 l1 y1440 y1443 y1446 (!t1450))) else (spec_ManifestChanges.j0 k l0 l1 y1440 y1443 y1446 true)))) = some (r1,r2,r3,r4):=by ((have H2_:=(Option.bind_some _ _).symm.trans H; rw [hy1443]; with_reducible exact H2_))
 have Ny1443:=Aside0.mk hy1443
 clear hy1443
 obtain ⟨y1446,hy1446⟩ : ∃ y_ : List ByteArray,y_ = ([] : List ByteArray):=⟨_,rfl⟩
 replace H : ((spec_l2List.f k l0).bind fun t1449 => (if t1449 = true then ((spec_l2List.f k l1).bind fun t1450 => (spec_ManifestChanges.j0 k l0 l1 y1440 y1443 y1446 (!t1450))) else (spec_ManifestChanges.j0 k l0 l1 y1440 y1443 y1446 true))) = some (r1,r2,r3,r4):=by ((have H2_:=(Option.bind_some _ _).symm.trans H; rw [hy1446]; with_reducible exact H2_))
 have Ny1446:=Aside0.mk hy1446
 clear hy1446
 have HC3:=Aside0.mk H
 clear H
 go_enter Try.func80,Try.ntmps80
 go_upto_region 2 with (first|((with_reducible refine gate_dst (N:=14) rfl ?_); refine Kd.R_lit Kd.string _ 9 ?hg (N:=14) ?hd (xs:=([] : List ByteArray)) (inner:=[]) (ok:=fun _ => True) (okp:=fun _ => True) ?hr ?hp (fun _ hk => hk) trivial (Below.refl _ _) (Nat.le_refl _) (by simp) ?_; (case hd => rfl); (case hg => rfl); (case hr => (go_simp; done)); (case hp => exact (Reps.none _ _)); intro v1441 w4 ho5 hb hg_ hnew_; clear hg_ hnew_; (rw [← Ny1440.out] at ho5); have n0_:=Aside0.mk (Kd.R_lower ho5 (below_size (by repeat (((with_reducible (exact HB.out))))))); have n1_:=Aside0.mk (below_step (by repeat (((with_reducible (exact HB.out))))) hb); clear HB; have HO1442:=n0_; have HB:=n1_; clear n0_ n1_; clear hb ho5)|((with_reducible refine gate_dst (N:=15) rfl ?_); refine Kd.R_lit Kd.string _ 9 ?hg (N:=15) ?hd (xs:=([] : List ByteArray)) (inner:=[]) (ok:=fun _ => True) (okp:=fun _ => True) ?hr ?hp (fun _ hk => hk) trivial (Below.refl _ _) (Nat.le_refl _) (by simp) ?_; (case hd => rfl); (case hg => rfl); (case hr => (go_simp; done)); (case hp => exact (Reps.none _ _)); intro v1444 w6 ho7 hb hg_ hnew_; clear hg_ hnew_; (rw [← Ny1443.out] at ho7); have n0_:=Aside0.mk (Kd.R_elder' (by exact HO1442.out) (Kd.R_base ho7) hb); have n1_:=Aside0.mk (Kd.R_lower (Kd.R_new' ho7 (Kd.R_lt (by exact HO1442.out))) (below_size (by repeat (((with_reducible (exact HB.out))))))); have n2_:=Aside0.mk (below_step (by repeat (((with_reducible (exact HB.out))))) hb); clear HO1442; clear HB; have HO1442:=n0_; have HO1445:=n1_; have HB:=n2_; clear n0_ n1_ n2_; clear hb ho7)|((with_reducible refine gate_dst (N:=16) rfl ?_); refine Kd.R_lit Kd.string _ 9 ?hg (N:=16) ?hd (xs:=([] : List ByteArray)) (inner:=[]) (ok:=fun _ => True) (okp:=fun _ => True) ?hr ?hp (fun _ hk => hk) trivial (Below.refl _ _) (Nat.le_refl _) (by simp) ?_; (case hd => rfl); (case hg => rfl); (case hr => (go_simp; done)); (case hp => exact (Reps.none _ _)); intro v1447 w8 ho9 hb hg_ hnew_; clear hg_ hnew_; (rw [← Ny1446.out] at ho9); have n0_:=Aside0.mk (Kd.R_elder' (by exact HO1442.out) (Kd.R_base ho9) hb); have n1_:=Aside0.mk (Kd.R_elder' (by exact HO1445.out) (Kd.R_base ho9) hb); have n2_:=Aside0.mk (Kd.R_lower (Kd.R_new' (Kd.R_new' ho9 (Kd.R_lt (by exact HO1442.out))) (Kd.R_lt (by exact HO1445.out))) (below_size (by repeat (((with_reducible (exact HB.out))))))); have n3_:=Aside0.mk (below_step (by repeat (((with_reducible (exact HB.out))))) hb); clear HO1442; clear HO1445; clear HB; have HO1442:=n0_; have HO1445:=n1_; have HO1448:=n2_; have HB:=n3_; clear n0_ n1_ n2_ n3_; clear hb ho9))
 repeat (go_quiet ((((with_reducible refine gate_dst (N:=14) rfl ?_); refine Kd.R_lit Kd.string _ 9 ?hg (N:=14) ?hd (xs:=([] : List ByteArray)) (inner:=[]) (ok:=fun _ => True) (okp:=fun _ => True) ?hr ?hp (fun _ hk => hk) trivial (Below.refl _ _) (Nat.le_refl _) (by simp) ?_; (case hd => rfl); (case hg => rfl); (case hr => first|(go_simp; done)|(go_simp; rfl)); (case hp => exact (Reps.none _ _)); intro v1441 w4 ho5 hb hg_ hnew_; clear hg_ hnew_; (first|rw [← Ny1440.out] at ho5|(simp only [Int.reduceToNat] at ho5; rw [← Ny1440.out] at ho5)); have n0_:=Aside0.mk (Kd.R_lower ho5 (below_size (by repeat (first|(with_reducible first|exact HB.out|apply below_alloc|apply pw_below_drewN|apply below_drew1)|exact HB.out)))); have n1_:=Aside0.mk (below_step (by repeat (first|(with_reducible first|exact HB.out|apply below_alloc|apply pw_below_drewN|apply below_drew1)|exact HB.out)) hb); clear HB; have HO1442:=n0_; have HB:=n1_; clear n0_ n1_; clear hb ho5))); go_upto_region 2 with ((((with_reducible refine gate_dst (N:=14) rfl ?_); refine Kd.R_lit Kd.string _ 9 ?hg (N:=14) ?hd (xs:=([] : List ByteArray)) (inner:=[]) (ok:=fun _ => True) (okp:=fun _ => True) ?hr ?hp (fun _ hk => hk) trivial (Below.refl _ _) (Nat.le_refl _) (by simp) ?_; (case hd => rfl); (case hg => rfl); (case hr => first|(go_simp; done)|(go_simp; rfl)); (case hp => exact (Reps.none _ _)); intro v1441 w4 ho5 hb hg_ hnew_; clear hg_ hnew_; (first|rw [← Ny1440.out] at ho5|(simp only [Int.reduceToNat] at ho5; rw [← Ny1440.out] at ho5)); have n0_:=Aside0.mk (Kd.R_lower ho5 (below_size (by repeat (first|(with_reducible first|exact HB.out|apply below_alloc|apply pw_below_drewN|apply below_drew1)|exact HB.out)))); have n1_:=Aside0.mk (below_step (by repeat (first|(with_reducible first|exact HB.out|apply below_alloc|apply pw_below_drewN|apply below_drew1)|exact HB.out)) hb); clear HB; have HO1442:=n0_; have HB:=n1_; clear n0_ n1_; clear hb ho5))))
 (try simp only [Act.put,List.setIfInBounds_toArray,List.set_cons_zero,List.set_cons_succ])
 go_cut [24] (fun v24 wc => ∃ (kq : Nat) (x24_2 : Bool),v24 = .bool x24_2 ∧ Aside0 (spec_ManifestChanges.j0 kq l0 l1 y1440 y1443 y1446 x24_2 = some (r1,r2,r3,r4)) ∧ Aside0 (kq ≤ k) ∧ Aside0 (Kd.R Kd.string 9 wc w.heap.size (fun k_ => some k_ ≠ (v1444 : Value).ownBlock ∧ some k_ ≠ (v1447 : Value).ownBlock) v1441 y1440) ∧ Aside0 (Kd.R Kd.string 9 wc w.heap.size (fun k_ => some k_ ≠ (v1441 : Value).ownBlock ∧ some k_ ≠ (v1447 : Value).ownBlock) v1444 y1443) ∧ Aside0 (Kd.R Kd.string 9 wc w.heap.size (fun k_ => some k_ ≠ (v1441 : Value).ownBlock ∧ some k_ ≠ (v1444 : Value).ownBlock) v1447 y1446) ∧ Aside0 (Below w.heap.size w wc))
 case first =>
  have H:=HC3.out
  clear HC3
  replace H:=Option.bind_eq_some_iff.mp H
  obtain ⟨t1449,A100,H⟩:=H
  replace H : (if t1449 = true then ((spec_l2List.f k l1).bind fun t1450 => (spec_ManifestChanges.j0 k l0 l1 y1440 y1443 y1446 (!t1450))) else (spec_ManifestChanges.j0 k l0 l1 y1440 y1443 y1446 true)) = some (r1,r2,r3,r4):=H
  have A10:=Aside0.mk A100
  clear A100
  by_cases c11 : t1449 = true
  ·subst c11
   have H1 : ((spec_l2List.f k l1).bind fun t1450 => (spec_ManifestChanges.j0 k l0 l1 y1440 y1443 y1446 (!t1450))) = some (r1,r2,r3,r4):=by rw [if_pos rfl] at H; exact H
   clear H
   have H:=H1
   clear H1
   replace H:=Option.bind_eq_some_iff.mp H
   obtain ⟨t1450,A120,H⟩:=H
   replace H : (spec_ManifestChanges.j0 k l0 l1 y1440 y1443 y1446 (!t1450)) = some (r1,r2,r3,r4):=H
   have A12:=Aside0.mk A120
   clear A120
   have H':=Aside0.mk H
   clear H
   go_wp2_with (first|(go_at_call 130; (with_reducible refine (spec_l2List.calls k _ _ l0 true _ ?side1 ?side2 A10.out).mono ?_); (case side1 => repeat ((exact (Kd.C_below HR0.out HB.out)))); (case side2 => exact HC0.out); rintro e w13 ⟨rfl,hb⟩; have n0_:=Aside0.mk (Kd.R_below (by exact HO1442.out) hb); have n1_:=Aside0.mk (Kd.R_below (by exact HO1445.out) hb); have n2_:=Aside0.mk (Kd.R_below (by exact HO1448.out) hb); have n3_:=Aside0.mk (below_step (by repeat (((with_reducible (exact HB.out))))) hb); clear HO1442; clear HO1445; clear HO1448; clear HB; have HO1442:=n0_; have HO1445:=n1_; have HO1448:=n2_; have HB:=n3_; clear n0_ n1_ n2_ n3_; (try clear hb); (try clear hb2); (try clear hk); (try clear hi))|(go_at_call 130; (with_reducible refine (spec_l2List.calls k _ _ l1 t1450 _ ?side1 ?side2 A12.out).mono ?_); (case side1 => repeat ((exact (Kd.C_below HR1.out HB.out)))); (case side2 => exact HC1.out); rintro e w14 ⟨rfl,hb⟩; have n0_:=Aside0.mk (Kd.R_below (by exact HO1442.out) hb); have n1_:=Aside0.mk (Kd.R_below (by exact HO1445.out) hb); have n2_:=Aside0.mk (Kd.R_below (by exact HO1448.out) hb); have n3_:=Aside0.mk (below_step (by repeat (((with_reducible (exact HB.out))))) hb); clear HO1442; clear HO1445; clear HO1448; clear HB; have HO1442:=n0_; have HO1445:=n1_; have HO1448:=n2_; have HB:=n3_; clear n0_ n1_ n2_ n3_; (try clear hb); (try clear hb2); (try clear hk); (try clear hi)))
   repeat (go_quiet (((go_at_call 130; (with_reducible refine (spec_l2List.calls k _ _ l0 true _ ?side1 ?side2 A10.out).mono ?_); (case side1 => repeat (first|exact (Kd.C_below HR0.out HB.out)|(with_reducible refine Kd.C_alloc ?_ _)|(with_reducible refine Kd.C_drewN ?_ _)|(with_reducible refine Kd.C_drew ?_))); (case side2 => exact HC0.out); rintro e w13 ⟨rfl,hb⟩; have n0_:=Aside0.mk (Kd.R_below (by (with_reducible repeat (first|apply Kd.R_alloc|apply Kd.R_drewN|apply Kd.R_drew)); exact HO1442.out) hb); have n1_:=Aside0.mk (Kd.R_below (by (with_reducible repeat (first|apply Kd.R_alloc|apply Kd.R_drewN|apply Kd.R_drew)); exact HO1445.out) hb); have n2_:=Aside0.mk (Kd.R_below (by (with_reducible repeat (first|apply Kd.R_alloc|apply Kd.R_drewN|apply Kd.R_drew)); exact HO1448.out) hb); have n3_:=Aside0.mk (below_step (by repeat (first|(with_reducible first|exact HB.out|apply below_alloc|apply pw_below_drewN|apply below_drew1)|exact HB.out)) hb); clear HO1442; clear HO1445; clear HO1448; clear HB; have HO1442:=n0_; have HO1445:=n1_; have HO1448:=n2_; have HB:=n3_; clear n0_ n1_ n2_ n3_; (try clear hb); (try clear hb2); (try clear hk); (try clear hi)))); try go_wp2_with (((go_at_call 130; (with_reducible refine (spec_l2List.calls k _ _ l0 true _ ?side1 ?side2 A10.out).mono ?_); (case side1 => repeat (first|exact (Kd.C_below HR0.out HB.out)|(with_reducible refine Kd.C_alloc ?_ _)|(with_reducible refine Kd.C_drewN ?_ _)|(with_reducible refine Kd.C_drew ?_))); (case side2 => exact HC0.out); rintro e w13 ⟨rfl,hb⟩; have n0_:=Aside0.mk (Kd.R_below (by (with_reducible repeat (first|apply Kd.R_alloc|apply Kd.R_drewN|apply Kd.R_drew)); exact HO1442.out) hb); have n1_:=Aside0.mk (Kd.R_below (by (with_reducible repeat (first|apply Kd.R_alloc|apply Kd.R_drewN|apply Kd.R_drew)); exact HO1445.out) hb); have n2_:=Aside0.mk (Kd.R_below (by (with_reducible repeat (first|apply Kd.R_alloc|apply Kd.R_drewN|apply Kd.R_drew)); exact HO1448.out) hb); have n3_:=Aside0.mk (below_step (by repeat (first|(with_reducible first|exact HB.out|apply below_alloc|apply pw_below_drewN|apply below_drew1)|exact HB.out)) hb); clear HO1442; clear HO1445; clear HO1448; clear HB; have HO1442:=n0_; have HO1445:=n1_; have HO1448:=n2_; have HB:=n3_; clear n0_ n1_ n2_ n3_; (try clear hb); (try clear hb2); (try clear hk); (try clear hi)))))
   go_meet
   case rel => exact ⟨_,(!t1450),(by (rfl)),H',⟨by (omega)⟩,⟨by exact Kd.R_mono HO1442.out (fun _ hk => ⟨hk.1.2,hk.2⟩)⟩,⟨by exact Kd.R_mono HO1445.out (fun _ hk => ⟨hk.1.2,hk.2⟩)⟩,⟨by exact Kd.R_mono HO1448.out (fun _ hk => ⟨hk.1.2,hk.2⟩)⟩,⟨by repeat (((with_reducible (exact HB.out))))⟩⟩
  ·replace c11:=Bool.eq_false_iff.mpr c11
   subst c11
   have H1 : (spec_ManifestChanges.j0 k l0 l1 y1440 y1443 y1446 true) = some (r1,r2,r3,r4):=by rw [if_neg (show ¬ (false = true) by decide)] at H; exact H
   clear H
   have H:=H1
   clear H1
   have H':=Aside0.mk H
   clear H
   go_wp2_with (((go_at_call 130; (with_reducible refine (spec_l2List.calls k _ _ l0 false _ ?side1 ?side2 A10.out).mono ?_); (case side1 => repeat ((exact (Kd.C_below HR0.out HB.out)))); (case side2 => exact HC0.out); rintro e w15 ⟨rfl,hb⟩; have n0_:=Aside0.mk (Kd.R_below (by exact HO1442.out) hb); have n1_:=Aside0.mk (Kd.R_below (by exact HO1445.out) hb); have n2_:=Aside0.mk (Kd.R_below (by exact HO1448.out) hb); have n3_:=Aside0.mk (below_step (by repeat (((with_reducible (exact HB.out))))) hb); clear HO1442; clear HO1445; clear HO1448; clear HB; have HO1442:=n0_; have HO1445:=n1_; have HO1448:=n2_; have HB:=n3_; clear n0_ n1_ n2_ n3_; (try clear hb); (try clear hb2); (try clear hk); (try clear hi))))
   repeat (go_quiet (((go_at_call 130; (with_reducible refine (spec_l2List.calls k _ _ l0 false _ ?side1 ?side2 A10.out).mono ?_); (case side1 => repeat (first|exact (Kd.C_below HR0.out HB.out)|(with_reducible refine Kd.C_alloc ?_ _)|(with_reducible refine Kd.C_drewN ?_ _)|(with_reducible refine Kd.C_drew ?_))); (case side2 => exact HC0.out); rintro e w15 ⟨rfl,hb⟩; have n0_:=Aside0.mk (Kd.R_below (by (with_reducible repeat (first|apply Kd.R_alloc|apply Kd.R_drewN|apply Kd.R_drew)); exact HO1442.out) hb); have n1_:=Aside0.mk (Kd.R_below (by (with_reducible repeat (first|apply Kd.R_alloc|apply Kd.R_drewN|apply Kd.R_drew)); exact HO1445.out) hb); have n2_:=Aside0.mk (Kd.R_below (by (with_reducible repeat (first|apply Kd.R_alloc|apply Kd.R_drewN|apply Kd.R_drew)); exact HO1448.out) hb); have n3_:=Aside0.mk (below_step (by repeat (first|(with_reducible first|exact HB.out|apply below_alloc|apply pw_below_drewN|apply below_drew1)|exact HB.out)) hb); clear HO1442; clear HO1445; clear HO1448; clear HB; have HO1442:=n0_; have HO1445:=n1_; have HO1448:=n2_; have HB:=n3_; clear n0_ n1_ n2_ n3_; (try clear hb); (try clear hb2); (try clear hk); (try clear hi)))); try go_wp2_with (((go_at_call 130; (with_reducible refine (spec_l2List.calls k _ _ l0 false _ ?side1 ?side2 A10.out).mono ?_); (case side1 => repeat (first|exact (Kd.C_below HR0.out HB.out)|(with_reducible refine Kd.C_alloc ?_ _)|(with_reducible refine Kd.C_drewN ?_ _)|(with_reducible refine Kd.C_drew ?_))); (case side2 => exact HC0.out); rintro e w15 ⟨rfl,hb⟩; have n0_:=Aside0.mk (Kd.R_below (by (with_reducible repeat (first|apply Kd.R_alloc|apply Kd.R_drewN|apply Kd.R_drew)); exact HO1442.out) hb); have n1_:=Aside0.mk (Kd.R_below (by (with_reducible repeat (first|apply Kd.R_alloc|apply Kd.R_drewN|apply Kd.R_drew)); exact HO1445.out) hb); have n2_:=Aside0.mk (Kd.R_below (by (with_reducible repeat (first|apply Kd.R_alloc|apply Kd.R_drewN|apply Kd.R_drew)); exact HO1448.out) hb); have n3_:=Aside0.mk (below_step (by repeat (first|(with_reducible first|exact HB.out|apply below_alloc|apply pw_below_drewN|apply below_drew1)|exact HB.out)) hb); clear HO1442; clear HO1445; clear HO1448; clear HB; have HO1442:=n0_; have HO1445:=n1_; have HO1448:=n2_; have HB:=n3_; clear n0_ n1_ n2_ n3_; (try clear hb); (try clear hb2); (try clear hk); (try clear hi)))))
   go_meet
   case rel => exact ⟨_,(true),(by (rfl)),H',⟨by (omega)⟩,⟨by exact Kd.R_mono HO1442.out (fun _ hk => ⟨hk.1.2,hk.2⟩)⟩,⟨by exact Kd.R_mono HO1445.out (fun _ hk => ⟨hk.1.2,hk.2⟩)⟩,⟨by exact Kd.R_mono HO1448.out (fun _ hk => ⟨hk.1.2,hk.2⟩)⟩,⟨by repeat (((with_reducible (exact HB.out))))⟩⟩
 case rest =>
  clear HC3
  try clear c1
  try clear p2
  try clear c8
  try clear c11
  obtain ⟨kq,x24_2,rfl,HA,HJ2,HO_8,HO_9,HO_10,HB⟩:=hcut
  cases kq with
  | zero => exact absurd HA.out (by simp [spec_ManifestChanges.j0])
  | succ kj2 =>
   have H:=HA.out
   clear HA
   simp only [spec_ManifestChanges.j0] at H
   by_cases c16 : x24_2 = true
   ·subst c16
    have H1 : (some (y1440,y1443,y1446,false)) = some (r1,r2,r3,r4):=by rw [if_pos rfl] at H; exact H
    clear H
    have H:=H1
    clear H1
    simp only [Option.some.injEq,Prod.mk.injEq] at H
    obtain ⟨rfl,rfl,rfl,rfl⟩:=H
    go_wp2
    repeat (go_quiet (fail); try go_wp2)
    refine bodyPost_ret (results_list (rs:=[.tmp 4,.tmp 5,.tmp 6,.tmp 7]) rfl (by simp) (.tmp (.tmp (.tmp (.tmp .nil))))) rfl ?_
    exact ⟨_,_,_,by (rfl),by exact HO_8.out,by exact HO_9.out,by exact HO_10.out,by repeat (((with_reducible (exact HB.out))))⟩
   ·replace c16:=Bool.eq_false_iff.mpr c16
    subst c16
    have H1 : (spec_ManifestChanges.l0 kj2 l0 l1 y1440 y1443 y1446 0) = some (r1,r2,r3,r4):=by rw [if_neg (show ¬ (false = true) by decide)] at H; exact H
    clear H
    have H:=H1
    clear H1
    have H':=Aside0.mk H
    clear H
    go_wp2
    repeat (go_quiet (fail); try go_wp2)
    go_loopg [8,10,11] kj2 (fun kq v8 v10 v11 w' => ∃ (x8_2 : List ByteArray) (x10_2 : List ByteArray) (x11_2 : Int),v11 = .int .i64 x11_2 ∧ Aside0 (spec_ManifestChanges.l0 kq l0 l1 x8_2 y1443 x10_2 x11_2 = some (r1,r2,r3,r4)) ∧ Aside0 (kq ≤ kj2) ∧ Aside0 (Kd.R Kd.string 9 w' w.heap.size (fun k_ => some k_ ≠ (v1444 : Value).ownBlock ∧ some k_ ≠ (v10 : Value).ownBlock) v8 x8_2) ∧ Aside0 (Kd.R Kd.string 9 w' w.heap.size (fun k_ => some k_ ≠ (v8 : Value).ownBlock ∧ some k_ ≠ (v10 : Value).ownBlock) v1444 y1443) ∧ Aside0 (Kd.R Kd.string 9 w' w.heap.size (fun k_ => some k_ ≠ (v8 : Value).ownBlock ∧ some k_ ≠ (v1444 : Value).ownBlock) v10 x10_2) ∧ Aside0 (Below w.heap.size w w'))
    case atStart => exact ⟨(y1440),(y1446),(0),(by (rfl)),H',⟨Nat.le_refl _⟩,⟨by exact HO_8.out⟩,⟨by exact HO_9.out⟩,⟨by exact HO_10.out⟩,⟨by repeat (((with_reducible (exact HB.out))))⟩⟩
    case round =>
     clear H'
     try clear c1
     try clear p2
     try clear c8
     try clear c11
     try clear c16
     try clear p2
     obtain ⟨x8_2,x10_2,x11_2,rfl,HA,HK2,HO_8,HO_9,HO_10,HB⟩:=hrel
     cases gk with
     | zero => exact absurd HA.out (by simp [spec_ManifestChanges.l0])
     | succ k2 =>
      have H:=HA.out
      clear HA
      simp only [spec_ManifestChanges.l0] at H
      by_cases c17 : x11_2 < (l1.length : Int)
      ·rw [if_pos c17] at H
       have c17b0 : decide (x11_2 < (l1.length : Int)) = true:=decide_eq_true c17
       clear c17
       by_cases c18 : 0 ≤ x11_2
       ·rw [if_pos c18] at H
        have c18b0 : decide (0 ≤ x11_2) = true:=decide_eq_true c18
        clear c18
        replace H:=Option.bind_eq_some_iff.mp H
        obtain ⟨t1452,A190,H⟩:=H
        replace H : (if t1452 < 0 then ((spec_l4Put.f k2 x8_2 ((rd_T89 l1 x11_2).f0)).bind fun t1454 => (spec_ManifestChanges.l0 k2 l0 l1 t1454 y1443 x10_2 (wrap64 (x11_2 + 1)))) else (if 0 ≤ t1452 then (if t1452 < (l0.length : Int) then (if (!((((rd_T89 l0 t1452).f0).toList) == (((rd_T89 l1 x11_2).f0).toList)) || (!(((rd_T89 l0 t1452).f1) == ((rd_T89 l1 x11_2).f1)) || (!(((rd_T89 l0 t1452).f2) == ((rd_T89 l1 x11_2).f2)) || (!(((rd_T89 l0 t1452).f3) == ((rd_T89 l1 x11_2).f3)) || (!(((rd_T89 l0 t1452).f4) == ((rd_T89 l1 x11_2).f4))))))) = true then ((spec_l4Put.f k2 x10_2 ((rd_T89 l1 x11_2).f0)).bind fun t1460 => (spec_ManifestChanges.l0 k2 l0 l1 x8_2 y1443 t1460 (wrap64 (x11_2 + 1)))) else (spec_ManifestChanges.l0 k2 l0 l1 x8_2 y1443 x10_2 (wrap64 (x11_2 + 1)))) else (none)) else (none))) = some (r1,r2,r3,r4):=H
        have A19:=Aside0.mk A190
        clear A190
        by_cases c20 : t1452 < 0
        ·rw [if_pos c20] at H
         have c20b0 : decide (t1452 < 0) = true:=decide_eq_true c20
         clear c20
         replace H:=Option.bind_eq_some_iff.mp H
         obtain ⟨t1454,A210,H⟩:=H
         replace H : (spec_ManifestChanges.l0 k2 l0 l1 t1454 y1443 x10_2 (wrap64 (x11_2 + 1))) = some (r1,r2,r3,r4):=H
         have A21:=Aside0.mk A210
         clear A210
         have H':=Aside0.mk H
         clear H
         have p1451 : 0 ≤ (x11_2 : Int):=of_decide_eq_true (by (with_reducible assumption))
         have q1451 : x11_2 < (l1.length : Int):=of_decide_eq_true (by (with_reducible assumption))
         obtain ⟨ad1451,e1451,hx1451_0,hx1451_1,hx1451_2,hx1451_3,hx1451_4⟩:=at_T89 HR1.out x11_2 p1451 q1451
         cases e1451
         replace hx1451_0:=(HB.out.cell (World.block_lt_of_cell? w _ hx1451_0)).trans hx1451_0
         replace hx1451_1:=(HB.out.cell (World.block_lt_of_cell? w _ hx1451_1)).trans hx1451_1
         replace hx1451_2:=(HB.out.cell (World.block_lt_of_cell? w _ hx1451_2)).trans hx1451_2
         replace hx1451_3:=(HB.out.cell (World.block_lt_of_cell? w _ hx1451_3)).trans hx1451_3
         replace hx1451_4:=(HB.out.cell (World.block_lt_of_cell? w _ hx1451_4)).trans hx1451_4
         replace p1451:=eq_true p1451
         replace q1451:=eq_true q1451
         go_wp2_with (first|(go_at_call 152; (with_reducible refine (spec_l2Find.calls k2 _ _ l0 ((rd_T89 l1 x11_2).f0) t1452 _ ?side1 ?side2 A19.out).mono ?_); (case side1 => repeat ((exact (Kd.C_below HR0.out HB.out)))); (case side2 => exact HC0.out); rintro e w' ⟨rfl,⟨nd,rfl⟩⟩; have p1453 : 0 ≤ (x11_2 : Int):=of_decide_eq_true (by (with_reducible assumption)); have q1453 : x11_2 < (l1.length : Int):=of_decide_eq_true (by (with_reducible assumption)); obtain ⟨ad1453,e1453,hx1453_0,hx1453_1,hx1453_2,hx1453_3,hx1453_4⟩:=at_T89 HR1.out x11_2 p1453 q1453; obtain rfl : ad1451 = ad1453:=(by injection e1453); replace hx1453_0:=(HB.out.cell (World.block_lt_of_cell? w _ hx1453_0)).trans hx1453_0; replace hx1453_1:=(HB.out.cell (World.block_lt_of_cell? w _ hx1453_1)).trans hx1453_1; replace hx1453_2:=(HB.out.cell (World.block_lt_of_cell? w _ hx1453_2)).trans hx1453_2; replace hx1453_3:=(HB.out.cell (World.block_lt_of_cell? w _ hx1453_3)).trans hx1453_3; replace hx1453_4:=(HB.out.cell (World.block_lt_of_cell? w _ hx1453_4)).trans hx1453_4; replace p1453:=eq_true p1453; replace q1453:=eq_true q1453; obtain ⟨Ao22,co22,eo22⟩:=Kd.R_slice HO_8.out; subst eo22)|(go_at_call 154; (with_reducible refine (spec_l4Put.calls k2 _ _ x8_2 ((rd_T89 l1 x11_2).f0) t1454 _ ?side1 ?side2 A21.out).mono ?_); (case side1 => repeat ((exact (Kd.R_reads' HO_8.out).2.2))); (case side2 => exact (Kd.R_reads' HO_8.out).2.1); rintro e w23 ⟨v1455,rfl,ho0,hb⟩; have n0_:=Aside0.mk (Kd.R_elder' (by (with_reducible repeat (apply Kd.R_drewN)); exact HO_8.out) (Kd.R_base ho0) hb); have n1_:=Aside0.mk (Kd.R_elder' (by (with_reducible repeat (apply Kd.R_drewN)); exact HO_9.out) (Kd.R_base ho0) hb); have n2_:=Aside0.mk (Kd.R_elder' (by (with_reducible repeat (apply Kd.R_drewN)); exact HO_10.out) (Kd.R_base ho0) hb); have n3_:=Aside0.mk (Kd.R_lower (Kd.R_new' (Kd.R_new' (Kd.R_new' ho0 (Kd.R_lt (by (with_reducible repeat (apply Kd.R_drewN)); exact HO_8.out))) (Kd.R_lt (by (with_reducible repeat (apply Kd.R_drewN)); exact HO_9.out))) (Kd.R_lt (by (with_reducible repeat (apply Kd.R_drewN)); exact HO_10.out))) (below_size (by repeat (with_reducible first|exact HB.out|apply pw_below_drewN)))); have n4_:=Aside0.mk (below_step (by repeat (with_reducible first|exact HB.out|apply pw_below_drewN)) hb); clear HO_8; clear HO_9; clear HO_10; clear HB; have HO_8:=n0_; have HO_9:=n1_; have HO_10:=n2_; have HO1456:=n3_; have HB:=n4_; clear n0_ n1_ n2_ n3_ n4_; (try clear hb); (try clear hb2); (try clear hk); (try clear hi); (try clear ho0)))
         repeat (go_quiet (((go_at_call 152; (with_reducible refine (spec_l2Find.calls k2 _ _ l0 ((rd_T89 l1 x11_2).f0) t1452 _ ?side1 ?side2 A19.out).mono ?_); (case side1 => repeat (first|exact (Kd.C_below HR0.out HB.out)|(with_reducible refine Kd.C_alloc ?_ _)|(with_reducible refine Kd.C_drewN ?_ _)|(with_reducible refine Kd.C_drew ?_))); (case side2 => exact HC0.out); rintro e w' ⟨rfl,⟨nd,rfl⟩⟩; (try first|exact ⟨rfl,_,World.drewN_drewN _ _ _⟩|exact ⟨rfl,_,Eq.trans (World.drewN_drewN _ _ _) (congrArg (World.drewN _) (Nat.add_assoc _ _ _))⟩); have p1453 : 0 ≤ (x11_2 : Int):=of_decide_eq_true (by first|(with_reducible assumption)|assumption); have q1453 : x11_2 < (l1.length : Int):=of_decide_eq_true (by first|(with_reducible assumption)|assumption); obtain ⟨ad1453,e1453,hx1453_0,hx1453_1,hx1453_2,hx1453_3,hx1453_4⟩:=at_T89 HR1.out x11_2 p1453 q1453; obtain rfl : ad1451 = ad1453:=(by injection e1453); replace hx1453_0:=(HB.out.cell (World.block_lt_of_cell? w _ hx1453_0)).trans hx1453_0; replace hx1453_1:=(HB.out.cell (World.block_lt_of_cell? w _ hx1453_1)).trans hx1453_1; replace hx1453_2:=(HB.out.cell (World.block_lt_of_cell? w _ hx1453_2)).trans hx1453_2; replace hx1453_3:=(HB.out.cell (World.block_lt_of_cell? w _ hx1453_3)).trans hx1453_3; replace hx1453_4:=(HB.out.cell (World.block_lt_of_cell? w _ hx1453_4)).trans hx1453_4; replace p1453:=eq_true p1453; replace q1453:=eq_true q1453; obtain ⟨Ao22,co22,eo22⟩:=Kd.R_slice HO_8.out; subst eo22))); try go_wp2_with (((go_at_call 152; (with_reducible refine (spec_l2Find.calls k2 _ _ l0 ((rd_T89 l1 x11_2).f0) t1452 _ ?side1 ?side2 A19.out).mono ?_); (case side1 => repeat (first|exact (Kd.C_below HR0.out HB.out)|(with_reducible refine Kd.C_alloc ?_ _)|(with_reducible refine Kd.C_drewN ?_ _)|(with_reducible refine Kd.C_drew ?_))); (case side2 => exact HC0.out); rintro e w' ⟨rfl,⟨nd,rfl⟩⟩; (try first|exact ⟨rfl,_,World.drewN_drewN _ _ _⟩|exact ⟨rfl,_,Eq.trans (World.drewN_drewN _ _ _) (congrArg (World.drewN _) (Nat.add_assoc _ _ _))⟩); have p1453 : 0 ≤ (x11_2 : Int):=of_decide_eq_true (by first|(with_reducible assumption)|assumption); have q1453 : x11_2 < (l1.length : Int):=of_decide_eq_true (by first|(with_reducible assumption)|assumption); obtain ⟨ad1453,e1453,hx1453_0,hx1453_1,hx1453_2,hx1453_3,hx1453_4⟩:=at_T89 HR1.out x11_2 p1453 q1453; obtain rfl : ad1451 = ad1453:=(by injection e1453); replace hx1453_0:=(HB.out.cell (World.block_lt_of_cell? w _ hx1453_0)).trans hx1453_0; replace hx1453_1:=(HB.out.cell (World.block_lt_of_cell? w _ hx1453_1)).trans hx1453_1; replace hx1453_2:=(HB.out.cell (World.block_lt_of_cell? w _ hx1453_2)).trans hx1453_2; replace hx1453_3:=(HB.out.cell (World.block_lt_of_cell? w _ hx1453_3)).trans hx1453_3; replace hx1453_4:=(HB.out.cell (World.block_lt_of_cell? w _ hx1453_4)).trans hx1453_4; replace p1453:=eq_true p1453; replace q1453:=eq_true q1453; obtain ⟨Ao22,co22,eo22⟩:=Kd.R_slice HO_8.out; subst eo22))))
         go_roundg k2
         case measure => have:=HJ2.out; have:=HK2.out; omega
         case rel => exact ⟨(t1454),(x10_2),(wrap64 (x11_2 + 1)),(by (rfl)),H',⟨by have:=HJ2.out; have:=HK2.out; omega⟩,⟨by exact Kd.R_mono HO1456.out (fun _ hk => ⟨hk.1.2,hk.2⟩)⟩,⟨by exact Kd.R_mono HO_9.out (fun _ hk => ⟨hk.2,hk.1.2⟩)⟩,⟨by exact Kd.R_mono HO_10.out (fun _ hk => ⟨hk.2,hk.1.2⟩)⟩,⟨by repeat (((with_reducible (exact HB.out))))⟩⟩
        ·rw [if_neg c20] at H
         have c20b0 : decide (t1452 < 0) = false:=decide_eq_false c20
         clear c20
         by_cases c24 : 0 ≤ t1452
         ·rw [if_pos c24] at H
          have c24b0 : decide (0 ≤ t1452) = true:=decide_eq_true c24
          clear c24
          by_cases c25 : t1452 < (l0.length : Int)
          ·rw [if_pos c25] at H
           have c25b0 : decide (t1452 < (l0.length : Int)) = true:=decide_eq_true c25
           clear c25
           by_cases c26 : (!((((rd_T89 l0 t1452).f0).toList) == (((rd_T89 l1 x11_2).f0).toList)) || (!(((rd_T89 l0 t1452).f1) == ((rd_T89 l1 x11_2).f1)) || (!(((rd_T89 l0 t1452).f2) == ((rd_T89 l1 x11_2).f2)) || (!(((rd_T89 l0 t1452).f3) == ((rd_T89 l1 x11_2).f3)) || (!(((rd_T89 l0 t1452).f4) == ((rd_T89 l1 x11_2).f4))))))) = true
           ·rw [if_pos c26] at H
            have c26b0 : (!((((rd_T89 l0 t1452).f0).toList) == (((rd_T89 l1 x11_2).f0).toList)) || (!(((rd_T89 l0 t1452).f1) == ((rd_T89 l1 x11_2).f1)) || (!(((rd_T89 l0 t1452).f2) == ((rd_T89 l1 x11_2).f2)) || (!(((rd_T89 l0 t1452).f3) == ((rd_T89 l1 x11_2).f3)) || (!(((rd_T89 l0 t1452).f4) == ((rd_T89 l1 x11_2).f4))))))) = true:=c26
            clear c26
            replace H:=Option.bind_eq_some_iff.mp H
            obtain ⟨t1460,A270,H⟩:=H
            replace H : (spec_ManifestChanges.l0 k2 l0 l1 x8_2 y1443 t1460 (wrap64 (x11_2 + 1))) = some (r1,r2,r3,r4):=H
            have A27:=Aside0.mk A270
            clear A270
            have H':=Aside0.mk H
            clear H
            have p1451 : 0 ≤ (x11_2 : Int):=of_decide_eq_true (by (with_reducible assumption))
            have q1451 : x11_2 < (l1.length : Int):=of_decide_eq_true (by (with_reducible assumption))
            obtain ⟨ad1451,e1451,hx1451_0,hx1451_1,hx1451_2,hx1451_3,hx1451_4⟩:=at_T89 HR1.out x11_2 p1451 q1451
            cases e1451
            replace hx1451_0:=(HB.out.cell (World.block_lt_of_cell? w _ hx1451_0)).trans hx1451_0
            replace hx1451_1:=(HB.out.cell (World.block_lt_of_cell? w _ hx1451_1)).trans hx1451_1
            replace hx1451_2:=(HB.out.cell (World.block_lt_of_cell? w _ hx1451_2)).trans hx1451_2
            replace hx1451_3:=(HB.out.cell (World.block_lt_of_cell? w _ hx1451_3)).trans hx1451_3
            replace hx1451_4:=(HB.out.cell (World.block_lt_of_cell? w _ hx1451_4)).trans hx1451_4
            replace p1451:=eq_true p1451
            replace q1451:=eq_true q1451
            go_wp2_with (((go_at_call 152; (with_reducible refine (spec_l2Find.calls k2 _ _ l0 ((rd_T89 l1 x11_2).f0) t1452 _ ?side1 ?side2 A19.out).mono ?_); (case side1 => repeat ((exact (Kd.C_below HR0.out HB.out)))); (case side2 => exact HC0.out); rintro e w' ⟨rfl,⟨nd,rfl⟩⟩; have p1457 : 0 ≤ (t1452 : Int):=of_decide_eq_true (by (with_reducible assumption)); have q1457 : t1452 < (l0.length : Int):=of_decide_eq_true (by (with_reducible assumption)); obtain ⟨ad1457,e1457,hx1457_0,hx1457_1,hx1457_2,hx1457_3,hx1457_4⟩:=at_T89 HR0.out t1452 p1457 q1457; cases e1457; replace hx1457_0:=(HB.out.cell (World.block_lt_of_cell? w _ hx1457_0)).trans hx1457_0; replace hx1457_1:=(HB.out.cell (World.block_lt_of_cell? w _ hx1457_1)).trans hx1457_1; replace hx1457_2:=(HB.out.cell (World.block_lt_of_cell? w _ hx1457_2)).trans hx1457_2; replace hx1457_3:=(HB.out.cell (World.block_lt_of_cell? w _ hx1457_3)).trans hx1457_3; replace hx1457_4:=(HB.out.cell (World.block_lt_of_cell? w _ hx1457_4)).trans hx1457_4; replace p1457:=eq_true p1457; replace q1457:=eq_true q1457; have p1458 : 0 ≤ (x11_2 : Int):=of_decide_eq_true (by (with_reducible assumption)); have q1458 : x11_2 < (l1.length : Int):=of_decide_eq_true (by (with_reducible assumption)); obtain ⟨ad1458,e1458,hx1458_0,hx1458_1,hx1458_2,hx1458_3,hx1458_4⟩:=at_T89 HR1.out x11_2 p1458 q1458; obtain rfl : ad1451 = ad1458:=(by injection e1458); replace hx1458_0:=(HB.out.cell (World.block_lt_of_cell? w _ hx1458_0)).trans hx1458_0; replace hx1458_1:=(HB.out.cell (World.block_lt_of_cell? w _ hx1458_1)).trans hx1458_1; replace hx1458_2:=(HB.out.cell (World.block_lt_of_cell? w _ hx1458_2)).trans hx1458_2; replace hx1458_3:=(HB.out.cell (World.block_lt_of_cell? w _ hx1458_3)).trans hx1458_3; replace hx1458_4:=(HB.out.cell (World.block_lt_of_cell? w _ hx1458_4)).trans hx1458_4; replace p1458:=eq_true p1458; replace q1458:=eq_true q1458; have p1459 : 0 ≤ (x11_2 : Int):=of_decide_eq_true (by (with_reducible assumption)); have q1459 : x11_2 < (l1.length : Int):=of_decide_eq_true (by (with_reducible assumption)); obtain ⟨ad1459,e1459,hx1459_0,hx1459_1,hx1459_2,hx1459_3,hx1459_4⟩:=at_T89 HR1.out x11_2 p1459 q1459; obtain rfl : ad1451 = ad1459:=(by injection e1459); replace hx1459_0:=(HB.out.cell (World.block_lt_of_cell? w _ hx1459_0)).trans hx1459_0; replace hx1459_1:=(HB.out.cell (World.block_lt_of_cell? w _ hx1459_1)).trans hx1459_1; replace hx1459_2:=(HB.out.cell (World.block_lt_of_cell? w _ hx1459_2)).trans hx1459_2; replace hx1459_3:=(HB.out.cell (World.block_lt_of_cell? w _ hx1459_3)).trans hx1459_3; replace hx1459_4:=(HB.out.cell (World.block_lt_of_cell? w _ hx1459_4)).trans hx1459_4; replace p1459:=eq_true p1459; replace q1459:=eq_true q1459; obtain ⟨Ao28,co28,eo28⟩:=Kd.R_slice HO_10.out; subst eo28)))
            repeat (go_quiet (((go_at_call 154; (with_reducible refine (spec_l4Put.calls k2 _ _ x10_2 ((rd_T89 l1 x11_2).f0) t1460 _ ?side1 ?side2 A27.out).mono ?_); (case side1 => repeat (first|exact (Kd.R_reads' HO_10.out).2.2|(with_reducible refine Kd.C_alloc ?_ _)|(with_reducible refine Kd.C_drewN ?_ _)|(with_reducible refine Kd.C_drew ?_))); (case side2 => exact (Kd.R_reads' HO_10.out).2.1); rintro e w29 ⟨v1461,rfl,ho0,hb⟩; have n0_:=Aside0.mk (Kd.R_elder' (by (with_reducible repeat (first|apply Kd.R_alloc|apply Kd.R_drewN|apply Kd.R_drew)); exact HO_8.out) (Kd.R_base ho0) hb); have n1_:=Aside0.mk (Kd.R_elder' (by (with_reducible repeat (first|apply Kd.R_alloc|apply Kd.R_drewN|apply Kd.R_drew)); exact HO_9.out) (Kd.R_base ho0) hb); have n2_:=Aside0.mk (Kd.R_elder' (by (with_reducible repeat (first|apply Kd.R_alloc|apply Kd.R_drewN|apply Kd.R_drew)); exact HO_10.out) (Kd.R_base ho0) hb); have n3_:=Aside0.mk (Kd.R_lower (Kd.R_new' (Kd.R_new' (Kd.R_new' ho0 (Kd.R_lt (by (with_reducible repeat (first|apply Kd.R_alloc|apply Kd.R_drewN|apply Kd.R_drew)); exact HO_8.out))) (Kd.R_lt (by (with_reducible repeat (first|apply Kd.R_alloc|apply Kd.R_drewN|apply Kd.R_drew)); exact HO_9.out))) (Kd.R_lt (by (with_reducible repeat (first|apply Kd.R_alloc|apply Kd.R_drewN|apply Kd.R_drew)); exact HO_10.out))) (below_size (by repeat (first|(with_reducible first|exact HB.out|apply below_alloc|apply pw_below_drewN|apply below_drew1)|exact HB.out)))); have n4_:=Aside0.mk (below_step (by repeat (first|(with_reducible first|exact HB.out|apply below_alloc|apply pw_below_drewN|apply below_drew1)|exact HB.out)) hb); clear HO_8; clear HO_9; clear HO_10; clear HB; have HO_8:=n0_; have HO_9:=n1_; have HO_10:=n2_; have HO1462:=n3_; have HB:=n4_; clear n0_ n1_ n2_ n3_ n4_; (try clear hb); (try clear hb2); (try clear hk); (try clear hi); (try clear ho0)))); try go_wp2_with (((go_at_call 154; (with_reducible refine (spec_l4Put.calls k2 _ _ x10_2 ((rd_T89 l1 x11_2).f0) t1460 _ ?side1 ?side2 A27.out).mono ?_); (case side1 => repeat ((exact (Kd.R_reads' HO_10.out).2.2))); (case side2 => exact (Kd.R_reads' HO_10.out).2.1); rintro e w29 ⟨v1461,rfl,ho0,hb⟩; have n0_:=Aside0.mk (Kd.R_elder' (by (with_reducible repeat (apply Kd.R_drewN)); exact HO_8.out) (Kd.R_base ho0) hb); have n1_:=Aside0.mk (Kd.R_elder' (by (with_reducible repeat (apply Kd.R_drewN)); exact HO_9.out) (Kd.R_base ho0) hb); have n2_:=Aside0.mk (Kd.R_elder' (by (with_reducible repeat (apply Kd.R_drewN)); exact HO_10.out) (Kd.R_base ho0) hb); have n3_:=Aside0.mk (Kd.R_lower (Kd.R_new' (Kd.R_new' (Kd.R_new' ho0 (Kd.R_lt (by (with_reducible repeat (apply Kd.R_drewN)); exact HO_8.out))) (Kd.R_lt (by (with_reducible repeat (apply Kd.R_drewN)); exact HO_9.out))) (Kd.R_lt (by (with_reducible repeat (apply Kd.R_drewN)); exact HO_10.out))) (below_size (by repeat (with_reducible first|exact HB.out|apply pw_below_drewN)))); have n4_:=Aside0.mk (below_step (by repeat (with_reducible first|exact HB.out|apply pw_below_drewN)) hb); clear HO_8; clear HO_9; clear HO_10; clear HB; have HO_8:=n0_; have HO_9:=n1_; have HO_10:=n2_; have HO1462:=n3_; have HB:=n4_; clear n0_ n1_ n2_ n3_ n4_; (try clear hb); (try clear hb2); (try clear hk); (try clear hi); (try clear ho0)))))
            go_roundg k2
            case measure => have:=HJ2.out; have:=HK2.out; omega
            case rel => exact ⟨(x8_2),(t1460),(wrap64 (x11_2 + 1)),(by (rfl)),H',⟨by have:=HJ2.out; have:=HK2.out; omega⟩,⟨by exact Kd.R_mono HO_8.out (fun _ hk => ⟨hk.1.1,hk.2⟩)⟩,⟨by exact Kd.R_mono HO_9.out (fun _ hk => ⟨hk.1.1,hk.2⟩)⟩,⟨by exact Kd.R_mono HO1462.out (fun _ hk => ⟨hk.1.1.2,hk.1.2⟩)⟩,⟨by repeat (((with_reducible (exact HB.out))))⟩⟩
           ·rw [if_neg c26] at H
            have c26b0 : (!((((rd_T89 l0 t1452).f0).toList) == (((rd_T89 l1 x11_2).f0).toList)) || (!(((rd_T89 l0 t1452).f1) == ((rd_T89 l1 x11_2).f1)) || (!(((rd_T89 l0 t1452).f2) == ((rd_T89 l1 x11_2).f2)) || (!(((rd_T89 l0 t1452).f3) == ((rd_T89 l1 x11_2).f3)) || (!(((rd_T89 l0 t1452).f4) == ((rd_T89 l1 x11_2).f4))))))) = false:=by simpa using c26
            clear c26
            have H':=Aside0.mk H
            clear H
            have p1451 : 0 ≤ (x11_2 : Int):=of_decide_eq_true (by (with_reducible assumption))
            have q1451 : x11_2 < (l1.length : Int):=of_decide_eq_true (by (with_reducible assumption))
            obtain ⟨ad1451,e1451,hx1451_0,hx1451_1,hx1451_2,hx1451_3,hx1451_4⟩:=at_T89 HR1.out x11_2 p1451 q1451
            cases e1451
            replace hx1451_0:=(HB.out.cell (World.block_lt_of_cell? w _ hx1451_0)).trans hx1451_0
            replace hx1451_1:=(HB.out.cell (World.block_lt_of_cell? w _ hx1451_1)).trans hx1451_1
            replace hx1451_2:=(HB.out.cell (World.block_lt_of_cell? w _ hx1451_2)).trans hx1451_2
            replace hx1451_3:=(HB.out.cell (World.block_lt_of_cell? w _ hx1451_3)).trans hx1451_3
            replace hx1451_4:=(HB.out.cell (World.block_lt_of_cell? w _ hx1451_4)).trans hx1451_4
            replace p1451:=eq_true p1451
            replace q1451:=eq_true q1451
            go_wp2_with (((go_at_call 152; (with_reducible refine (spec_l2Find.calls k2 _ _ l0 ((rd_T89 l1 x11_2).f0) t1452 _ ?side1 ?side2 A19.out).mono ?_); (case side1 => repeat ((exact (Kd.C_below HR0.out HB.out)))); (case side2 => exact HC0.out); rintro e w' ⟨rfl,⟨nd,rfl⟩⟩; have p1457 : 0 ≤ (t1452 : Int):=of_decide_eq_true (by (with_reducible assumption)); have q1457 : t1452 < (l0.length : Int):=of_decide_eq_true (by (with_reducible assumption)); obtain ⟨ad1457,e1457,hx1457_0,hx1457_1,hx1457_2,hx1457_3,hx1457_4⟩:=at_T89 HR0.out t1452 p1457 q1457; cases e1457; replace hx1457_0:=(HB.out.cell (World.block_lt_of_cell? w _ hx1457_0)).trans hx1457_0; replace hx1457_1:=(HB.out.cell (World.block_lt_of_cell? w _ hx1457_1)).trans hx1457_1; replace hx1457_2:=(HB.out.cell (World.block_lt_of_cell? w _ hx1457_2)).trans hx1457_2; replace hx1457_3:=(HB.out.cell (World.block_lt_of_cell? w _ hx1457_3)).trans hx1457_3; replace hx1457_4:=(HB.out.cell (World.block_lt_of_cell? w _ hx1457_4)).trans hx1457_4; replace p1457:=eq_true p1457; replace q1457:=eq_true q1457; have p1458 : 0 ≤ (x11_2 : Int):=of_decide_eq_true (by (with_reducible assumption)); have q1458 : x11_2 < (l1.length : Int):=of_decide_eq_true (by (with_reducible assumption)); obtain ⟨ad1458,e1458,hx1458_0,hx1458_1,hx1458_2,hx1458_3,hx1458_4⟩:=at_T89 HR1.out x11_2 p1458 q1458; obtain rfl : ad1451 = ad1458:=(by injection e1458); replace hx1458_0:=(HB.out.cell (World.block_lt_of_cell? w _ hx1458_0)).trans hx1458_0; replace hx1458_1:=(HB.out.cell (World.block_lt_of_cell? w _ hx1458_1)).trans hx1458_1; replace hx1458_2:=(HB.out.cell (World.block_lt_of_cell? w _ hx1458_2)).trans hx1458_2; replace hx1458_3:=(HB.out.cell (World.block_lt_of_cell? w _ hx1458_3)).trans hx1458_3; replace hx1458_4:=(HB.out.cell (World.block_lt_of_cell? w _ hx1458_4)).trans hx1458_4; replace p1458:=eq_true p1458; replace q1458:=eq_true q1458)))
            repeat (go_quiet (((go_at_call 152; (with_reducible refine (spec_l2Find.calls k2 _ _ l0 ((rd_T89 l1 x11_2).f0) t1452 _ ?side1 ?side2 A19.out).mono ?_); (case side1 => repeat (first|exact (Kd.C_below HR0.out HB.out)|(with_reducible refine Kd.C_alloc ?_ _)|(with_reducible refine Kd.C_drewN ?_ _)|(with_reducible refine Kd.C_drew ?_))); (case side2 => exact HC0.out); rintro e w' ⟨rfl,⟨nd,rfl⟩⟩; (try first|exact ⟨rfl,_,World.drewN_drewN _ _ _⟩|exact ⟨rfl,_,Eq.trans (World.drewN_drewN _ _ _) (congrArg (World.drewN _) (Nat.add_assoc _ _ _))⟩); have p1457 : 0 ≤ (t1452 : Int):=of_decide_eq_true (by first|(with_reducible assumption)|assumption); have q1457 : t1452 < (l0.length : Int):=of_decide_eq_true (by first|(with_reducible assumption)|assumption); obtain ⟨ad1457,e1457,hx1457_0,hx1457_1,hx1457_2,hx1457_3,hx1457_4⟩:=at_T89 HR0.out t1452 p1457 q1457; cases e1457; replace hx1457_0:=(HB.out.cell (World.block_lt_of_cell? w _ hx1457_0)).trans hx1457_0; replace hx1457_1:=(HB.out.cell (World.block_lt_of_cell? w _ hx1457_1)).trans hx1457_1; replace hx1457_2:=(HB.out.cell (World.block_lt_of_cell? w _ hx1457_2)).trans hx1457_2; replace hx1457_3:=(HB.out.cell (World.block_lt_of_cell? w _ hx1457_3)).trans hx1457_3; replace hx1457_4:=(HB.out.cell (World.block_lt_of_cell? w _ hx1457_4)).trans hx1457_4; replace p1457:=eq_true p1457; replace q1457:=eq_true q1457; have p1458 : 0 ≤ (x11_2 : Int):=of_decide_eq_true (by first|(with_reducible assumption)|assumption); have q1458 : x11_2 < (l1.length : Int):=of_decide_eq_true (by first|(with_reducible assumption)|assumption); obtain ⟨ad1458,e1458,hx1458_0,hx1458_1,hx1458_2,hx1458_3,hx1458_4⟩:=at_T89 HR1.out x11_2 p1458 q1458; obtain rfl : ad1451 = ad1458:=(by injection e1458); replace hx1458_0:=(HB.out.cell (World.block_lt_of_cell? w _ hx1458_0)).trans hx1458_0; replace hx1458_1:=(HB.out.cell (World.block_lt_of_cell? w _ hx1458_1)).trans hx1458_1; replace hx1458_2:=(HB.out.cell (World.block_lt_of_cell? w _ hx1458_2)).trans hx1458_2; replace hx1458_3:=(HB.out.cell (World.block_lt_of_cell? w _ hx1458_3)).trans hx1458_3; replace hx1458_4:=(HB.out.cell (World.block_lt_of_cell? w _ hx1458_4)).trans hx1458_4; replace p1458:=eq_true p1458; replace q1458:=eq_true q1458))); try go_wp2_with (((go_at_call 152; (with_reducible refine (spec_l2Find.calls k2 _ _ l0 ((rd_T89 l1 x11_2).f0) t1452 _ ?side1 ?side2 A19.out).mono ?_); (case side1 => repeat (first|exact (Kd.C_below HR0.out HB.out)|(with_reducible refine Kd.C_alloc ?_ _)|(with_reducible refine Kd.C_drewN ?_ _)|(with_reducible refine Kd.C_drew ?_))); (case side2 => exact HC0.out); rintro e w' ⟨rfl,⟨nd,rfl⟩⟩; (try first|exact ⟨rfl,_,World.drewN_drewN _ _ _⟩|exact ⟨rfl,_,Eq.trans (World.drewN_drewN _ _ _) (congrArg (World.drewN _) (Nat.add_assoc _ _ _))⟩); have p1457 : 0 ≤ (t1452 : Int):=of_decide_eq_true (by first|(with_reducible assumption)|assumption); have q1457 : t1452 < (l0.length : Int):=of_decide_eq_true (by first|(with_reducible assumption)|assumption); obtain ⟨ad1457,e1457,hx1457_0,hx1457_1,hx1457_2,hx1457_3,hx1457_4⟩:=at_T89 HR0.out t1452 p1457 q1457; cases e1457; replace hx1457_0:=(HB.out.cell (World.block_lt_of_cell? w _ hx1457_0)).trans hx1457_0; replace hx1457_1:=(HB.out.cell (World.block_lt_of_cell? w _ hx1457_1)).trans hx1457_1; replace hx1457_2:=(HB.out.cell (World.block_lt_of_cell? w _ hx1457_2)).trans hx1457_2; replace hx1457_3:=(HB.out.cell (World.block_lt_of_cell? w _ hx1457_3)).trans hx1457_3; replace hx1457_4:=(HB.out.cell (World.block_lt_of_cell? w _ hx1457_4)).trans hx1457_4; replace p1457:=eq_true p1457; replace q1457:=eq_true q1457; have p1458 : 0 ≤ (x11_2 : Int):=of_decide_eq_true (by first|(with_reducible assumption)|assumption); have q1458 : x11_2 < (l1.length : Int):=of_decide_eq_true (by first|(with_reducible assumption)|assumption); obtain ⟨ad1458,e1458,hx1458_0,hx1458_1,hx1458_2,hx1458_3,hx1458_4⟩:=at_T89 HR1.out x11_2 p1458 q1458; obtain rfl : ad1451 = ad1458:=(by injection e1458); replace hx1458_0:=(HB.out.cell (World.block_lt_of_cell? w _ hx1458_0)).trans hx1458_0; replace hx1458_1:=(HB.out.cell (World.block_lt_of_cell? w _ hx1458_1)).trans hx1458_1; replace hx1458_2:=(HB.out.cell (World.block_lt_of_cell? w _ hx1458_2)).trans hx1458_2; replace hx1458_3:=(HB.out.cell (World.block_lt_of_cell? w _ hx1458_3)).trans hx1458_3; replace hx1458_4:=(HB.out.cell (World.block_lt_of_cell? w _ hx1458_4)).trans hx1458_4; replace p1458:=eq_true p1458; replace q1458:=eq_true q1458))))
            go_roundg k2
            case measure => have:=HJ2.out; have:=HK2.out; omega
            case rel => exact ⟨(x8_2),(x10_2),(wrap64 (x11_2 + 1)),(by (rfl)),H',⟨by have:=HJ2.out; have:=HK2.out; omega⟩,⟨by (with_reducible repeat (apply Kd.R_drewN)); exact HO_8.out⟩,⟨by (with_reducible repeat (apply Kd.R_drewN)); exact HO_9.out⟩,⟨by (with_reducible repeat (apply Kd.R_drewN)); exact HO_10.out⟩,⟨by repeat (with_reducible first|exact HB.out|apply pw_below_drewN)⟩⟩
          ·rw [if_neg c25] at H
           exact absurd H (by simp)
         ·rw [if_neg c24] at H
          exact absurd H (by simp)
       ·rw [if_neg c18] at H
        exact absurd H (by simp)
      ·rw [if_neg c17] at H
       have c17b0 : decide (x11_2 < (l1.length : Int)) = false:=decide_eq_false c17
       clear c17
       have H':=Aside0.mk H
       clear H
       go_wp2
       repeat (go_quiet (fail); try go_wp2)
       go_loopg [9,13] k2 (fun kq v9 v13 w' => ∃ (x9_3 : List ByteArray) (x13_3 : Int),v13 = .int .i64 x13_3 ∧ Aside0 (spec_ManifestChanges.l1 kq l0 l1 x8_2 x9_3 x10_2 x13_3 = some (r1,r2,r3,r4)) ∧ Aside0 (kq ≤ k2) ∧ Aside0 (Kd.R Kd.string 9 w' w.heap.size (fun k_ => some k_ ≠ (v9 : Value).ownBlock ∧ some k_ ≠ (u10 : Value).ownBlock) u8 x8_2) ∧ Aside0 (Kd.R Kd.string 9 w' w.heap.size (fun k_ => some k_ ≠ (u8 : Value).ownBlock ∧ some k_ ≠ (u10 : Value).ownBlock) v9 x9_3) ∧ Aside0 (Kd.R Kd.string 9 w' w.heap.size (fun k_ => some k_ ≠ (u8 : Value).ownBlock ∧ some k_ ≠ (v9 : Value).ownBlock) u10 x10_2) ∧ Aside0 (Below w.heap.size w w'))
       case atStart => exact ⟨(y1443),(0),(by (rfl)),H',⟨Nat.le_refl _⟩,⟨by exact HO_8.out⟩,⟨by exact HO_9.out⟩,⟨by exact HO_10.out⟩,⟨by repeat (((with_reducible (exact HB.out))))⟩⟩
       case round =>
        clear H'
        try clear c1
        try clear p1
        try clear q1
        try clear hx1
        try clear c2
        try clear p2
        try clear p6
        try clear c8
        try clear c11
        try clear p14
        try clear q14
        try clear hx14
        try clear c16
        try clear c17
        try clear c17b0
        try clear c18
        try clear c18b0
        try clear c20
        try clear c20b0
        try clear c24
        try clear c24b0
        try clear c25
        try clear c25b0
        try clear c26
        try clear c26b0
        try clear hx1451_0
        try clear hx1451_1
        try clear hx1451_2
        try clear hx1451_3
        try clear hx1451_4
        try clear hx1453_0
        try clear hx1453_1
        try clear hx1453_2
        try clear hx1453_3
        try clear hx1453_4
        try clear hx1457_0
        try clear hx1457_1
        try clear hx1457_2
        try clear hx1457_3
        try clear hx1457_4
        try clear hx1458_0
        try clear hx1458_1
        try clear hx1458_2
        try clear hx1458_3
        try clear hx1458_4
        try clear hx1459_0
        try clear hx1459_1
        try clear hx1459_2
        try clear hx1459_3
        try clear hx1459_4
        try clear p1451
        try clear p1453
        try clear p1457
        try clear p1458
        try clear p1459
        try clear p2
        try clear q1451
        try clear q1453
        try clear q1457
        try clear q1458
        try clear q1459
        obtain ⟨x9_3,x13_3,rfl,HA,HK3,HO_8,HO_9,HO_10,HB⟩:=hrel
        cases gk with
        | zero => exact absurd HA.out (by simp [spec_ManifestChanges.l1])
        | succ k3 =>
         have H:=HA.out
         clear HA
         simp only [spec_ManifestChanges.l1] at H
         by_cases c30 : x13_3 < (l0.length : Int)
         ·rw [if_pos c30] at H
          have c30b0 : decide (x13_3 < (l0.length : Int)) = true:=decide_eq_true c30
          clear c30
          by_cases c31 : 0 ≤ x13_3
          ·rw [if_pos c31] at H
           have c31b0 : decide (0 ≤ x13_3) = true:=decide_eq_true c31
           clear c31
           replace H:=Option.bind_eq_some_iff.mp H
           obtain ⟨t1464,A320,H⟩:=H
           replace H : (if t1464 < 0 then ((spec_l4Put.f k3 x9_3 ((rd_T89 l0 x13_3).f0)).bind fun t1466 => (spec_ManifestChanges.l1 k3 l0 l1 x8_2 t1466 x10_2 (wrap64 (x13_3 + 1)))) else (spec_ManifestChanges.l1 k3 l0 l1 x8_2 x9_3 x10_2 (wrap64 (x13_3 + 1)))) = some (r1,r2,r3,r4):=H
           have A32:=Aside0.mk A320
           clear A320
           by_cases c33 : t1464 < 0
           ·rw [if_pos c33] at H
            have c33b0 : decide (t1464 < 0) = true:=decide_eq_true c33
            clear c33
            replace H:=Option.bind_eq_some_iff.mp H
            obtain ⟨t1466,A340,H⟩:=H
            replace H : (spec_ManifestChanges.l1 k3 l0 l1 x8_2 t1466 x10_2 (wrap64 (x13_3 + 1))) = some (r1,r2,r3,r4):=H
            have A34:=Aside0.mk A340
            clear A340
            have H':=Aside0.mk H
            clear H
            have p1463 : 0 ≤ (x13_3 : Int):=of_decide_eq_true (by (with_reducible assumption))
            have q1463 : x13_3 < (l0.length : Int):=of_decide_eq_true (by (with_reducible assumption))
            obtain ⟨ad1463,e1463,hx1463_0,hx1463_1,hx1463_2,hx1463_3,hx1463_4⟩:=at_T89 HR0.out x13_3 p1463 q1463
            cases e1463
            replace hx1463_0:=(HB.out.cell (World.block_lt_of_cell? w _ hx1463_0)).trans hx1463_0
            replace hx1463_1:=(HB.out.cell (World.block_lt_of_cell? w _ hx1463_1)).trans hx1463_1
            replace hx1463_2:=(HB.out.cell (World.block_lt_of_cell? w _ hx1463_2)).trans hx1463_2
            replace hx1463_3:=(HB.out.cell (World.block_lt_of_cell? w _ hx1463_3)).trans hx1463_3
            replace hx1463_4:=(HB.out.cell (World.block_lt_of_cell? w _ hx1463_4)).trans hx1463_4
            replace p1463:=eq_true p1463
            replace q1463:=eq_true q1463
            go_wp2_with (first|(go_at_call 152; (with_reducible refine (spec_l2Find.calls k3 _ _ l1 ((rd_T89 l0 x13_3).f0) t1464 _ ?side1 ?side2 A32.out).mono ?_); (case side1 => repeat ((exact (Kd.C_below HR1.out HB.out)))); (case side2 => exact HC1.out); rintro e w' ⟨rfl,⟨nd,rfl⟩⟩; have p1465 : 0 ≤ (x13_3 : Int):=of_decide_eq_true (by (with_reducible assumption)); have q1465 : x13_3 < (l0.length : Int):=of_decide_eq_true (by (with_reducible assumption)); obtain ⟨ad1465,e1465,hx1465_0,hx1465_1,hx1465_2,hx1465_3,hx1465_4⟩:=at_T89 HR0.out x13_3 p1465 q1465; obtain rfl : ad1463 = ad1465:=(by injection e1465); replace hx1465_0:=(HB.out.cell (World.block_lt_of_cell? w _ hx1465_0)).trans hx1465_0; replace hx1465_1:=(HB.out.cell (World.block_lt_of_cell? w _ hx1465_1)).trans hx1465_1; replace hx1465_2:=(HB.out.cell (World.block_lt_of_cell? w _ hx1465_2)).trans hx1465_2; replace hx1465_3:=(HB.out.cell (World.block_lt_of_cell? w _ hx1465_3)).trans hx1465_3; replace hx1465_4:=(HB.out.cell (World.block_lt_of_cell? w _ hx1465_4)).trans hx1465_4; replace p1465:=eq_true p1465; replace q1465:=eq_true q1465; obtain ⟨Ao35,co35,eo35⟩:=Kd.R_slice HO_9.out; subst eo35)|(go_at_call 154; (with_reducible refine (spec_l4Put.calls k3 _ _ x9_3 ((rd_T89 l0 x13_3).f0) t1466 _ ?side1 ?side2 A34.out).mono ?_); (case side1 => repeat ((exact (Kd.R_reads' HO_9.out).2.2))); (case side2 => exact (Kd.R_reads' HO_9.out).2.1); rintro e w36 ⟨v1467,rfl,ho0,hb⟩; have n0_:=Aside0.mk (Kd.R_elder' (by (with_reducible repeat (apply Kd.R_drewN)); exact HO_8.out) (Kd.R_base ho0) hb); have n1_:=Aside0.mk (Kd.R_elder' (by (with_reducible repeat (apply Kd.R_drewN)); exact HO_9.out) (Kd.R_base ho0) hb); have n2_:=Aside0.mk (Kd.R_elder' (by (with_reducible repeat (apply Kd.R_drewN)); exact HO_10.out) (Kd.R_base ho0) hb); have n3_:=Aside0.mk (Kd.R_lower (Kd.R_new' (Kd.R_new' (Kd.R_new' ho0 (Kd.R_lt (by (with_reducible repeat (apply Kd.R_drewN)); exact HO_8.out))) (Kd.R_lt (by (with_reducible repeat (apply Kd.R_drewN)); exact HO_9.out))) (Kd.R_lt (by (with_reducible repeat (apply Kd.R_drewN)); exact HO_10.out))) (below_size (by repeat (with_reducible first|exact HB.out|apply pw_below_drewN)))); have n4_:=Aside0.mk (below_step (by repeat (with_reducible first|exact HB.out|apply pw_below_drewN)) hb); clear HO_8; clear HO_9; clear HO_10; clear HB; have HO_8:=n0_; have HO_9:=n1_; have HO_10:=n2_; have HO1468:=n3_; have HB:=n4_; clear n0_ n1_ n2_ n3_ n4_; (try clear hb); (try clear hb2); (try clear hk); (try clear hi); (try clear ho0)))
            repeat (go_quiet (((go_at_call 152; (with_reducible refine (spec_l2Find.calls k3 _ _ l1 ((rd_T89 l0 x13_3).f0) t1464 _ ?side1 ?side2 A32.out).mono ?_); (case side1 => repeat (first|exact (Kd.C_below HR1.out HB.out)|(with_reducible refine Kd.C_alloc ?_ _)|(with_reducible refine Kd.C_drewN ?_ _)|(with_reducible refine Kd.C_drew ?_))); (case side2 => exact HC1.out); rintro e w' ⟨rfl,⟨nd,rfl⟩⟩; (try first|exact ⟨rfl,_,World.drewN_drewN _ _ _⟩|exact ⟨rfl,_,Eq.trans (World.drewN_drewN _ _ _) (congrArg (World.drewN _) (Nat.add_assoc _ _ _))⟩); have p1465 : 0 ≤ (x13_3 : Int):=of_decide_eq_true (by first|(with_reducible assumption)|assumption); have q1465 : x13_3 < (l0.length : Int):=of_decide_eq_true (by first|(with_reducible assumption)|assumption); obtain ⟨ad1465,e1465,hx1465_0,hx1465_1,hx1465_2,hx1465_3,hx1465_4⟩:=at_T89 HR0.out x13_3 p1465 q1465; obtain rfl : ad1463 = ad1465:=(by injection e1465); replace hx1465_0:=(HB.out.cell (World.block_lt_of_cell? w _ hx1465_0)).trans hx1465_0; replace hx1465_1:=(HB.out.cell (World.block_lt_of_cell? w _ hx1465_1)).trans hx1465_1; replace hx1465_2:=(HB.out.cell (World.block_lt_of_cell? w _ hx1465_2)).trans hx1465_2; replace hx1465_3:=(HB.out.cell (World.block_lt_of_cell? w _ hx1465_3)).trans hx1465_3; replace hx1465_4:=(HB.out.cell (World.block_lt_of_cell? w _ hx1465_4)).trans hx1465_4; replace p1465:=eq_true p1465; replace q1465:=eq_true q1465; obtain ⟨Ao35,co35,eo35⟩:=Kd.R_slice HO_9.out; subst eo35))); try go_wp2_with (((go_at_call 152; (with_reducible refine (spec_l2Find.calls k3 _ _ l1 ((rd_T89 l0 x13_3).f0) t1464 _ ?side1 ?side2 A32.out).mono ?_); (case side1 => repeat (first|exact (Kd.C_below HR1.out HB.out)|(with_reducible refine Kd.C_alloc ?_ _)|(with_reducible refine Kd.C_drewN ?_ _)|(with_reducible refine Kd.C_drew ?_))); (case side2 => exact HC1.out); rintro e w' ⟨rfl,⟨nd,rfl⟩⟩; (try first|exact ⟨rfl,_,World.drewN_drewN _ _ _⟩|exact ⟨rfl,_,Eq.trans (World.drewN_drewN _ _ _) (congrArg (World.drewN _) (Nat.add_assoc _ _ _))⟩); have p1465 : 0 ≤ (x13_3 : Int):=of_decide_eq_true (by first|(with_reducible assumption)|assumption); have q1465 : x13_3 < (l0.length : Int):=of_decide_eq_true (by first|(with_reducible assumption)|assumption); obtain ⟨ad1465,e1465,hx1465_0,hx1465_1,hx1465_2,hx1465_3,hx1465_4⟩:=at_T89 HR0.out x13_3 p1465 q1465; obtain rfl : ad1463 = ad1465:=(by injection e1465); replace hx1465_0:=(HB.out.cell (World.block_lt_of_cell? w _ hx1465_0)).trans hx1465_0; replace hx1465_1:=(HB.out.cell (World.block_lt_of_cell? w _ hx1465_1)).trans hx1465_1; replace hx1465_2:=(HB.out.cell (World.block_lt_of_cell? w _ hx1465_2)).trans hx1465_2; replace hx1465_3:=(HB.out.cell (World.block_lt_of_cell? w _ hx1465_3)).trans hx1465_3; replace hx1465_4:=(HB.out.cell (World.block_lt_of_cell? w _ hx1465_4)).trans hx1465_4; replace p1465:=eq_true p1465; replace q1465:=eq_true q1465; obtain ⟨Ao35,co35,eo35⟩:=Kd.R_slice HO_9.out; subst eo35))))
            go_roundg k3
            case measure => have:=HJ2.out; have:=HK2.out; have:=HK3.out; omega
            case rel => exact ⟨(t1466),(wrap64 (x13_3 + 1)),(by (rfl)),H',⟨by have:=HJ2.out; have:=HK2.out; have:=HK3.out; omega⟩,⟨by exact Kd.R_mono HO_8.out (fun _ hk => ⟨hk.2,hk.1.2⟩)⟩,⟨by exact Kd.R_mono HO1468.out (fun _ hk => ⟨hk.1.1.2,hk.2⟩)⟩,⟨by exact Kd.R_mono HO_10.out (fun _ hk => ⟨hk.1.1,hk.2⟩)⟩,⟨by repeat (((with_reducible (exact HB.out))))⟩⟩
           ·rw [if_neg c33] at H
            have c33b0 : decide (t1464 < 0) = false:=decide_eq_false c33
            clear c33
            have H':=Aside0.mk H
            clear H
            have p1463 : 0 ≤ (x13_3 : Int):=of_decide_eq_true (by (with_reducible assumption))
            have q1463 : x13_3 < (l0.length : Int):=of_decide_eq_true (by (with_reducible assumption))
            obtain ⟨ad1463,e1463,hx1463_0,hx1463_1,hx1463_2,hx1463_3,hx1463_4⟩:=at_T89 HR0.out x13_3 p1463 q1463
            cases e1463
            replace hx1463_0:=(HB.out.cell (World.block_lt_of_cell? w _ hx1463_0)).trans hx1463_0
            replace hx1463_1:=(HB.out.cell (World.block_lt_of_cell? w _ hx1463_1)).trans hx1463_1
            replace hx1463_2:=(HB.out.cell (World.block_lt_of_cell? w _ hx1463_2)).trans hx1463_2
            replace hx1463_3:=(HB.out.cell (World.block_lt_of_cell? w _ hx1463_3)).trans hx1463_3
            replace hx1463_4:=(HB.out.cell (World.block_lt_of_cell? w _ hx1463_4)).trans hx1463_4
            replace p1463:=eq_true p1463
            replace q1463:=eq_true q1463
            go_wp2_with (((go_at_call 152; (with_reducible refine (spec_l2Find.calls k3 _ _ l1 ((rd_T89 l0 x13_3).f0) t1464 _ ?side1 ?side2 A32.out).mono ?_); (case side1 => repeat ((exact (Kd.C_below HR1.out HB.out)))); (case side2 => exact HC1.out); rintro e w' ⟨rfl,⟨nd,rfl⟩⟩; (try (exact ⟨rfl,_,World.drewN_drewN _ _ _⟩)))))
            repeat (go_quiet (((go_at_call 152; (with_reducible refine (spec_l2Find.calls k3 _ _ l1 ((rd_T89 l0 x13_3).f0) t1464 _ ?side1 ?side2 A32.out).mono ?_); (case side1 => repeat (first|exact (Kd.C_below HR1.out HB.out)|(with_reducible refine Kd.C_alloc ?_ _)|(with_reducible refine Kd.C_drewN ?_ _)|(with_reducible refine Kd.C_drew ?_))); (case side2 => exact HC1.out); rintro e w' ⟨rfl,⟨nd,rfl⟩⟩; (try first|exact ⟨rfl,_,World.drewN_drewN _ _ _⟩|exact ⟨rfl,_,Eq.trans (World.drewN_drewN _ _ _) (congrArg (World.drewN _) (Nat.add_assoc _ _ _))⟩)))); try go_wp2_with (((go_at_call 152; (with_reducible refine (spec_l2Find.calls k3 _ _ l1 ((rd_T89 l0 x13_3).f0) t1464 _ ?side1 ?side2 A32.out).mono ?_); (case side1 => repeat (first|exact (Kd.C_below HR1.out HB.out)|(with_reducible refine Kd.C_alloc ?_ _)|(with_reducible refine Kd.C_drewN ?_ _)|(with_reducible refine Kd.C_drew ?_))); (case side2 => exact HC1.out); rintro e w' ⟨rfl,⟨nd,rfl⟩⟩; (try first|exact ⟨rfl,_,World.drewN_drewN _ _ _⟩|exact ⟨rfl,_,Eq.trans (World.drewN_drewN _ _ _) (congrArg (World.drewN _) (Nat.add_assoc _ _ _))⟩)))))
            go_roundg k3
            case measure => have:=HJ2.out; have:=HK2.out; have:=HK3.out; omega
            case rel => exact ⟨(x9_3),(wrap64 (x13_3 + 1)),(by (rfl)),H',⟨by have:=HJ2.out; have:=HK2.out; have:=HK3.out; omega⟩,⟨by (with_reducible repeat (apply Kd.R_drewN)); exact HO_8.out⟩,⟨by (with_reducible repeat (apply Kd.R_drewN)); exact HO_9.out⟩,⟨by (with_reducible repeat (apply Kd.R_drewN)); exact HO_10.out⟩,⟨by repeat (with_reducible first|exact HB.out|apply pw_below_drewN)⟩⟩
          ·rw [if_neg c31] at H
           exact absurd H (by simp)
         ·rw [if_neg c30] at H
          have c30b0 : decide (x13_3 < (l0.length : Int)) = false:=decide_eq_false c30
          clear c30
          simp only [Option.some.injEq,Prod.mk.injEq] at H
          obtain ⟨rfl,rfl,rfl,rfl⟩:=H
          go_wp2
          repeat (go_quiet (fail); try go_wp2)
          refine bodyPost_ret (results_list (rs:=[.tmp 4,.tmp 5,.tmp 6,.tmp 7]) rfl (by simp) (.tmp (.tmp (.tmp (.tmp .nil))))) rfl ?_
          exact ⟨_,_,_,by (rfl),by exact HO_8.out,by exact HO_9.out,by exact HO_10.out,by repeat (((with_reducible (exact HB.out))))⟩

end Go.Proofs.Ytlldonokjgoajaa.X
