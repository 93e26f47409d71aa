-- Written by a program of ours (wip/bin/xprint.py,over the kit's print.py) out of the translation. Not trusted: Lean checks it.
import Derived.Test.YtfindomajbjacaaGreatDoorX0
import Derived.Test.YtfindomajbjacaaGreatDoorLaidA
import Derived.Test.YtfindomajbjacaaGreatDoorFbGood
import Derived.Test.YtfindomajbjacaaGreatDoorFimplParseContainer
import Derived.Test.YtfindomajbjacaaGreatDoorGlinesOf
namespace Go.Proofs.YtfindomajbjacaaGreatDoor.X
open Go.RowKit Go.Proofs.YtfindomajbjacaaGreatDoorW.PrintWords Go.Proofs.YtfindomajbjacaaGreatDoorW.PrintLast Go.Proofs.YtfindomajbjacaaGreatDoorW.PrintMore
attribute [local go_sem] max2_int min2_int max_two min_two max_three min_three max_four min_four   -- for this text's walks alone
set_option linter.unusedVariables false
set_option linter.unusedSimpArgs false

/-! ### impl_ParseManifest: function 23 -/
mutual
def impl_ParseManifest.j0 : Nat → List ByteArray → Bool → Option ((List (S50)) × Bool)
 | 0,_,_ => none
 | k + 1,x4,x22 => if x22 = true then (some (([] : List (S50)),false)) else (impl_ParseManifest.l0 k (([] : List (S50))) x4 (x4.length : Int) 0)
def impl_ParseManifest.l0 : Nat → List (S50) → List ByteArray → Int → Int → Option ((List (S50)) × Bool)
 | 0,_,_,_,_ => none
 | k + 1,x6,x24,x25,x26 => if x26 < x25 then (if 0 ≤ x26 then (if x26 < (x24.length : Int) then ((impl_ParseContainer.f k (rdOf ByteArray.empty x24 x26)).bind fun bt835 => (if bt835.2.2.2.2.2 = true then (if x6.length < 2932031007402 then (impl_ParseManifest.l0 k (x6 ++ [(⟨bt835.1,bt835.2.1,bt835.2.2.1,bt835.2.2.2.1,bt835.2.2.2.2.1⟩ : S50)]) x24 x25 (wrap64 (x26 + 1))) else (none)) else (some (([] : List (S50)),false)))) else (none)) else (none)) else ((impl_IsValidContainers.f k x6).bind fun t845 => (if t845 = true then (some (x6,true)) else (some (([] : List (S50)),false))))
end
def impl_ParseManifest.f (k : Nat) (a0 : ByteArray) : Option ((List (S50)) × Bool):=(impl_linesOf.f a0).bind fun bt827 => (if bt827.2 = true then (impl_ParseManifest.j0 k bt827.1 (decide ((a0.size : Int) > 4000))) else (impl_ParseManifest.j0 k bt827.1 true))
theorem impl_ParseManifest.mono_l : ∀ k,(∀ y0 y1,LeO (impl_ParseManifest.j0 k y0 y1) (impl_ParseManifest.j0 (k + 1) y0 y1)) ∧ (∀ y0 y1 y2 y3,LeO (impl_ParseManifest.l0 k y0 y1 y2 y3) (impl_ParseManifest.l0 (k + 1) y0 y1 y2 y3))
 | 0 => ⟨fun _ _ r h => by simp [impl_ParseManifest.j0] at h,fun _ _ _ _ r h => by simp [impl_ParseManifest.l0] at h⟩
 | k + 1 => by
  obtain ⟨ih0,ih1⟩:=impl_ParseManifest.mono_l k
  refine ⟨?_,?_⟩
  ·intro y0 y1
   unfold impl_ParseManifest.j0
   repeat' first
   | (with_reducible exact ih0 _ _)
   | (with_reducible exact ih1 _ _ _ _)
   | (with_reducible exact impl_IsValidContainers.mono _ _)
   | (with_reducible exact impl_ParseContainer.mono _ _)
   | (with_reducible exact LeO.refl _)
   | (with_reducible exact LeO.none _)
   | (with_reducible refine LeO.ite ?_ ?_)
   | (with_reducible refine LeO.bind ?_ (fun _ => ?_))
   | exact ih0 _ _
   | exact ih1 _ _ _ _
   | exact impl_IsValidContainers.mono _ _
   | exact impl_ParseContainer.mono _ _
   | exact LeO.none _
   | refine LeO.ite ?_ ?_
   | refine LeO.bind ?_ (fun _ => ?_)
  ·intro y0 y1 y2 y3
   unfold impl_ParseManifest.l0
   repeat' first
   | (with_reducible exact ih0 _ _)
   | (with_reducible exact ih1 _ _ _ _)
   | (with_reducible exact impl_IsValidContainers.mono _ _)
   | (with_reducible exact impl_ParseContainer.mono _ _)
   | (with_reducible exact LeO.refl _)
   | (with_reducible exact LeO.none _)
   | (with_reducible refine LeO.ite ?_ ?_)
   | (with_reducible refine LeO.bind ?_ (fun _ => ?_))
   | exact ih0 _ _
   | exact ih1 _ _ _ _
   | exact impl_IsValidContainers.mono _ _
   | exact impl_ParseContainer.mono _ _
   | exact LeO.none _
   | refine LeO.ite ?_ ?_
   | refine LeO.bind ?_ (fun _ => ?_)
theorem impl_ParseManifest.mono : ∀ a0 k,LeO (impl_ParseManifest.f k a0) (impl_ParseManifest.f (k + 1) a0):=by
 intro a0 k
 obtain ⟨ih0,ih1⟩:=impl_ParseManifest.mono_l k
 unfold impl_ParseManifest.f
 repeat' first
   | (with_reducible exact ih0 _ _)
   | (with_reducible exact ih1 _ _ _ _)
   | (with_reducible exact impl_IsValidContainers.mono _ _)
   | (with_reducible exact impl_ParseContainer.mono _ _)
   | (with_reducible exact LeO.refl _)
   | (with_reducible exact LeO.none _)
   | (with_reducible refine LeO.ite ?_ ?_)
   | (with_reducible refine LeO.bind ?_ (fun _ => ?_))
   | exact ih0 _ _
   | exact ih1 _ _ _ _
   | exact impl_IsValidContainers.mono _ _
   | exact impl_ParseContainer.mono _ _
   | exact LeO.none _
   | refine LeO.ite ?_ ?_
   | refine LeO.bind ?_ (fun _ => ?_)
set_option maxHeartbeats 8000000 in
set_option maxRecDepth 100000 in
theorem impl_ParseManifest.calls (k : Nat) (a0 : ByteArray) (r1 : List (S50)) (r2 : Bool) (w : World) (hL : LaidA w) (h : impl_ParseManifest.f k a0 = some (r1,r2)) :
  Calls Tryz.prog 23 #[.string a0] w fun e w' => ∃ v0_ : Value,e = .returned (.tuple #[v0_,.bool r2]) ∧ Kd.R k50 50 w' w.heap.size (fun _ => True) v0_ r1 ∧ Below w.heap.size w w':=by
 have HL:=Aside0.mk hL
 clear hL
 have hu50:=Tryz.underlying50
 have HB:=Aside0.mk (Below.refl w.heap.size w)
 have H : ((impl_linesOf.f a0).bind fun bt827 => (if bt827.2 = true then (impl_ParseManifest.j0 k bt827.1 (decide ((a0.size : Int) > 4000))) else (impl_ParseManifest.j0 k bt827.1 true))) = some (r1,r2):=h
 clear h
 replace H:=Option.bind_eq_some_iff.mp H
 obtain ⟨⟨t827,t828⟩,A20,H⟩:=H
 replace H : (if t828 = true then (impl_ParseManifest.j0 k t827 (decide ((a0.size : Int) > 4000))) else (impl_ParseManifest.j0 k t827 true)) = some (r1,r2):=H
 have A2:=Aside0.mk A20
 clear A20
 have HC3:=Aside0.mk H
 clear H
 go_enter Tryz.func23,Tryz.ntmps23
 go_upto_region 2 with ((((with_reducible refine gate_callee (f:=57) rfl ?_); refine goesL_ (some 13) rfl rfl Tryz.func57 (by kernel_rfl) rfl #[.string a0] rfl (by (try simp only [List.map_toArray,List.map_cons,List.map_nil]); (rfl)) ?_; (with_reducible refine (impl_linesOf.calls a0 t827 t828 _ ?sideL A2.out).mono ?_); (case sideL => refine LaidA.to_LaidM ?_; (with_reducible exact HL.out)); rintro e w4 ⟨v829,rfl,ho0,hb⟩; refine ⟨_,rfl,?_⟩; have n0_:=Aside0.mk (Kd.R_lower ho0 (below_size (by repeat (((with_reducible (exact HB.out))))))); have n1_:=Aside0.mk (below_step (by repeat (((with_reducible (exact HB.out))))) hb); clear HB; have HO830:=n0_; have HB:=n1_; clear n0_ n1_; (try clear hb); (try clear hb2); (try clear hk); (try clear hi); (try clear ho0))))
 (try simp only [Act.put,List.setIfInBounds_toArray,List.set_cons_zero,List.set_cons_succ])
 go_cut [22] (fun v22 wc => ∃ (kq : Nat) (x22_2 : Bool),v22 = .bool x22_2 ∧ Aside0 (impl_ParseManifest.j0 kq t827 x22_2 = some (r1,r2)) ∧ Aside0 (kq ≤ k) ∧ Aside0 (Kd.R Kd.string 9 wc w.heap.size (fun _ => True) v829 t827) ∧ Aside0 (Below w.heap.size w wc))
 case first =>
  have H:=HC3.out
  clear HC3
  by_cases c5 : t828 = true
  ·subst c5
   have H1 : (impl_ParseManifest.j0 k t827 (decide ((a0.size : Int) > 4000))) = some (r1,r2):=by rw [if_pos rfl] at H; exact H
   clear H
   have H:=H1
   clear H1
   have H':=Aside0.mk H
   clear H
   go_wp2
   go_meet
   case rel => exact ⟨_,(decide ((a0.size : Int) > 4000)),(by (rfl)),H',⟨by (omega)⟩,⟨by exact HO830.out⟩,⟨by repeat (((with_reducible (exact HB.out))))⟩⟩
  ·replace c5:=Bool.eq_false_iff.mpr c5
   subst c5
   have H1 : (impl_ParseManifest.j0 k t827 true) = some (r1,r2):=by rw [if_neg (show ¬ (false = true) by decide)] at H; exact H
   clear H
   have H:=H1
   clear H1
   have H':=Aside0.mk H
   clear H
   go_wp2
   go_meet
   case rel => exact ⟨_,(true),(by (rfl)),H',⟨by (omega)⟩,⟨by exact HO830.out⟩,⟨by repeat (((with_reducible (exact HB.out))))⟩⟩
 case rest =>
  clear HC3
  try clear c2
  try clear p2
  try clear c5
  obtain ⟨kq,x22_2,rfl,HA,HJ2,HO_4,HB⟩:=hcut
  cases kq with
  | zero => exact absurd HA.out (by simp [impl_ParseManifest.j0])
  | succ kj2 =>
   have H:=HA.out
   clear HA
   simp only [impl_ParseManifest.j0] at H
   by_cases c6 : x22_2 = true
   ·subst c6
    have H1 : (some (([] : List (S50)),false)) = some (r1,r2):=by rw [if_pos rfl] at H; exact H
    clear H
    have H:=H1
    clear H1
    simp only [Option.some.injEq,Prod.mk.injEq] at H
    obtain ⟨rfl,rfl⟩:=H
    go_wp2
    go_ret2
    exact ⟨_,by (rfl),by (exact Kd.R_nil _ _ _ _ _),by repeat (((with_reducible (exact HB.out))))⟩
   ·replace c6:=Bool.eq_false_iff.mpr c6
    subst c6
    have H1 : (impl_ParseManifest.l0 kj2 (([] : List (S50))) t827 (t827.length : Int) 0) = some (r1,r2):=by rw [if_neg (show ¬ (false = true) by decide)] at H; exact H
    clear H
    have H:=H1
    clear H1
    obtain ⟨y831,hy831⟩ : ∃ y_ : List (S50),y_ = (([] : List (S50))):=⟨_,rfl⟩
    replace H : (impl_ParseManifest.l0 kj2 y831 t827 (t827.length : Int) 0) = some (r1,r2):=by (rw [hy831]; with_reducible exact H)
    have Ny831:=Aside0.mk hy831
    clear hy831
    have H':=Aside0.mk H
    clear H
    go_wp2_with ((((with_reducible refine gate_dst (N:=23) rfl ?_); (try (refine gate_guard (by rfl) ?_; dsimp only)); refine Kd.R_lit k50 _ 50 ?hg (N:=23) ?hd (xs:=([] : List (S50))) (inner:=[]) (ok:=fun _ => True) (okp:=fun _ => True) ?hr ?hp (fun _ hk => hk) trivial (Below.refl _ _) (Nat.le_refl _) (by simp) ?_; (case hd => rfl); (case hg => rfl); (case hr => (go_simp; done)); (case hp => exact (Reps.none _ _)); intro v832 w7 ho8 hb hg_ hnew_; clear hg_ hnew_; (rw [← Ny831.out] at ho8); have n0_:=Aside0.mk (Kd.R_below (by exact HO_4.out) hb); have n1_:=Aside0.mk (Kd.R_lower ho8 (below_size (by repeat (((with_reducible (exact HB.out))))))); have n2_:=Aside0.mk (below_step (by repeat (((with_reducible (exact HB.out))))) hb); clear HO_4; clear HB; have HO_4:=n0_; have HO833:=n1_; have HB:=n2_; clear n0_ n1_ n2_; clear hb ho8; obtain ⟨Ao9,co9,eo9⟩:=Kd.R_slice HO_4.out; subst eo9)))
    go_loopg [6,26] kj2 (fun kq v6 v26 w' => ∃ (x6_2 : List (S50)) (x26_2 : Int),v26 = .int .i64 x26_2 ∧ Aside0 (impl_ParseManifest.l0 kq x6_2 t827 (t827.length : Int) x26_2 = some (r1,r2)) ∧ Aside0 (kq ≤ kj2) ∧ Aside0 (Kd.R k50 50 w' w.heap.size (fun _ => True) v6 x6_2) ∧ Aside0 (Kd.R Kd.string 9 w' w.heap.size (fun _ => True) (.slice Ao9 t827.length co9) t827) ∧ Aside0 (Below w.heap.size w w'))
    case atStart => exact ⟨(y831),(0),(by (rfl)),H',⟨Nat.le_refl _⟩,⟨by exact HO833.out⟩,⟨by exact HO_4.out⟩,⟨by repeat (((with_reducible (exact HB.out))))⟩⟩
    case round =>
     clear H'
     try clear c2
     try clear p2
     try clear c5
     try clear c6
     try clear p2
     obtain ⟨x6_2,x26_2,rfl,HA,HK2,HO_6,HO_24,HB⟩:=hrel
     cases gk with
     | zero => exact absurd HA.out (by simp [impl_ParseManifest.l0])
     | succ k2 =>
      have H:=HA.out
      clear HA
      simp only [impl_ParseManifest.l0] at H
      by_cases c10 : x26_2 < (t827.length : Int)
      ·rw [if_pos c10] at H
       have c10b0 : decide (x26_2 < (t827.length : Int)) = true:=decide_eq_true c10
       clear c10
       by_cases c11 : 0 ≤ x26_2
       ·rw [if_pos c11] at H
        have c11b0 : decide (0 ≤ x26_2) = true:=decide_eq_true c11
        clear c11
        by_cases c12 : x26_2 < (t827.length : Int)
        ·rw [if_pos c12] at H
         have c12b0 : decide (x26_2 < (t827.length : Int)) = true:=decide_eq_true c12
         clear c12
         replace H:=Option.bind_eq_some_iff.mp H
         obtain ⟨⟨t835,t836,t837,t838,t839,t840⟩,A130,H⟩:=H
         replace H : (if t840 = true then (if x6_2.length < 2932031007402 then (impl_ParseManifest.l0 k2 (x6_2 ++ [(⟨t835,t836,t837,t838,t839⟩ : S50)]) t827 (t827.length : Int) (wrap64 (x26_2 + 1))) else (none)) else (some (([] : List (S50)),false))) = some (r1,r2):=H
         have A13:=Aside0.mk A130
         clear A130
         by_cases c14 : t840 = true
         ·subst c14
          have H1 : (if x6_2.length < 2932031007402 then (impl_ParseManifest.l0 k2 (x6_2 ++ [(⟨t835,t836,t837,t838,t839⟩ : S50)]) t827 (t827.length : Int) (wrap64 (x26_2 + 1))) else (none)) = some (r1,r2):=by rw [if_pos rfl] at H; exact H
          clear H
          have H:=H1
          clear H1
          by_cases c15 : x6_2.length < 2932031007402
          ·rw [if_pos c15] at H
           have LMc15:=Aside0.mk c15
           clear c15
           obtain ⟨y842,hy842⟩ : ∃ y_ : List (S50),y_ = (x6_2 ++ [(⟨t835,t836,t837,t838,t839⟩ : S50)]):=⟨_,rfl⟩
           replace H : (impl_ParseManifest.l0 k2 y842 t827 (t827.length : Int) (wrap64 (x26_2 + 1))) = some (r1,r2):=by (rw [hy842]; with_reducible exact H)
           have Ny842:=Aside0.mk hy842
           clear hy842
           have H':=Aside0.mk H
           clear H
           have p834 : 0 ≤ (x26_2 : Int):=of_decide_eq_true (by (with_reducible assumption))
           have q834 : x26_2 < (t827.length : Int):=of_decide_eq_true (by (with_reducible assumption))
           obtain ⟨ad834,e834,hx834_0⟩:=Kd.at_string (Kd.R_reads' HO_24.out).2.2 x26_2 p834 q834
           cases e834
           replace p834:=eq_true p834
           replace q834:=eq_true q834
           go_wp2_with (first|((with_reducible refine gate_callee (f:=28) rfl ?_); refine goesL_ (some 32) rfl rfl Tryz.func28 (by kernel_rfl) rfl #[.string (rdOf ByteArray.empty t827 x26_2)] rfl (by (try simp only [List.map_toArray,List.map_cons,List.map_nil]); (rfl)) ?_; (with_reducible refine (impl_ParseContainer.calls k2 (rdOf ByteArray.empty t827 x26_2) t835 t836 t837 t838 t839 true _ ?sideL A13.out).mono ?_); (case sideL => (with_reducible exact LaidA.below HL.out HB.out)); rintro e w16 ⟨rfl,hb⟩; refine ⟨_,rfl,?_⟩; have n0_:=Aside0.mk (Kd.R_below (by exact HO_6.out) hb); have n1_:=Aside0.mk (Kd.R_below (by exact HO_24.out) hb); have n2_:=Aside0.mk (below_step (by repeat (((with_reducible (exact HB.out))))) hb); clear HO_6; clear HO_24; clear HB; have HO_6:=n0_; have HO_24:=n1_; have HB:=n2_; clear n0_ n1_ n2_; (try clear hb); (try clear hb2); (try clear hk); (try clear hi))|((with_reducible refine gate_dst (N:=9) rfl ?_); (try (refine gate_guard (by rfl) ?_; dsimp only)); refine box_event ?hg (N:=9) ?hd (cs:=#[.string (⟨#[]⟩ : ByteArray),.int .i64 0,.int .i64 0,.int .i64 0,.int .i64 0]) (t:=50) ?hr ?_; (case hd => rfl); (case hg => rfl); (case hr => (go_simp; done)); intro gb841 hg w17 hbox hb; have n0_:=Aside0.mk (Kd.R_below (Kd.R_elderB (by exact HO_6.out) gb841 (Nat.le_of_eq hg.symm)) hb); have n1_:=Aside0.mk (Kd.R_below (by exact HO_24.out) hb); have n2_:=Aside0.mk (below_step (by repeat (((with_reducible (exact HB.out))))) hb); have n3_:=Aside0.mk (hbox); have n4_:=Aside0.mk ((by rw [hg]; exact (below_size (by repeat (((with_reducible (exact HB.out)))))) : w.heap.size ≤ gb841)); have n5_:=Aside0.mk ((by rw [hg]; exact (below_size (by repeat (((with_reducible (exact HB.out)))))) : w.heap.size ≤ gb841)); clear HO_6; clear HO_24; clear HB; have HO_6:=n0_; have HO_24:=n1_; have HB:=n2_; have BK841:=n3_; have GW841:=n4_; have GE841:=n5_; clear n0_ n1_ n2_ n3_ n4_ n5_; clear hb hbox hg; have hcz18_0 : w17.cell? ⟨gb841,0,none⟩ = some (.string (⟨#[]⟩ : ByteArray)):=(blk_cell BK841.out 0).trans rfl; have hcz18_1 : w17.cell? ⟨gb841,1,none⟩ = some (.int .i64 0):=(blk_cell BK841.out 1).trans rfl; have hcz18_2 : w17.cell? ⟨gb841,2,none⟩ = some (.int .i64 0):=(blk_cell BK841.out 2).trans rfl; have hcz18_3 : w17.cell? ⟨gb841,3,none⟩ = some (.int .i64 0):=(blk_cell BK841.out 3).trans rfl; have hcz18_4 : w17.cell? ⟨gb841,4,none⟩ = some (.int .i64 0):=(blk_cell BK841.out 4).trans rfl; have hfz18_0:=blk_frozen BK841.out 0; have hfz18_1:=blk_frozen BK841.out 1; have hfz18_2:=blk_frozen BK841.out 2; have hfz18_3:=blk_frozen BK841.out 3; have hfz18_4:=blk_frozen BK841.out 4)|((with_reducible refine gate_builtin (b:=.append) (xs:=#[.tmp 37,.tmp 39]) rfl ?_); (try (refine gate_guard (by rfl) ?_; dsimp only)); at_builtin; refine Kd.R_append k50 (w0:=w) w.heap.size rfl (.tmp 37) (.tmp 39) 43 50 (.agg #[(.string ⟨#[]⟩),(.int .i64 0),(.int .i64 0),(.int .i64 0),(.int .i64 0)]) 48 rfl Tryz.underlying43 info50 rfl (by decide) (by omega) u6 x6_2 (⟨t835,t836,t837,t838,t839⟩ : S50) [.string t835,.int .i64 t836,.int .i64 t837,.int .i64 t838,.int .i64 t839] (fun k_ => k_ ≠ gb841) (fun _ => False) rfl (by (go_simp; done)) ?aP (fun _ hk => hk.elim) ?aF ?aO ?aB ?aS ?aL ?_; (case aP => exact k50_mkM _ _ _ (⟨t835,t836,t837,t838,t839⟩ : S50)); (case aB => exact (by repeat (with_reducible first|exact HB.out|refine below_set ?_ GE841.out))); (case aF => exact (fun k_ hk => Kd.freshB (g:=gb841) (o:=.cells #[.string t835,.int .i64 t836,.int .i64 t837,.int .i64 t838,.int .i64 t839] 50 (0,0)) (by refine blk_put (cs:=#[.string t835,.int .i64 t836,.int .i64 t837,.int .i64 t838,.int .i64 0]) ?_ 4 _ rfl; refine blk_put (cs:=#[.string t835,.int .i64 t836,.int .i64 t837,.int .i64 0,.int .i64 0]) ?_ 3 _ rfl; refine blk_put (cs:=#[.string t835,.int .i64 t836,.int .i64 0,.int .i64 0,.int .i64 0]) ?_ 2 _ rfl; refine blk_put (cs:=#[.string t835,.int .i64 0,.int .i64 0,.int .i64 0,.int .i64 0]) ?_ 1 _ rfl; refine blk_put (cs:=#[.string (⟨#[]⟩ : ByteArray),.int .i64 0,.int .i64 0,.int .i64 0,.int .i64 0]) ?_ 0 _ rfl; exact BK841.out) k_ hk)); (case aO => exact (by exact Kd.R_mono (Kd.R_far (p:=⟨gb841,4,none⟩) (Kd.R_far (p:=⟨gb841,3,none⟩) (Kd.R_far (p:=⟨gb841,2,none⟩) (Kd.R_far (p:=⟨gb841,1,none⟩) (Kd.R_far (p:=⟨gb841,0,none⟩) (Kd.R_mono HO_6.out (fun k_ hk => (⟨hk,hk.2⟩ : _ ∧ k_ ≠ gb841))) (fun _ hk => hk.2) (.string t835)) (fun _ hk => hk.2) (.int .i64 t836)) (fun _ hk => hk.2) (.int .i64 t837)) (fun _ hk => hk.2) (.int .i64 t838)) (fun _ hk => hk.2) (.int .i64 t839)) (fun _ hk => hk.1.2))); (case aS => exact (below_size (by repeat (with_reducible first|exact HB.out|refine below_set ?_ GE841.out)))); (case aL => have:=LMc15.out; omega); intro v843 w19 ho hb hg hat; rw [← Ny842.out] at ho; have n0_:=Aside0.mk (Kd.R_over' (by exact (Kd.R_mono (Kd.R_far (p:=⟨gb841,4,none⟩) (Kd.R_far (p:=⟨gb841,3,none⟩) (Kd.R_far (p:=⟨gb841,2,none⟩) (Kd.R_far (p:=⟨gb841,1,none⟩) (Kd.R_far (p:=⟨gb841,0,none⟩) (Kd.R_types HO_24.out BK841.out (by decide)) (fun _ hk => hk.2) (.string t835)) (fun _ hk => hk.2) (.int .i64 t836)) (fun _ hk => hk.2) (.int .i64 t837)) (fun _ hk => hk.2) (.int .i64 t838)) (fun _ hk => hk.2) (.int .i64 t839)) (fun _ h_ => h_.1))) (Kd.R_typed (by exact (Kd.R_mono (Kd.R_far (p:=⟨gb841,4,none⟩) (Kd.R_far (p:=⟨gb841,3,none⟩) (Kd.R_far (p:=⟨gb841,2,none⟩) (Kd.R_far (p:=⟨gb841,1,none⟩) (Kd.R_far (p:=⟨gb841,0,none⟩) (Kd.R_mono HO_6.out (fun k_ hk => (⟨hk,hk.2⟩ : _ ∧ k_ ≠ gb841))) (fun _ hk => hk.2) (.string t835)) (fun _ hk => hk.2) (.int .i64 t836)) (fun _ hk => hk.2) (.int .i64 t837)) (fun _ hk => hk.2) (.int .i64 t838)) (fun _ hk => hk.2) (.int .i64 t839)) (fun _ h_ => h_.1)))) (by decide) hg); have n1_:=Aside0.mk (blk_grown (g:=gb841) (o:=.cells #[.string t835,.int .i64 t836,.int .i64 t837,.int .i64 t838,.int .i64 t839] 50 (0,0)) (by refine blk_put (cs:=#[.string t835,.int .i64 t836,.int .i64 t837,.int .i64 t838,.int .i64 0]) ?_ 4 _ rfl; refine blk_put (cs:=#[.string t835,.int .i64 t836,.int .i64 t837,.int .i64 0,.int .i64 0]) ?_ 3 _ rfl; refine blk_put (cs:=#[.string t835,.int .i64 t836,.int .i64 0,.int .i64 0,.int .i64 0]) ?_ 2 _ rfl; refine blk_put (cs:=#[.string t835,.int .i64 0,.int .i64 0,.int .i64 0,.int .i64 0]) ?_ 1 _ rfl; refine blk_put (cs:=#[.string (⟨#[]⟩ : ByteArray),.int .i64 0,.int .i64 0,.int .i64 0,.int .i64 0]) ?_ 0 _ rfl; exact BK841.out) hg (Kd.R_away HO_6.out (fun _ hk => hk.2))); have n2_:=Aside0.mk (hb); have n3_:=Aside0.mk (ho); clear HO_24; clear BK841; clear HB; clear HO_6; have HO_24:=n0_; have BK841:=n1_; have HB:=n2_; have HO844:=n3_; clear n0_ n1_ n2_ n3_; clear ho hb hg hat))
           go_roundg k2
           case measure => have:=HJ2.out; have:=HK2.out; omega
           case rel => exact ⟨(y842),(wrap64 (x26_2 + 1)),(by (rfl)),H',⟨by have:=HJ2.out; have:=HK2.out; omega⟩,⟨by exact Kd.R_mono HO844.out (fun _ hk => trivial)⟩,⟨by exact HO_24.out⟩,⟨by repeat (((with_reducible (exact HB.out))))⟩⟩
          ·rw [if_neg c15] at H
           exact absurd H (by simp)
         ·replace c14:=Bool.eq_false_iff.mpr c14
          subst c14
          have H1 : (some (([] : List (S50)),false)) = some (r1,r2):=by rw [if_neg (show ¬ (false = true) by decide)] at H; exact H
          clear H
          have H:=H1
          clear H1
          simp only [Option.some.injEq,Prod.mk.injEq] at H
          obtain ⟨rfl,rfl⟩:=H
          have p834 : 0 ≤ (x26_2 : Int):=of_decide_eq_true (by (with_reducible assumption))
          have q834 : x26_2 < (t827.length : Int):=of_decide_eq_true (by (with_reducible assumption))
          obtain ⟨ad834,e834,hx834_0⟩:=Kd.at_string (Kd.R_reads' HO_24.out).2.2 x26_2 p834 q834
          cases e834
          replace p834:=eq_true p834
          replace q834:=eq_true q834
          go_wp2_with (first|((with_reducible refine gate_callee (f:=28) rfl ?_); refine goesL_ (some 32) rfl rfl Tryz.func28 (by kernel_rfl) rfl #[.string (rdOf ByteArray.empty t827 x26_2)] rfl (by (try simp only [List.map_toArray,List.map_cons,List.map_nil]); (rfl)) ?_; (with_reducible refine (impl_ParseContainer.calls k2 (rdOf ByteArray.empty t827 x26_2) t835 t836 t837 t838 t839 false _ ?sideL A13.out).mono ?_); (case sideL => (with_reducible exact LaidA.below HL.out HB.out)); rintro e w20 ⟨rfl,hb⟩; refine ⟨_,rfl,?_⟩; have n0_:=Aside0.mk (Kd.R_below (by exact HO_6.out) hb); have n1_:=Aside0.mk (Kd.R_below (by exact HO_24.out) hb); have n2_:=Aside0.mk (below_step (by repeat (((with_reducible (exact HB.out))))) hb); clear HO_6; clear HO_24; clear HB; have HO_6:=n0_; have HO_24:=n1_; have HB:=n2_; clear n0_ n1_ n2_; (try clear hb); (try clear hb2); (try clear hk); (try clear hi))|((with_reducible refine gate_dst (N:=9) rfl ?_); (try (refine gate_guard (by rfl) ?_; dsimp only)); refine box_event ?hg (N:=9) ?hd (cs:=#[.string (⟨#[]⟩ : ByteArray),.int .i64 0,.int .i64 0,.int .i64 0,.int .i64 0]) (t:=50) ?hr ?_; (case hd => rfl); (case hg => rfl); (case hr => (go_simp; done)); intro gb841 hg w21 hbox hb; have n0_:=Aside0.mk (Kd.R_below (Kd.R_elderB (by exact HO_6.out) gb841 (Nat.le_of_eq hg.symm)) hb); have n1_:=Aside0.mk (Kd.R_below (by exact HO_24.out) hb); have n2_:=Aside0.mk (below_step (by repeat (((with_reducible (exact HB.out))))) hb); have n3_:=Aside0.mk (hbox); have n4_:=Aside0.mk ((by rw [hg]; exact (below_size (by repeat (((with_reducible (exact HB.out)))))) : w.heap.size ≤ gb841)); have n5_:=Aside0.mk ((by rw [hg]; exact (below_size (by repeat (((with_reducible (exact HB.out)))))) : w.heap.size ≤ gb841)); clear HO_6; clear HO_24; clear HB; have HO_6:=n0_; have HO_24:=n1_; have HB:=n2_; have BK841:=n3_; have GW841:=n4_; have GE841:=n5_; clear n0_ n1_ n2_ n3_ n4_ n5_; clear hb hbox hg; have hcz22_0 : w21.cell? ⟨gb841,0,none⟩ = some (.string (⟨#[]⟩ : ByteArray)):=(blk_cell BK841.out 0).trans rfl; have hcz22_1 : w21.cell? ⟨gb841,1,none⟩ = some (.int .i64 0):=(blk_cell BK841.out 1).trans rfl; have hcz22_2 : w21.cell? ⟨gb841,2,none⟩ = some (.int .i64 0):=(blk_cell BK841.out 2).trans rfl; have hcz22_3 : w21.cell? ⟨gb841,3,none⟩ = some (.int .i64 0):=(blk_cell BK841.out 3).trans rfl; have hcz22_4 : w21.cell? ⟨gb841,4,none⟩ = some (.int .i64 0):=(blk_cell BK841.out 4).trans rfl; have hfz22_0:=blk_frozen BK841.out 0; have hfz22_1:=blk_frozen BK841.out 1; have hfz22_2:=blk_frozen BK841.out 2; have hfz22_3:=blk_frozen BK841.out 3; have hfz22_4:=blk_frozen BK841.out 4))
          go_ret2
          exact ⟨_,by (rfl),by (exact Kd.R_nil _ _ _ _ _),by repeat (with_reducible first|exact HB.out|refine below_set ?_ GE841.out)⟩
        ·rw [if_neg c12] at H
         exact absurd H (by simp)
       ·rw [if_neg c11] at H
        exact absurd H (by simp)
      ·rw [if_neg c10] at H
       have c10b0 : decide (x26_2 < (t827.length : Int)) = false:=decide_eq_false c10
       clear c10
       replace H:=Option.bind_eq_some_iff.mp H
       obtain ⟨t845,A230,H⟩:=H
       replace H : (if t845 = true then (some (x6_2,true)) else (some (([] : List (S50)),false))) = some (r1,r2):=H
       have A23:=Aside0.mk A230
       clear A230
       by_cases c24 : t845 = true
       ·subst c24
        have H1 : (some (x6_2,true)) = some (r1,r2):=by rw [if_pos rfl] at H; exact H
        clear H
        have H:=H1
        clear H1
        simp only [Option.some.injEq,Prod.mk.injEq] at H
        obtain ⟨rfl,rfl⟩:=H
        obtain ⟨Ao25,co25,eo25⟩:=Kd.R_slice HO_6.out
        subst eo25
        go_wp2_with ((((with_reducible refine gate_callee (f:=55) rfl ?_); refine goesL_ (some 43) rfl rfl Tryz.func55 (by kernel_rfl) rfl #[.slice Ao25 x6_2.length co25] rfl (by (try simp only [List.map_toArray,List.map_cons,List.map_nil]); (rfl)) ?_; (with_reducible refine (impl_IsValidContainers.calls k2 _ _ x6_2 true _ ?side1 ?side2 A23.out).mono ?_); (case side1 => repeat ((exact (Kd.R_reads' HO_6.out).2.2))); (case side2 => exact (Kd.R_reads' HO_6.out).2.1); rintro e w26 ⟨rfl,hb⟩; refine ⟨_,rfl,?_⟩; have n0_:=Aside0.mk (Kd.R_below (by exact HO_6.out) hb); have n1_:=Aside0.mk (Kd.R_below (by exact HO_24.out) hb); have n2_:=Aside0.mk (below_step (by repeat (((with_reducible (exact HB.out))))) hb); clear HO_6; clear HO_24; clear HB; have HO_6:=n0_; have HO_24:=n1_; have HB:=n2_; clear n0_ n1_ n2_; (try clear hb); (try clear hb2); (try clear hk); (try clear hi))))
        go_ret2
        exact ⟨_,by (rfl),by exact HO_6.out,by repeat (((with_reducible (exact HB.out))))⟩
       ·replace c24:=Bool.eq_false_iff.mpr c24
        subst c24
        have H1 : (some (([] : List (S50)),false)) = some (r1,r2):=by rw [if_neg (show ¬ (false = true) by decide)] at H; exact H
        clear H
        have H:=H1
        clear H1
        simp only [Option.some.injEq,Prod.mk.injEq] at H
        obtain ⟨rfl,rfl⟩:=H
        obtain ⟨Ao27,co27,eo27⟩:=Kd.R_slice HO_6.out
        subst eo27
        go_wp2_with ((((with_reducible refine gate_callee (f:=55) rfl ?_); refine goesL_ (some 43) rfl rfl Tryz.func55 (by kernel_rfl) rfl #[.slice Ao27 x6_2.length co27] rfl (by (try simp only [List.map_toArray,List.map_cons,List.map_nil]); (rfl)) ?_; (with_reducible refine (impl_IsValidContainers.calls k2 _ _ x6_2 false _ ?side1 ?side2 A23.out).mono ?_); (case side1 => repeat ((exact (Kd.R_reads' HO_6.out).2.2))); (case side2 => exact (Kd.R_reads' HO_6.out).2.1); rintro e w28 ⟨rfl,hb⟩; refine ⟨_,rfl,?_⟩; have n0_:=Aside0.mk (Kd.R_below (by exact HO_6.out) hb); have n1_:=Aside0.mk (Kd.R_below (by exact HO_24.out) hb); have n2_:=Aside0.mk (below_step (by repeat (((with_reducible (exact HB.out))))) hb); clear HO_6; clear HO_24; clear HB; have HO_6:=n0_; have HO_24:=n1_; have HB:=n2_; clear n0_ n1_ n2_; (try clear hb); (try clear hb2); (try clear hk); (try clear hi))))
        go_ret2
        exact ⟨_,by (rfl),by (exact Kd.R_nil _ _ _ _ _),by repeat (((with_reducible (exact HB.out))))⟩

end Go.Proofs.YtfindomajbjacaaGreatDoor.X
