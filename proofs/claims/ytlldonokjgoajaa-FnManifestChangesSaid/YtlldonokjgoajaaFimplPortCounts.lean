-- Written by a program of ours (wip/bin/xprint.py,over the kit's print.py) out of the translation. Not trusted: Lean checks it.
import Derived.Test.YtlldonokjgoajaaX0
import Derived.Test.YtlldonokjgoajaaFbGood
namespace Go.Proofs.Ytlldonokjgoajaa.X
open Go.RowKit Go.Proofs.YtlldonokjgoajaaW.PrintWords Go.Proofs.YtlldonokjgoajaaW.PrintLast Go.Proofs.YtlldonokjgoajaaW.PrintMore
attribute [local go_sem] max2_int min2_int max_two min_two max_three min_three max_four min_four   -- for this text's walks alone
set_option linter.unusedVariables false
set_option linter.unusedSimpArgs false

/-! ### impl_PortCounts: function 58 -/
mutual
def impl_PortCounts.l0 : Nat → List (S89) → List (S104) → Int → Option ((List (S104)) × Bool)
 | 0,_,_,_ => none
 | k + 1,x0,x4,x5 => if x5 ≤ 9 then (impl_PortCounts.l1 k x0 x4 x5 0 x0 (x0.length : Int) 0) else (some (x4,true))
def impl_PortCounts.l1 : Nat → List (S89) → List (S104) → Int → Int → List (S89) → Int → Int → Option ((List (S104)) × Bool)
 | 0,_,_,_,_,_,_,_ => none
 | k + 1,x0,x4,x5,x6,x17,x18,x19 => if x19 < x18 then (if 0 ≤ x19 then (if x19 < (x17.length : Int) then (if ((rd_T89 x17 x19).f4) = x5 then (impl_PortCounts.l1 k x0 x4 x5 (wrap64 (x6 + 1)) x17 x18 (wrap64 (x19 + 1))) else (impl_PortCounts.l1 k x0 x4 x5 x6 x17 x18 (wrap64 (x19 + 1)))) else (none)) else (none)) else (if x6 > 0 then (if x4.length < 8796093022208 then (impl_PortCounts.l0 k x0 (x4 ++ [(⟨x5,x6⟩ : S104)]) (wrap64 (x5 + 1))) else (none)) else (impl_PortCounts.l0 k x0 x4 (wrap64 (x5 + 1))))
end
def impl_PortCounts.f (k : Nat) (l0 : List (S89)) : Option ((List (S104)) × Bool):=(impl_IsValidContainers.f k l0).bind fun t944 => (if t944 = true then (impl_PortCounts.l0 k l0 (([] : List (S104))) 1) else (some (([] : List (S104)),false)))
theorem impl_PortCounts.mono_l : ∀ k,(∀ y0 y1 y2,LeO (impl_PortCounts.l0 k y0 y1 y2) (impl_PortCounts.l0 (k + 1) y0 y1 y2)) ∧ (∀ y0 y1 y2 y3 y4 y5 y6,LeO (impl_PortCounts.l1 k y0 y1 y2 y3 y4 y5 y6) (impl_PortCounts.l1 (k + 1) y0 y1 y2 y3 y4 y5 y6))
 | 0 => ⟨fun _ _ _ r h => by simp [impl_PortCounts.l0] at h,fun _ _ _ _ _ _ _ r h => by simp [impl_PortCounts.l1] at h⟩
 | k + 1 => by
  obtain ⟨ih0,ih1⟩:=impl_PortCounts.mono_l k
  refine ⟨?_,?_⟩
  ·intro y0 y1 y2
   unfold impl_PortCounts.l0
   repeat' first
   | (with_reducible exact ih0 _ _ _)
   | (with_reducible exact ih1 _ _ _ _ _ _ _)
   | (with_reducible exact impl_IsValidContainers.mono _ _)
   | (with_reducible exact LeO.refl _)
   | (with_reducible exact LeO.none _)
   | (with_reducible refine LeO.ite ?_ ?_)
   | (with_reducible refine LeO.bind ?_ (fun _ => ?_))
   | exact ih0 _ _ _
   | exact ih1 _ _ _ _ _ _ _
   | exact impl_IsValidContainers.mono _ _
   | exact LeO.none _
   | refine LeO.ite ?_ ?_
   | refine LeO.bind ?_ (fun _ => ?_)
  ·intro y0 y1 y2 y3 y4 y5 y6
   unfold impl_PortCounts.l1
   repeat' first
   | (with_reducible exact ih0 _ _ _)
   | (with_reducible exact ih1 _ _ _ _ _ _ _)
   | (with_reducible exact impl_IsValidContainers.mono _ _)
   | (with_reducible exact LeO.refl _)
   | (with_reducible exact LeO.none _)
   | (with_reducible refine LeO.ite ?_ ?_)
   | (with_reducible refine LeO.bind ?_ (fun _ => ?_))
   | exact ih0 _ _ _
   | exact ih1 _ _ _ _ _ _ _
   | exact impl_IsValidContainers.mono _ _
   | exact LeO.none _
   | refine LeO.ite ?_ ?_
   | refine LeO.bind ?_ (fun _ => ?_)
theorem impl_PortCounts.mono : ∀ a0 k,LeO (impl_PortCounts.f k a0) (impl_PortCounts.f (k + 1) a0):=by
 intro a0 k
 obtain ⟨ih0,ih1⟩:=impl_PortCounts.mono_l k
 unfold impl_PortCounts.f
 repeat' first
   | (with_reducible exact ih0 _ _ _)
   | (with_reducible exact ih1 _ _ _ _ _ _ _)
   | (with_reducible exact impl_IsValidContainers.mono _ _)
   | (with_reducible exact LeO.refl _)
   | (with_reducible exact LeO.none _)
   | (with_reducible refine LeO.ite ?_ ?_)
   | (with_reducible refine LeO.bind ?_ (fun _ => ?_))
   | exact ih0 _ _ _
   | exact ih1 _ _ _ _ _ _ _
   | exact impl_IsValidContainers.mono _ _
   | exact LeO.none _
   | refine LeO.ite ?_ ?_
   | refine LeO.bind ?_ (fun _ => ?_)
set_option maxHeartbeats 8000000 in
set_option maxRecDepth 100000 in
theorem impl_PortCounts.calls (k : Nat) (A0 : Option Addr) (c0 : Nat) (l0 : List (S89)) (r1 : List (S104)) (r2 : Bool) (w : World) (hr0 : Kd.C k89 w A0 l0.length l0) (hc0 : l0.length ≤ c0) (h : impl_PortCounts.f k l0 = some (r1,r2)) :
  Calls Try.prog 58 #[.slice A0 l0.length c0] w fun e w' => ∃ v0_ : Value,e = .returned (.tuple #[v0_,.bool r2]) ∧ Kd.R k104 104 w' w.heap.size (fun _ => True) v0_ r1 ∧ Below w.heap.size w w':=by
 have hu89:=Try.underlying89
 have hu104:=Try.underlying104
 have HR0:=Aside0.mk hr0
 have HC0:=Aside0.mk hc0
 clear hr0 hc0
 have HB:=Aside0.mk (Below.refl w.heap.size w)
 have H : ((impl_IsValidContainers.f k l0).bind fun t944 => (if t944 = true then (impl_PortCounts.l0 k l0 (([] : List (S104))) 1) else (some (([] : List (S104)),false)))) = some (r1,r2):=h
 clear h
 replace H:=Option.bind_eq_some_iff.mp H
 obtain ⟨t944,A20,H⟩:=H
 replace H : (if t944 = true then (impl_PortCounts.l0 k l0 (([] : List (S104))) 1) else (some (([] : List (S104)),false))) = some (r1,r2):=H
 have A2:=Aside0.mk A20
 clear A20
 by_cases c3 : t944 = true
 ·subst c3
  have H1 : (impl_PortCounts.l0 k l0 (([] : List (S104))) 1) = some (r1,r2):=by rw [if_pos rfl] at H; exact H
  clear H
  have H:=H1
  clear H1
  obtain ⟨y945,hy945⟩ : ∃ y_ : List (S104),y_ = (([] : List (S104))):=⟨_,rfl⟩
  replace H : (impl_PortCounts.l0 k l0 y945 1) = some (r1,r2):=by (rw [hy945]; with_reducible exact H)
  have Ny945:=Aside0.mk hy945
  clear hy945
  have H':=Aside0.mk H
  clear H
  go_enter Try.func58,Try.ntmps58
  go_wp2_with (first|((with_reducible refine gate_callee (f:=72) rfl ?_); refine goesL_ (some 10) rfl rfl Try.func72 (by kernel_rfl) rfl #[.slice A0 l0.length c0] rfl (by (try simp only [List.map_toArray,List.map_cons,List.map_nil]); (rfl)) ?_; (with_reducible refine (impl_IsValidContainers.calls k _ _ l0 true _ ?side1 ?side2 A2.out).mono ?_); (case side1 => repeat (exact HR0.out)); (case side2 => exact HC0.out); rintro e w4 ⟨rfl,hb⟩; refine ⟨_,rfl,?_⟩; have n0_:=Aside0.mk (below_step (by repeat (((with_reducible (exact HB.out))))) hb); clear HB; have HB:=n0_; clear n0_; (try clear hb); (try clear hb2); (try clear hk); (try clear hi))|((with_reducible refine gate_dst (N:=12) rfl ?_); refine Kd.R_lit k104 _ 104 ?hg (N:=12) ?hd (xs:=([] : List (S104))) (inner:=[]) (ok:=fun _ => True) (okp:=fun _ => True) ?hr ?hp (fun _ hk => hk) trivial (Below.refl _ _) (Nat.le_refl _) (by simp) ?_; (case hd => rfl); (case hg => rfl); (case hr => (go_simp; done)); (case hp => exact (Reps.none _ _)); intro v946 w5 ho6 hb hg_ hnew_; clear hg_ hnew_; (rw [← Ny945.out] at ho6); have n0_:=Aside0.mk (Kd.R_lower ho6 (below_size (by repeat (((with_reducible (exact HB.out))))))); have n1_:=Aside0.mk (below_step (by repeat (((with_reducible (exact HB.out))))) hb); clear HB; have HO947:=n0_; have HB:=n1_; clear n0_ n1_; clear hb ho6))
  go_loopg [4,5] k (fun kq v4 v5 w' => ∃ (x4_1 : List (S104)) (x5_1 : Int),v5 = .int .i64 x5_1 ∧ Aside0 (impl_PortCounts.l0 kq l0 x4_1 x5_1 = some (r1,r2)) ∧ Aside0 (kq ≤ k) ∧ Aside0 (Kd.R k104 104 w' w.heap.size (fun _ => True) v4 x4_1) ∧ Aside0 (Below w.heap.size w w'))
  case atStart => exact ⟨(y945),(1),(by (rfl)),H',⟨Nat.le_refl _⟩,⟨by exact HO947.out⟩,⟨by repeat (((with_reducible (exact HB.out))))⟩⟩
  case round =>
   clear H'
   try clear p2
   try clear c3
   try clear c5
   obtain ⟨x4_1,x5_1,rfl,HA,HK1,HO_4,HB⟩:=hrel
   cases gk with
   | zero => exact absurd HA.out (by simp [impl_PortCounts.l0])
   | succ k1 =>
    have H:=HA.out
    clear HA
    simp only [impl_PortCounts.l0] at H
    by_cases c7 : x5_1 ≤ 9
    ·rw [if_pos c7] at H
     have c7b0 : decide (x5_1 ≤ 9) = true:=decide_eq_true c7
     clear c7
     have H':=Aside0.mk H
     clear H
     go_wp2
     go_loopg [6,19] k1 (fun kq v6 v19 w' => ∃ (x6_2 : Int) (x19_2 : Int),v6 = .int .i64 x6_2 ∧ v19 = .int .i64 x19_2 ∧ Aside0 (impl_PortCounts.l1 kq l0 x4_1 x5_1 x6_2 l0 (l0.length : Int) x19_2 = some (r1,r2)) ∧ Aside0 (kq ≤ k1) ∧ Aside0 (Kd.R k104 104 w' w.heap.size (fun _ => True) u4 x4_1) ∧ Aside0 (Below w.heap.size w w'))
     case atStart => exact ⟨(0),(0),(by (rfl)),(by (rfl)),H',⟨Nat.le_refl _⟩,⟨by exact HO_4.out⟩,⟨by repeat (((with_reducible (exact HB.out))))⟩⟩
     case round =>
      clear H'
      try clear p2
      try clear c3
      try clear c5
      try clear c7
      try clear c7b0
      try clear p2
      obtain ⟨x6_2,x19_2,rfl,rfl,HA,HK2,HO_4,HB⟩:=hrel
      cases gk with
      | zero => exact absurd HA.out (by simp [impl_PortCounts.l1])
      | succ k2 =>
       have H:=HA.out
       clear HA
       simp only [impl_PortCounts.l1] at H
       by_cases c8 : x19_2 < (l0.length : Int)
       ·rw [if_pos c8] at H
        have c8b0 : decide (x19_2 < (l0.length : Int)) = true:=decide_eq_true c8
        clear c8
        by_cases c9 : 0 ≤ x19_2
        ·rw [if_pos c9] at H
         have c9b0 : decide (0 ≤ x19_2) = true:=decide_eq_true c9
         clear c9
         by_cases c10 : x19_2 < (l0.length : Int)
         ·rw [if_pos c10] at H
          have c10b0 : decide (x19_2 < (l0.length : Int)) = true:=decide_eq_true c10
          clear c10
          by_cases c11 : ((rd_T89 l0 x19_2).f4) = x5_1
          ·rw [if_pos c11] at H
           have c11b0 : (((rd_T89 l0 x19_2).f4) == x5_1) = true:=beq_iff_eq.mpr c11
           have c11b1 : (((rd_T89 l0 x19_2).f4) != x5_1) = false:=bne_eq_false_iff_eq.mpr c11
           clear c11
           have H':=Aside0.mk H
           clear H
           have p948 : 0 ≤ (x19_2 : Int):=of_decide_eq_true (by (with_reducible assumption))
           have q948 : x19_2 < (l0.length : Int):=of_decide_eq_true (by (with_reducible assumption))
           obtain ⟨ad948,e948,hx948_0,hx948_1,hx948_2,hx948_3,hx948_4⟩:=at_T89 HR0.out x19_2 p948 q948
           cases e948
           replace hx948_0:=(HB.out.cell (World.block_lt_of_cell? w _ hx948_0)).trans hx948_0
           replace hx948_1:=(HB.out.cell (World.block_lt_of_cell? w _ hx948_1)).trans hx948_1
           replace hx948_2:=(HB.out.cell (World.block_lt_of_cell? w _ hx948_2)).trans hx948_2
           replace hx948_3:=(HB.out.cell (World.block_lt_of_cell? w _ hx948_3)).trans hx948_3
           replace hx948_4:=(HB.out.cell (World.block_lt_of_cell? w _ hx948_4)).trans hx948_4
           replace p948:=eq_true p948
           replace q948:=eq_true q948
           go_wp2_with ((((with_reducible refine gate_dst (N:=8) rfl ?_); refine box_event ?hg (N:=8) ?hd (cs:=#[.string (⟨#[]⟩ : ByteArray),.int .i64 0,.int .i64 0,.int .i64 0,.int .i64 0]) (t:=89) ?hr ?_; (case hd => rfl); (case hg => rfl); (case hr => (go_simp; done)); intro gb949 hg w12 hbox hb; have n0_:=Aside0.mk (Kd.R_below (by exact HO_4.out) hb); have n1_:=Aside0.mk (below_step (by repeat (((with_reducible (exact HB.out))))) hb); have n2_:=Aside0.mk (hbox); have n3_:=Aside0.mk ((by rw [hg]; exact (below_size (by repeat (((with_reducible (exact HB.out)))))) : w.heap.size ≤ gb949)); have n4_:=Aside0.mk ((by rw [hg]; exact (below_size (by repeat (((with_reducible (exact HB.out)))))) : w.heap.size ≤ gb949)); clear HO_4; clear HB; have HO_4:=n0_; have HB:=n1_; have BK949:=n2_; have GW949:=n3_; have GE949:=n4_; clear n0_ n1_ n2_ n3_ n4_; clear hb hbox hg; have hcz13_0 : w12.cell? ⟨gb949,0,none⟩ = some (.string (⟨#[]⟩ : ByteArray)):=(blk_cell BK949.out 0).trans rfl; have hcz13_1 : w12.cell? ⟨gb949,1,none⟩ = some (.int .i64 0):=(blk_cell BK949.out 1).trans rfl; have hcz13_2 : w12.cell? ⟨gb949,2,none⟩ = some (.int .i64 0):=(blk_cell BK949.out 2).trans rfl; have hcz13_3 : w12.cell? ⟨gb949,3,none⟩ = some (.int .i64 0):=(blk_cell BK949.out 3).trans rfl; have hcz13_4 : w12.cell? ⟨gb949,4,none⟩ = some (.int .i64 0):=(blk_cell BK949.out 4).trans rfl; have hfz13_0:=blk_frozen BK949.out 0; have hfz13_1:=blk_frozen BK949.out 1; have hfz13_2:=blk_frozen BK949.out 2; have hfz13_3:=blk_frozen BK949.out 3; have hfz13_4:=blk_frozen BK949.out 4)))
           go_roundg k2
           case measure => have:=HK1.out; have:=HK2.out; omega
           case rel => exact ⟨(wrap64 (x6_2 + 1)),(wrap64 (x19_2 + 1)),(by (rfl)),(by (rfl)),H',⟨by have:=HK1.out; have:=HK2.out; omega⟩,⟨by exact Kd.R_mono (Kd.R_far (p:=⟨gb949,4,none⟩) (Kd.R_far (p:=⟨gb949,3,none⟩) (Kd.R_far (p:=⟨gb949,2,none⟩) (Kd.R_far (p:=⟨gb949,1,none⟩) (Kd.R_far (p:=⟨gb949,0,none⟩) (Kd.R_types HO_4.out BK949.out (by decide)) (fun _ hk => hk.2) (.string ((rd_T89 l0 x19_2).f0))) (fun _ hk => hk.2) (.int .i64 ((rd_T89 l0 x19_2).f1))) (fun _ hk => hk.2) (.int .i64 ((rd_T89 l0 x19_2).f2))) (fun _ hk => hk.2) (.int .i64 ((rd_T89 l0 x19_2).f3))) (fun _ hk => hk.2) (.int .i64 ((rd_T89 l0 x19_2).f4))) (fun _ hk => trivial)⟩,⟨by repeat (with_reducible first|exact HB.out|refine below_set ?_ GE949.out)⟩⟩
          ·rw [if_neg c11] at H
           have c11b0 : (((rd_T89 l0 x19_2).f4) == x5_1) = false:=beq_eq_false_iff_ne.mpr c11
           have c11b1 : (((rd_T89 l0 x19_2).f4) != x5_1) = true:=bne_iff_ne.mpr c11
           have H':=Aside0.mk H
           clear H
           have p948 : 0 ≤ (x19_2 : Int):=of_decide_eq_true (by (with_reducible assumption))
           have q948 : x19_2 < (l0.length : Int):=of_decide_eq_true (by (with_reducible assumption))
           obtain ⟨ad948,e948,hx948_0,hx948_1,hx948_2,hx948_3,hx948_4⟩:=at_T89 HR0.out x19_2 p948 q948
           cases e948
           replace hx948_0:=(HB.out.cell (World.block_lt_of_cell? w _ hx948_0)).trans hx948_0
           replace hx948_1:=(HB.out.cell (World.block_lt_of_cell? w _ hx948_1)).trans hx948_1
           replace hx948_2:=(HB.out.cell (World.block_lt_of_cell? w _ hx948_2)).trans hx948_2
           replace hx948_3:=(HB.out.cell (World.block_lt_of_cell? w _ hx948_3)).trans hx948_3
           replace hx948_4:=(HB.out.cell (World.block_lt_of_cell? w _ hx948_4)).trans hx948_4
           replace p948:=eq_true p948
           replace q948:=eq_true q948
           go_wp2_with ((((with_reducible refine gate_dst (N:=8) rfl ?_); refine box_event ?hg (N:=8) ?hd (cs:=#[.string (⟨#[]⟩ : ByteArray),.int .i64 0,.int .i64 0,.int .i64 0,.int .i64 0]) (t:=89) ?hr ?_; (case hd => rfl); (case hg => rfl); (case hr => (go_simp; done)); intro gb949 hg w14 hbox hb; have n0_:=Aside0.mk (Kd.R_below (by exact HO_4.out) hb); have n1_:=Aside0.mk (below_step (by repeat (((with_reducible (exact HB.out))))) hb); have n2_:=Aside0.mk (hbox); have n3_:=Aside0.mk ((by rw [hg]; exact (below_size (by repeat (((with_reducible (exact HB.out)))))) : w.heap.size ≤ gb949)); have n4_:=Aside0.mk ((by rw [hg]; exact (below_size (by repeat (((with_reducible (exact HB.out)))))) : w.heap.size ≤ gb949)); clear HO_4; clear HB; have HO_4:=n0_; have HB:=n1_; have BK949:=n2_; have GW949:=n3_; have GE949:=n4_; clear n0_ n1_ n2_ n3_ n4_; clear hb hbox hg; have hcz15_0 : w14.cell? ⟨gb949,0,none⟩ = some (.string (⟨#[]⟩ : ByteArray)):=(blk_cell BK949.out 0).trans rfl; have hcz15_1 : w14.cell? ⟨gb949,1,none⟩ = some (.int .i64 0):=(blk_cell BK949.out 1).trans rfl; have hcz15_2 : w14.cell? ⟨gb949,2,none⟩ = some (.int .i64 0):=(blk_cell BK949.out 2).trans rfl; have hcz15_3 : w14.cell? ⟨gb949,3,none⟩ = some (.int .i64 0):=(blk_cell BK949.out 3).trans rfl; have hcz15_4 : w14.cell? ⟨gb949,4,none⟩ = some (.int .i64 0):=(blk_cell BK949.out 4).trans rfl; have hfz15_0:=blk_frozen BK949.out 0; have hfz15_1:=blk_frozen BK949.out 1; have hfz15_2:=blk_frozen BK949.out 2; have hfz15_3:=blk_frozen BK949.out 3; have hfz15_4:=blk_frozen BK949.out 4)))
           go_roundg k2
           case measure => have:=HK1.out; have:=HK2.out; omega
           case rel => exact ⟨(x6_2),(wrap64 (x19_2 + 1)),(by (rfl)),(by (rfl)),H',⟨by have:=HK1.out; have:=HK2.out; omega⟩,⟨by exact Kd.R_mono (Kd.R_far (p:=⟨gb949,4,none⟩) (Kd.R_far (p:=⟨gb949,3,none⟩) (Kd.R_far (p:=⟨gb949,2,none⟩) (Kd.R_far (p:=⟨gb949,1,none⟩) (Kd.R_far (p:=⟨gb949,0,none⟩) (Kd.R_types HO_4.out BK949.out (by decide)) (fun _ hk => hk.2) (.string ((rd_T89 l0 x19_2).f0))) (fun _ hk => hk.2) (.int .i64 ((rd_T89 l0 x19_2).f1))) (fun _ hk => hk.2) (.int .i64 ((rd_T89 l0 x19_2).f2))) (fun _ hk => hk.2) (.int .i64 ((rd_T89 l0 x19_2).f3))) (fun _ hk => hk.2) (.int .i64 ((rd_T89 l0 x19_2).f4))) (fun _ hk => trivial)⟩,⟨by repeat (with_reducible first|exact HB.out|refine below_set ?_ GE949.out)⟩⟩
         ·rw [if_neg c10] at H
          exact absurd H (by simp)
        ·rw [if_neg c9] at H
         exact absurd H (by simp)
       ·rw [if_neg c8] at H
        have c8b0 : decide (x19_2 < (l0.length : Int)) = false:=decide_eq_false c8
        clear c8
        by_cases c16 : x6_2 > 0
        ·rw [if_pos c16] at H
         have c16b0 : decide (0 < x6_2) = true:=decide_eq_true c16
         clear c16
         by_cases c17 : x4_1.length < 8796093022208
         ·rw [if_pos c17] at H
          have LMc17:=Aside0.mk c17
          clear c17
          obtain ⟨y950,hy950⟩ : ∃ y_ : List (S104),y_ = (x4_1 ++ [(⟨x5_1,x6_2⟩ : S104)]):=⟨_,rfl⟩
          replace H : (impl_PortCounts.l0 k2 l0 y950 (wrap64 (x5_1 + 1))) = some (r1,r2):=by (rw [hy950]; with_reducible exact H)
          have Ny950:=Aside0.mk hy950
          clear hy950
          have H':=Aside0.mk H
          clear H
          go_wp2_with ((((with_reducible refine gate_builtin (b:=.append) (xs:=#[.tmp 32,.tmp 36]) rfl ?_); at_builtin; refine Kd.R_append k104 (w0:=w) w.heap.size rfl (.tmp 32) (.tmp 36) 71 104 (.agg #[(.int .i64 0),(.int .i64 0)]) 16 rfl Try.underlying71 info104 rfl (by decide) (by omega) u4 x4_1 (⟨x5_1,x6_2⟩ : S104) [.int .i64 x5_1,.int .i64 x6_2] (fun _ => True) (fun _ => False) rfl rfl ?aP (fun _ hk => hk.elim) ?aF ?aO ?aB ?aS ?aL ?_; (case aP => exact k104_mkM _ _ _ (⟨x5_1,x6_2⟩ : S104)); (case aB => exact (by repeat (((with_reducible (exact HB.out)))))); (case aF => exact (fun _ _ => trivial)); (case aO => exact (by exact HO_4.out)); (case aS => exact (below_size (by repeat (((with_reducible (exact HB.out))))))); (case aL => have:=LMc17.out; omega); intro v951 w18 ho hb hg hat; rw [← Ny950.out] at ho; have n0_:=Aside0.mk (hb); have n1_:=Aside0.mk (ho); clear HB; clear HO_4; have HB:=n0_; have HO952:=n1_; clear n0_ n1_; clear ho hb hg hat)))
          go_roundg k2
          case measure => have:=HK1.out; have:=HK2.out; omega
          case rel => exact ⟨(y950),(wrap64 (x5_1 + 1)),(by (rfl)),H',⟨by have:=HK1.out; have:=HK2.out; omega⟩,⟨by exact HO952.out⟩,⟨by repeat (((with_reducible (exact HB.out))))⟩⟩
         ·rw [if_neg c17] at H
          exact absurd H (by simp)
        ·rw [if_neg c16] at H
         have c16b0 : decide (0 < x6_2) = false:=decide_eq_false c16
         clear c16
         have H':=Aside0.mk H
         clear H
         go_wp2
         go_roundg k2
         case measure => have:=HK1.out; have:=HK2.out; omega
         case rel => exact ⟨(x4_1),(wrap64 (x5_1 + 1)),(by (rfl)),H',⟨by have:=HK1.out; have:=HK2.out; omega⟩,⟨by exact HO_4.out⟩,⟨by repeat (((with_reducible (exact HB.out))))⟩⟩
    ·rw [if_neg c7] at H
     have c7b0 : decide (x5_1 ≤ 9) = false:=decide_eq_false c7
     clear c7
     simp only [Option.some.injEq,Prod.mk.injEq] at H
     obtain ⟨rfl,rfl⟩:=H
     go_wp2
     go_ret2
     exact ⟨_,by (rfl),by exact HO_4.out,by repeat (((with_reducible (exact HB.out))))⟩
 ·replace c3:=Bool.eq_false_iff.mpr c3
  subst c3
  have H1 : (some (([] : List (S104)),false)) = some (r1,r2):=by rw [if_neg (show ¬ (false = true) by decide)] at H; exact H
  clear H
  have H:=H1
  clear H1
  simp only [Option.some.injEq,Prod.mk.injEq] at H
  obtain ⟨rfl,rfl⟩:=H
  go_enter Try.func58,Try.ntmps58
  go_wp2_with ((((with_reducible refine gate_callee (f:=72) rfl ?_); refine goesL_ (some 10) rfl rfl Try.func72 (by kernel_rfl) rfl #[.slice A0 l0.length c0] rfl (by (try simp only [List.map_toArray,List.map_cons,List.map_nil]); (rfl)) ?_; (with_reducible refine (impl_IsValidContainers.calls k _ _ l0 false _ ?side1 ?side2 A2.out).mono ?_); (case side1 => repeat (exact HR0.out)); (case side2 => exact HC0.out); rintro e w19 ⟨rfl,hb⟩; refine ⟨_,rfl,?_⟩; have n0_:=Aside0.mk (below_step (by repeat (((with_reducible (exact HB.out))))) hb); clear HB; have HB:=n0_; clear n0_; (try clear hb); (try clear hb2); (try clear hk); (try clear hi))))
  go_ret2
  exact ⟨_,by (rfl),by (exact Kd.R_nil _ _ _ _ _),by repeat (((with_reducible (exact HB.out))))⟩

end Go.Proofs.Ytlldonokjgoajaa.X
