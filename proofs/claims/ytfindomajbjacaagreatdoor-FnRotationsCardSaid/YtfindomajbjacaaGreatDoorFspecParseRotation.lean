-- Written by a program of ours (wip/bin/xprint.py,over the kit's print.py) out of the translation. Not trusted: Lean checks it.
import Derived.Test.YtfindomajbjacaaGreatDoorX0
import Derived.Test.YtfindomajbjacaaGreatDoorFspecl1Read
import Derived.Test.YtfindomajbjacaaGreatDoorFspecl1Split
import Derived.Test.YtfindomajbjacaaGreatDoorGl3Good
namespace Go.Proofs.YtfindomajbjacaaGreatDoor.X
open Go.RowKit Go.Proofs.YtfindomajbjacaaGreatDoorW.PrintWords Go.Proofs.YtfindomajbjacaaGreatDoorW.PrintLast Go.Proofs.YtfindomajbjacaaGreatDoorW.PrintMore
attribute [local go_sem] max2_int min2_int max_two min_two max_three min_three max_four min_four   -- for this text's walks alone
set_option linter.unusedVariables false
set_option linter.unusedSimpArgs false

/-! ### spec_ParseRotation: function 19 -/
def spec_ParseRotation.l0 : Nat → List ByteArray → Int → List Int → List Int → Option (List Int × List Int × Bool)
 | 0,_,_,_,_ => none
 | k + 1,x5,x6,x508000,x508001 => if x6 < (x5.length : Int) then (if 0 ≤ x6 then ((spec_l1Split.f k (rdOf ByteArray.empty x5 x6) 58).bind fun t513 => (if (t513.length : Int) = 2 then (if 0 < (t513.length : Int) then ((spec_l1Read.f k (rdOf ByteArray.empty t513 0)).bind fun bt517 => (if 1 < (t513.length : Int) then ((spec_l1Read.f k (rdOf ByteArray.empty t513 1)).bind fun bt520 => (if bt517.2 = true then (if bt520.2 = true then (if x508000.length < 17592186044416 then (if x508001.length < 17592186044416 then (spec_ParseRotation.l0 k x5 (wrap64 (x6 + 1)) (x508000 ++ [bt517.1]) (x508001 ++ [bt520.1])) else (none)) else (none)) else (some (([] : List Int),([] : List Int),false))) else (some (([] : List Int),([] : List Int),false)))) else (none))) else (none)) else (some (([] : List Int),([] : List Int),false)))) else (none)) else ((spec_l3Good.f k x508000 x508001).bind fun t511 => (if t511 = true then (some (x508000,x508001,true)) else (some (([] : List Int),([] : List Int),false))))
def spec_ParseRotation.f (k : Nat) (a0 : ByteArray) : Option (List Int × List Int × Bool):=if (a0.size : Int) > 100 then (some (([] : List Int),([] : List Int),false)) else ((spec_l1Split.f k a0 32).bind fun t508 => (spec_ParseRotation.l0 k t508 0 ([] : List Int) ([] : List Int)))
theorem spec_ParseRotation.mono_l : ∀ k,(∀ y0 y1 y2 y3,LeO (spec_ParseRotation.l0 k y0 y1 y2 y3) (spec_ParseRotation.l0 (k + 1) y0 y1 y2 y3))
 | 0 => fun _ _ _ _ r h => by simp [spec_ParseRotation.l0] at h
 | k + 1 => by
  have ih0:=spec_ParseRotation.mono_l k
  ·intro y0 y1 y2 y3
   unfold spec_ParseRotation.l0
   repeat' first
   | (with_reducible exact ih0 _ _ _ _)
   | (with_reducible exact spec_l1Read.mono _ _)
   | (with_reducible exact spec_l1Split.mono _ _ _)
   | (with_reducible exact spec_l3Good.mono _ _ _)
   | (with_reducible exact LeO.refl _)
   | (with_reducible exact LeO.none _)
   | (with_reducible refine LeO.ite ?_ ?_)
   | (with_reducible refine LeO.bind ?_ (fun _ => ?_))
   | exact ih0 _ _ _ _
   | exact spec_l1Read.mono _ _
   | exact spec_l1Split.mono _ _ _
   | exact spec_l3Good.mono _ _ _
   | exact LeO.none _
   | refine LeO.ite ?_ ?_
   | refine LeO.bind ?_ (fun _ => ?_)
theorem spec_ParseRotation.mono : ∀ a0 k,LeO (spec_ParseRotation.f k a0) (spec_ParseRotation.f (k + 1) a0):=by
 intro a0 k
 have ih0:=spec_ParseRotation.mono_l k
 unfold spec_ParseRotation.f
 repeat' first
   | (with_reducible exact ih0 _ _ _ _)
   | (with_reducible exact spec_l1Read.mono _ _)
   | (with_reducible exact spec_l1Split.mono _ _ _)
   | (with_reducible exact spec_l3Good.mono _ _ _)
   | (with_reducible exact LeO.refl _)
   | (with_reducible exact LeO.none _)
   | (with_reducible refine LeO.ite ?_ ?_)
   | (with_reducible refine LeO.bind ?_ (fun _ => ?_))
   | exact ih0 _ _ _ _
   | exact spec_l1Read.mono _ _
   | exact spec_l1Split.mono _ _ _
   | exact spec_l3Good.mono _ _ _
   | exact LeO.none _
   | refine LeO.ite ?_ ?_
   | refine LeO.bind ?_ (fun _ => ?_)
set_option maxHeartbeats 8000000 in
set_option maxRecDepth 100000 in
theorem spec_ParseRotation.calls (k : Nat) (a0 : ByteArray) (r1 : List Int) (r2 : List Int) (r3 : Bool) (w : World) (h : spec_ParseRotation.f k a0 = some (r1,r2,r3)) :
  Calls Tryz.prog 19 #[.string a0] w fun e w' => ∃ v0_ v1_ : Value,e = .returned (.tuple #[.agg #[v0_,v1_],.bool r3]) ∧ Kd.R (Kd.int .i64) 3 w' w.heap.size (fun k_ => some k_ ≠ (v1_ : Value).ownBlock) v0_ r1 ∧ Kd.R (Kd.int .i64) 3 w' w.heap.size (fun k_ => some k_ ≠ (v0_ : Value).ownBlock) v1_ r2 ∧ Below w.heap.size w w':=by
 have hu26:=Tryz.underlying26
 have HB:=Aside0.mk (Below.refl w.heap.size w)
 have H : (if (a0.size : Int) > 100 then (some (([] : List Int),([] : List Int),false)) else ((spec_l1Split.f k a0 32).bind fun t508 => (spec_ParseRotation.l0 k t508 0 ([] : List Int) ([] : List Int)))) = some (r1,r2,r3):=h
 clear h
 by_cases c2 : (a0.size : Int) > 100
 ·rw [if_pos c2] at H
  have c2b0 : decide (100 < (a0.size : Int)) = true:=decide_eq_true c2
  have c2b1 : decide (100 < a0.size) = true:=decide_eq_true (by omega)
  clear c2
  simp only [Option.some.injEq,Prod.mk.injEq] at H
  obtain ⟨rfl,rfl,rfl⟩:=H
  go_enter Tryz.func19,Tryz.ntmps19
  go_wp2_with (first|((with_reducible refine gate_dst (N:=2) rfl ?_); refine box_event ?hg (N:=2) ?hd (cs:=#[.slice none 0 0,.slice none 0 0]) (t:=26) ?hr ?_; (case hd => rfl); (case hg => rfl); (case hr => (go_simp; done)); intro gb506 hg w3 hbox hb; have n0_:=Aside0.mk (below_step (by repeat (((with_reducible (exact HB.out))))) hb); have n1_:=Aside0.mk (hbox); have n2_:=Aside0.mk ((by rw [hg]; exact (below_size (by repeat (((with_reducible (exact HB.out)))))) : w.heap.size ≤ gb506)); have n3_:=Aside0.mk ((by rw [hg]; exact (below_size (by repeat (((with_reducible (exact HB.out)))))) : w.heap.size ≤ gb506)); clear HB; have HB:=n0_; have BK506:=n1_; have GW506:=n2_; have GE506:=n3_; clear n0_ n1_ n2_ n3_; clear hb hbox hg)|((with_reducible refine gate_dst (N:=4) rfl ?_); refine box_event ?hg (N:=4) ?hd (cs:=#[.slice none 0 0,.slice none 0 0]) (t:=26) ?hr ?_; (case hd => rfl); (case hg => rfl); (case hr => (go_simp; done)); intro gb507 hg w4 hbox hb; have n0_:=Aside0.mk (blk_below (g:=gb506) (o:=.cells #[.slice none 0 0,.slice none 0 0] 26 (0,0)) (by exact BK506.out) hb); have n1_:=Aside0.mk (below_step (by repeat (((with_reducible (exact HB.out))))) hb); have n2_:=Aside0.mk (hbox); have n3_:=Aside0.mk ((by rw [hg]; exact (below_size (by repeat (((with_reducible (exact HB.out)))))) : w.heap.size ≤ gb507)); have n4_:=Aside0.mk ((by rw [hg]; exact (below_size (by repeat (((with_reducible (exact HB.out)))))) : w.heap.size ≤ gb507)); have n5_:=Aside0.mk ((by rw [hg]; exact Nat.ne_of_lt (blk_lt (g:=gb506) (o:=.cells #[.slice none 0 0,.slice none 0 0] 26 (0,0)) (by exact BK506.out)) : gb506 ≠ gb507)); have n6_:=Aside0.mk ((by rw [hg]; exact Nat.ne_of_gt (blk_lt (g:=gb506) (o:=.cells #[.slice none 0 0,.slice none 0 0] 26 (0,0)) (by exact BK506.out)) : gb507 ≠ gb506)); clear BK506; clear HB; have BK506:=n0_; have HB:=n1_; have BK507:=n2_; have GW507:=n3_; have GE507:=n4_; have NB506_507:=n5_; have NB507_506:=n6_; clear n0_ n1_ n2_ n3_ n4_ n5_ n6_; clear hb hbox hg; have hnb5:=NB507_506.out; have hnc5:=NB506_507.out; have hcz6_0 : w4.cell? ⟨gb507,0,none⟩ = some (.slice none 0 0):=(blk_cell BK507.out 0).trans rfl; have hcz6_1 : w4.cell? ⟨gb507,1,none⟩ = some (.slice none 0 0):=(blk_cell BK507.out 1).trans rfl; have hfz6_0:=blk_frozen BK507.out 0; have hfz6_1:=blk_frozen BK507.out 1; have hcz7_0 : w4.cell? ⟨gb506,0,none⟩ = some (.slice none 0 0):=(blk_cell BK506.out 0).trans rfl; have hcz7_1 : w4.cell? ⟨gb506,1,none⟩ = some (.slice none 0 0):=(blk_cell BK506.out 1).trans rfl; have hfz7_0:=blk_frozen BK506.out 0; have hfz7_1:=blk_frozen BK506.out 1))
  refine bodyPost_ret (results_ct rfl _ _ gb506 26 #[.slice none 0 0,.slice none 0 0] (0,0) _ rfl (by refine blk_put (cs:=#[.slice none 0 0,.slice none 0 0]) ?_ 1 _ rfl; refine blk_put (cs:=#[.slice none 0 0,.slice none 0 0]) ?_ 0 _ rfl; refine blk_far ?_ NB506_507.out _; refine blk_far ?_ NB506_507.out _; exact BK506.out) Tryz.underlying26 rfl (by kernel_rfl)) rfl ?_
  exact ⟨_,_,by (rfl),by (exact Kd.R_nil _ _ _ _ _),by (exact Kd.R_nil _ _ _ _ _),by repeat (with_reducible first|exact HB.out|refine below_set ?_ GE506.out|refine below_set ?_ GE507.out)⟩
 ·rw [if_neg c2] at H
  have c2b0 : decide (100 < (a0.size : Int)) = false:=decide_eq_false c2
  have c2b1 : decide (100 < a0.size) = false:=decide_eq_false (by omega)
  clear c2
  replace H:=Option.bind_eq_some_iff.mp H
  obtain ⟨t508,A80,H⟩:=H
  replace H : (spec_ParseRotation.l0 k t508 0 ([] : List Int) ([] : List Int)) = some (r1,r2,r3):=H
  have A8:=Aside0.mk A80
  clear A80
  have H':=Aside0.mk H
  clear H
  go_enter Tryz.func19,Tryz.ntmps19
  go_wp2_with (first|((with_reducible refine gate_dst (N:=2) rfl ?_); refine box_event ?hg (N:=2) ?hd (cs:=#[.slice none 0 0,.slice none 0 0]) (t:=26) ?hr ?_; (case hd => rfl); (case hg => rfl); (case hr => (go_simp; done)); intro gb506 hg w9 hbox hb; have n0_:=Aside0.mk (below_step (by repeat (((with_reducible (exact HB.out))))) hb); have n1_:=Aside0.mk (hbox); have n2_:=Aside0.mk ((by rw [hg]; exact (below_size (by repeat (((with_reducible (exact HB.out)))))) : w.heap.size ≤ gb506)); have n3_:=Aside0.mk ((by rw [hg]; exact (below_size (by repeat (((with_reducible (exact HB.out)))))) : w.heap.size ≤ gb506)); clear HB; have HB:=n0_; have BK506:=n1_; have GW506:=n2_; have GE506:=n3_; clear n0_ n1_ n2_ n3_; clear hb hbox hg)|((with_reducible refine gate_dst (N:=4) rfl ?_); refine box_event ?hg (N:=4) ?hd (cs:=#[.slice none 0 0,.slice none 0 0]) (t:=26) ?hr ?_; (case hd => rfl); (case hg => rfl); (case hr => (go_simp; done)); intro gb507 hg w10 hbox hb; have n0_:=Aside0.mk (blk_below (g:=gb506) (o:=.cells #[.slice none 0 0,.slice none 0 0] 26 (0,0)) (by exact BK506.out) hb); have n1_:=Aside0.mk (below_step (by repeat (((with_reducible (exact HB.out))))) hb); have n2_:=Aside0.mk (hbox); have n3_:=Aside0.mk ((by rw [hg]; exact (below_size (by repeat (((with_reducible (exact HB.out)))))) : w.heap.size ≤ gb507)); have n4_:=Aside0.mk ((by rw [hg]; exact (below_size (by repeat (((with_reducible (exact HB.out)))))) : w.heap.size ≤ gb507)); have n5_:=Aside0.mk ((by rw [hg]; exact Nat.ne_of_lt (blk_lt (g:=gb506) (o:=.cells #[.slice none 0 0,.slice none 0 0] 26 (0,0)) (by exact BK506.out)) : gb506 ≠ gb507)); have n6_:=Aside0.mk ((by rw [hg]; exact Nat.ne_of_gt (blk_lt (g:=gb506) (o:=.cells #[.slice none 0 0,.slice none 0 0] 26 (0,0)) (by exact BK506.out)) : gb507 ≠ gb506)); clear BK506; clear HB; have BK506:=n0_; have HB:=n1_; have BK507:=n2_; have GW507:=n3_; have GE507:=n4_; have NB506_507:=n5_; have NB507_506:=n6_; clear n0_ n1_ n2_ n3_ n4_ n5_ n6_; clear hb hbox hg; have hnb11:=NB507_506.out; have hnc11:=NB506_507.out; have hcz12_0 : w10.cell? ⟨gb507,0,none⟩ = some (.slice none 0 0):=(blk_cell BK507.out 0).trans rfl; have hcz12_1 : w10.cell? ⟨gb507,1,none⟩ = some (.slice none 0 0):=(blk_cell BK507.out 1).trans rfl; have hfz12_0:=blk_frozen BK507.out 0; have hfz12_1:=blk_frozen BK507.out 1)|((with_reducible refine gate_callee (f:=52) rfl ?_); refine goesL_ (some 18) rfl rfl Tryz.func52 (by kernel_rfl) rfl #[.string a0,.int .u8 32] rfl (by (try simp only [List.map_toArray,List.map_cons,List.map_nil]); (rfl)) ?_; (with_reducible refine (spec_l1Split.calls k a0 32 t508 _ A8.out).mono ?_); rintro e w13 ⟨v509,rfl,ho0,hb⟩; refine ⟨_,rfl,?_⟩; have n0_:=Aside0.mk (Kd.R_lower ho0 (below_size (by repeat (with_reducible first|exact HB.out|refine below_set ?_ GE507.out)))); have n1_:=Aside0.mk (blk_below (g:=gb506) (o:=.cells #[.slice none 0 0,.slice none 0 0] 26 (0,0)) (by refine blk_far ?_ NB506_507.out _; refine blk_far ?_ NB506_507.out _; exact BK506.out) hb); have n2_:=Aside0.mk (blk_below (g:=gb507) (o:=.cells #[.slice none 0 0,.slice none 0 0] 26 (0,0)) (by refine blk_put (cs:=#[.slice none 0 0,.slice none 0 0]) ?_ 1 _ rfl; refine blk_put (cs:=#[.slice none 0 0,.slice none 0 0]) ?_ 0 _ rfl; exact BK507.out) hb); have n3_:=Aside0.mk (below_step (by repeat (with_reducible first|exact HB.out|refine below_set ?_ GE507.out)) hb); clear BK506; clear BK507; clear HB; have HO510:=n0_; have BK506:=n1_; have BK507:=n2_; have HB:=n3_; clear n0_ n1_ n2_ n3_; (try clear hb); (try clear hb2); (try clear hk); (try clear hi); (try clear ho0)))
  go_loopg [6] k (fun kq v6 w' => ∃ (x6_1 : Int) (x508000_1 : List Int) (x508001_1 : List Int) (u508000 : Value) (u508001 : Value),v6 = .int .i64 x6_1 ∧ Aside0 (spec_ParseRotation.l0 kq t508 x6_1 x508000_1 x508001_1 = some (r1,r2,r3)) ∧ Aside0 (kq ≤ k) ∧ Aside0 (Kd.R Kd.string 9 w' w.heap.size (fun _ => True) v509 t508) ∧ Aside0 (Kd.R (Kd.int .i64) 3 w' w.heap.size (fun k_ => some k_ ≠ (u508001 : Value).ownBlock) u508000 x508000_1) ∧ Aside0 (Kd.R (Kd.int .i64) 3 w' w.heap.size (fun k_ => some k_ ≠ (u508000 : Value).ownBlock) u508001 x508001_1) ∧ Aside0 (w'.heap[gb506]? = some (.cells #[(.slice none 0 0),(.slice none 0 0)] 26 (0,0))) ∧ Aside0 (w'.heap[gb507]? = some (.cells #[u508000,u508001] 26 (0,0))) ∧ Aside0 (Below w.heap.size w w'))
  case atStart => exact ⟨(0),([] : List Int),([] : List Int),(.slice none 0 0),(.slice none 0 0),(by (rfl)),H',⟨Nat.le_refl _⟩,⟨by exact HO510.out⟩,⟨by (exact Kd.R_nil _ _ _ _ _)⟩,⟨by (exact Kd.R_nil _ _ _ _ _)⟩,⟨by exact BK506.out⟩,⟨by exact BK507.out⟩,⟨by repeat (((with_reducible (exact HB.out))))⟩⟩
  case round =>
   clear H'
   try clear c1
   try clear c2
   try clear c2b0
   try clear c2b1
   try clear p2
   try clear c5
   try clear c11
   try clear hcz12_0
   try clear hcz12_1
   try clear hcz6_0
   try clear hcz6_1
   try clear hcz7_0
   try clear hcz7_1
   try clear hfz12_0
   try clear hfz12_1
   try clear hfz6_0
   try clear hfz6_1
   try clear hfz7_0
   try clear hfz7_1
   obtain ⟨x6_1,x508000_1,x508001_1,u508000,u508001,rfl,HA,HK1,HO_5,HO_508000,HO_508001,BK506,BK507,HB⟩:=hrel
   cases gk with
   | zero => exact absurd HA.out (by simp [spec_ParseRotation.l0])
   | succ k1 =>
    have H:=HA.out
    clear HA
    simp only [spec_ParseRotation.l0] at H
    by_cases c14 : x6_1 < (t508.length : Int)
    ·rw [if_pos c14] at H
     have c14b0 : decide (x6_1 < (t508.length : Int)) = true:=decide_eq_true c14
     clear c14
     by_cases c15 : 0 ≤ x6_1
     ·rw [if_pos c15] at H
      have c15b0 : decide (0 ≤ x6_1) = true:=decide_eq_true c15
      clear c15
      replace H:=Option.bind_eq_some_iff.mp H
      obtain ⟨t513,A160,H⟩:=H
      replace H : (if (t513.length : Int) = 2 then (if 0 < (t513.length : Int) then ((spec_l1Read.f k1 (rdOf ByteArray.empty t513 0)).bind fun bt517 => (if 1 < (t513.length : Int) then ((spec_l1Read.f k1 (rdOf ByteArray.empty t513 1)).bind fun bt520 => (if bt517.2 = true then (if bt520.2 = true then (if x508000_1.length < 17592186044416 then (if x508001_1.length < 17592186044416 then (spec_ParseRotation.l0 k1 t508 (wrap64 (x6_1 + 1)) (x508000_1 ++ [bt517.1]) (x508001_1 ++ [bt520.1])) else (none)) else (none)) else (some (([] : List Int),([] : List Int),false))) else (some (([] : List Int),([] : List Int),false)))) else (none))) else (none)) else (some (([] : List Int),([] : List Int),false))) = some (r1,r2,r3):=H
      have A16:=Aside0.mk A160
      clear A160
      by_cases c17 : (t513.length : Int) = 2
      ·rw [if_pos c17] at H
       have c17b0 : ((t513.length : Int) == 2) = true:=beq_iff_eq.mpr c17
       have c17b1 : ((t513.length : Int) != 2) = false:=bne_eq_false_iff_eq.mpr c17
       clear c17
       by_cases c18 : 0 < (t513.length : Int)
       ·rw [if_pos c18] at H
        have c18b0 : decide (0 < (t513.length : Int)) = true:=decide_eq_true c18
        have c18b1 : decide (0 < t513.length) = true:=decide_eq_true (by omega)
        clear c18
        replace H:=Option.bind_eq_some_iff.mp H
        obtain ⟨⟨t517,t518⟩,A190,H⟩:=H
        replace H : (if 1 < (t513.length : Int) then ((spec_l1Read.f k1 (rdOf ByteArray.empty t513 1)).bind fun bt520 => (if t518 = true then (if bt520.2 = true then (if x508000_1.length < 17592186044416 then (if x508001_1.length < 17592186044416 then (spec_ParseRotation.l0 k1 t508 (wrap64 (x6_1 + 1)) (x508000_1 ++ [t517]) (x508001_1 ++ [bt520.1])) else (none)) else (none)) else (some (([] : List Int),([] : List Int),false))) else (some (([] : List Int),([] : List Int),false)))) else (none)) = some (r1,r2,r3):=H
        have A19:=Aside0.mk A190
        clear A190
        by_cases c20 : 1 < (t513.length : Int)
        ·rw [if_pos c20] at H
         have c20b0 : decide (1 < (t513.length : Int)) = true:=decide_eq_true c20
         have c20b1 : decide (1 < t513.length) = true:=decide_eq_true (by omega)
         clear c20
         replace H:=Option.bind_eq_some_iff.mp H
         obtain ⟨⟨t520,t521⟩,A210,H⟩:=H
         replace H : (if t518 = true then (if t521 = true then (if x508000_1.length < 17592186044416 then (if x508001_1.length < 17592186044416 then (spec_ParseRotation.l0 k1 t508 (wrap64 (x6_1 + 1)) (x508000_1 ++ [t517]) (x508001_1 ++ [t520])) else (none)) else (none)) else (some (([] : List Int),([] : List Int),false))) else (some (([] : List Int),([] : List Int),false))) = some (r1,r2,r3):=H
         have A21:=Aside0.mk A210
         clear A210
         by_cases c22 : t518 = true
         ·subst c22
          have H1 : (if t521 = true then (if x508000_1.length < 17592186044416 then (if x508001_1.length < 17592186044416 then (spec_ParseRotation.l0 k1 t508 (wrap64 (x6_1 + 1)) (x508000_1 ++ [t517]) (x508001_1 ++ [t520])) else (none)) else (none)) else (some (([] : List Int),([] : List Int),false))) = some (r1,r2,r3):=by rw [if_pos rfl] at H; exact H
          clear H
          have H:=H1
          clear H1
          by_cases c23 : t521 = true
          ·subst c23
           have H1 : (if x508000_1.length < 17592186044416 then (if x508001_1.length < 17592186044416 then (spec_ParseRotation.l0 k1 t508 (wrap64 (x6_1 + 1)) (x508000_1 ++ [t517]) (x508001_1 ++ [t520])) else (none)) else (none)) = some (r1,r2,r3):=by rw [if_pos rfl] at H; exact H
           clear H
           have H:=H1
           clear H1
           by_cases c24 : x508000_1.length < 17592186044416
           ·rw [if_pos c24] at H
            have LMc24:=Aside0.mk c24
            clear c24
            obtain ⟨y522,hy522⟩ : ∃ y_ : List Int,y_ = (x508000_1 ++ [t517]):=⟨_,rfl⟩
            replace H : (if x508001_1.length < 17592186044416 then (spec_ParseRotation.l0 k1 t508 (wrap64 (x6_1 + 1)) y522 (x508001_1 ++ [t520])) else (none)) = some (r1,r2,r3):=by (rw [hy522]; with_reducible exact H)
            have Ny522:=Aside0.mk hy522
            clear hy522
            by_cases c25 : x508001_1.length < 17592186044416
            ·rw [if_pos c25] at H
             have LMc25:=Aside0.mk c25
             clear c25
             obtain ⟨y525,hy525⟩ : ∃ y_ : List Int,y_ = (x508001_1 ++ [t520]):=⟨_,rfl⟩
             replace H : (spec_ParseRotation.l0 k1 t508 (wrap64 (x6_1 + 1)) y522 y525) = some (r1,r2,r3):=by (rw [hy525]; with_reducible exact H)
             have Ny525:=Aside0.mk hy525
             clear hy525
             have H':=Aside0.mk H
             clear H
             obtain ⟨Ao26,co26,eo26⟩:=Kd.R_slice HO_5.out
             subst eo26
             have p512 : 0 ≤ (x6_1 : Int):=of_decide_eq_true (by (with_reducible assumption))
             have q512 : x6_1 < (t508.length : Int):=of_decide_eq_true (by (with_reducible assumption))
             obtain ⟨ad512,e512,hx512_0⟩:=Kd.at_string (Kd.R_reads' HO_5.out).2.2 x6_1 p512 q512
             cases e512
             replace p512:=eq_true p512
             replace q512:=eq_true q512
             go_wp2_with (first|((with_reducible refine gate_callee (f:=52) rfl ?_); refine goesL_ (some 29) rfl rfl Tryz.func52 (by kernel_rfl) rfl #[.string (rdOf ByteArray.empty t508 x6_1),.int .u8 58] rfl (by (try simp only [List.map_toArray,List.map_cons,List.map_nil]); (rfl)) ?_; (with_reducible refine (spec_l1Split.calls k1 (rdOf ByteArray.empty t508 x6_1) 58 t513 _ A16.out).mono ?_); rintro e w27 ⟨v514,rfl,ho0,hb⟩; refine ⟨_,rfl,?_⟩; have n0_:=Aside0.mk (Kd.R_elder' (by exact HO_5.out) (Kd.R_base ho0) hb); have n1_:=Aside0.mk (Kd.R_below (by exact HO_508000.out) hb); have n2_:=Aside0.mk (Kd.R_below (by exact HO_508001.out) hb); have n3_:=Aside0.mk (Kd.R_lower (Kd.R_new' ho0 (Kd.R_lt (by exact HO_5.out))) (below_size (by repeat (((with_reducible (exact HB.out))))))); have n4_:=Aside0.mk (blk_below (g:=gb506) (o:=.cells #[.slice none 0 0,.slice none 0 0] 26 (0,0)) (by exact BK506.out) hb); have n5_:=Aside0.mk (blk_below (g:=gb507) (o:=.cells #[u508000,u508001] 26 (0,0)) (by exact BK507.out) hb); have n6_:=Aside0.mk (below_step (by repeat (((with_reducible (exact HB.out))))) hb); clear HO_5; clear HO_508000; clear HO_508001; clear BK506; clear BK507; clear HB; have HO_5:=n0_; have HO_508000:=n1_; have HO_508001:=n2_; have HO515:=n3_; have BK506:=n4_; have BK507:=n5_; have HB:=n6_; clear n0_ n1_ n2_ n3_ n4_ n5_ n6_; (try clear hb); (try clear hb2); (try clear hk); (try clear hi); (try clear ho0); obtain ⟨Ao28,co28,eo28⟩:=Kd.R_slice HO515.out; subst eo28; have p516 : 0 ≤ (0 : Int):=(by omega); have q516 : 0 < (t513.length : Int):=of_decide_eq_true (by (with_reducible assumption)); obtain ⟨ad516,e516,hx516_0⟩:=Kd.at_string (Kd.R_reads' HO515.out).2.2 0 p516 q516; cases e516; have qi516 : (0 < t513.length) = True:=eq_true (by omega); (try rw [show (0 : Int).toNat = 0 from rfl] at hx516_0); (try rw [Addr.add_zero'] at hx516_0); replace p516:=eq_true p516; replace q516:=eq_true q516)|((with_reducible refine gate_callee (f:=53) rfl ?_); refine goesL_ (some 38) rfl rfl Tryz.func53 (by kernel_rfl) rfl #[.string (rdOf ByteArray.empty t513 0)] rfl (by (try simp only [List.map_toArray,List.map_cons,List.map_nil]); (rfl)) ?_; (with_reducible refine (spec_l1Read.calls k1 (rdOf ByteArray.empty t513 0) t517 true _ A19.out).mono ?_); rintro e w29 ⟨rfl,hb⟩; refine ⟨_,rfl,?_⟩; have n0_:=Aside0.mk (Kd.R_below (by exact HO_5.out) hb); have n1_:=Aside0.mk (Kd.R_below (by exact HO_508000.out) hb); have n2_:=Aside0.mk (Kd.R_below (by exact HO_508001.out) hb); have n3_:=Aside0.mk (Kd.R_below (by exact HO515.out) hb); have n4_:=Aside0.mk (blk_below (g:=gb506) (o:=.cells #[.slice none 0 0,.slice none 0 0] 26 (0,0)) (by exact BK506.out) hb); have n5_:=Aside0.mk (blk_below (g:=gb507) (o:=.cells #[u508000,u508001] 26 (0,0)) (by exact BK507.out) hb); have n6_:=Aside0.mk (below_step (by repeat (((with_reducible (exact HB.out))))) hb); clear HO_5; clear HO_508000; clear HO_508001; clear HO515; clear BK506; clear BK507; clear HB; have HO_5:=n0_; have HO_508000:=n1_; have HO_508001:=n2_; have HO515:=n3_; have BK506:=n4_; have BK507:=n5_; have HB:=n6_; clear n0_ n1_ n2_ n3_ n4_ n5_ n6_; (try clear hb); (try clear hb2); (try clear hk); (try clear hi); have p519 : 0 ≤ (1 : Int):=(by omega); have q519 : 1 < (t513.length : Int):=of_decide_eq_true (by (with_reducible assumption)); obtain ⟨ad519,e519,hx519_0⟩:=Kd.at_string (Kd.R_reads' HO515.out).2.2 1 p519 q519; obtain rfl : ad516 = ad519:=(by injection e519); (try simp only [show (1 : Int).toNat = 1 from rfl,Nat.reduceMul,Nat.reduceEqDiff,Go.Addr.add,↓reduceIte] at hx519_0); have qi519 : (1 < t513.length) = True:=eq_true (by omega); (try rw [show (1 : Int).toNat = 1 from rfl] at hx519_0); replace p519:=eq_true p519; replace q519:=eq_true q519)|((with_reducible refine gate_callee (f:=53) rfl ?_); refine goesL_ (some 45) rfl rfl Tryz.func53 (by kernel_rfl) rfl #[.string (rdOf ByteArray.empty t513 1)] rfl (by (try simp only [List.map_toArray,List.map_cons,List.map_nil]); (rfl)) ?_; (with_reducible refine (spec_l1Read.calls k1 (rdOf ByteArray.empty t513 1) t520 true _ A21.out).mono ?_); rintro e w30 ⟨rfl,hb⟩; refine ⟨_,rfl,?_⟩; have n0_:=Aside0.mk (Kd.R_below (by exact HO_5.out) hb); have n1_:=Aside0.mk (Kd.R_below (by exact HO_508000.out) hb); have n2_:=Aside0.mk (Kd.R_below (by exact HO_508001.out) hb); have n3_:=Aside0.mk (Kd.R_below (by exact HO515.out) hb); have n4_:=Aside0.mk (blk_below (g:=gb506) (o:=.cells #[.slice none 0 0,.slice none 0 0] 26 (0,0)) (by exact BK506.out) hb); have n5_:=Aside0.mk (blk_below (g:=gb507) (o:=.cells #[u508000,u508001] 26 (0,0)) (by exact BK507.out) hb); have n6_:=Aside0.mk (below_step (by repeat (((with_reducible (exact HB.out))))) hb); clear HO_5; clear HO_508000; clear HO_508001; clear HO515; clear BK506; clear BK507; clear HB; have HO_5:=n0_; have HO_508000:=n1_; have HO_508001:=n2_; have HO515:=n3_; have BK506:=n4_; have BK507:=n5_; have HB:=n6_; clear n0_ n1_ n2_ n3_ n4_ n5_ n6_; (try clear hb); (try clear hb2); (try clear hk); (try clear hi); have hnb31:=NB507_506.out; have hnc31:=NB506_507.out; have hcz32_0 : w30.cell? ⟨gb507,0,none⟩ = some (u508000):=(blk_cell BK507.out 0).trans rfl; have hcz32_1 : w30.cell? ⟨gb507,1,none⟩ = some (u508001):=(blk_cell BK507.out 1).trans rfl; have hfz32_0:=blk_frozen BK507.out 0; have hfz32_1:=blk_frozen BK507.out 1)|((with_reducible refine gate_builtin (b:=.append) (xs:=#[.tmp 56,.tmp 58]) rfl ?_); at_builtin; refine Kd.R_append (Kd.int .i64) (w0:=w) w.heap.size rfl (.tmp 56) (.tmp 58) 24 3 (.int .i64 0) 8 rfl Tryz.underlying24 info3 rfl (by decide) (by omega) u508000 x508000_1 t517 [.int .i64 t517] (fun k_ => some k_ ≠ (u508001 : Value).ownBlock) (fun _ => False) rfl rfl ?aP (fun _ hk => hk.elim) ?aF ?aO ?aB ?aS ?aL ?_; (case aP => exact rfl); (case aB => exact (by repeat (((with_reducible (exact HB.out)))))); (case aF => exact (fun k_ hk => Kd.fresh' (Kd.R_lt (by exact HO_508001.out)) k_ hk)); (case aO => exact (by exact HO_508000.out)); (case aS => exact (below_size (by repeat (((with_reducible (exact HB.out))))))); (case aL => have:=LMc24.out; omega); intro v523 w33 ho hb hg hat; rw [← Ny522.out] at ho; have n0_:=Aside0.mk (Kd.R_over' (by exact HO_5.out) (Kd.R_typed (by exact HO_508000.out)) (by decide) hg); have n1_:=Aside0.mk (Kd.R_after (ok:=(fun _ => True)) (by exact Kd.R_mono HO_508001.out (fun _ hk => ⟨trivial,hk⟩)) hg hat); have n2_:=Aside0.mk (blk_grown (g:=gb506) (o:=.cells #[.slice none 0 0,.slice none 0 0] 26 (0,0)) (by exact BK506.out) hg (Kd.R_ne HO_508000.out BK506.out (by decide))); have n3_:=Aside0.mk (blk_grown (g:=gb507) (o:=.cells #[u508000,u508001] 26 (0,0)) (by exact BK507.out) hg (Kd.R_ne HO_508000.out BK507.out (by decide))); have n4_:=Aside0.mk (Kd.R_over' (by exact HO515.out) (Kd.R_typed (by exact HO_508000.out)) (by decide) hg); have n5_:=Aside0.mk (hb); have n6_:=Aside0.mk (ho); clear HO_5; clear HO_508001; clear BK506; clear BK507; clear HO515; clear HB; clear HO_508000; have HO_5:=n0_; have HO_508001:=n1_; have BK506:=n2_; have BK507:=n3_; have HO515:=n4_; have HB:=n5_; have HO524:=n6_; clear n0_ n1_ n2_ n3_ n4_ n5_ n6_; clear ho hb hg hat; obtain ⟨Ao34,co34,eo34⟩:=Kd.R_slice HO524.out; subst eo34; have hcz35_0 : w33.cell? ⟨gb507,0,none⟩ = some (u508000):=(blk_cell BK507.out 0).trans rfl; have hcz35_1 : w33.cell? ⟨gb507,1,none⟩ = some (u508001):=(blk_cell BK507.out 1).trans rfl; have hfz35_0:=blk_frozen BK507.out 0; have hfz35_1:=blk_frozen BK507.out 1)|((with_reducible refine gate_builtin (b:=.append) (xs:=#[.tmp 62,.tmp 64]) rfl ?_); at_builtin; refine Kd.R_append (Kd.int .i64) (w0:=w) w.heap.size rfl (.tmp 62) (.tmp 64) 24 3 (.int .i64 0) 8 rfl Tryz.underlying24 info3 rfl (by decide) (by omega) u508001 x508001_1 t520 [.int .i64 t520] (fun k_ => some k_ ≠ (.slice Ao34 y522.length co34 : Value).ownBlock) (fun _ => False) rfl (by (go_simp; done)) ?aP (fun _ hk => hk.elim) ?aF ?aO ?aB ?aS ?aL ?_; (case aP => exact rfl); (case aB => exact (by repeat (with_reducible first|exact HB.out|refine below_set ?_ GE507.out))); (case aF => exact (fun k_ hk => Kd.fresh' (Kd.R_lt (by exact (Kd.R_mono (Kd.R_far (p:=⟨gb507,0,none⟩) (Kd.R_types HO524.out BK507.out (by decide)) (fun _ hk => hk.2) (.slice Ao34 y522.length co34)) (fun _ h_ => h_.1)))) k_ hk)); (case aO => exact (by exact Kd.R_mono (Kd.R_far (p:=⟨gb507,0,none⟩) (Kd.R_types HO_508001.out BK507.out (by decide)) (fun _ hk => hk.2) (.slice Ao34 y522.length co34)) (fun _ hk => hk.1.2))); (case aS => exact (below_size (by repeat (with_reducible first|exact HB.out|refine below_set ?_ GE507.out)))); (case aL => have:=LMc25.out; omega); intro v526 w36 ho hb hg hat; rw [← Ny525.out] at ho; have n0_:=Aside0.mk (Kd.R_over' (by exact (Kd.R_mono (Kd.R_far (p:=⟨gb507,0,none⟩) (Kd.R_types HO_5.out BK507.out (by decide)) (fun _ hk => hk.2) (.slice Ao34 y522.length co34)) (fun _ h_ => h_.1))) (Kd.R_typed (by exact (Kd.R_mono (Kd.R_far (p:=⟨gb507,0,none⟩) (Kd.R_types HO_508001.out BK507.out (by decide)) (fun _ hk => hk.2) (.slice Ao34 y522.length co34)) (fun _ h_ => h_.1)))) (by decide) hg); have n1_:=Aside0.mk (blk_grown (g:=gb506) (o:=.cells #[.slice none 0 0,.slice none 0 0] 26 (0,0)) (by refine blk_far ?_ NB506_507.out _; exact BK506.out) hg (Kd.R_ne HO_508001.out BK506.out (by decide))); have n2_:=Aside0.mk (blk_grown (g:=gb507) (o:=.cells #[.slice Ao34 y522.length co34,u508001] 26 (0,0)) (by refine blk_put (cs:=#[u508000,u508001]) ?_ 0 _ rfl; exact BK507.out) hg (Kd.R_ne HO_508001.out BK507.out (by decide))); have n3_:=Aside0.mk (Kd.R_over' (by exact (Kd.R_mono (Kd.R_far (p:=⟨gb507,0,none⟩) (Kd.R_types HO515.out BK507.out (by decide)) (fun _ hk => hk.2) (.slice Ao34 y522.length co34)) (fun _ h_ => h_.1))) (Kd.R_typed (by exact (Kd.R_mono (Kd.R_far (p:=⟨gb507,0,none⟩) (Kd.R_types HO_508001.out BK507.out (by decide)) (fun _ hk => hk.2) (.slice Ao34 y522.length co34)) (fun _ h_ => h_.1)))) (by decide) hg); have n4_:=Aside0.mk (Kd.R_after (ok:=(fun _ => True)) (by exact Kd.R_mono (Kd.R_far (p:=⟨gb507,0,none⟩) (Kd.R_types HO524.out BK507.out (by decide)) (fun _ hk => hk.2) (.slice Ao34 y522.length co34)) (fun _ hk => ⟨trivial,hk.1⟩)) hg hat); have n5_:=Aside0.mk (hb); have n6_:=Aside0.mk (ho); clear HO_5; clear BK506; clear BK507; clear HO515; clear HO524; clear HB; clear HO_508001; have HO_5:=n0_; have BK506:=n1_; have BK507:=n2_; have HO515:=n3_; have HO524:=n4_; have HB:=n5_; have HO527:=n6_; clear n0_ n1_ n2_ n3_ n4_ n5_ n6_; clear ho hb hg hat; obtain ⟨Ao37,co37,eo37⟩:=Kd.R_slice HO527.out; subst eo37; have hcz38_0 : w36.cell? ⟨gb507,0,none⟩ = some (.slice Ao34 y522.length co34):=(blk_cell BK507.out 0).trans rfl; have hcz38_1 : w36.cell? ⟨gb507,1,none⟩ = some (u508001):=(blk_cell BK507.out 1).trans rfl; have hfz38_0:=blk_frozen BK507.out 0; have hfz38_1:=blk_frozen BK507.out 1))
             go_roundg k1
             case measure => have:=HK1.out; omega
             case rel => exact ⟨(wrap64 (x6_1 + 1)),(y522),(y525),(.slice Ao34 y522.length co34),(.slice Ao37 y525.length co37),(by (rfl)),H',⟨by have:=HK1.out; omega⟩,⟨by exact Kd.R_mono (Kd.R_far (p:=⟨gb507,1,none⟩) (Kd.R_types HO_5.out BK507.out (by decide)) (fun _ hk => hk.2) (.slice Ao37 y525.length co37)) (fun _ hk => trivial)⟩,⟨by exact Kd.R_mono (Kd.R_far (p:=⟨gb507,1,none⟩) (Kd.R_types HO524.out BK507.out (by decide)) (fun _ hk => hk.2) (.slice Ao37 y525.length co37)) (fun _ hk => hk.1.2)⟩,⟨by exact Kd.R_mono (Kd.R_far (p:=⟨gb507,1,none⟩) (Kd.R_types HO527.out BK507.out (by decide)) (fun _ hk => hk.2) (.slice Ao37 y525.length co37)) (fun _ hk => hk.1)⟩,⟨by refine blk_far ?_ NB506_507.out _; exact BK506.out⟩,⟨by refine blk_put (cs:=#[.slice Ao34 y522.length co34,u508001]) ?_ 1 _ rfl; exact BK507.out⟩,⟨by repeat (with_reducible first|exact HB.out|refine below_set ?_ GE507.out)⟩⟩
            ·rw [if_neg c25] at H
             exact absurd H (by simp)
           ·rw [if_neg c24] at H
            exact absurd H (by simp)
          ·replace c23:=Bool.eq_false_iff.mpr c23
           subst c23
           have H1 : (some (([] : List Int),([] : List Int),false)) = some (r1,r2,r3):=by rw [if_neg (show ¬ (false = true) by decide)] at H; exact H
           clear H
           have H:=H1
           clear H1
           simp only [Option.some.injEq,Prod.mk.injEq] at H
           obtain ⟨rfl,rfl,rfl⟩:=H
           obtain ⟨Ao39,co39,eo39⟩:=Kd.R_slice HO_5.out
           subst eo39
           have p512 : 0 ≤ (x6_1 : Int):=of_decide_eq_true (by (with_reducible assumption))
           have q512 : x6_1 < (t508.length : Int):=of_decide_eq_true (by (with_reducible assumption))
           obtain ⟨ad512,e512,hx512_0⟩:=Kd.at_string (Kd.R_reads' HO_5.out).2.2 x6_1 p512 q512
           cases e512
           replace p512:=eq_true p512
           replace q512:=eq_true q512
           go_wp2_with (first|((with_reducible refine gate_callee (f:=52) rfl ?_); refine goesL_ (some 29) rfl rfl Tryz.func52 (by kernel_rfl) rfl #[.string (rdOf ByteArray.empty t508 x6_1),.int .u8 58] rfl (by (try simp only [List.map_toArray,List.map_cons,List.map_nil]); (rfl)) ?_; (with_reducible refine (spec_l1Split.calls k1 (rdOf ByteArray.empty t508 x6_1) 58 t513 _ A16.out).mono ?_); rintro e w40 ⟨v514,rfl,ho0,hb⟩; refine ⟨_,rfl,?_⟩; have n0_:=Aside0.mk (Kd.R_elder' (by exact HO_5.out) (Kd.R_base ho0) hb); have n1_:=Aside0.mk (Kd.R_below (by exact HO_508000.out) hb); have n2_:=Aside0.mk (Kd.R_below (by exact HO_508001.out) hb); have n3_:=Aside0.mk (Kd.R_lower (Kd.R_new' ho0 (Kd.R_lt (by exact HO_5.out))) (below_size (by repeat (((with_reducible (exact HB.out))))))); have n4_:=Aside0.mk (blk_below (g:=gb506) (o:=.cells #[.slice none 0 0,.slice none 0 0] 26 (0,0)) (by exact BK506.out) hb); have n5_:=Aside0.mk (blk_below (g:=gb507) (o:=.cells #[u508000,u508001] 26 (0,0)) (by exact BK507.out) hb); have n6_:=Aside0.mk (below_step (by repeat (((with_reducible (exact HB.out))))) hb); clear HO_5; clear HO_508000; clear HO_508001; clear BK506; clear BK507; clear HB; have HO_5:=n0_; have HO_508000:=n1_; have HO_508001:=n2_; have HO515:=n3_; have BK506:=n4_; have BK507:=n5_; have HB:=n6_; clear n0_ n1_ n2_ n3_ n4_ n5_ n6_; (try clear hb); (try clear hb2); (try clear hk); (try clear hi); (try clear ho0); obtain ⟨Ao41,co41,eo41⟩:=Kd.R_slice HO515.out; subst eo41; have p516 : 0 ≤ (0 : Int):=(by omega); have q516 : 0 < (t513.length : Int):=of_decide_eq_true (by (with_reducible assumption)); obtain ⟨ad516,e516,hx516_0⟩:=Kd.at_string (Kd.R_reads' HO515.out).2.2 0 p516 q516; cases e516; have qi516 : (0 < t513.length) = True:=eq_true (by omega); (try rw [show (0 : Int).toNat = 0 from rfl] at hx516_0); (try rw [Addr.add_zero'] at hx516_0); replace p516:=eq_true p516; replace q516:=eq_true q516)|((with_reducible refine gate_callee (f:=53) rfl ?_); refine goesL_ (some 38) rfl rfl Tryz.func53 (by kernel_rfl) rfl #[.string (rdOf ByteArray.empty t513 0)] rfl (by (try simp only [List.map_toArray,List.map_cons,List.map_nil]); (rfl)) ?_; (with_reducible refine (spec_l1Read.calls k1 (rdOf ByteArray.empty t513 0) t517 true _ A19.out).mono ?_); rintro e w42 ⟨rfl,hb⟩; refine ⟨_,rfl,?_⟩; have n0_:=Aside0.mk (Kd.R_below (by exact HO_5.out) hb); have n1_:=Aside0.mk (Kd.R_below (by exact HO_508000.out) hb); have n2_:=Aside0.mk (Kd.R_below (by exact HO_508001.out) hb); have n3_:=Aside0.mk (Kd.R_below (by exact HO515.out) hb); have n4_:=Aside0.mk (blk_below (g:=gb506) (o:=.cells #[.slice none 0 0,.slice none 0 0] 26 (0,0)) (by exact BK506.out) hb); have n5_:=Aside0.mk (blk_below (g:=gb507) (o:=.cells #[u508000,u508001] 26 (0,0)) (by exact BK507.out) hb); have n6_:=Aside0.mk (below_step (by repeat (((with_reducible (exact HB.out))))) hb); clear HO_5; clear HO_508000; clear HO_508001; clear HO515; clear BK506; clear BK507; clear HB; have HO_5:=n0_; have HO_508000:=n1_; have HO_508001:=n2_; have HO515:=n3_; have BK506:=n4_; have BK507:=n5_; have HB:=n6_; clear n0_ n1_ n2_ n3_ n4_ n5_ n6_; (try clear hb); (try clear hb2); (try clear hk); (try clear hi); have p519 : 0 ≤ (1 : Int):=(by omega); have q519 : 1 < (t513.length : Int):=of_decide_eq_true (by (with_reducible assumption)); obtain ⟨ad519,e519,hx519_0⟩:=Kd.at_string (Kd.R_reads' HO515.out).2.2 1 p519 q519; obtain rfl : ad516 = ad519:=(by injection e519); (try simp only [show (1 : Int).toNat = 1 from rfl,Nat.reduceMul,Nat.reduceEqDiff,Go.Addr.add,↓reduceIte] at hx519_0); have qi519 : (1 < t513.length) = True:=eq_true (by omega); (try rw [show (1 : Int).toNat = 1 from rfl] at hx519_0); replace p519:=eq_true p519; replace q519:=eq_true q519)|((with_reducible refine gate_callee (f:=53) rfl ?_); refine goesL_ (some 45) rfl rfl Tryz.func53 (by kernel_rfl) rfl #[.string (rdOf ByteArray.empty t513 1)] rfl (by (try simp only [List.map_toArray,List.map_cons,List.map_nil]); (rfl)) ?_; (with_reducible refine (spec_l1Read.calls k1 (rdOf ByteArray.empty t513 1) t520 false _ A21.out).mono ?_); rintro e w43 ⟨rfl,hb⟩; refine ⟨_,rfl,?_⟩; have n0_:=Aside0.mk (Kd.R_below (by exact HO_5.out) hb); have n1_:=Aside0.mk (Kd.R_below (by exact HO_508000.out) hb); have n2_:=Aside0.mk (Kd.R_below (by exact HO_508001.out) hb); have n3_:=Aside0.mk (Kd.R_below (by exact HO515.out) hb); have n4_:=Aside0.mk (blk_below (g:=gb506) (o:=.cells #[.slice none 0 0,.slice none 0 0] 26 (0,0)) (by exact BK506.out) hb); have n5_:=Aside0.mk (blk_below (g:=gb507) (o:=.cells #[u508000,u508001] 26 (0,0)) (by exact BK507.out) hb); have n6_:=Aside0.mk (below_step (by repeat (((with_reducible (exact HB.out))))) hb); clear HO_5; clear HO_508000; clear HO_508001; clear HO515; clear BK506; clear BK507; clear HB; have HO_5:=n0_; have HO_508000:=n1_; have HO_508001:=n2_; have HO515:=n3_; have BK506:=n4_; have BK507:=n5_; have HB:=n6_; clear n0_ n1_ n2_ n3_ n4_ n5_ n6_; (try clear hb); (try clear hb2); (try clear hk); (try clear hi); have hnb44:=NB506_507.out; have hnc44:=NB507_506.out; have hcz45_0 : w43.cell? ⟨gb506,0,none⟩ = some (.slice none 0 0):=(blk_cell BK506.out 0).trans rfl; have hcz45_1 : w43.cell? ⟨gb506,1,none⟩ = some (.slice none 0 0):=(blk_cell BK506.out 1).trans rfl; have hfz45_0:=blk_frozen BK506.out 0; have hfz45_1:=blk_frozen BK506.out 1))
           refine bodyPost_ret (results_ct rfl _ _ gb506 26 #[.slice none 0 0,.slice none 0 0] (0,0) _ rfl (by refine blk_put (cs:=#[.slice none 0 0,.slice none 0 0]) ?_ 1 _ rfl; refine blk_put (cs:=#[.slice none 0 0,.slice none 0 0]) ?_ 0 _ rfl; exact BK506.out) Tryz.underlying26 rfl (by kernel_rfl)) rfl ?_
           exact ⟨_,_,by (rfl),by (exact Kd.R_nil _ _ _ _ _),by (exact Kd.R_nil _ _ _ _ _),by repeat (with_reducible first|exact HB.out|refine below_set ?_ GE506.out)⟩
         ·replace c22:=Bool.eq_false_iff.mpr c22
          subst c22
          have H1 : (some (([] : List Int),([] : List Int),false)) = some (r1,r2,r3):=by rw [if_neg (show ¬ (false = true) by decide)] at H; exact H
          clear H
          have H:=H1
          clear H1
          simp only [Option.some.injEq,Prod.mk.injEq] at H
          obtain ⟨rfl,rfl,rfl⟩:=H
          obtain ⟨Ao46,co46,eo46⟩:=Kd.R_slice HO_5.out
          subst eo46
          have p512 : 0 ≤ (x6_1 : Int):=of_decide_eq_true (by (with_reducible assumption))
          have q512 : x6_1 < (t508.length : Int):=of_decide_eq_true (by (with_reducible assumption))
          obtain ⟨ad512,e512,hx512_0⟩:=Kd.at_string (Kd.R_reads' HO_5.out).2.2 x6_1 p512 q512
          cases e512
          replace p512:=eq_true p512
          replace q512:=eq_true q512
          go_wp2_with (first|((with_reducible refine gate_callee (f:=52) rfl ?_); refine goesL_ (some 29) rfl rfl Tryz.func52 (by kernel_rfl) rfl #[.string (rdOf ByteArray.empty t508 x6_1),.int .u8 58] rfl (by (try simp only [List.map_toArray,List.map_cons,List.map_nil]); (rfl)) ?_; (with_reducible refine (spec_l1Split.calls k1 (rdOf ByteArray.empty t508 x6_1) 58 t513 _ A16.out).mono ?_); rintro e w47 ⟨v514,rfl,ho0,hb⟩; refine ⟨_,rfl,?_⟩; have n0_:=Aside0.mk (Kd.R_elder' (by exact HO_5.out) (Kd.R_base ho0) hb); have n1_:=Aside0.mk (Kd.R_below (by exact HO_508000.out) hb); have n2_:=Aside0.mk (Kd.R_below (by exact HO_508001.out) hb); have n3_:=Aside0.mk (Kd.R_lower (Kd.R_new' ho0 (Kd.R_lt (by exact HO_5.out))) (below_size (by repeat (((with_reducible (exact HB.out))))))); have n4_:=Aside0.mk (blk_below (g:=gb506) (o:=.cells #[.slice none 0 0,.slice none 0 0] 26 (0,0)) (by exact BK506.out) hb); have n5_:=Aside0.mk (blk_below (g:=gb507) (o:=.cells #[u508000,u508001] 26 (0,0)) (by exact BK507.out) hb); have n6_:=Aside0.mk (below_step (by repeat (((with_reducible (exact HB.out))))) hb); clear HO_5; clear HO_508000; clear HO_508001; clear BK506; clear BK507; clear HB; have HO_5:=n0_; have HO_508000:=n1_; have HO_508001:=n2_; have HO515:=n3_; have BK506:=n4_; have BK507:=n5_; have HB:=n6_; clear n0_ n1_ n2_ n3_ n4_ n5_ n6_; (try clear hb); (try clear hb2); (try clear hk); (try clear hi); (try clear ho0); obtain ⟨Ao48,co48,eo48⟩:=Kd.R_slice HO515.out; subst eo48; have p516 : 0 ≤ (0 : Int):=(by omega); have q516 : 0 < (t513.length : Int):=of_decide_eq_true (by (with_reducible assumption)); obtain ⟨ad516,e516,hx516_0⟩:=Kd.at_string (Kd.R_reads' HO515.out).2.2 0 p516 q516; cases e516; have qi516 : (0 < t513.length) = True:=eq_true (by omega); (try rw [show (0 : Int).toNat = 0 from rfl] at hx516_0); (try rw [Addr.add_zero'] at hx516_0); replace p516:=eq_true p516; replace q516:=eq_true q516)|((with_reducible refine gate_callee (f:=53) rfl ?_); refine goesL_ (some 38) rfl rfl Tryz.func53 (by kernel_rfl) rfl #[.string (rdOf ByteArray.empty t513 0)] rfl (by (try simp only [List.map_toArray,List.map_cons,List.map_nil]); (rfl)) ?_; (with_reducible refine (spec_l1Read.calls k1 (rdOf ByteArray.empty t513 0) t517 false _ A19.out).mono ?_); rintro e w49 ⟨rfl,hb⟩; refine ⟨_,rfl,?_⟩; have n0_:=Aside0.mk (Kd.R_below (by exact HO_5.out) hb); have n1_:=Aside0.mk (Kd.R_below (by exact HO_508000.out) hb); have n2_:=Aside0.mk (Kd.R_below (by exact HO_508001.out) hb); have n3_:=Aside0.mk (Kd.R_below (by exact HO515.out) hb); have n4_:=Aside0.mk (blk_below (g:=gb506) (o:=.cells #[.slice none 0 0,.slice none 0 0] 26 (0,0)) (by exact BK506.out) hb); have n5_:=Aside0.mk (blk_below (g:=gb507) (o:=.cells #[u508000,u508001] 26 (0,0)) (by exact BK507.out) hb); have n6_:=Aside0.mk (below_step (by repeat (((with_reducible (exact HB.out))))) hb); clear HO_5; clear HO_508000; clear HO_508001; clear HO515; clear BK506; clear BK507; clear HB; have HO_5:=n0_; have HO_508000:=n1_; have HO_508001:=n2_; have HO515:=n3_; have BK506:=n4_; have BK507:=n5_; have HB:=n6_; clear n0_ n1_ n2_ n3_ n4_ n5_ n6_; (try clear hb); (try clear hb2); (try clear hk); (try clear hi); have p519 : 0 ≤ (1 : Int):=(by omega); have q519 : 1 < (t513.length : Int):=of_decide_eq_true (by (with_reducible assumption)); obtain ⟨ad519,e519,hx519_0⟩:=Kd.at_string (Kd.R_reads' HO515.out).2.2 1 p519 q519; obtain rfl : ad516 = ad519:=(by injection e519); (try simp only [show (1 : Int).toNat = 1 from rfl,Nat.reduceMul,Nat.reduceEqDiff,Go.Addr.add,↓reduceIte] at hx519_0); have qi519 : (1 < t513.length) = True:=eq_true (by omega); (try rw [show (1 : Int).toNat = 1 from rfl] at hx519_0); replace p519:=eq_true p519; replace q519:=eq_true q519)|((with_reducible refine gate_callee (f:=53) rfl ?_); refine goesL_ (some 45) rfl rfl Tryz.func53 (by kernel_rfl) rfl #[.string (rdOf ByteArray.empty t513 1)] rfl (by (try simp only [List.map_toArray,List.map_cons,List.map_nil]); (rfl)) ?_; (with_reducible refine (spec_l1Read.calls k1 (rdOf ByteArray.empty t513 1) t520 t521 _ A21.out).mono ?_); rintro e w50 ⟨rfl,hb⟩; refine ⟨_,rfl,?_⟩; have n0_:=Aside0.mk (Kd.R_below (by exact HO_5.out) hb); have n1_:=Aside0.mk (Kd.R_below (by exact HO_508000.out) hb); have n2_:=Aside0.mk (Kd.R_below (by exact HO_508001.out) hb); have n3_:=Aside0.mk (Kd.R_below (by exact HO515.out) hb); have n4_:=Aside0.mk (blk_below (g:=gb506) (o:=.cells #[.slice none 0 0,.slice none 0 0] 26 (0,0)) (by exact BK506.out) hb); have n5_:=Aside0.mk (blk_below (g:=gb507) (o:=.cells #[u508000,u508001] 26 (0,0)) (by exact BK507.out) hb); have n6_:=Aside0.mk (below_step (by repeat (((with_reducible (exact HB.out))))) hb); clear HO_5; clear HO_508000; clear HO_508001; clear HO515; clear BK506; clear BK507; clear HB; have HO_5:=n0_; have HO_508000:=n1_; have HO_508001:=n2_; have HO515:=n3_; have BK506:=n4_; have BK507:=n5_; have HB:=n6_; clear n0_ n1_ n2_ n3_ n4_ n5_ n6_; (try clear hb); (try clear hb2); (try clear hk); (try clear hi); have hnb51:=NB506_507.out; have hnc51:=NB507_506.out; have hcz52_0 : w50.cell? ⟨gb506,0,none⟩ = some (.slice none 0 0):=(blk_cell BK506.out 0).trans rfl; have hcz52_1 : w50.cell? ⟨gb506,1,none⟩ = some (.slice none 0 0):=(blk_cell BK506.out 1).trans rfl; have hfz52_0:=blk_frozen BK506.out 0; have hfz52_1:=blk_frozen BK506.out 1))
          refine bodyPost_ret (results_ct rfl _ _ gb506 26 #[.slice none 0 0,.slice none 0 0] (0,0) _ rfl (by refine blk_put (cs:=#[.slice none 0 0,.slice none 0 0]) ?_ 1 _ rfl; refine blk_put (cs:=#[.slice none 0 0,.slice none 0 0]) ?_ 0 _ rfl; exact BK506.out) Tryz.underlying26 rfl (by kernel_rfl)) rfl ?_
          exact ⟨_,_,by (rfl),by (exact Kd.R_nil _ _ _ _ _),by (exact Kd.R_nil _ _ _ _ _),by repeat (with_reducible first|exact HB.out|refine below_set ?_ GE506.out)⟩
        ·rw [if_neg c20] at H
         exact absurd H (by simp)
       ·rw [if_neg c18] at H
        exact absurd H (by simp)
      ·rw [if_neg c17] at H
       have c17b0 : ((t513.length : Int) == 2) = false:=beq_eq_false_iff_ne.mpr c17
       have c17b1 : ((t513.length : Int) != 2) = true:=bne_iff_ne.mpr c17
       simp only [Option.some.injEq,Prod.mk.injEq] at H
       obtain ⟨rfl,rfl,rfl⟩:=H
       obtain ⟨Ao53,co53,eo53⟩:=Kd.R_slice HO_5.out
       subst eo53
       have p512 : 0 ≤ (x6_1 : Int):=of_decide_eq_true (by (with_reducible assumption))
       have q512 : x6_1 < (t508.length : Int):=of_decide_eq_true (by (with_reducible assumption))
       obtain ⟨ad512,e512,hx512_0⟩:=Kd.at_string (Kd.R_reads' HO_5.out).2.2 x6_1 p512 q512
       cases e512
       replace p512:=eq_true p512
       replace q512:=eq_true q512
       go_wp2_with ((((with_reducible refine gate_callee (f:=52) rfl ?_); refine goesL_ (some 29) rfl rfl Tryz.func52 (by kernel_rfl) rfl #[.string (rdOf ByteArray.empty t508 x6_1),.int .u8 58] rfl (by (try simp only [List.map_toArray,List.map_cons,List.map_nil]); (rfl)) ?_; (with_reducible refine (spec_l1Split.calls k1 (rdOf ByteArray.empty t508 x6_1) 58 t513 _ A16.out).mono ?_); rintro e w54 ⟨v514,rfl,ho0,hb⟩; refine ⟨_,rfl,?_⟩; have n0_:=Aside0.mk (Kd.R_elder' (by exact HO_5.out) (Kd.R_base ho0) hb); have n1_:=Aside0.mk (Kd.R_below (by exact HO_508000.out) hb); have n2_:=Aside0.mk (Kd.R_below (by exact HO_508001.out) hb); have n3_:=Aside0.mk (Kd.R_lower (Kd.R_new' ho0 (Kd.R_lt (by exact HO_5.out))) (below_size (by repeat (((with_reducible (exact HB.out))))))); have n4_:=Aside0.mk (blk_below (g:=gb506) (o:=.cells #[.slice none 0 0,.slice none 0 0] 26 (0,0)) (by exact BK506.out) hb); have n5_:=Aside0.mk (blk_below (g:=gb507) (o:=.cells #[u508000,u508001] 26 (0,0)) (by exact BK507.out) hb); have n6_:=Aside0.mk (below_step (by repeat (((with_reducible (exact HB.out))))) hb); clear HO_5; clear HO_508000; clear HO_508001; clear BK506; clear BK507; clear HB; have HO_5:=n0_; have HO_508000:=n1_; have HO_508001:=n2_; have HO515:=n3_; have BK506:=n4_; have BK507:=n5_; have HB:=n6_; clear n0_ n1_ n2_ n3_ n4_ n5_ n6_; (try clear hb); (try clear hb2); (try clear hk); (try clear hi); (try clear ho0); obtain ⟨Ao55,co55,eo55⟩:=Kd.R_slice HO515.out; subst eo55; have hnb56:=NB506_507.out; have hnc56:=NB507_506.out; have hcz57_0 : w54.cell? ⟨gb506,0,none⟩ = some (.slice none 0 0):=(blk_cell BK506.out 0).trans rfl; have hcz57_1 : w54.cell? ⟨gb506,1,none⟩ = some (.slice none 0 0):=(blk_cell BK506.out 1).trans rfl; have hfz57_0:=blk_frozen BK506.out 0; have hfz57_1:=blk_frozen BK506.out 1)))
       refine bodyPost_ret (results_ct rfl _ _ gb506 26 #[.slice none 0 0,.slice none 0 0] (0,0) _ rfl (by refine blk_put (cs:=#[.slice none 0 0,.slice none 0 0]) ?_ 1 _ rfl; refine blk_put (cs:=#[.slice none 0 0,.slice none 0 0]) ?_ 0 _ rfl; exact BK506.out) Tryz.underlying26 rfl (by kernel_rfl)) rfl ?_
       exact ⟨_,_,by (rfl),by (exact Kd.R_nil _ _ _ _ _),by (exact Kd.R_nil _ _ _ _ _),by repeat (with_reducible first|exact HB.out|refine below_set ?_ GE506.out)⟩
     ·rw [if_neg c15] at H
      exact absurd H (by simp)
    ·rw [if_neg c14] at H
     have c14b0 : decide (x6_1 < (t508.length : Int)) = false:=decide_eq_false c14
     clear c14
     replace H:=Option.bind_eq_some_iff.mp H
     obtain ⟨t511,A580,H⟩:=H
     replace H : (if t511 = true then (some (x508000_1,x508001_1,true)) else (some (([] : List Int),([] : List Int),false))) = some (r1,r2,r3):=H
     have A58:=Aside0.mk A580
     clear A580
     by_cases c59 : t511 = true
     ·subst c59
      have H1 : (some (x508000_1,x508001_1,true)) = some (r1,r2,r3):=by rw [if_pos rfl] at H; exact H
      clear H
      have H:=H1
      clear H1
      simp only [Option.some.injEq,Prod.mk.injEq] at H
      obtain ⟨rfl,rfl,rfl⟩:=H
      obtain ⟨Ao60,co60,eo60⟩:=Kd.R_slice HO_5.out
      subst eo60
      have hnb61:=NB507_506.out
      have hnc61:=NB506_507.out
      have hcz62_0 : wr.cell? ⟨gb507,0,none⟩ = some (u508000):=(blk_cell BK507.out 0).trans rfl
      have hcz62_1 : wr.cell? ⟨gb507,1,none⟩ = some (u508001):=(blk_cell BK507.out 1).trans rfl
      have hfz62_0:=blk_frozen BK507.out 0
      have hfz62_1:=blk_frozen BK507.out 1
      obtain ⟨Ao63,co63,eo63⟩:=Kd.R_slice HO_508000.out
      subst eo63
      obtain ⟨Ao64,co64,eo64⟩:=Kd.R_slice HO_508001.out
      subst eo64
      go_wp2_with ((((with_reducible refine gate_callee (f:=33) rfl ?_); refine goesL_ (some 68) rfl rfl Tryz.func33 (by kernel_rfl) rfl #[.agg #[.slice Ao63 x508000_1.length co63,.slice Ao64 x508001_1.length co64]] rfl (by (try simp only [List.map_toArray,List.map_cons,List.map_nil]); (rfl)) ?_; (with_reducible refine (spec_l3Good.calls k1 _ _ x508000_1 _ _ x508001_1 true _ ?side1 ?side2 ?side3 ?side4 A58.out).mono ?_); (case side1 => repeat ((exact (Kd.R_reads' HO_508000.out).2.2))); (case side2 => exact (Kd.R_reads' HO_508000.out).2.1); (case side3 => repeat ((exact (Kd.R_reads' HO_508001.out).2.2))); (case side4 => exact (Kd.R_reads' HO_508001.out).2.1); rintro e w65 ⟨rfl,hb⟩; refine ⟨_,rfl,?_⟩; have n0_:=Aside0.mk (Kd.R_below (by exact HO_5.out) hb); have n1_:=Aside0.mk (Kd.R_below (by exact HO_508000.out) hb); have n2_:=Aside0.mk (Kd.R_below (by exact HO_508001.out) hb); have n3_:=Aside0.mk (blk_below (g:=gb506) (o:=.cells #[.slice none 0 0,.slice none 0 0] 26 (0,0)) (by exact BK506.out) hb); have n4_:=Aside0.mk (blk_below (g:=gb507) (o:=.cells #[.slice Ao63 x508000_1.length co63,.slice Ao64 x508001_1.length co64] 26 (0,0)) (by exact BK507.out) hb); have n5_:=Aside0.mk (below_step (by repeat (((with_reducible (exact HB.out))))) hb); clear HO_5; clear HO_508000; clear HO_508001; clear BK506; clear BK507; clear HB; have HO_5:=n0_; have HO_508000:=n1_; have HO_508001:=n2_; have BK506:=n3_; have BK507:=n4_; have HB:=n5_; clear n0_ n1_ n2_ n3_ n4_ n5_; (try clear hb); (try clear hb2); (try clear hk); (try clear hi); have hcz66_0 : w65.cell? ⟨gb507,0,none⟩ = some (.slice Ao63 x508000_1.length co63):=(blk_cell BK507.out 0).trans rfl; have hcz66_1 : w65.cell? ⟨gb507,1,none⟩ = some (.slice Ao64 x508001_1.length co64):=(blk_cell BK507.out 1).trans rfl; have hfz66_0:=blk_frozen BK507.out 0; have hfz66_1:=blk_frozen BK507.out 1; have hcz67_0 : w65.cell? ⟨gb506,0,none⟩ = some (.slice none 0 0):=(blk_cell BK506.out 0).trans rfl; have hcz67_1 : w65.cell? ⟨gb506,1,none⟩ = some (.slice none 0 0):=(blk_cell BK506.out 1).trans rfl; have hfz67_0:=blk_frozen BK506.out 0; have hfz67_1:=blk_frozen BK506.out 1)))
      refine bodyPost_ret (results_ct rfl _ _ gb506 26 #[.slice Ao63 x508000_1.length co63,.slice Ao64 x508001_1.length co64] (0,0) _ rfl (by refine blk_put (cs:=#[.slice Ao63 x508000_1.length co63,.slice none 0 0]) ?_ 1 _ rfl; refine blk_put (cs:=#[.slice none 0 0,.slice none 0 0]) ?_ 0 _ rfl; exact BK506.out) Tryz.underlying26 rfl (by kernel_rfl)) rfl ?_
      exact ⟨_,_,by (rfl),by exact Kd.R_mono (Kd.R_far (p:=⟨gb506,1,none⟩) (Kd.R_far (p:=⟨gb506,0,none⟩) (Kd.R_types HO_508000.out BK506.out (by decide)) (fun _ hk => hk.2) (.slice Ao63 x508000_1.length co63)) (fun _ hk => hk.2) (.slice Ao64 x508001_1.length co64)) (fun _ hk => hk.1),by exact Kd.R_mono (Kd.R_far (p:=⟨gb506,1,none⟩) (Kd.R_far (p:=⟨gb506,0,none⟩) (Kd.R_types HO_508001.out BK506.out (by decide)) (fun _ hk => hk.2) (.slice Ao63 x508000_1.length co63)) (fun _ hk => hk.2) (.slice Ao64 x508001_1.length co64)) (fun _ hk => hk.1),by repeat (with_reducible first|exact HB.out|refine below_set ?_ GE506.out)⟩
     ·replace c59:=Bool.eq_false_iff.mpr c59
      subst c59
      have H1 : (some (([] : List Int),([] : List Int),false)) = some (r1,r2,r3):=by rw [if_neg (show ¬ (false = true) by decide)] at H; exact H
      clear H
      have H:=H1
      clear H1
      simp only [Option.some.injEq,Prod.mk.injEq] at H
      obtain ⟨rfl,rfl,rfl⟩:=H
      obtain ⟨Ao68,co68,eo68⟩:=Kd.R_slice HO_5.out
      subst eo68
      have hnb69:=NB507_506.out
      have hnc69:=NB506_507.out
      have hcz70_0 : wr.cell? ⟨gb507,0,none⟩ = some (u508000):=(blk_cell BK507.out 0).trans rfl
      have hcz70_1 : wr.cell? ⟨gb507,1,none⟩ = some (u508001):=(blk_cell BK507.out 1).trans rfl
      have hfz70_0:=blk_frozen BK507.out 0
      have hfz70_1:=blk_frozen BK507.out 1
      obtain ⟨Ao71,co71,eo71⟩:=Kd.R_slice HO_508000.out
      subst eo71
      obtain ⟨Ao72,co72,eo72⟩:=Kd.R_slice HO_508001.out
      subst eo72
      go_wp2_with ((((with_reducible refine gate_callee (f:=33) rfl ?_); refine goesL_ (some 68) rfl rfl Tryz.func33 (by kernel_rfl) rfl #[.agg #[.slice Ao71 x508000_1.length co71,.slice Ao72 x508001_1.length co72]] rfl (by (try simp only [List.map_toArray,List.map_cons,List.map_nil]); (rfl)) ?_; (with_reducible refine (spec_l3Good.calls k1 _ _ x508000_1 _ _ x508001_1 false _ ?side1 ?side2 ?side3 ?side4 A58.out).mono ?_); (case side1 => repeat ((exact (Kd.R_reads' HO_508000.out).2.2))); (case side2 => exact (Kd.R_reads' HO_508000.out).2.1); (case side3 => repeat ((exact (Kd.R_reads' HO_508001.out).2.2))); (case side4 => exact (Kd.R_reads' HO_508001.out).2.1); rintro e w73 ⟨rfl,hb⟩; refine ⟨_,rfl,?_⟩; have n0_:=Aside0.mk (Kd.R_below (by exact HO_5.out) hb); have n1_:=Aside0.mk (Kd.R_below (by exact HO_508000.out) hb); have n2_:=Aside0.mk (Kd.R_below (by exact HO_508001.out) hb); have n3_:=Aside0.mk (blk_below (g:=gb506) (o:=.cells #[.slice none 0 0,.slice none 0 0] 26 (0,0)) (by exact BK506.out) hb); have n4_:=Aside0.mk (blk_below (g:=gb507) (o:=.cells #[.slice Ao71 x508000_1.length co71,.slice Ao72 x508001_1.length co72] 26 (0,0)) (by exact BK507.out) hb); have n5_:=Aside0.mk (below_step (by repeat (((with_reducible (exact HB.out))))) hb); clear HO_5; clear HO_508000; clear HO_508001; clear BK506; clear BK507; clear HB; have HO_5:=n0_; have HO_508000:=n1_; have HO_508001:=n2_; have BK506:=n3_; have BK507:=n4_; have HB:=n5_; clear n0_ n1_ n2_ n3_ n4_ n5_; (try clear hb); (try clear hb2); (try clear hk); (try clear hi); have hcz74_0 : w73.cell? ⟨gb506,0,none⟩ = some (.slice none 0 0):=(blk_cell BK506.out 0).trans rfl; have hcz74_1 : w73.cell? ⟨gb506,1,none⟩ = some (.slice none 0 0):=(blk_cell BK506.out 1).trans rfl; have hfz74_0:=blk_frozen BK506.out 0; have hfz74_1:=blk_frozen BK506.out 1)))
      refine bodyPost_ret (results_ct rfl _ _ gb506 26 #[.slice none 0 0,.slice none 0 0] (0,0) _ rfl (by refine blk_put (cs:=#[.slice none 0 0,.slice none 0 0]) ?_ 1 _ rfl; refine blk_put (cs:=#[.slice none 0 0,.slice none 0 0]) ?_ 0 _ rfl; exact BK506.out) Tryz.underlying26 rfl (by kernel_rfl)) rfl ?_
      exact ⟨_,_,by (rfl),by (exact Kd.R_nil _ _ _ _ _),by (exact Kd.R_nil _ _ _ _ _),by repeat (with_reducible first|exact HB.out|refine below_set ?_ GE506.out)⟩

end Go.Proofs.YtfindomajbjacaaGreatDoor.X
