-- Written by a program of ours (wip/bin/xprint.py,over the kit's print.py) out of the translation. Not trusted: Lean checks it.
import Derived.Test.YtlldonokjgoajaaX0
import Derived.Test.YtlldonokjgoajaaFbCur
import Derived.Test.YtlldonokjgoajaaFbYard
import Derived.Test.YtlldonokjgoajaaFspecl1CuranyYard
import Derived.Test.YtlldonokjgoajaaFspecl1Own
namespace Go.Proofs.Ytlldonokjgoajaa.X
open Go.RowKit Go.Proofs.YtlldonokjgoajaaW.PrintWords Go.Proofs.YtlldonokjgoajaaW.PrintLast Go.Proofs.YtlldonokjgoajaaW.PrintMore
def lbe9c : Nat → Nat → List Bool
 | 0,_ => []
 | n+1,m => (m%2==1) :: lbe9c n (m/2)
def be9c (n m : Nat) : Array Bool := ⟨lbe9c n m⟩
attribute [local go_sem] max2_int min2_int max_two min_two max_three min_three max_four min_four   -- for this text's walks alone
set_option linter.unusedVariables false
set_option linter.unusedSimpArgs false

/-! ### spec_DrawSameYard: function 89 -/
def spec_DrawSameYard.l0 : Nat → Int → List (List Int) → List (List Int) → Option ((List (List Int)) × (List (List Int)))
 | 0,_,_,_ => none
 | k + 1,x7,x1658000,x1662000 => if x7 ≥ 0 then (if 0 ≤ x7 then (if x7 < (x1658000.length : Int) then ((spec_l1Own.f (rd_L2 x1658000 x7)).bind fun t1671 => (if x1662000.length < 5864062014805 then (spec_DrawSameYard.l0 k (wrap64 (x7 - 1)) x1658000 (x1662000 ++ [t1671])) else (none))) else (none)) else (none)) else (some (x1658000,x1662000))
def spec_DrawSameYard.f (k : Nat) (l0 : List Int) : Option ((List (List Int)) × (List (List Int))):=(spec_l1Cur_anyYard.f k l0 0 0).bind fun bt1652 => ((spec_l5Own.f k bt1652.1).bind fun t1658 => ((spec_l1Cur_pick.f l0 bt1652.2.1 bt1652.2.2 4).bind fun bt1662 => (if bt1662.1 = 0 then ((spec_l1Cur_anyYard.f k l0 bt1662.2.1 bt1662.2.2).bind fun bt1665 => (some (bt1652.1,bt1665.1))) else (if bt1662.1 = 1 then (spec_DrawSameYard.l0 k (wrap64 ((bt1652.1.length : Int) - 1)) bt1652.1 ([] : List (List Int))) else (if bt1662.1 = 2 then (if (t1658.length : Int) > 0 then (if 1 ≤ (t1658.length : Int) then (some (bt1652.1,(t1658.drop (1 : Int).toNat))) else (none)) else (some (bt1652.1,t1658))) else (some (bt1652.1,t1658)))))))
theorem spec_DrawSameYard.mono_l : ∀ k,(∀ y0 y1 y2,LeO (spec_DrawSameYard.l0 k y0 y1 y2) (spec_DrawSameYard.l0 (k + 1) y0 y1 y2))
 | 0 => fun _ _ _ r h => by simp [spec_DrawSameYard.l0] at h
 | k + 1 => by
  have ih0:=spec_DrawSameYard.mono_l k
  ·intro y0 y1 y2
   unfold spec_DrawSameYard.l0
   repeat' first
   | (with_reducible exact ih0 _ _ _)
   | (with_reducible exact spec_l1Cur_anyYard.mono _ _ _ _)
   | (with_reducible exact spec_l5Own.mono _ _)
   | (with_reducible exact LeO.refl _)
   | (with_reducible exact LeO.none _)
   | (with_reducible refine LeO.ite ?_ ?_)
   | (with_reducible refine LeO.bind ?_ (fun _ => ?_))
   | exact ih0 _ _ _
   | exact spec_l1Cur_anyYard.mono _ _ _ _
   | exact spec_l5Own.mono _ _
   | exact LeO.none _
   | refine LeO.ite ?_ ?_
   | refine LeO.bind ?_ (fun _ => ?_)
theorem spec_DrawSameYard.mono : ∀ a0 k,LeO (spec_DrawSameYard.f k a0) (spec_DrawSameYard.f (k + 1) a0):=by
 intro a0 k
 have ih0:=spec_DrawSameYard.mono_l k
 unfold spec_DrawSameYard.f
 repeat' first
   | (with_reducible exact ih0 _ _ _)
   | (with_reducible exact spec_l1Cur_anyYard.mono _ _ _ _)
   | (with_reducible exact spec_l5Own.mono _ _)
   | (with_reducible exact LeO.refl _)
   | (with_reducible exact LeO.none _)
   | (with_reducible refine LeO.ite ?_ ?_)
   | (with_reducible refine LeO.bind ?_ (fun _ => ?_))
   | exact ih0 _ _ _
   | exact spec_l1Cur_anyYard.mono _ _ _ _
   | exact spec_l5Own.mono _ _
   | exact LeO.none _
   | refine LeO.ite ?_ ?_
   | refine LeO.bind ?_ (fun _ => ?_)
def spec_DrawSameYard.T12 : Bool × List (List Nat × List Nat):=(true,[([],[]),([0],[0]),([],[]),([2],[2]),([],[]),([3,4],[3,4]),([5],[5]),([6],[6]),([7],[7]),([1,8,7],[1,8]),([0,1,2,3,4,5,6,7,8,9],[]),([10,9,9,0,1,2,3,4,5,6,7,8,9],[9,10])])
def spec_DrawSameYard.B12 : List Nat:=[0,1,0,4,0,28,60,124,252,511,1023,2047]
theorem spec_DrawSameYard.tab12 : rtab .any (opsOf Try.f89 12) = spec_DrawSameYard.T12:=by kernel_rfl
theorem spec_DrawSameYard.bits12 : waitsOk spec_DrawSameYard.T12.2 spec_DrawSameYard.B12 = true:=by kernel_rfl
set_option maxHeartbeats 8000000 in
set_option maxRecDepth 100000 in
theorem spec_DrawSameYard.calls (k : Nat) (A0 : Option Addr) (c0 : Nat) (l0 : List Int) (r1 : List (List Int)) (r2 : List (List Int)) (w : World) (hr0 : Kd.C (Kd.int .u8) w A0 l0.length l0) (hc0 : l0.length ≤ c0) (h : spec_DrawSameYard.f k l0 = some (r1,r2)) :
  Calls Try.prog 89 #[.slice A0 l0.length c0] w fun e w' => ∃ v0_ v1_ : Value,e = .returned (.tuple #[.agg #[v0_],.agg #[v1_]]) ∧ Kd.Q (Kd.slice 3 (Kd.int .i64)) 24 w' w.heap.size (fun k_ => some k_ ≠ (v1_ : Value).ownBlock) v0_ r1 ∧ Kd.Q (Kd.slice 3 (Kd.int .i64)) 24 w' w.heap.size (fun k_ => some k_ ≠ (v0_ : Value).ownBlock) v1_ r2 ∧ Below w.heap.size w w':=by
 have hu42:=Try.underlying42
 have hu112:=Try.underlying112
 have HR0:=Aside0.mk hr0
 have HC0:=Aside0.mk hc0
 clear hr0 hc0
 have HB:=Aside0.mk (Below.refl w.heap.size w)
 have H : ((spec_l1Cur_anyYard.f k l0 0 0).bind fun bt1652 => ((spec_l5Own.f k bt1652.1).bind fun t1658 => ((spec_l1Cur_pick.f l0 bt1652.2.1 bt1652.2.2 4).bind fun bt1662 => (if bt1662.1 = 0 then ((spec_l1Cur_anyYard.f k l0 bt1662.2.1 bt1662.2.2).bind fun bt1665 => (some (bt1652.1,bt1665.1))) else (if bt1662.1 = 1 then (spec_DrawSameYard.l0 k (wrap64 ((bt1652.1.length : Int) - 1)) bt1652.1 ([] : List (List Int))) else (if bt1662.1 = 2 then (if (t1658.length : Int) > 0 then (if 1 ≤ (t1658.length : Int) then (some (bt1652.1,(t1658.drop (1 : Int).toNat))) else (none)) else (some (bt1652.1,t1658))) else (some (bt1652.1,t1658)))))))) = some (r1,r2):=h
 clear h
 replace H:=Option.bind_eq_some_iff.mp H
 obtain ⟨⟨t1652,t1655,t1656⟩,A20,H⟩:=H
 replace H : ((spec_l5Own.f k t1652).bind fun t1658 => ((spec_l1Cur_pick.f l0 t1655 t1656 4).bind fun bt1662 => (if bt1662.1 = 0 then ((spec_l1Cur_anyYard.f k l0 bt1662.2.1 bt1662.2.2).bind fun bt1665 => (some (t1652,bt1665.1))) else (if bt1662.1 = 1 then (spec_DrawSameYard.l0 k (wrap64 ((t1652.length : Int) - 1)) t1652 ([] : List (List Int))) else (if bt1662.1 = 2 then (if (t1658.length : Int) > 0 then (if 1 ≤ (t1658.length : Int) then (some (t1652,(t1658.drop (1 : Int).toNat))) else (none)) else (some (t1652,t1658))) else (some (t1652,t1658))))))) = some (r1,r2):=H
 have A2:=Aside0.mk A20
 clear A20
 replace H:=Option.bind_eq_some_iff.mp H
 obtain ⟨t1658,A30,H⟩:=H
 replace H : ((spec_l1Cur_pick.f l0 t1655 t1656 4).bind fun bt1662 => (if bt1662.1 = 0 then ((spec_l1Cur_anyYard.f k l0 bt1662.2.1 bt1662.2.2).bind fun bt1665 => (some (t1652,bt1665.1))) else (if bt1662.1 = 1 then (spec_DrawSameYard.l0 k (wrap64 ((t1652.length : Int) - 1)) t1652 ([] : List (List Int))) else (if bt1662.1 = 2 then (if (t1658.length : Int) > 0 then (if 1 ≤ (t1658.length : Int) then (some (t1652,(t1658.drop (1 : Int).toNat))) else (none)) else (some (t1652,t1658))) else (some (t1652,t1658)))))) = some (r1,r2):=H
 have A3:=Aside0.mk A30
 clear A30
 replace H:=Option.bind_eq_some_iff.mp H
 obtain ⟨⟨t1662,t1663,t1664⟩,A40,H⟩:=H
 replace H : (if t1662 = 0 then ((spec_l1Cur_anyYard.f k l0 t1663 t1664).bind fun bt1665 => (some (t1652,bt1665.1))) else (if t1662 = 1 then (spec_DrawSameYard.l0 k (wrap64 ((t1652.length : Int) - 1)) t1652 ([] : List (List Int))) else (if t1662 = 2 then (if (t1658.length : Int) > 0 then (if 1 ≤ (t1658.length : Int) then (some (t1652,(t1658.drop (1 : Int).toNat))) else (none)) else (some (t1652,t1658))) else (some (t1652,t1658))))) = some (r1,r2):=H
 have A4:=Aside0.mk A40
 clear A40
 have HF_:=Aside0.mk H
 clear H
 go_enter Try.func89,Try.ntmps89
 go_upto_region 5 with (first|((with_reducible refine gate_dst (N:=2) rfl ?_); refine box_event ?hg (N:=2) ?hd (cs:=#[.slice none 0 0]) (t:=42) ?hr ?_; (case hd => rfl); (case hg => rfl); (case hr => (go_simp; done)); intro gb1649 hg w7 hbox hb; have n0_:=Aside0.mk (below_step (by repeat (((with_reducible (exact HB.out))))) hb); have n1_:=Aside0.mk (hbox); have n2_:=Aside0.mk ((by rw [hg]; exact (below_size (by repeat (((with_reducible (exact HB.out)))))) : w.heap.size ≤ gb1649)); have n3_:=Aside0.mk ((by rw [hg]; exact (below_size (by repeat (((with_reducible (exact HB.out)))))) : w.heap.size ≤ gb1649)); clear HB; have HB:=n0_; have BK1649:=n1_; have GW1649:=n2_; have GE1649:=n3_; clear n0_ n1_ n2_ n3_; clear hb hbox hg)|((with_reducible refine gate_dst (N:=3) rfl ?_); refine box_event ?hg (N:=3) ?hd (cs:=#[.slice none 0 0]) (t:=42) ?hr ?_; (case hd => rfl); (case hg => rfl); (case hr => (go_simp; done)); intro gb1650 hg w8 hbox hb; have n0_:=Aside0.mk (blk_below (g:=gb1649) (o:=.cells #[.slice none 0 0] 42 (0,0)) (by exact BK1649.out) hb); have n1_:=Aside0.mk (below_step (by repeat (((with_reducible (exact HB.out))))) hb); have n2_:=Aside0.mk (hbox); have n3_:=Aside0.mk ((by rw [hg]; exact (below_size (by repeat (((with_reducible (exact HB.out)))))) : w.heap.size ≤ gb1650)); have n4_:=Aside0.mk ((by rw [hg]; exact (below_size (by repeat (((with_reducible (exact HB.out)))))) : w.heap.size ≤ gb1650)); have n5_:=Aside0.mk ((by rw [hg]; exact Nat.ne_of_lt (blk_lt (g:=gb1649) (o:=.cells #[.slice none 0 0] 42 (0,0)) (by exact BK1649.out)) : gb1649 ≠ gb1650)); have n6_:=Aside0.mk ((by rw [hg]; exact Nat.ne_of_gt (blk_lt (g:=gb1649) (o:=.cells #[.slice none 0 0] 42 (0,0)) (by exact BK1649.out)) : gb1650 ≠ gb1649)); clear BK1649; clear HB; have BK1649:=n0_; have HB:=n1_; have BK1650:=n2_; have GW1650:=n3_; have GE1650:=n4_; have NB1649_1650:=n5_; have NB1650_1649:=n6_; clear n0_ n1_ n2_ n3_ n4_ n5_ n6_; clear hb hbox hg)|((with_reducible refine gate_dst (N:=10) rfl ?_); refine box_event ?hg (N:=10) ?hd (cs:=#[.slice A0 l0.length c0,.int .i64 0,.int .u64 0]) (t:=112) ?hr ?_; (case hd => rfl); (case hg => rfl); (case hr => (go_simp; done)); intro gb1651 hg w9 hbox hb; have n0_:=Aside0.mk (blk_below (g:=gb1649) (o:=.cells #[.slice none 0 0] 42 (0,0)) (by exact BK1649.out) hb); have n1_:=Aside0.mk (blk_below (g:=gb1650) (o:=.cells #[.slice none 0 0] 42 (0,0)) (by exact BK1650.out) hb); have n2_:=Aside0.mk (below_step (by repeat (((with_reducible (exact HB.out))))) hb); have n3_:=Aside0.mk ((show IsS112 w w9 gb1651 l0 0 0 from ⟨_,_,hbox,(by rw [hg]; exact (below_size (by repeat (((with_reducible (exact HB.out))))))),HR0.out⟩)); have n4_:=Aside0.mk ((by rw [hg]; exact Nat.ne_of_lt (blk_lt (g:=gb1649) (o:=.cells #[.slice none 0 0] 42 (0,0)) (by exact BK1649.out)) : gb1649 ≠ gb1651)); have n5_:=Aside0.mk ((by rw [hg]; exact Nat.ne_of_gt (blk_lt (g:=gb1649) (o:=.cells #[.slice none 0 0] 42 (0,0)) (by exact BK1649.out)) : gb1651 ≠ gb1649)); have n6_:=Aside0.mk ((by rw [hg]; exact Nat.ne_of_lt (blk_lt (g:=gb1650) (o:=.cells #[.slice none 0 0] 42 (0,0)) (by exact BK1650.out)) : gb1650 ≠ gb1651)); have n7_:=Aside0.mk ((by rw [hg]; exact Nat.ne_of_gt (blk_lt (g:=gb1650) (o:=.cells #[.slice none 0 0] 42 (0,0)) (by exact BK1650.out)) : gb1651 ≠ gb1650)); clear BK1649; clear BK1650; clear HB; have BK1649:=n0_; have BK1650:=n1_; have HB:=n2_; have HI1651:=n3_; have NB1649_1651:=n4_; have NB1651_1649:=n5_; have NB1650_1651:=n6_; have NB1651_1650:=n7_; clear n0_ n1_ n2_ n3_ n4_ n5_ n6_ n7_; clear hb hbox hg)|((with_reducible refine gate_callee (f:=113) rfl ?_); refine goesL_ (some 12) rfl rfl Try.func113 (by kernel_rfl) rfl #[.pointer (some ⟨gb1651,0,none⟩)] rfl (by (try simp only [List.map_toArray,List.map_cons,List.map_nil]); (rfl)) ?_; (with_reducible refine (spec_l1Cur_anyYard.calls k gb1651 l0 0 0 t1652 t1655 t1656 w _ ?side1 ?side2 A2.out).mono ?_); (case side1 => repeat (((with_reducible (exact HI1651.out))))); (case side2 => repeat (((with_reducible (exact HB.out))))); rintro e w10 ⟨v1653,rfl,ho0,hi,hb,hk⟩; refine ⟨_,rfl,?_⟩; have n0_:=Aside0.mk (KeepBut.blk hk (g':=gb1649) (o:=.cells #[.slice none 0 0] 42 (0,0)) (by exact BK1649.out) NB1649_1651.out (by simp)); have n1_:=Aside0.mk (KeepBut.blk hk (g':=gb1650) (o:=.cells #[.slice none 0 0] 42 (0,0)) (by exact BK1650.out) NB1650_1651.out (by simp)); have n2_:=Aside0.mk (Kd.S_lower ho0 (below_size (by repeat (((with_reducible (exact HB.out))))))); have n3_:=Aside0.mk (hb); have n4_:=Aside0.mk (hi); clear BK1649; clear BK1650; clear HB; clear HI1651; have BK1649:=n0_; have BK1650:=n1_; have HO1654:=n2_; have HB:=n3_; have HI1651:=n4_; clear n0_ n1_ n2_ n3_ n4_; (try clear hb); (try clear hb2); (try clear hk); (try clear hi); (try clear ho0))|((with_reducible refine gate_dst (N:=5) rfl ?_); refine box_event ?hg (N:=5) ?hd (cs:=#[.slice none 0 0]) (t:=42) ?hr ?_; (case hd => rfl); (case hg => rfl); (case hr => (go_simp; done)); intro gb1657 hg w11 hbox hb; have n0_:=Aside0.mk (Kd.S_below (by exact HO1654.out) hb); have n1_:=Aside0.mk (blk_below (g:=gb1649) (o:=.cells #[.slice none 0 0] 42 (0,0)) (by exact BK1649.out) hb); have n2_:=Aside0.mk (blk_below (g:=gb1650) (o:=.cells #[.slice none 0 0] 42 (0,0)) (by exact BK1650.out) hb); have n3_:=Aside0.mk (IsS112.below (by repeat (((with_reducible (exact HI1651.out))))) hb); have n4_:=Aside0.mk (below_step (by repeat (((with_reducible (exact HB.out))))) hb); have n5_:=Aside0.mk (hbox); have n6_:=Aside0.mk ((by rw [hg]; exact (below_size (by repeat (((with_reducible (exact HB.out)))))) : w.heap.size ≤ gb1657)); have n7_:=Aside0.mk ((by rw [hg]; exact (below_size (by repeat (((with_reducible (exact HB.out)))))) : w.heap.size ≤ gb1657)); have n8_:=Aside0.mk ((by rw [hg]; exact Nat.ne_of_lt (blk_lt (g:=gb1649) (o:=.cells #[.slice none 0 0] 42 (0,0)) (by exact BK1649.out)) : gb1649 ≠ gb1657)); have n9_:=Aside0.mk ((by rw [hg]; exact Nat.ne_of_gt (blk_lt (g:=gb1649) (o:=.cells #[.slice none 0 0] 42 (0,0)) (by exact BK1649.out)) : gb1657 ≠ gb1649)); have n10_:=Aside0.mk ((by rw [hg]; exact Nat.ne_of_lt (blk_lt (g:=gb1650) (o:=.cells #[.slice none 0 0] 42 (0,0)) (by exact BK1650.out)) : gb1650 ≠ gb1657)); have n11_:=Aside0.mk ((by rw [hg]; exact Nat.ne_of_gt (blk_lt (g:=gb1650) (o:=.cells #[.slice none 0 0] 42 (0,0)) (by exact BK1650.out)) : gb1657 ≠ gb1650)); have n12_:=Aside0.mk ((by rw [hg]; exact Nat.ne_of_lt (IsS112.lt (show IsS112 w _ gb1651 l0 t1655 t1656 from by repeat (((with_reducible (exact HI1651.out)))))) : gb1651 ≠ gb1657)); have n13_:=Aside0.mk ((by rw [hg]; exact Nat.ne_of_gt (IsS112.lt (show IsS112 w _ gb1651 l0 t1655 t1656 from by repeat (((with_reducible (exact HI1651.out)))))) : gb1657 ≠ gb1651)); clear HO1654; clear BK1649; clear BK1650; clear HI1651; clear HB; have HO1654:=n0_; have BK1649:=n1_; have BK1650:=n2_; have HI1651:=n3_; have HB:=n4_; have BK1657:=n5_; have GW1657:=n6_; have GE1657:=n7_; have NB1649_1657:=n8_; have NB1657_1649:=n9_; have NB1650_1657:=n10_; have NB1657_1650:=n11_; have NB1651_1657:=n12_; have NB1657_1651:=n13_; clear n0_ n1_ n2_ n3_ n4_ n5_ n6_ n7_ n8_ n9_ n10_ n11_ n12_ n13_; clear hb hbox hg; obtain ⟨Ao12,co12,eo12⟩:=Kd.S_slice HO1654.out; subst eo12; have hnb13:=NB1657_1649.out; have hnc13:=NB1649_1657.out; have hnb14:=NB1657_1650.out; have hnc14:=NB1650_1657.out; have hnb15:=NB1657_1651.out; have hnc15:=NB1651_1657.out; have hcz16_0 : w11.cell? ⟨gb1657,0,none⟩ = some (.slice none 0 0):=(blk_cell BK1657.out 0).trans rfl; have hfz16_0:=blk_frozen BK1657.out 0)|((with_reducible refine gate_callee (f:=115) rfl ?_); refine goesL_ (some 14) rfl rfl Try.func115 (by kernel_rfl) rfl #[.agg #[.slice Ao12 t1652.length co12]] rfl (by (try simp only [List.map_toArray,List.map_cons,List.map_nil]); (rfl)) ?_; (with_reducible refine (spec_l5Own.calls k _ _ t1652 t1658 _ ?side1 ?side2 A3.out).mono ?_); (case side1 => refine (Kd.S_reads' (e:=24) (base:=w.heap.size) (ok:=fun k_ => True) (n:=t1652.length) (c:=co12) ?_).2.2; exact (by exact (Kd.S_mono (Kd.S_far (p:=⟨gb1657,0,none⟩) (Kd.S_types HO1654.out BK1657.out (by decide)) (fun _ hk => hk.2) (.slice Ao12 t1652.length co12)) (fun _ h_ => h_.1)))); (case side2 => exact (Kd.S_reads' HO1654.out).2.1); rintro e w17 ⟨v1659,rfl,ho0,hb⟩; refine ⟨_,rfl,?_⟩; have n0_:=Aside0.mk (Kd.S_elder' (by exact (Kd.S_mono (Kd.S_far (p:=⟨gb1657,0,none⟩) (Kd.S_types HO1654.out BK1657.out (by decide)) (fun _ hk => hk.2) (.slice Ao12 t1652.length co12)) (fun _ h_ => h_.1))) (Kd.S_base ho0) hb); have n1_:=Aside0.mk (Kd.S_lower (Kd.S_new' ho0 (Kd.S_lt (by exact (Kd.S_mono (Kd.S_far (p:=⟨gb1657,0,none⟩) (Kd.S_types HO1654.out BK1657.out (by decide)) (fun _ hk => hk.2) (.slice Ao12 t1652.length co12)) (fun _ h_ => h_.1))))) (below_size (by repeat (with_reducible first|exact HB.out|refine below_set ?_ GE1657.out)))); have n2_:=Aside0.mk (blk_below (g:=gb1649) (o:=.cells #[.slice none 0 0] 42 (0,0)) (by refine blk_far ?_ NB1649_1657.out _; exact BK1649.out) hb); have n3_:=Aside0.mk (blk_below (g:=gb1650) (o:=.cells #[.slice none 0 0] 42 (0,0)) (by refine blk_far ?_ NB1650_1657.out _; exact BK1650.out) hb); have n4_:=Aside0.mk (IsS112.below (show IsS112 w (w11.setCell ⟨gb1657,0,none⟩ (.slice Ao12 t1652.length co12)) gb1651 l0 t1655 t1656 from by repeat (with_reducible first|exact HI1651.out|refine IsS112.far ?_ NB1651_1657.out _)) hb); have n5_:=Aside0.mk (blk_below (g:=gb1657) (o:=.cells #[.slice Ao12 t1652.length co12] 42 (0,0)) (by refine blk_put (cs:=#[.slice none 0 0]) ?_ 0 _ rfl; exact BK1657.out) hb); have n6_:=Aside0.mk (below_step (by repeat (with_reducible first|exact HB.out|refine below_set ?_ GE1657.out)) hb); clear HO1654; clear BK1649; clear BK1650; clear HI1651; clear BK1657; clear HB; have HO1654:=n0_; have HO1660:=n1_; have BK1649:=n2_; have BK1650:=n3_; have HI1651:=n4_; have BK1657:=n5_; have HB:=n6_; clear n0_ n1_ n2_ n3_ n4_ n5_ n6_; (try clear hb); (try clear hb2); (try clear hk); (try clear hi); (try clear ho0))|((with_reducible refine gate_dst (N:=6) rfl ?_); refine box_event ?hg (N:=6) ?hd (cs:=#[.slice none 0 0]) (t:=42) ?hr ?_; (case hd => rfl); (case hg => rfl); (case hr => (go_simp; done)); intro gb1661 hg w18 hbox hb; have n0_:=Aside0.mk (Kd.S_below (by exact HO1654.out) hb); have n1_:=Aside0.mk (Kd.S_below (by exact HO1660.out) hb); have n2_:=Aside0.mk (blk_below (g:=gb1649) (o:=.cells #[.slice none 0 0] 42 (0,0)) (by exact BK1649.out) hb); have n3_:=Aside0.mk (blk_below (g:=gb1650) (o:=.cells #[.slice none 0 0] 42 (0,0)) (by exact BK1650.out) hb); have n4_:=Aside0.mk (IsS112.below (by repeat (((with_reducible (exact HI1651.out))))) hb); have n5_:=Aside0.mk (blk_below (g:=gb1657) (o:=.cells #[.slice Ao12 t1652.length co12] 42 (0,0)) (by exact BK1657.out) hb); have n6_:=Aside0.mk (below_step (by repeat (((with_reducible (exact HB.out))))) hb); have n7_:=Aside0.mk (hbox); have n8_:=Aside0.mk ((by rw [hg]; exact (below_size (by repeat (((with_reducible (exact HB.out)))))) : w.heap.size ≤ gb1661)); have n9_:=Aside0.mk ((by rw [hg]; exact (below_size (by repeat (((with_reducible (exact HB.out)))))) : w.heap.size ≤ gb1661)); have n10_:=Aside0.mk ((by rw [hg]; exact Nat.ne_of_lt (blk_lt (g:=gb1649) (o:=.cells #[.slice none 0 0] 42 (0,0)) (by exact BK1649.out)) : gb1649 ≠ gb1661)); have n11_:=Aside0.mk ((by rw [hg]; exact Nat.ne_of_gt (blk_lt (g:=gb1649) (o:=.cells #[.slice none 0 0] 42 (0,0)) (by exact BK1649.out)) : gb1661 ≠ gb1649)); have n12_:=Aside0.mk ((by rw [hg]; exact Nat.ne_of_lt (blk_lt (g:=gb1650) (o:=.cells #[.slice none 0 0] 42 (0,0)) (by exact BK1650.out)) : gb1650 ≠ gb1661)); have n13_:=Aside0.mk ((by rw [hg]; exact Nat.ne_of_gt (blk_lt (g:=gb1650) (o:=.cells #[.slice none 0 0] 42 (0,0)) (by exact BK1650.out)) : gb1661 ≠ gb1650)); have n14_:=Aside0.mk ((by rw [hg]; exact Nat.ne_of_lt (blk_lt (g:=gb1657) (o:=.cells #[.slice Ao12 t1652.length co12] 42 (0,0)) (by exact BK1657.out)) : gb1657 ≠ gb1661)); have n15_:=Aside0.mk ((by rw [hg]; exact Nat.ne_of_gt (blk_lt (g:=gb1657) (o:=.cells #[.slice Ao12 t1652.length co12] 42 (0,0)) (by exact BK1657.out)) : gb1661 ≠ gb1657)); have n16_:=Aside0.mk ((by rw [hg]; exact Nat.ne_of_lt (IsS112.lt (show IsS112 w _ gb1651 l0 t1655 t1656 from by repeat (((with_reducible (exact HI1651.out)))))) : gb1651 ≠ gb1661)); have n17_:=Aside0.mk ((by rw [hg]; exact Nat.ne_of_gt (IsS112.lt (show IsS112 w _ gb1651 l0 t1655 t1656 from by repeat (((with_reducible (exact HI1651.out)))))) : gb1661 ≠ gb1651)); clear HO1654; clear HO1660; clear BK1649; clear BK1650; clear HI1651; clear BK1657; clear HB; have HO1654:=n0_; have HO1660:=n1_; have BK1649:=n2_; have BK1650:=n3_; have HI1651:=n4_; have BK1657:=n5_; have HB:=n6_; have BK1661:=n7_; have GW1661:=n8_; have GE1661:=n9_; have NB1649_1661:=n10_; have NB1661_1649:=n11_; have NB1650_1661:=n12_; have NB1661_1650:=n13_; have NB1657_1661:=n14_; have NB1661_1657:=n15_; have NB1651_1661:=n16_; have NB1661_1651:=n17_; clear n0_ n1_ n2_ n3_ n4_ n5_ n6_ n7_ n8_ n9_ n10_ n11_ n12_ n13_ n14_ n15_ n16_ n17_; clear hb hbox hg; obtain ⟨Ao19,co19,eo19⟩:=Kd.S_slice HO1660.out; subst eo19; have hnb20:=NB1661_1649.out; have hnc20:=NB1649_1661.out; have hnb21:=NB1661_1650.out; have hnc21:=NB1650_1661.out; have hnb22:=NB1661_1657.out; have hnc22:=NB1657_1661.out; have hnb23:=NB1661_1651.out; have hnc23:=NB1651_1661.out; have hcz24_0 : w18.cell? ⟨gb1661,0,none⟩ = some (.slice none 0 0):=(blk_cell BK1661.out 0).trans rfl; have hfz24_0:=blk_frozen BK1661.out 0)|((with_reducible refine gate_callee (f:=97) rfl ?_); refine goesL_ (some 16) rfl rfl Try.func97 (by kernel_rfl) rfl #[.pointer (some ⟨gb1651,0,none⟩),.int .i64 4] rfl (by (try simp only [List.map_toArray,List.map_cons,List.map_nil]); (rfl)) ?_; (with_reducible refine (spec_l1Cur_pick.calls gb1651 l0 t1655 t1656 4 t1662 t1663 t1664 w _ ?side1 ?side2 A4.out).mono ?_); (case side1 => repeat (with_reducible first|exact HI1651.out|refine IsS112.far ?_ NB1651_1661.out _)); (case side2 => repeat (with_reducible first|exact HB.out|refine below_set ?_ GE1661.out)); rintro e w25 ⟨rfl,hi,hb,hk⟩; refine ⟨_,rfl,?_⟩; have n0_:=Aside0.mk (KeepBut.blk hk (g':=gb1649) (o:=.cells #[.slice none 0 0] 42 (0,0)) (by refine blk_far ?_ NB1649_1661.out _; exact BK1649.out) NB1649_1651.out (by simp)); have n1_:=Aside0.mk (KeepBut.blk hk (g':=gb1650) (o:=.cells #[.slice none 0 0] 42 (0,0)) (by refine blk_far ?_ NB1650_1661.out _; exact BK1650.out) NB1650_1651.out (by simp)); have n2_:=Aside0.mk (Kd.S_mono (Kd.S_keep (IsS112.apartS (show IsS112 w _ gb1651 l0 t1655 t1656 from by repeat (with_reducible first|exact HI1651.out|refine IsS112.far ?_ NB1651_1661.out _)) (by exact (Kd.S_mono (Kd.S_far (p:=⟨gb1661,0,none⟩) (Kd.S_types HO1654.out BK1661.out (by decide)) (fun _ hk => hk.2) (.slice Ao19 t1658.length co19)) (fun _ h_ => h_.1))) (by decide)) hk (fun _ h => h.2)) (fun _ h => h.1)); have n3_:=Aside0.mk (KeepBut.blk hk (g':=gb1657) (o:=.cells #[.slice Ao12 t1652.length co12] 42 (0,0)) (by refine blk_far ?_ NB1657_1661.out _; exact BK1657.out) NB1657_1651.out (by simp)); have n4_:=Aside0.mk (Kd.S_mono (Kd.S_keep (IsS112.apartS (show IsS112 w _ gb1651 l0 t1655 t1656 from by repeat (with_reducible first|exact HI1651.out|refine IsS112.far ?_ NB1651_1661.out _)) (by exact (Kd.S_mono (Kd.S_far (p:=⟨gb1661,0,none⟩) (Kd.S_types HO1660.out BK1661.out (by decide)) (fun _ hk => hk.2) (.slice Ao19 t1658.length co19)) (fun _ h_ => h_.1))) (by decide)) hk (fun _ h => h.2)) (fun _ h => h.1)); have n5_:=Aside0.mk (KeepBut.blk hk (g':=gb1661) (o:=.cells #[.slice Ao19 t1658.length co19] 42 (0,0)) (by refine blk_put (cs:=#[.slice none 0 0]) ?_ 0 _ rfl; exact BK1661.out) NB1661_1651.out (by simp)); have n6_:=Aside0.mk (hb); have n7_:=Aside0.mk (hi); clear BK1649; clear BK1650; clear HO1654; clear BK1657; clear HO1660; clear BK1661; clear HB; clear HI1651; have BK1649:=n0_; have BK1650:=n1_; have HO1654:=n2_; have BK1657:=n3_; have HO1660:=n4_; have BK1661:=n5_; have HB:=n6_; have HI1651:=n7_; clear n0_ n1_ n2_ n3_ n4_ n5_ n6_ n7_; (try clear hb); (try clear hb2); (try clear hk); (try clear hi)))
 have H:=HF_.out
 clear HF_
 by_cases c5 : t1662 = 0
 ·rw [if_pos c5] at H
  have c5b0 : (t1662 == 0) = true:=beq_iff_eq.mpr c5
  have c5b1 : (t1662 != 0) = false:=bne_eq_false_iff_eq.mpr c5
  clear c5
  replace H:=Option.bind_eq_some_iff.mp H
  obtain ⟨⟨t1665,t1668,t1669⟩,A60,H⟩:=H
  replace H : (some (t1652,t1665)) = some (r1,r2):=H
  have A6:=Aside0.mk A60
  clear A60
  simp only [Option.some.injEq,Prod.mk.injEq] at H
  obtain ⟨rfl,rfl⟩:=H
  try go_wp2_with ((((with_reducible refine gate_callee (f:=113) rfl ?_); refine goesL_ (some 20) rfl rfl Try.func113 (by kernel_rfl) rfl #[.pointer (some ⟨gb1651,0,none⟩)] rfl (by (try simp only [List.map_toArray,List.map_cons,List.map_nil]); (rfl)) ?_; (with_reducible refine (spec_l1Cur_anyYard.calls k gb1651 l0 t1663 t1664 t1665 t1668 t1669 w _ ?side1 ?side2 A6.out).mono ?_); (case side1 => repeat (((with_reducible (exact HI1651.out))))); (case side2 => repeat (((with_reducible (exact HB.out))))); rintro e w26 ⟨v1666,rfl,ho0,hi,hb,hk⟩; refine ⟨_,rfl,?_⟩; have n0_:=Aside0.mk (KeepBut.blk hk (g':=gb1649) (o:=.cells #[.slice none 0 0] 42 (0,0)) (by exact BK1649.out) NB1649_1651.out (by simp)); have n1_:=Aside0.mk (KeepBut.blk hk (g':=gb1650) (o:=.cells #[.slice none 0 0] 42 (0,0)) (by exact BK1650.out) NB1650_1651.out (by simp)); have n2_:=Aside0.mk (Kd.S_mono (Kd.S_told (Kd.S_oldK (IsS112.apartS (show IsS112 w _ gb1651 l0 t1663 t1664 from by repeat (((with_reducible (exact HI1651.out))))) (by exact HO1654.out) (by decide)) hk) (Kd.S_base ho0)) (fun _ h_ => h_.1)); have n3_:=Aside0.mk (KeepBut.blk hk (g':=gb1657) (o:=.cells #[.slice Ao12 t1652.length co12] 42 (0,0)) (by exact BK1657.out) NB1657_1651.out (by simp)); have n4_:=Aside0.mk (Kd.S_mono (Kd.S_told (Kd.S_oldK (IsS112.apartS (show IsS112 w _ gb1651 l0 t1663 t1664 from by repeat (((with_reducible (exact HI1651.out))))) (by exact HO1660.out) (by decide)) hk) (Kd.S_base ho0)) (fun _ h_ => h_.1)); have n5_:=Aside0.mk (KeepBut.blk hk (g':=gb1661) (o:=.cells #[.slice Ao19 t1658.length co19] 42 (0,0)) (by exact BK1661.out) NB1661_1651.out (by simp)); have n6_:=Aside0.mk (Kd.S_lower (Kd.S_new' (Kd.S_new' ho0 (Kd.S_lt (by exact HO1654.out))) (Kd.S_lt (by exact HO1660.out))) (below_size (by repeat (((with_reducible (exact HB.out))))))); have n7_:=Aside0.mk (hb); have n8_:=Aside0.mk (hi); clear BK1649; clear BK1650; clear HO1654; clear BK1657; clear HO1660; clear BK1661; clear HB; clear HI1651; have BK1649:=n0_; have BK1650:=n1_; have HO1654:=n2_; have BK1657:=n3_; have HO1660:=n4_; have BK1661:=n5_; have HO1667:=n6_; have HB:=n7_; have HI1651:=n8_; clear n0_ n1_ n2_ n3_ n4_ n5_ n6_ n7_ n8_; (try clear hb); (try clear hb2); (try clear hk); (try clear hi); (try clear ho0); obtain ⟨Ao27,co27,eo27⟩:=Kd.S_slice HO1667.out; subst eo27; have hcz28_0 : w26.cell? ⟨gb1661,0,none⟩ = some (.slice Ao19 t1658.length co19):=(blk_cell BK1661.out 0).trans rfl; have hfz28_0:=blk_frozen BK1661.out 0)))
  have n0_ : Aside0 (Kd.S (Kd.slice 3 (Kd.int .i64)) 24 (w26.setCell ⟨gb1661,0,none⟩ (.slice Ao27 t1665.length co27)) w.heap.size (fun k_ => some k_ ≠ (.slice Ao19 t1658.length co19 : Value).ownBlock ∧ some k_ ≠ (.slice Ao27 t1665.length co27 : Value).ownBlock) (.slice Ao12 t1652.length co12) t1652):=⟨by exact Kd.S_mono (Kd.S_far (p:=⟨gb1661,0,none⟩) (Kd.S_types HO1654.out BK1661.out (by decide)) (fun _ hk => hk.2) (.slice Ao27 t1665.length co27)) (fun _ hk => ⟨hk.1.1.2,hk.1.2⟩)⟩
  have n1_ : Aside0 (Kd.S (Kd.slice 3 (Kd.int .i64)) 24 (w26.setCell ⟨gb1661,0,none⟩ (.slice Ao27 t1665.length co27)) w.heap.size (fun k_ => some k_ ≠ (.slice Ao12 t1652.length co12 : Value).ownBlock ∧ some k_ ≠ (.slice Ao27 t1665.length co27 : Value).ownBlock) (.slice Ao19 t1658.length co19) t1658):=⟨by exact Kd.S_mono (Kd.S_far (p:=⟨gb1661,0,none⟩) (Kd.S_types HO1660.out BK1661.out (by decide)) (fun _ hk => hk.2) (.slice Ao27 t1665.length co27)) (fun _ hk => ⟨hk.1.1.2,hk.1.2⟩)⟩
  have n2_ : Aside0 (Kd.S (Kd.slice 3 (Kd.int .i64)) 24 (w26.setCell ⟨gb1661,0,none⟩ (.slice Ao27 t1665.length co27)) w.heap.size (fun k_ => some k_ ≠ (.slice Ao12 t1652.length co12 : Value).ownBlock ∧ some k_ ≠ (.slice Ao19 t1658.length co19 : Value).ownBlock) (.slice Ao27 t1665.length co27) t1665):=⟨by exact Kd.S_mono (Kd.S_far (p:=⟨gb1661,0,none⟩) (Kd.S_types HO1667.out BK1661.out (by decide)) (fun _ hk => hk.2) (.slice Ao27 t1665.length co27)) (fun _ hk => ⟨hk.1.1.2,hk.1.2⟩)⟩
  have n3_ : Aside0 ((w26.setCell ⟨gb1661,0,none⟩ (.slice Ao27 t1665.length co27)).heap[gb1649]? = some (.cells #[.slice none 0 0] 42 (0,0))):=⟨by refine blk_far ?_ NB1649_1661.out _; exact BK1649.out⟩
  have n4_ : Aside0 ((w26.setCell ⟨gb1661,0,none⟩ (.slice Ao27 t1665.length co27)).heap[gb1650]? = some (.cells #[.slice none 0 0] 42 (0,0))):=⟨by refine blk_far ?_ NB1650_1661.out _; exact BK1650.out⟩
  have n5_ : Aside0 ((w26.setCell ⟨gb1661,0,none⟩ (.slice Ao27 t1665.length co27)).heap[gb1657]? = some (.cells #[.slice Ao12 t1652.length co12] 42 (0,0))):=⟨by refine blk_far ?_ NB1657_1661.out _; exact BK1657.out⟩
  have n6_ : Aside0 ((w26.setCell ⟨gb1661,0,none⟩ (.slice Ao27 t1665.length co27)).heap[gb1661]? = some (.cells #[.slice Ao27 t1665.length co27] 42 (0,0))):=⟨by refine blk_put (cs:=#[.slice Ao19 t1658.length co19]) ?_ 0 _ rfl; exact BK1661.out⟩
  have n7_ : Aside0 (IsS112 w (w26.setCell ⟨gb1661,0,none⟩ (.slice Ao27 t1665.length co27)) gb1651 l0 t1668 t1669):=⟨by repeat (with_reducible first|exact HI1651.out|refine IsS112.far ?_ NB1651_1661.out _)⟩
  have n8_ : Aside0 (Below w.heap.size w (w26.setCell ⟨gb1661,0,none⟩ (.slice Ao27 t1665.length co27))):=⟨by repeat (with_reducible first|exact HB.out|refine below_set ?_ GE1661.out)⟩
  (try clear HO1654)
  (try clear HO1660)
  (try clear HO1667)
  (try clear BK1649)
  (try clear BK1650)
  (try clear BK1657)
  (try clear BK1661)
  (try clear HI1651)
  (try clear HB)
  generalize (w26.setCell ⟨gb1661,0,none⟩ (.slice Ao27 t1665.length co27)) = w29 at n0_ n1_ n2_ n3_ n4_ n5_ n6_ n7_ n8_ ⊢
  have HO1654:=n0_
  have HO1660:=n1_
  have HO1667:=n2_
  have BK1649:=n3_
  have BK1650:=n4_
  have BK1657:=n5_
  have BK1661:=n6_
  have HI1651:=n7_
  have HB:=n8_
  clear n0_ n1_ n2_ n3_ n4_ n5_ n6_ n7_ n8_
  have n0_:=Aside0.mk (Kd.S_drew HO1654.out)
  have n1_:=Aside0.mk (Kd.S_drew HO1660.out)
  have n2_:=Aside0.mk (Kd.S_drew HO1667.out)
  have n3_:=Aside0.mk (blk_drew BK1649.out)
  have n4_:=Aside0.mk (blk_drew BK1650.out)
  have n5_:=Aside0.mk (blk_drew BK1657.out)
  have n6_:=Aside0.mk (blk_drew BK1661.out)
  have n7_:=Aside0.mk (IsS112.drew HI1651.out)
  have n8_:=Aside0.mk (below_drew1 HB.out)
  clear HO1654
  clear HO1660
  clear HO1667
  clear BK1649
  clear BK1650
  clear BK1657
  clear BK1661
  clear HI1651
  clear HB
  have HO1654:=n0_
  have HO1660:=n1_
  have HO1667:=n2_
  have BK1649:=n3_
  have BK1650:=n4_
  have BK1657:=n5_
  have BK1661:=n6_
  have HI1651:=n7_
  have HB:=n8_
  clear n0_ n1_ n2_ n3_ n4_ n5_ n6_ n7_ n8_
  refine start_ (n:=4) (S:=fun w' => w'.cell? ⟨gb1657,0,none⟩ = some (.slice Ao12 t1652.length co12) ∧ w'.cell? ⟨gb1661,0,none⟩ = some (.slice Ao27 t1665.length co27)) (ds:=[]) #[false,false,false,false] (by kernel_rfl) rfl rfl ⟨(blk_cell BK1657.out 0).trans rfl,(blk_cell BK1661.out 0).trans rfl⟩ (fun hHeld => ?_)
  generalize w29.drew = w30 at HO1654 HO1660 HO1667 BK1649 BK1650 BK1657 BK1661 HI1651 HB hHeld ⊢
  refine take_ (i:=0) (N:=some 53) (v:=?_) (a':=?_) #[true,false,false,false] rfl rfl (by kernel_rfl) (fun _ _ _ h => h) (Or.inl ⟨by rfl,?_⟩) hHeld ?_ ?_
  rotate_left
  ·rintro w' ⟨s0,s1⟩
   go_simp
   with_reducible rfl
  rotate_left
  ·simp only [Act.put,List.setIfInBounds_toArray,List.set_cons_zero,List.set_cons_succ,i64_w,i32_w]
   rfl
  refine take_ (i:=1) (N:=some 54) (v:=?_) (a':=?_) #[true,true,false,false] rfl rfl (by kernel_rfl) (fun _ _ _ h => h) (Or.inl ⟨by rfl,?_⟩) hHeld ?_ ?_
  rotate_left
  ·rintro w' ⟨s0,s1⟩
   go_simp
   with_reducible rfl
  rotate_left
  ·simp only [Act.put,List.setIfInBounds_toArray,List.set_cons_zero,List.set_cons_succ,i64_w,i32_w]
   rfl
  refine one_ (i:=2) (N:=none) #[true,true,true,false] rfl rfl (by kernel_rfl) (by decide) (fun K hK => ?_)
  have hs31 : w30.cell? ⟨gb1649,0,none⟩ = some (.slice none 0 0):=(blk_cell BK1649.out 0).trans rfl
  have hfs31:=blk_frozen BK1649.out 0
  have hns31_1:=NB1650_1649.out
  have hns31_2:=NB1657_1649.out
  have hns31_3:=NB1661_1649.out
  have hms31_1:=NB1649_1650.out
  have hms31_2:=NB1649_1657.out
  have hms31_3:=NB1649_1661.out
  refine skip_ (w1:=?_) (by rfl) rfl ?_ ?_
  rotate_left
  ·go_simp
   rfl
  refine hK.out _ _ ⟨((cell_far (p:=⟨gb1649,_,none⟩) NB1657_1649.out _).trans (hHeld.1)),((cell_far (p:=⟨gb1649,_,none⟩) NB1661_1649.out _).trans (hHeld.2))⟩ (fun hHeld => ?_)
  clear hK K
  refine one_ (i:=3) (N:=none) #[true,true,true,true] rfl rfl (by kernel_rfl) (by decide) (fun K hK => ?_)
  have hs32 : w30.cell? ⟨gb1650,0,none⟩ = some (.slice none 0 0):=(blk_cell BK1650.out 0).trans rfl
  have hfs32:=blk_frozen BK1650.out 0
  have hns32_0:=NB1649_1650.out
  have hns32_2:=NB1657_1650.out
  have hns32_3:=NB1661_1650.out
  have hms32_0:=NB1650_1649.out
  have hms32_2:=NB1650_1657.out
  have hms32_3:=NB1650_1661.out
  refine skip_ (w1:=?_) (by rfl) rfl ?_ ?_
  rotate_left
  ·go_simp
   rfl
  refine hK.out _ _ ⟨((cell_far (p:=⟨gb1650,_,none⟩) NB1657_1650.out _).trans (hHeld.1)),((cell_far (p:=⟨gb1650,_,none⟩) NB1661_1650.out _).trans (hHeld.2))⟩ (fun hHeld => ?_)
  clear hK K
  refine done_ (by kernel_rfl) ?_
  try go_wp2
  refine bodyPost_ret (results_cc rfl _ _ gb1649 gb1650 42 42 #[.slice Ao12 t1652.length co12] #[.slice Ao27 t1665.length co27] (0,0) (0,0) _ _ rfl (by refine blk_far ?_ NB1649_1650.out _; refine blk_put (cs:=#[.slice none 0 0]) ?_ 0 _ rfl; exact BK1649.out) Try.underlying42 rfl (by kernel_rfl) rfl (by refine blk_put (cs:=#[.slice none 0 0]) ?_ 0 _ rfl; refine blk_far ?_ NB1650_1649.out _; exact BK1650.out) Try.underlying42 rfl (by kernel_rfl)) rfl ?_
  exact ⟨_,_,by (rfl),Kd.Q_of_R ((Kd.S_R (by exact Kd.S_mono (Kd.S_far (p:=⟨gb1650,0,none⟩) (Kd.S_far (p:=⟨gb1649,0,none⟩) (Kd.S_types (Kd.S_types HO1654.out BK1649.out (by decide)) BK1650.out (by decide)) (fun _ hk => hk.1.2) (.slice Ao12 t1652.length co12)) (fun _ hk => hk.2) (.slice Ao27 t1665.length co27)) (fun _ hk => hk.1.1.2)))),Kd.Q_of_R ((Kd.S_R (by exact Kd.S_mono (Kd.S_far (p:=⟨gb1650,0,none⟩) (Kd.S_far (p:=⟨gb1649,0,none⟩) (Kd.S_types (Kd.S_types HO1667.out BK1649.out (by decide)) BK1650.out (by decide)) (fun _ hk => hk.1.2) (.slice Ao12 t1652.length co12)) (fun _ hk => hk.2) (.slice Ao27 t1665.length co27)) (fun _ hk => hk.1.1.1)))),by repeat (with_reducible first|exact HB.out|refine below_set ?_ GE1649.out|refine below_set ?_ GE1650.out)⟩
 ·rw [if_neg c5] at H
  have c5b0 : (t1662 == 0) = false:=beq_eq_false_iff_ne.mpr c5
  have c5b1 : (t1662 != 0) = true:=bne_iff_ne.mpr c5
  by_cases c33 : t1662 = 1
  ·rw [if_pos c33] at H
   have c33b0 : (t1662 == 1) = true:=beq_iff_eq.mpr c33
   have c33b1 : (t1662 != 1) = false:=bne_eq_false_iff_eq.mpr c33
   clear c33
   have H':=Aside0.mk H
   clear H
   have hcz53_0 : w25.cell? ⟨gb1661,0,none⟩ = some (.slice Ao19 t1658.length co19):=(blk_cell BK1661.out 0).trans rfl
   have hfz53_0:=blk_frozen BK1661.out 0
   have hcz54_0 : w25.cell? ⟨gb1657,0,none⟩ = some (.slice Ao12 t1652.length co12):=(blk_cell BK1657.out 0).trans rfl
   have hfz54_0:=blk_frozen BK1657.out 0
   try go_wp2
   go_loopg [7] k (fun kq v7 w' => ∃ (x7_1 : Int) (x1662000_1 : List (List Int)) (u1662000 : Value),v7 = .int .i64 x7_1 ∧ Aside0 (spec_DrawSameYard.l0 kq x7_1 t1652 x1662000_1 = some (r1,r2)) ∧ Aside0 (kq ≤ k) ∧ Aside0 (Kd.Q (Kd.slice 3 (Kd.int .i64)) 24 w' w.heap.size (fun k_ => some k_ ≠ (u1662000 : Value).ownBlock) (.slice Ao12 t1652.length co12) t1652) ∧ Aside0 (Kd.Q (Kd.slice 3 (Kd.int .i64)) 24 w' w.heap.size (fun k_ => some k_ ≠ ((.slice Ao12 t1652.length co12) : Value).ownBlock) u1662000 x1662000_1) ∧ Aside0 (w'.heap[gb1649]? = some (.cells #[(.slice none 0 0)] 42 (0,0))) ∧ Aside0 (w'.heap[gb1650]? = some (.cells #[(.slice none 0 0)] 42 (0,0))) ∧ Aside0 (w'.heap[gb1657]? = some (.cells #[(.slice Ao12 t1652.length co12)] 42 (0,0))) ∧ Aside0 (w'.heap[gb1661]? = some (.cells #[u1662000] 42 (0,0))) ∧ Aside0 (Below w.heap.size w w'))
   case atStart => exact ⟨(wrap64 ((t1652.length : Int) - 1)),(([] : List (List Int))),(.slice none 0 0),(by (rfl)),H',⟨Nat.le_refl _⟩,⟨Kd.Q_of_R ((Kd.S_R (by exact Kd.S_mono (Kd.S_far (p:=⟨gb1661,0,none⟩) (Kd.S_types HO1654.out BK1661.out (by decide)) (fun _ hk => hk.2) (.slice none 0 0)) (fun _ hk => (by simp [Value.ownBlock])))))⟩,⟨Kd.Q_of_R ((Kd.S_R (by (exact Kd.S_nil _ _ _ _ _))))⟩,⟨by refine blk_far ?_ NB1649_1661.out _; exact BK1649.out⟩,⟨by refine blk_far ?_ NB1650_1661.out _; exact BK1650.out⟩,⟨by refine blk_far ?_ NB1657_1661.out _; exact BK1657.out⟩,⟨by refine blk_put (cs:=#[.slice Ao19 t1658.length co19]) ?_ 0 _ rfl; exact BK1661.out⟩,⟨by repeat (with_reducible first|exact HB.out|refine below_set ?_ GE1661.out)⟩⟩
   case round =>
    clear H'
    try clear c1
    try clear c2
    try clear p2
    try clear c3
    try clear c4
    try clear c5
    try clear c5b0
    try clear c5b1
    try clear p6
    try clear c8
    try clear c9
    try clear c11
    try clear c13
    try clear c14
    try clear c15
    try clear c20
    try clear c21
    try clear c22
    try clear c23
    try clear c33
    try clear c33b0
    try clear c33b1
    try clear c40
    try clear c41
    try clear c42
    try clear c47
    try clear c48
    try clear c49
    try clear c50
    try clear hcz16_0
    try clear hcz24_0
    try clear hcz28_0
    try clear hcz16_0
    try clear hcz24_0
    try clear hcz53_0
    try clear hcz54_0
    try clear hfz16_0
    try clear hfz24_0
    try clear hfz28_0
    try clear hfz16_0
    try clear hfz24_0
    try clear hfz53_0
    try clear hfz54_0
    obtain ⟨x7_1,x1662000_1,u1662000,rfl,HA,HK1,HO_1658000,HO_1662000,BK1649,BK1650,BK1657,BK1661,HB⟩:=hrel
    cases gk with
    | zero => exact absurd HA.out (by simp [spec_DrawSameYard.l0])
    | succ k1 =>
     have H:=HA.out
     clear HA
     simp only [spec_DrawSameYard.l0] at H
     by_cases c55 : x7_1 ≥ 0
     ·rw [if_pos c55] at H
      have c55b0 : decide (0 ≤ x7_1) = true:=decide_eq_true c55
      clear c55
      by_cases c56 : 0 ≤ x7_1
      ·rw [if_pos c56] at H
       have c56b0 : decide (0 ≤ x7_1) = true:=decide_eq_true c56
       clear c56
       by_cases c57 : x7_1 < (t1652.length : Int)
       ·rw [if_pos c57] at H
        have c57b0 : decide (x7_1 < (t1652.length : Int)) = true:=decide_eq_true c57
        clear c57
        replace H:=Option.bind_eq_some_iff.mp H
        obtain ⟨t1671,A580,H⟩:=H
        replace H : (if x1662000_1.length < 5864062014805 then (spec_DrawSameYard.l0 k1 (wrap64 (x7_1 - 1)) t1652 (x1662000_1 ++ [t1671])) else (none)) = some (r1,r2):=H
        have A58:=Aside0.mk A580
        clear A580
        by_cases c59 : x1662000_1.length < 5864062014805
        ·rw [if_pos c59] at H
         have LMc59:=Aside0.mk c59
         clear c59
         obtain ⟨y1674,hy1674⟩ : ∃ y_ : List (List Int),y_ = (x1662000_1 ++ [t1671]):=⟨_,rfl⟩
         replace H : (spec_DrawSameYard.l0 k1 (wrap64 (x7_1 - 1)) t1652 y1674) = some (r1,r2):=by (rw [hy1674]; with_reducible exact H)
         have Ny1674:=Aside0.mk hy1674
         clear hy1674
         have H':=Aside0.mk H
         clear H
         try go_wp2
         have n0_:=Aside0.mk (Kd.Q_drew HO_1658000.out)
         have n1_:=Aside0.mk (Kd.Q_drew HO_1662000.out)
         have n2_:=Aside0.mk (blk_drew BK1649.out)
         have n3_:=Aside0.mk (blk_drew BK1650.out)
         have n4_:=Aside0.mk (blk_drew BK1657.out)
         have n5_:=Aside0.mk (blk_drew BK1661.out)
         have n6_:=Aside0.mk (below_drew1 HB.out)
         clear HO_1658000
         clear HO_1662000
         clear BK1649
         clear BK1650
         clear BK1657
         clear BK1661
         clear HB
         have HO_1658000:=n0_
         have HO_1662000:=n1_
         have BK1649:=n2_
         have BK1650:=n3_
         have BK1657:=n4_
         have BK1661:=n5_
         have HB:=n6_
         clear n0_ n1_ n2_ n3_ n4_ n5_ n6_
         have p1670 : 0 ≤ (x7_1 : Int):=of_decide_eq_true (by (with_reducible assumption))
         have q1670 : x7_1 < (t1652.length : Int):=of_decide_eq_true (by (with_reducible assumption))
         obtain ⟨ad1670,A1670_0,c1670_0,e1670,hx1670_0,hl1670_0,hi1670_0⟩:=at_L2 (Kd.Q_reads' HO_1658000.out).2.2 x7_1 p1670 q1670
         cases e1670
         have HR1670_0:=Aside0.mk hi1670_0
         have HC1670_0:=Aside0.mk hl1670_0
         clear hi1670_0 hl1670_0
         replace p1670:=eq_true p1670
         replace q1670:=eq_true q1670
         refine start_ (n:=12) (S:=fun w' => w'.cell? ⟨gb1661,0,none⟩ = some (u1662000) ∧ w'.cell? ⟨gb1657,0,none⟩ = some (.slice (some ad1670) t1652.length co12) ∧ w'.cell? (ad1670.add (x7_1).toNat) = some (.slice A1670_0 (rd_L2 t1652 x7_1).length c1670_0)) (ds:=[9,11]) (be9c 12 0) (by kernel_rfl) rfl rfl ⟨(blk_cell BK1661.out 0).trans rfl,(blk_cell BK1657.out 0).trans rfl,hx1670_0⟩ (fun hHeld => ?_); refine with_tabW spec_DrawSameYard.tab12 spec_DrawSameYard.bits12 (fun HT_ HW_ => ?_)
         generalize wr.drew = w60 at HO_1658000 HO_1662000 BK1649 BK1650 BK1657 BK1661 HB HR1670_0 hx1670_0 hHeld ⊢
         refine pure_ (i:=0) (N:=some 32) (v:=?_) (a':=?_) (be9c 12 1) rfl rfl (any_of HT_.out (by kernel_rfl)) (fun _ _ _ h => h) (Or.inl ⟨by rfl,?_⟩) ?_ ?_
         rotate_left
         ·intro w'
          go_simp
          with_reducible rfl
         rotate_left
         ·simp only [Act.put,List.setIfInBounds_toArray,List.set_cons_zero,List.set_cons_succ,i64_w,i32_w]
          rfl
         refine pure_ (i:=2) (N:=some 34) (v:=?_) (a':=?_) (be9c 12 5) rfl rfl (any_of HT_.out (by kernel_rfl)) (fun _ _ _ h => h) (Or.inl ⟨by rfl,?_⟩) ?_ ?_
         rotate_left
         ·intro w'
          go_simp
          with_reducible rfl
         rotate_left
         ·simp only [Act.put,List.setIfInBounds_toArray,List.set_cons_zero,List.set_cons_succ,i64_w,i32_w]
          rfl
         refine pure_ (i:=4) (N:=some 36) (v:=?_) (a':=?_) (be9c 12 21) rfl rfl (any_of HT_.out (by kernel_rfl)) (fun _ _ _ h => h) (Or.inl ⟨by rfl,?_⟩) ?_ ?_
         rotate_left
         ·intro w'
          go_simp
          with_reducible rfl
         rotate_left
         ·simp only [Act.put,List.setIfInBounds_toArray,List.set_cons_zero,List.set_cons_succ,i64_w,i32_w]
          rfl
         refine take_ (i:=1) (N:=some 33) (v:=?_) (a':=?_) (be9c 12 23) rfl rfl (take_ofW HT_.out HW_.out (by kernel_rfl)) (fun _ _ _ h => h) (Or.inl ⟨by rfl,?_⟩) hHeld ?_ ?_
         rotate_left
         ·rintro w' ⟨s0,s1,s2⟩
          go_simp
          with_reducible rfl
         rotate_left
         ·simp only [Act.put,List.setIfInBounds_toArray,List.set_cons_zero,List.set_cons_succ,i64_w,i32_w]
          rfl
         refine take_ (i:=3) (N:=some 35) (v:=?_) (a':=?_) (be9c 12 31) rfl rfl (take_ofW HT_.out HW_.out (by kernel_rfl)) (fun _ _ _ h => h) (Or.inl ⟨by rfl,?_⟩) hHeld ?_ ?_
         rotate_left
         ·rintro w' ⟨s0,s1,s2⟩
          go_simp
          with_reducible rfl
         rotate_left
         ·simp only [Act.put,List.setIfInBounds_toArray,List.set_cons_zero,List.set_cons_succ,i64_w,i32_w]
          rfl
         refine pure_ (i:=5) (N:=some 37) (v:=?_) (a':=?_) (be9c 12 63) rfl rfl (any_of HT_.out (by kernel_rfl)) (fun _ _ _ h => h) (Or.inl ⟨by rfl,?_⟩) ?_ ?_
         rotate_left
         ·intro w'
          go_simp
          with_reducible rfl
         rotate_left
         ·simp only [Act.put,List.setIfInBounds_toArray,List.set_cons_zero,List.set_cons_succ,i64_w,i32_w]
          rfl
         refine take_ (i:=6) (N:=some 38) (v:=?_) (a':=?_) (be9c 12 127) rfl rfl (take_ofW HT_.out HW_.out (by kernel_rfl)) (fun _ _ _ h => h) (Or.inl ⟨by rfl,?_⟩) hHeld ?_ ?_
         rotate_left
         ·rintro w' ⟨s0,s1,s2⟩
          go_simp
          with_reducible rfl
         rotate_left
         ·simp only [Act.put,List.setIfInBounds_toArray,List.set_cons_zero,List.set_cons_succ,i64_w,i32_w]
          rfl
         refine one_ (i:=7) (N:=some 39) (be9c 12 255) rfl rfl (one_of HT_.out (by kernel_rfl)) (by decide) (fun K hK => ?_)
         refine goes_ Try.func157 (by kernel_rfl) rfl #[.slice A1670_0 (rd_L2 t1652 x7_1).length c1670_0] (by rfl) rfl rfl (by (try simp only [List.map_toArray,List.map_cons,List.map_nil]); (rfl)) ?_
         with_reducible refine (spec_l1Own.calls _ _ (rd_L2 t1652 x7_1) t1671 _ ?side1 ?side2 A58.out).mono ?_
         (case side1 => repeat ((exact (by repeat (with_reducible exact HR1670_0.out)))))
         (case side2 => exact HC1670_0.out)
         rintro e w61 ⟨v1672,rfl,ho0,hb⟩
         have HS2_:=(hb.cell (World.block_lt_of_cell? _ _ (hHeld.2.2))).trans (hHeld.2.2)
         refine ⟨_,rfl,?_⟩
         have n0_:=Aside0.mk (Kd.Q_elder' (by exact HO_1658000.out) (Kd.R_base ho0) hb)
         have n1_:=Aside0.mk (Kd.Q_elder' (by exact HO_1662000.out) (Kd.R_base ho0) hb)
         have n2_:=Aside0.mk (Kd.R_lower ho0 (below_size (by repeat (((with_reducible (exact HB.out)))))))
         have n3_:=Aside0.mk (blk_below (g:=gb1649) (o:=.cells #[.slice none 0 0] 42 (0,0)) (by exact BK1649.out) hb)
         have n4_:=Aside0.mk (blk_below (g:=gb1650) (o:=.cells #[.slice none 0 0] 42 (0,0)) (by exact BK1650.out) hb)
         have n5_:=Aside0.mk (blk_below (g:=gb1657) (o:=.cells #[.slice (some ad1670) t1652.length co12] 42 (0,0)) (by exact BK1657.out) hb)
         have n6_:=Aside0.mk (blk_below (g:=gb1661) (o:=.cells #[u1662000] 42 (0,0)) (by exact BK1661.out) hb)
         have n7_:=Aside0.mk (Kd.C_below (by repeat (with_reducible exact HR1670_0.out)) hb)
         have n8_:=Aside0.mk (below_step (by repeat (((with_reducible (exact HB.out))))) hb)
         clear HO_1658000
         clear HO_1662000
         clear BK1649
         clear BK1650
         clear BK1657
         clear BK1661
         clear HR1670_0
         clear HB
         have HO_1658000:=n0_
         have HO_1662000:=n1_
         have HO1673:=n2_
         have BK1649:=n3_
         have BK1650:=n4_
         have BK1657:=n5_
         have BK1661:=n6_
         have HR1670_0:=n7_
         have HB:=n8_
         clear n0_ n1_ n2_ n3_ n4_ n5_ n6_ n7_ n8_
         (try clear hb)
         (try clear hb2)
         (try clear hk)
         (try clear hi)
         (try clear ho0)
         obtain ⟨Ao63,co63,eo63⟩:=Kd.R_slice HO1673.out
         (subst eo63)
         refine hK.out _ _ ⟨(blk_cell BK1661.out 0).trans rfl,(blk_cell BK1657.out 0).trans rfl,HS2_⟩ (fun hHeld => ?_)
         clear hK K
         refine norm_ (a':=?_) ?_ ?_
         rotate_left
         ·show Act.put _ (some 39) _ = _
          simp only [Act.put,List.setIfInBounds_toArray,List.set_cons_zero,List.set_cons_succ,i64_w,i32_w]
          rfl
         refine one_ (i:=8) (N:=some 40) (be9c 12 511) rfl rfl (one_of HT_.out (by kernel_rfl)) (by decide) (fun K hK => ?_)
         refine value_ (w1:=?_) (v:=?_) (by rfl) rfl ?_ ?_
         rotate_left 2
         ·go_simp
          constructor
          ·rfl
          ·rfl
         refine hK.out _ _ ⟨(blk_cell (blk_alloc BK1661.out _) 0).trans rfl,(blk_cell (blk_alloc BK1657.out _) 0).trans rfl,(World.cell?_alloc_lt _ _ _ (World.block_lt_of_cell? _ _ (hHeld.2.2))).trans (hHeld.2.2)⟩ (fun hHeld => ?_)
         clear hK K
         refine norm_ (a':=?_) ?_ ?_
         rotate_left
         ·show Act.put _ (some 40) _ = _
          simp only [Act.put,List.setIfInBounds_toArray,List.set_cons_zero,List.set_cons_succ,i64_w,i32_w]
          rfl
         refine last_ (i:=9) (N:=some 41) (be9c 12 1023) rfl rfl (one_of HT_.out (by kernel_rfl)) (by decide) (fun K hK => ?_)
         refine Kd.Q_append_step (Kd.slice 3 (Kd.int .i64)) (w0:=w) w.heap.size (by rfl) (.tmp 33) (.tmp 40) 38 24 (.slice none 0 0) 24 rfl Try.underlying38 info24 rfl (by decide) (by omega) u1662000 x1662000_1 t1671 [.slice Ao63 t1671.length co63] (fun k_ => some k_ ≠ (.slice (some ad1670) t1652.length co12 : Value).ownBlock) (fun k_ => ((fun k_ => some k_ ≠ (.slice (some ad1670) t1652.length co12 : Value).ownBlock)) k_ ∧ some k_ ≠ (u1662000 : Value).ownBlock) rfl rfl ?aP (fun _ hk => hk) ?aF ?aO ?aB ?aS ?aL ?_
         (case aP => exact Kd.M_row (Kd.R_mono (Kd.R_apart' (Kd.R_apart' (HO1673.out) (Kd.Q_typed HO_1658000.out) (by decide)) (Kd.Q_typed HO_1662000.out) (by decide)) (fun k_ hk => ⟨hk.1.2,hk.2⟩)))
         (case aB => exact (by repeat (((with_reducible (exact HB.out))))))
         (case aF => exact (fun k_ hk => Kd.fresh' (Kd.Q_lt (by exact HO_1658000.out)) k_ hk))
         (case aO => exact (by exact Kd.Q_mono HO_1662000.out (fun _ hk => hk.1)))
         (case aS => exact (below_size (by repeat (((with_reducible (exact HB.out)))))))
         (case aL => have:=LMc59.out; omega)
         intro v1675 w62 ho hb hg hat
         rw [← Ny1674.out] at ho
         have n0_:=Aside0.mk (Kd.Q_after (ok:=(fun k_ => some k_ ≠ (.slice Ao63 t1671.length co63 : Value).ownBlock)) (by exact Kd.Q_mono HO_1658000.out (fun _ hk => ⟨hk.2,hk.1⟩)) hg hat)
         have n1_:=Aside0.mk (blk_grown (g:=gb1649) (o:=.cells #[.slice none 0 0] 42 (0,0)) (by exact BK1649.out) hg (Kd.Q_ne HO_1662000.out BK1649.out (by decide)))
         have n2_:=Aside0.mk (blk_grown (g:=gb1650) (o:=.cells #[.slice none 0 0] 42 (0,0)) (by exact BK1650.out) hg (Kd.Q_ne HO_1662000.out BK1650.out (by decide)))
         have n3_:=Aside0.mk (blk_grown (g:=gb1657) (o:=.cells #[.slice (some ad1670) t1652.length co12] 42 (0,0)) (by exact BK1657.out) hg (Kd.Q_ne HO_1662000.out BK1657.out (by decide)))
         have n4_:=Aside0.mk (blk_grown (g:=gb1661) (o:=.cells #[u1662000] 42 (0,0)) (by exact BK1661.out) hg (Kd.Q_ne HO_1662000.out BK1661.out (by decide)))
         have n5_:=Aside0.mk (hb)
         have n6_:=Aside0.mk (ho)
         clear HO_1658000
         clear BK1649
         clear BK1650
         clear BK1657
         clear BK1661
         clear HB
         clear HO_1662000
         clear HO1673
         have HO_1658000:=n0_
         have BK1649:=n1_
         have BK1650:=n2_
         have BK1657:=n3_
         have BK1661:=n4_
         have HB:=n5_
         have HO1676:=n6_
         clear n0_ n1_ n2_ n3_ n4_ n5_ n6_
         clear ho hb hg hat
         obtain ⟨Ao64,co64,eo64,_⟩:=Kd.Q_slice HO1676.out
         (subst eo64)
         refine hK.out _ _ ?_
         clear hK K
         refine norm_ (a':=?_) ?_ ?_
         rotate_left
         ·show Act.put _ (some 41) _ = _
          simp only [Act.put,List.setIfInBounds_toArray,List.set_cons_zero,List.set_cons_succ,i64_w,i32_w]
          rfl
         refine pure_ (i:=10) (N:=some 42) (v:=?_) (a':=?_) (be9c 12 2047) rfl rfl (any_of HT_.out (by kernel_rfl)) (fun _ _ _ h => h) (Or.inl ⟨by rfl,?_⟩) ?_ ?_
         rotate_left
         ·intro w'
          go_simp
          with_reducible rfl
         rotate_left
         ·simp only [Act.put,List.setIfInBounds_toArray,List.set_cons_zero,List.set_cons_succ,i64_w,i32_w]
          rfl
         refine last_ (i:=11) (N:=none) (be9c 12 4095) rfl rfl (one_of HT_.out (by kernel_rfl)) (by decide) (fun K hK => ?_)
         have hs65 : w62.cell? ⟨gb1661,0,none⟩ = some (u1662000):=(blk_cell BK1661.out 0).trans rfl
         have hfs65:=blk_frozen BK1661.out 0
         have hns65_0:=NB1649_1661.out
         have hns65_1:=NB1650_1661.out
         have hns65_2:=NB1657_1661.out
         have hms65_0:=NB1661_1649.out
         have hms65_1:=NB1661_1650.out
         have hms65_2:=NB1661_1657.out
         refine skip_ (w1:=?_) (by rfl) rfl ?_ ?_
         rotate_left
         ·go_simp
          rfl
         refine hK.out _ _ ?_
         clear hK K
         refine done_ (done_of HT_.out (by kernel_rfl)) ?_
         try go_wp2
         go_roundg k1
         case measure => have:=HK1.out; omega
         case rel => exact ⟨(wrap64 (x7_1 - 1)),(y1674),(.slice Ao64 y1674.length co64),(by (rfl)),H',⟨by have:=HK1.out; omega⟩,⟨by exact Kd.Q_mono (Kd.Q_far (p:=⟨gb1661,0,none⟩) (Kd.Q_types HO_1658000.out BK1661.out (by decide)) (fun _ hk => hk.2) (.slice Ao64 y1674.length co64)) (fun _ hk => hk.1.2)⟩,⟨by exact Kd.Q_mono (Kd.Q_far (p:=⟨gb1661,0,none⟩) (Kd.Q_types HO1676.out BK1661.out (by decide)) (fun _ hk => hk.2) (.slice Ao64 y1674.length co64)) (fun _ hk => hk.1)⟩,⟨by refine blk_far ?_ NB1649_1661.out _; exact BK1649.out⟩,⟨by refine blk_far ?_ NB1650_1661.out _; exact BK1650.out⟩,⟨by refine blk_far ?_ NB1657_1661.out _; exact BK1657.out⟩,⟨by refine blk_put (cs:=#[u1662000]) ?_ 0 _ rfl; exact BK1661.out⟩,⟨by repeat (with_reducible first|exact HB.out|refine below_set ?_ GE1661.out)⟩⟩
        ·rw [if_neg c59] at H
         exact absurd H (by simp)
       ·rw [if_neg c57] at H
        exact absurd H (by simp)
      ·rw [if_neg c56] at H
       exact absurd H (by simp)
     ·rw [if_neg c55] at H
      have c55b0 : decide (0 ≤ x7_1) = false:=decide_eq_false c55
      clear c55
      simp only [Option.some.injEq,Prod.mk.injEq] at H
      obtain ⟨rfl,rfl⟩:=H
      try go_wp2
      have n0_:=Aside0.mk (Kd.Q_drew HO_1658000.out)
      have n1_:=Aside0.mk (Kd.Q_drew HO_1662000.out)
      have n2_:=Aside0.mk (blk_drew BK1649.out)
      have n3_:=Aside0.mk (blk_drew BK1650.out)
      have n4_:=Aside0.mk (blk_drew BK1657.out)
      have n5_:=Aside0.mk (blk_drew BK1661.out)
      have n6_:=Aside0.mk (below_drew1 HB.out)
      clear HO_1658000
      clear HO_1662000
      clear BK1649
      clear BK1650
      clear BK1657
      clear BK1661
      clear HB
      have HO_1658000:=n0_
      have HO_1662000:=n1_
      have BK1649:=n2_
      have BK1650:=n3_
      have BK1657:=n4_
      have BK1661:=n5_
      have HB:=n6_
      clear n0_ n1_ n2_ n3_ n4_ n5_ n6_
      obtain ⟨Ao68,co68,eo68,_⟩:=Kd.Q_slice HO_1662000.out
      (subst eo68)
      refine start_ (n:=4) (S:=fun w' => w'.cell? ⟨gb1657,0,none⟩ = some (.slice Ao12 t1652.length co12) ∧ w'.cell? ⟨gb1661,0,none⟩ = some (.slice Ao68 x1662000_1.length co68)) (ds:=[]) #[false,false,false,false] (by kernel_rfl) rfl rfl ⟨(blk_cell BK1657.out 0).trans rfl,(blk_cell BK1661.out 0).trans rfl⟩ (fun hHeld => ?_)
      generalize wr.drew = w66 at HO_1658000 HO_1662000 BK1649 BK1650 BK1657 BK1661 HB hHeld ⊢
      refine take_ (i:=0) (N:=some 53) (v:=?_) (a':=?_) #[true,false,false,false] rfl rfl (by kernel_rfl) (fun _ _ _ h => h) (Or.inl ⟨by rfl,?_⟩) hHeld ?_ ?_
      rotate_left
      ·rintro w' ⟨s0,s1⟩
       go_simp
       with_reducible rfl
      rotate_left
      ·simp only [Act.put,List.setIfInBounds_toArray,List.set_cons_zero,List.set_cons_succ,i64_w,i32_w]
       rfl
      refine take_ (i:=1) (N:=some 54) (v:=?_) (a':=?_) #[true,true,false,false] rfl rfl (by kernel_rfl) (fun _ _ _ h => h) (Or.inl ⟨by rfl,?_⟩) hHeld ?_ ?_
      rotate_left
      ·rintro w' ⟨s0,s1⟩
       go_simp
       with_reducible rfl
      rotate_left
      ·simp only [Act.put,List.setIfInBounds_toArray,List.set_cons_zero,List.set_cons_succ,i64_w,i32_w]
       rfl
      refine one_ (i:=2) (N:=none) #[true,true,true,false] rfl rfl (by kernel_rfl) (by decide) (fun K hK => ?_)
      have hs67 : w66.cell? ⟨gb1649,0,none⟩ = some (.slice none 0 0):=(blk_cell BK1649.out 0).trans rfl
      have hfs67:=blk_frozen BK1649.out 0
      have hns67_1:=NB1650_1649.out
      have hns67_2:=NB1657_1649.out
      have hns67_3:=NB1661_1649.out
      have hms67_1:=NB1649_1650.out
      have hms67_2:=NB1649_1657.out
      have hms67_3:=NB1649_1661.out
      refine skip_ (w1:=?_) (by rfl) rfl ?_ ?_
      rotate_left
      ·go_simp
       rfl
      refine hK.out _ _ ⟨((cell_far (p:=⟨gb1649,_,none⟩) NB1657_1649.out _).trans (hHeld.1)),((cell_far (p:=⟨gb1649,_,none⟩) NB1661_1649.out _).trans (hHeld.2))⟩ (fun hHeld => ?_)
      clear hK K
      refine one_ (i:=3) (N:=none) #[true,true,true,true] rfl rfl (by kernel_rfl) (by decide) (fun K hK => ?_)
      have hs69 : w66.cell? ⟨gb1650,0,none⟩ = some (.slice none 0 0):=(blk_cell BK1650.out 0).trans rfl
      have hfs69:=blk_frozen BK1650.out 0
      have hns69_0:=NB1649_1650.out
      have hns69_2:=NB1657_1650.out
      have hns69_3:=NB1661_1650.out
      have hms69_0:=NB1650_1649.out
      have hms69_2:=NB1650_1657.out
      have hms69_3:=NB1650_1661.out
      refine skip_ (w1:=?_) (by rfl) rfl ?_ ?_
      rotate_left
      ·go_simp
       rfl
      refine hK.out _ _ ⟨((cell_far (p:=⟨gb1650,_,none⟩) NB1657_1650.out _).trans (hHeld.1)),((cell_far (p:=⟨gb1650,_,none⟩) NB1661_1650.out _).trans (hHeld.2))⟩ (fun hHeld => ?_)
      clear hK K
      refine done_ (by kernel_rfl) ?_
      try go_wp2
      refine bodyPost_ret (results_cc rfl _ _ gb1649 gb1650 42 42 #[.slice Ao12 t1652.length co12] #[.slice Ao68 x1662000_1.length co68] (0,0) (0,0) _ _ rfl (by refine blk_far ?_ NB1649_1650.out _; refine blk_put (cs:=#[.slice none 0 0]) ?_ 0 _ rfl; exact BK1649.out) Try.underlying42 rfl (by kernel_rfl) rfl (by refine blk_put (cs:=#[.slice none 0 0]) ?_ 0 _ rfl; refine blk_far ?_ NB1650_1649.out _; exact BK1650.out) Try.underlying42 rfl (by kernel_rfl)) rfl ?_
      exact ⟨_,_,by (rfl),by exact Kd.Q_mono (Kd.Q_far (p:=⟨gb1650,0,none⟩) (Kd.Q_far (p:=⟨gb1649,0,none⟩) (Kd.Q_types (Kd.Q_types HO_1658000.out BK1649.out (by decide)) BK1650.out (by decide)) (fun _ hk => hk.1.2) (.slice Ao12 t1652.length co12)) (fun _ hk => hk.2) (.slice Ao68 x1662000_1.length co68)) (fun _ hk => hk.1.1),by exact Kd.Q_mono (Kd.Q_far (p:=⟨gb1650,0,none⟩) (Kd.Q_far (p:=⟨gb1649,0,none⟩) (Kd.Q_types (Kd.Q_types HO_1662000.out BK1649.out (by decide)) BK1650.out (by decide)) (fun _ hk => hk.1.2) (.slice Ao12 t1652.length co12)) (fun _ hk => hk.2) (.slice Ao68 x1662000_1.length co68)) (fun _ hk => hk.1.1),by repeat (with_reducible first|exact HB.out|refine below_set ?_ GE1649.out|refine below_set ?_ GE1650.out)⟩
  ·rw [if_neg c33] at H
   have c33b0 : (t1662 == 1) = false:=beq_eq_false_iff_ne.mpr c33
   have c33b1 : (t1662 != 1) = true:=bne_iff_ne.mpr c33
   by_cases c70 : t1662 = 2
   ·rw [if_pos c70] at H
    have c70b0 : (t1662 == 2) = true:=beq_iff_eq.mpr c70
    have c70b1 : (t1662 != 2) = false:=bne_eq_false_iff_eq.mpr c70
    clear c70
    by_cases c71 : (t1658.length : Int) > 0
    ·rw [if_pos c71] at H
     have c71b0 : decide (0 < (t1658.length : Int)) = true:=decide_eq_true c71
     have c71b1 : decide (0 < t1658.length) = true:=decide_eq_true (by omega)
     clear c71
     by_cases c72 : 1 ≤ (t1658.length : Int)
     ·rw [if_pos c72] at H
      have c72b0:=eq_true c72
      have c72b1 : decide (1 ≤ (t1658.length : Int)) = true:=decide_eq_true c72
      clear c72
      obtain ⟨y1677,hy1677⟩ : ∃ y_ : List (List Int),y_ = (t1658.drop (1 : Int).toNat):=⟨_,rfl⟩
      replace H : (some (t1652,y1677)) = some (r1,r2):=by (rw [hy1677]; with_reducible exact H)
      have Ny1677:=Aside0.mk hy1677
      clear hy1677
      simp only [Option.some.injEq,Prod.mk.injEq] at H
      obtain ⟨rfl,rfl⟩:=H
      have hcz92_0 : w25.cell? ⟨gb1661,0,none⟩ = some (.slice Ao19 t1658.length co19):=(blk_cell BK1661.out 0).trans rfl
      have hfz92_0:=blk_frozen BK1661.out 0
      have n_:=Aside0.mk (Kd.S_mono (ok':=(fun k_ => some k_ ≠ (.slice Ao12 t1652.length co12 : Value).ownBlock)) HO1660.out (fun k_ hk => hk.2))
      clear HO1660
      have HO1660:=n_
      clear n_
      have q93 : (1 : Int) ≤ ((t1658.length : Int) : Int):=of_decide_eq_true (by (with_reducible assumption))
      obtain ⟨i093,hi093,_,hsz93,_⟩:=info_parts info24
      have hcut93:=cut_from (P:=Try.prog) 38 24 .i64 Try.underlying38 hi093 1 hsz93 Ao19 t1658.length co19 1 (by omega) q93
      have hr93:=Kd.Q_drop (k:=(1 : Int).toNat) (Kd.Q_of_R (Kd.S_R HO1660.out)) (by omega)
      obtain ⟨A93,hA93⟩ : ∃ A1,A1 = (if co19 = (1 : Int).toNat then Ao19 else (Ao19 : Option Addr).map (·.add ((1 : Int).toNat * 1))):=⟨_,rfl⟩
      obtain ⟨c93,hc93⟩ : ∃ c1,c1 = co19 - (1 : Int).toNat:=⟨_,rfl⟩
      have hy93 : y1677.length = t1658.length - (1 : Int).toNat:=(by rw [Ny1677.out,List.length_drop])
      rw [← Ny1677.out] at hr93
      rw [← hy93,← hA93,← hc93] at hcut93
      replace hr93 : Kd.Q (Kd.slice 3 (Kd.int .i64)) 24 w25 w.heap.size (fun k_ => some k_ ≠ (.slice Ao12 t1652.length co12 : Value).ownBlock) (.slice A93 y1677.length c93) y1677:=(by rw [hA93,hc93,hy93]; exact hr93)
      have HE93 : Aside0 ((Value.slice A93 y1677.length c93).ownBlock = (.slice Ao19 t1658.length co19 : Value).ownBlock):=⟨by rw [hA93]; split <;> (cases (Ao19 : Option Addr) <;> rfl)⟩
      clear hy93 hi093 hsz93 HO1660 hA93 hc93
      have HO1679:=Aside0.mk hr93
      clear hr93
      replace q93:=eq_true q93
      have n_:=Aside0.mk (Kd.S_mono (ok':=fun k_ => (True ∧ some k_ ≠ (.slice A93 y1677.length c93 : Value).ownBlock)) HO1654.out (fun k_ hk => ⟨trivial,(by rw [HE93.out]; exact hk.2)⟩))
      clear HO1654
      have HO1654:=n_
      clear n_
      try go_wp2
      have n0_ : Aside0 (Kd.S (Kd.slice 3 (Kd.int .i64)) 24 (w25.setCell ⟨gb1661,0,none⟩ (.slice A93 y1677.length c93)) w.heap.size (fun k_ => some k_ ≠ (.slice A93 y1677.length c93 : Value).ownBlock) (.slice Ao12 t1652.length co12) t1652):=⟨by exact Kd.S_mono (Kd.S_far (p:=⟨gb1661,0,none⟩) (Kd.S_types HO1654.out BK1661.out (by decide)) (fun _ hk => hk.2) (.slice A93 y1677.length c93)) (fun _ hk => hk.1.2)⟩
      have n1_ : Aside0 (Kd.Q (Kd.slice 3 (Kd.int .i64)) 24 (w25.setCell ⟨gb1661,0,none⟩ (.slice A93 y1677.length c93)) w.heap.size (fun k_ => some k_ ≠ (.slice Ao12 t1652.length co12 : Value).ownBlock) (.slice A93 y1677.length c93) y1677):=⟨by exact Kd.Q_mono (Kd.Q_far (p:=⟨gb1661,0,none⟩) (Kd.Q_types HO1679.out BK1661.out (by decide)) (fun _ hk => hk.2) (.slice A93 y1677.length c93)) (fun _ hk => hk.1)⟩
      have n2_ : Aside0 ((w25.setCell ⟨gb1661,0,none⟩ (.slice A93 y1677.length c93)).heap[gb1649]? = some (.cells #[.slice none 0 0] 42 (0,0))):=⟨by refine blk_far ?_ NB1649_1661.out _; exact BK1649.out⟩
      have n3_ : Aside0 ((w25.setCell ⟨gb1661,0,none⟩ (.slice A93 y1677.length c93)).heap[gb1650]? = some (.cells #[.slice none 0 0] 42 (0,0))):=⟨by refine blk_far ?_ NB1650_1661.out _; exact BK1650.out⟩
      have n4_ : Aside0 ((w25.setCell ⟨gb1661,0,none⟩ (.slice A93 y1677.length c93)).heap[gb1657]? = some (.cells #[.slice Ao12 t1652.length co12] 42 (0,0))):=⟨by refine blk_far ?_ NB1657_1661.out _; exact BK1657.out⟩
      have n5_ : Aside0 ((w25.setCell ⟨gb1661,0,none⟩ (.slice A93 y1677.length c93)).heap[gb1661]? = some (.cells #[.slice A93 y1677.length c93] 42 (0,0))):=⟨by refine blk_put (cs:=#[.slice Ao19 t1658.length co19]) ?_ 0 _ rfl; exact BK1661.out⟩
      have n6_ : Aside0 (IsS112 w (w25.setCell ⟨gb1661,0,none⟩ (.slice A93 y1677.length c93)) gb1651 l0 t1663 t1664):=⟨by repeat (with_reducible first|exact HI1651.out|refine IsS112.far ?_ NB1651_1661.out _)⟩
      have n7_ : Aside0 (Below w.heap.size w (w25.setCell ⟨gb1661,0,none⟩ (.slice A93 y1677.length c93))):=⟨by repeat (with_reducible first|exact HB.out|refine below_set ?_ GE1661.out)⟩
      (try clear HO1654)
      (try clear HO1679)
      (try clear BK1649)
      (try clear BK1650)
      (try clear BK1657)
      (try clear BK1661)
      (try clear HI1651)
      (try clear HB)
      generalize (w25.setCell ⟨gb1661,0,none⟩ (.slice A93 y1677.length c93)) = w94 at n0_ n1_ n2_ n3_ n4_ n5_ n6_ n7_ ⊢
      have HO1654:=n0_
      have HO1679:=n1_
      have BK1649:=n2_
      have BK1650:=n3_
      have BK1657:=n4_
      have BK1661:=n5_
      have HI1651:=n6_
      have HB:=n7_
      clear n0_ n1_ n2_ n3_ n4_ n5_ n6_ n7_
      have n0_:=Aside0.mk (Kd.S_drew HO1654.out)
      have n1_:=Aside0.mk (Kd.Q_drew HO1679.out)
      have n2_:=Aside0.mk (blk_drew BK1649.out)
      have n3_:=Aside0.mk (blk_drew BK1650.out)
      have n4_:=Aside0.mk (blk_drew BK1657.out)
      have n5_:=Aside0.mk (blk_drew BK1661.out)
      have n6_:=Aside0.mk (IsS112.drew HI1651.out)
      have n7_:=Aside0.mk (below_drew1 HB.out)
      clear HO1654
      clear HO1679
      clear BK1649
      clear BK1650
      clear BK1657
      clear BK1661
      clear HI1651
      clear HB
      have HO1654:=n0_
      have HO1679:=n1_
      have BK1649:=n2_
      have BK1650:=n3_
      have BK1657:=n4_
      have BK1661:=n5_
      have HI1651:=n6_
      have HB:=n7_
      clear n0_ n1_ n2_ n3_ n4_ n5_ n6_ n7_
      refine start_ (n:=4) (S:=fun w' => w'.cell? ⟨gb1657,0,none⟩ = some (.slice Ao12 t1652.length co12) ∧ w'.cell? ⟨gb1661,0,none⟩ = some (.slice A93 y1677.length c93)) (ds:=[]) #[false,false,false,false] (by kernel_rfl) rfl rfl ⟨(blk_cell BK1657.out 0).trans rfl,(blk_cell BK1661.out 0).trans rfl⟩ (fun hHeld => ?_)
      generalize w94.drew = w95 at HO1654 HO1679 BK1649 BK1650 BK1657 BK1661 HI1651 HB hHeld ⊢
      refine take_ (i:=0) (N:=some 53) (v:=?_) (a':=?_) #[true,false,false,false] rfl rfl (by kernel_rfl) (fun _ _ _ h => h) (Or.inl ⟨by rfl,?_⟩) hHeld ?_ ?_
      rotate_left
      ·rintro w' ⟨s0,s1⟩
       go_simp
       with_reducible rfl
      rotate_left
      ·simp only [Act.put,List.setIfInBounds_toArray,List.set_cons_zero,List.set_cons_succ,i64_w,i32_w]
       rfl
      refine take_ (i:=1) (N:=some 54) (v:=?_) (a':=?_) #[true,true,false,false] rfl rfl (by kernel_rfl) (fun _ _ _ h => h) (Or.inl ⟨by rfl,?_⟩) hHeld ?_ ?_
      rotate_left
      ·rintro w' ⟨s0,s1⟩
       go_simp
       with_reducible rfl
      rotate_left
      ·simp only [Act.put,List.setIfInBounds_toArray,List.set_cons_zero,List.set_cons_succ,i64_w,i32_w]
       rfl
      refine one_ (i:=2) (N:=none) #[true,true,true,false] rfl rfl (by kernel_rfl) (by decide) (fun K hK => ?_)
      have hs96 : w95.cell? ⟨gb1649,0,none⟩ = some (.slice none 0 0):=(blk_cell BK1649.out 0).trans rfl
      have hfs96:=blk_frozen BK1649.out 0
      have hns96_1:=NB1650_1649.out
      have hns96_2:=NB1657_1649.out
      have hns96_3:=NB1661_1649.out
      have hms96_1:=NB1649_1650.out
      have hms96_2:=NB1649_1657.out
      have hms96_3:=NB1649_1661.out
      refine skip_ (w1:=?_) (by rfl) rfl ?_ ?_
      rotate_left
      ·go_simp
       rfl
      refine hK.out _ _ ⟨((cell_far (p:=⟨gb1649,_,none⟩) NB1657_1649.out _).trans (hHeld.1)),((cell_far (p:=⟨gb1649,_,none⟩) NB1661_1649.out _).trans (hHeld.2))⟩ (fun hHeld => ?_)
      clear hK K
      refine one_ (i:=3) (N:=none) #[true,true,true,true] rfl rfl (by kernel_rfl) (by decide) (fun K hK => ?_)
      have hs97 : w95.cell? ⟨gb1650,0,none⟩ = some (.slice none 0 0):=(blk_cell BK1650.out 0).trans rfl
      have hfs97:=blk_frozen BK1650.out 0
      have hns97_0:=NB1649_1650.out
      have hns97_2:=NB1657_1650.out
      have hns97_3:=NB1661_1650.out
      have hms97_0:=NB1650_1649.out
      have hms97_2:=NB1650_1657.out
      have hms97_3:=NB1650_1661.out
      refine skip_ (w1:=?_) (by rfl) rfl ?_ ?_
      rotate_left
      ·go_simp
       rfl
      refine hK.out _ _ ⟨((cell_far (p:=⟨gb1650,_,none⟩) NB1657_1650.out _).trans (hHeld.1)),((cell_far (p:=⟨gb1650,_,none⟩) NB1661_1650.out _).trans (hHeld.2))⟩ (fun hHeld => ?_)
      clear hK K
      refine done_ (by kernel_rfl) ?_
      try go_wp2
      refine bodyPost_ret (results_cc rfl _ _ gb1649 gb1650 42 42 #[.slice Ao12 t1652.length co12] #[.slice A93 y1677.length c93] (0,0) (0,0) _ _ rfl (by refine blk_far ?_ NB1649_1650.out _; refine blk_put (cs:=#[.slice none 0 0]) ?_ 0 _ rfl; exact BK1649.out) Try.underlying42 rfl (by kernel_rfl) rfl (by refine blk_put (cs:=#[.slice none 0 0]) ?_ 0 _ rfl; refine blk_far ?_ NB1650_1649.out _; exact BK1650.out) Try.underlying42 rfl (by kernel_rfl)) rfl ?_
      exact ⟨_,_,by (rfl),Kd.Q_of_R ((Kd.S_R (by exact Kd.S_mono (Kd.S_far (p:=⟨gb1650,0,none⟩) (Kd.S_far (p:=⟨gb1649,0,none⟩) (Kd.S_types (Kd.S_types HO1654.out BK1649.out (by decide)) BK1650.out (by decide)) (fun _ hk => hk.1.2) (.slice Ao12 t1652.length co12)) (fun _ hk => hk.2) (.slice A93 y1677.length c93)) (fun _ hk => hk.1.1)))),by exact Kd.Q_mono (Kd.Q_far (p:=⟨gb1650,0,none⟩) (Kd.Q_far (p:=⟨gb1649,0,none⟩) (Kd.Q_types (Kd.Q_types HO1679.out BK1649.out (by decide)) BK1650.out (by decide)) (fun _ hk => hk.1.2) (.slice Ao12 t1652.length co12)) (fun _ hk => hk.2) (.slice A93 y1677.length c93)) (fun _ hk => hk.1.1),by repeat (with_reducible first|exact HB.out|refine below_set ?_ GE1649.out|refine below_set ?_ GE1650.out)⟩
     ·rw [if_neg c72] at H
      exact absurd H (by simp)
    ·rw [if_neg c71] at H
     have c71b0 : decide (0 < (t1658.length : Int)) = false:=decide_eq_false c71
     have c71b1 : decide (0 < t1658.length) = false:=decide_eq_false (by omega)
     clear c71
     simp only [Option.some.injEq,Prod.mk.injEq] at H
     obtain ⟨rfl,rfl⟩:=H
     have hcz117_0 : w25.cell? ⟨gb1661,0,none⟩ = some (.slice Ao19 t1658.length co19):=(blk_cell BK1661.out 0).trans rfl
     have hfz117_0:=blk_frozen BK1661.out 0
     try go_wp2
     have n0_:=Aside0.mk (Kd.S_drew HO1654.out)
     have n1_:=Aside0.mk (Kd.S_drew HO1660.out)
     have n2_:=Aside0.mk (blk_drew BK1649.out)
     have n3_:=Aside0.mk (blk_drew BK1650.out)
     have n4_:=Aside0.mk (blk_drew BK1657.out)
     have n5_:=Aside0.mk (blk_drew BK1661.out)
     have n6_:=Aside0.mk (IsS112.drew HI1651.out)
     have n7_:=Aside0.mk (below_drew1 HB.out)
     clear HO1654
     clear HO1660
     clear BK1649
     clear BK1650
     clear BK1657
     clear BK1661
     clear HI1651
     clear HB
     have HO1654:=n0_
     have HO1660:=n1_
     have BK1649:=n2_
     have BK1650:=n3_
     have BK1657:=n4_
     have BK1661:=n5_
     have HI1651:=n6_
     have HB:=n7_
     clear n0_ n1_ n2_ n3_ n4_ n5_ n6_ n7_
     refine start_ (n:=4) (S:=fun w' => w'.cell? ⟨gb1657,0,none⟩ = some (.slice Ao12 t1652.length co12) ∧ w'.cell? ⟨gb1661,0,none⟩ = some (.slice Ao19 t1658.length co19)) (ds:=[]) #[false,false,false,false] (by kernel_rfl) rfl rfl ⟨(blk_cell BK1657.out 0).trans rfl,(blk_cell BK1661.out 0).trans rfl⟩ (fun hHeld => ?_)
     generalize w25.drew = w118 at HO1654 HO1660 BK1649 BK1650 BK1657 BK1661 HI1651 HB hHeld ⊢
     refine take_ (i:=0) (N:=some 53) (v:=?_) (a':=?_) #[true,false,false,false] rfl rfl (by kernel_rfl) (fun _ _ _ h => h) (Or.inl ⟨by rfl,?_⟩) hHeld ?_ ?_
     rotate_left
     ·rintro w' ⟨s0,s1⟩
      go_simp
      with_reducible rfl
     rotate_left
     ·simp only [Act.put,List.setIfInBounds_toArray,List.set_cons_zero,List.set_cons_succ,i64_w,i32_w]
      rfl
     refine take_ (i:=1) (N:=some 54) (v:=?_) (a':=?_) #[true,true,false,false] rfl rfl (by kernel_rfl) (fun _ _ _ h => h) (Or.inl ⟨by rfl,?_⟩) hHeld ?_ ?_
     rotate_left
     ·rintro w' ⟨s0,s1⟩
      go_simp
      with_reducible rfl
     rotate_left
     ·simp only [Act.put,List.setIfInBounds_toArray,List.set_cons_zero,List.set_cons_succ,i64_w,i32_w]
      rfl
     refine one_ (i:=2) (N:=none) #[true,true,true,false] rfl rfl (by kernel_rfl) (by decide) (fun K hK => ?_)
     have hs119 : w118.cell? ⟨gb1649,0,none⟩ = some (.slice none 0 0):=(blk_cell BK1649.out 0).trans rfl
     have hfs119:=blk_frozen BK1649.out 0
     have hns119_1:=NB1650_1649.out
     have hns119_2:=NB1657_1649.out
     have hns119_3:=NB1661_1649.out
     have hms119_1:=NB1649_1650.out
     have hms119_2:=NB1649_1657.out
     have hms119_3:=NB1649_1661.out
     refine skip_ (w1:=?_) (by rfl) rfl ?_ ?_
     rotate_left
     ·go_simp
      rfl
     refine hK.out _ _ ⟨((cell_far (p:=⟨gb1649,_,none⟩) NB1657_1649.out _).trans (hHeld.1)),((cell_far (p:=⟨gb1649,_,none⟩) NB1661_1649.out _).trans (hHeld.2))⟩ (fun hHeld => ?_)
     clear hK K
     refine one_ (i:=3) (N:=none) #[true,true,true,true] rfl rfl (by kernel_rfl) (by decide) (fun K hK => ?_)
     have hs120 : w118.cell? ⟨gb1650,0,none⟩ = some (.slice none 0 0):=(blk_cell BK1650.out 0).trans rfl
     have hfs120:=blk_frozen BK1650.out 0
     have hns120_0:=NB1649_1650.out
     have hns120_2:=NB1657_1650.out
     have hns120_3:=NB1661_1650.out
     have hms120_0:=NB1650_1649.out
     have hms120_2:=NB1650_1657.out
     have hms120_3:=NB1650_1661.out
     refine skip_ (w1:=?_) (by rfl) rfl ?_ ?_
     rotate_left
     ·go_simp
      rfl
     refine hK.out _ _ ⟨((cell_far (p:=⟨gb1650,_,none⟩) NB1657_1650.out _).trans (hHeld.1)),((cell_far (p:=⟨gb1650,_,none⟩) NB1661_1650.out _).trans (hHeld.2))⟩ (fun hHeld => ?_)
     clear hK K
     refine done_ (by kernel_rfl) ?_
     try go_wp2
     refine bodyPost_ret (results_cc rfl _ _ gb1649 gb1650 42 42 #[.slice Ao12 t1652.length co12] #[.slice Ao19 t1658.length co19] (0,0) (0,0) _ _ rfl (by refine blk_far ?_ NB1649_1650.out _; refine blk_put (cs:=#[.slice none 0 0]) ?_ 0 _ rfl; exact BK1649.out) Try.underlying42 rfl (by kernel_rfl) rfl (by refine blk_put (cs:=#[.slice none 0 0]) ?_ 0 _ rfl; refine blk_far ?_ NB1650_1649.out _; exact BK1650.out) Try.underlying42 rfl (by kernel_rfl)) rfl ?_
     exact ⟨_,_,by (rfl),Kd.Q_of_R ((Kd.S_R (by exact Kd.S_mono (Kd.S_far (p:=⟨gb1650,0,none⟩) (Kd.S_far (p:=⟨gb1649,0,none⟩) (Kd.S_types (Kd.S_types HO1654.out BK1649.out (by decide)) BK1650.out (by decide)) (fun _ hk => hk.1.2) (.slice Ao12 t1652.length co12)) (fun _ hk => hk.2) (.slice Ao19 t1658.length co19)) (fun _ hk => hk.1.1.2)))),Kd.Q_of_R ((Kd.S_R (by exact Kd.S_mono (Kd.S_far (p:=⟨gb1650,0,none⟩) (Kd.S_far (p:=⟨gb1649,0,none⟩) (Kd.S_types (Kd.S_types HO1660.out BK1649.out (by decide)) BK1650.out (by decide)) (fun _ hk => hk.1.2) (.slice Ao12 t1652.length co12)) (fun _ hk => hk.2) (.slice Ao19 t1658.length co19)) (fun _ hk => hk.1.1.2)))),by repeat (with_reducible first|exact HB.out|refine below_set ?_ GE1649.out|refine below_set ?_ GE1650.out)⟩
   ·rw [if_neg c70] at H
    have c70b0 : (t1662 == 2) = false:=beq_eq_false_iff_ne.mpr c70
    have c70b1 : (t1662 != 2) = true:=bne_iff_ne.mpr c70
    simp only [Option.some.injEq,Prod.mk.injEq] at H
    obtain ⟨rfl,rfl⟩:=H
    try go_wp2
    have n0_:=Aside0.mk (Kd.S_drew HO1654.out)
    have n1_:=Aside0.mk (Kd.S_drew HO1660.out)
    have n2_:=Aside0.mk (blk_drew BK1649.out)
    have n3_:=Aside0.mk (blk_drew BK1650.out)
    have n4_:=Aside0.mk (blk_drew BK1657.out)
    have n5_:=Aside0.mk (blk_drew BK1661.out)
    have n6_:=Aside0.mk (IsS112.drew HI1651.out)
    have n7_:=Aside0.mk (below_drew1 HB.out)
    clear HO1654
    clear HO1660
    clear BK1649
    clear BK1650
    clear BK1657
    clear BK1661
    clear HI1651
    clear HB
    have HO1654:=n0_
    have HO1660:=n1_
    have BK1649:=n2_
    have BK1650:=n3_
    have BK1657:=n4_
    have BK1661:=n5_
    have HI1651:=n6_
    have HB:=n7_
    clear n0_ n1_ n2_ n3_ n4_ n5_ n6_ n7_
    refine start_ (n:=4) (S:=fun w' => w'.cell? ⟨gb1657,0,none⟩ = some (.slice Ao12 t1652.length co12) ∧ w'.cell? ⟨gb1661,0,none⟩ = some (.slice Ao19 t1658.length co19)) (ds:=[]) #[false,false,false,false] (by kernel_rfl) rfl rfl ⟨(blk_cell BK1657.out 0).trans rfl,(blk_cell BK1661.out 0).trans rfl⟩ (fun hHeld => ?_)
    generalize w25.drew = w140 at HO1654 HO1660 BK1649 BK1650 BK1657 BK1661 HI1651 HB hHeld ⊢
    refine take_ (i:=0) (N:=some 53) (v:=?_) (a':=?_) #[true,false,false,false] rfl rfl (by kernel_rfl) (fun _ _ _ h => h) (Or.inl ⟨by rfl,?_⟩) hHeld ?_ ?_
    rotate_left
    ·rintro w' ⟨s0,s1⟩
     go_simp
     with_reducible rfl
    rotate_left
    ·simp only [Act.put,List.setIfInBounds_toArray,List.set_cons_zero,List.set_cons_succ,i64_w,i32_w]
     rfl
    refine take_ (i:=1) (N:=some 54) (v:=?_) (a':=?_) #[true,true,false,false] rfl rfl (by kernel_rfl) (fun _ _ _ h => h) (Or.inl ⟨by rfl,?_⟩) hHeld ?_ ?_
    rotate_left
    ·rintro w' ⟨s0,s1⟩
     go_simp
     with_reducible rfl
    rotate_left
    ·simp only [Act.put,List.setIfInBounds_toArray,List.set_cons_zero,List.set_cons_succ,i64_w,i32_w]
     rfl
    refine one_ (i:=2) (N:=none) #[true,true,true,false] rfl rfl (by kernel_rfl) (by decide) (fun K hK => ?_)
    have hs141 : w140.cell? ⟨gb1649,0,none⟩ = some (.slice none 0 0):=(blk_cell BK1649.out 0).trans rfl
    have hfs141:=blk_frozen BK1649.out 0
    have hns141_1:=NB1650_1649.out
    have hns141_2:=NB1657_1649.out
    have hns141_3:=NB1661_1649.out
    have hms141_1:=NB1649_1650.out
    have hms141_2:=NB1649_1657.out
    have hms141_3:=NB1649_1661.out
    refine skip_ (w1:=?_) (by rfl) rfl ?_ ?_
    rotate_left
    ·go_simp
     rfl
    refine hK.out _ _ ⟨((cell_far (p:=⟨gb1649,_,none⟩) NB1657_1649.out _).trans (hHeld.1)),((cell_far (p:=⟨gb1649,_,none⟩) NB1661_1649.out _).trans (hHeld.2))⟩ (fun hHeld => ?_)
    clear hK K
    refine one_ (i:=3) (N:=none) #[true,true,true,true] rfl rfl (by kernel_rfl) (by decide) (fun K hK => ?_)
    have hs142 : w140.cell? ⟨gb1650,0,none⟩ = some (.slice none 0 0):=(blk_cell BK1650.out 0).trans rfl
    have hfs142:=blk_frozen BK1650.out 0
    have hns142_0:=NB1649_1650.out
    have hns142_2:=NB1657_1650.out
    have hns142_3:=NB1661_1650.out
    have hms142_0:=NB1650_1649.out
    have hms142_2:=NB1650_1657.out
    have hms142_3:=NB1650_1661.out
    refine skip_ (w1:=?_) (by rfl) rfl ?_ ?_
    rotate_left
    ·go_simp
     rfl
    refine hK.out _ _ ⟨((cell_far (p:=⟨gb1650,_,none⟩) NB1657_1650.out _).trans (hHeld.1)),((cell_far (p:=⟨gb1650,_,none⟩) NB1661_1650.out _).trans (hHeld.2))⟩ (fun hHeld => ?_)
    clear hK K
    refine done_ (by kernel_rfl) ?_
    try go_wp2
    refine bodyPost_ret (results_cc rfl _ _ gb1649 gb1650 42 42 #[.slice Ao12 t1652.length co12] #[.slice Ao19 t1658.length co19] (0,0) (0,0) _ _ rfl (by refine blk_far ?_ NB1649_1650.out _; refine blk_put (cs:=#[.slice none 0 0]) ?_ 0 _ rfl; exact BK1649.out) Try.underlying42 rfl (by kernel_rfl) rfl (by refine blk_put (cs:=#[.slice none 0 0]) ?_ 0 _ rfl; refine blk_far ?_ NB1650_1649.out _; exact BK1650.out) Try.underlying42 rfl (by kernel_rfl)) rfl ?_
    exact ⟨_,_,by (rfl),Kd.Q_of_R ((Kd.S_R (by exact Kd.S_mono (Kd.S_far (p:=⟨gb1650,0,none⟩) (Kd.S_far (p:=⟨gb1649,0,none⟩) (Kd.S_types (Kd.S_types HO1654.out BK1649.out (by decide)) BK1650.out (by decide)) (fun _ hk => hk.1.2) (.slice Ao12 t1652.length co12)) (fun _ hk => hk.2) (.slice Ao19 t1658.length co19)) (fun _ hk => hk.1.1.2)))),Kd.Q_of_R ((Kd.S_R (by exact Kd.S_mono (Kd.S_far (p:=⟨gb1650,0,none⟩) (Kd.S_far (p:=⟨gb1649,0,none⟩) (Kd.S_types (Kd.S_types HO1660.out BK1649.out (by decide)) BK1650.out (by decide)) (fun _ hk => hk.1.2) (.slice Ao12 t1652.length co12)) (fun _ hk => hk.2) (.slice Ao19 t1658.length co19)) (fun _ hk => hk.1.1.2)))),by repeat (with_reducible first|exact HB.out|refine below_set ?_ GE1649.out|refine below_set ?_ GE1650.out)⟩

end Go.Proofs.Ytlldonokjgoajaa.X
