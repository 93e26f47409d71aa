-- Written by a program of ours (wip/bin/xprint.py,over the kit's print.py) out of the translation. Not trusted: Lean checks it.
import Derived.Test.YtfindomajbjacaaGreatDoorX0
import Derived.Test.YtfindomajbjacaaGreatDoorLaidE
import Derived.Test.YtfindomajbjacaaGreatDoorFimplrotationText
import Derived.Test.YtfindomajbjacaaGreatDoorGCut
import Derived.Test.YtfindomajbjacaaGreatDoorGIsValidRotation
import Derived.Test.YtfindomajbjacaaGreatDoorGParseInt
import Derived.Test.YtfindomajbjacaaGreatDoorGSplit
namespace Go.Proofs.YtfindomajbjacaaGreatDoor.X
open Go.RowKit Go.Proofs.YtfindomajbjacaaGreatDoorW.PrintWords Go.Proofs.YtfindomajbjacaaGreatDoorW.PrintLast Go.Proofs.YtfindomajbjacaaGreatDoorW.PrintMore
attribute [local go_sem] max2_int min2_int max_two min_two max_three min_three max_four min_four   -- for this text's walks alone
set_option linter.unusedVariables false
set_option linter.unusedSimpArgs false

/-! ### impl_ParseRotation: function 10 -/
def impl_ParseRotation.l0 : Nat → ByteArray → List ByteArray → Int → Int → List Int → List Int → Option (List Int × List Int × Bool)
 | 0,_,_,_,_,_,_ => none
 | k + 1,x0,x16,x17,x18,x309000,x309001 => if x18 < x17 then (if 0 ≤ x18 then (if x18 < (x16.length : Int) then ((strings_Cut.f (rdOf ByteArray.empty x16 x18) (⟨#[58]⟩ : ByteArray)).bind fun bt313 => ((impl_ParseInt.f bt313.1).bind fun bt316 => ((impl_ParseInt.f bt313.2.1).bind fun bt318 => (if x309000.length < 17592186044416 then (if x309001.length < 17592186044416 then (impl_ParseRotation.l0 k x0 x16 x17 (wrap64 (x18 + 1)) (x309000 ++ [bt316.1]) (x309001 ++ [bt318.1])) else (none)) else (none))))) else (none)) else (none)) else ((impl_IsValidRotation.f k x309000 x309001).bind fun t326 => (if t326 = true then ((impl_rotationText.f k x309000 x309001).bind fun t327 => (if t327.toList = x0.toList then (some (x309000,x309001,true)) else (some (([] : List Int),([] : List Int),false)))) else (some (([] : List Int),([] : List Int),false))))
def impl_ParseRotation.f (k : Nat) (a0 : ByteArray) : Option (List Int × List Int × Bool):=(strings_Split.f a0 (⟨#[32]⟩ : ByteArray)).bind fun t309 => (impl_ParseRotation.l0 k a0 t309 (t309.length : Int) 0 ([] : List Int) ([] : List Int))
theorem impl_ParseRotation.mono_l : ∀ k,(∀ y0 y1 y2 y3 y4 y5,LeO (impl_ParseRotation.l0 k y0 y1 y2 y3 y4 y5) (impl_ParseRotation.l0 (k + 1) y0 y1 y2 y3 y4 y5))
 | 0 => fun _ _ _ _ _ _ r h => by simp [impl_ParseRotation.l0] at h
 | k + 1 => by
  have ih0:=impl_ParseRotation.mono_l k
  ·intro y0 y1 y2 y3 y4 y5
   unfold impl_ParseRotation.l0
   repeat' first
   | (with_reducible exact ih0 _ _ _ _ _ _)
   | (with_reducible exact impl_IsValidRotation.mono _ _ _)
   | (with_reducible exact impl_rotationText.mono _ _ _)
   | (with_reducible exact LeO.refl _)
   | (with_reducible exact LeO.none _)
   | (with_reducible refine LeO.ite ?_ ?_)
   | (with_reducible refine LeO.bind ?_ (fun _ => ?_))
   | exact ih0 _ _ _ _ _ _
   | exact impl_IsValidRotation.mono _ _ _
   | exact impl_rotationText.mono _ _ _
   | exact LeO.none _
   | refine LeO.ite ?_ ?_
   | refine LeO.bind ?_ (fun _ => ?_)
theorem impl_ParseRotation.mono : ∀ a0 k,LeO (impl_ParseRotation.f k a0) (impl_ParseRotation.f (k + 1) a0):=by
 intro a0 k
 have ih0:=impl_ParseRotation.mono_l k
 unfold impl_ParseRotation.f
 repeat' first
   | (with_reducible exact ih0 _ _ _ _ _ _)
   | (with_reducible exact impl_IsValidRotation.mono _ _ _)
   | (with_reducible exact impl_rotationText.mono _ _ _)
   | (with_reducible exact LeO.refl _)
   | (with_reducible exact LeO.none _)
   | (with_reducible refine LeO.ite ?_ ?_)
   | (with_reducible refine LeO.bind ?_ (fun _ => ?_))
   | exact ih0 _ _ _ _ _ _
   | exact impl_IsValidRotation.mono _ _ _
   | exact impl_rotationText.mono _ _ _
   | exact LeO.none _
   | refine LeO.ite ?_ ?_
   | refine LeO.bind ?_ (fun _ => ?_)
set_option maxHeartbeats 8000000 in
set_option maxRecDepth 100000 in
theorem impl_ParseRotation.calls (k : Nat) (a0 : ByteArray) (r1 : List Int) (r2 : List Int) (r3 : Bool) (w : World) (hL : LaidA w) (h : impl_ParseRotation.f k a0 = some (r1,r2,r3)) :
  Calls Tryz.prog 10 #[.string a0] w fun e w' => ∃ v0_ v1_ : Value,e = .returned (.tuple #[.agg #[v0_,v1_],.bool r3]) ∧ Kd.R (Kd.int .i64) 3 w' w.heap.size (fun k_ => some k_ ≠ (v1_ : Value).ownBlock) v0_ r1 ∧ Kd.R (Kd.int .i64) 3 w' w.heap.size (fun k_ => some k_ ≠ (v0_ : Value).ownBlock) v1_ r2 ∧ Below w.heap.size w w':=by
 have HL:=Aside0.mk hL
 clear hL
 have hu26:=Tryz.underlying26
 have HB:=Aside0.mk (Below.refl w.heap.size w)
 have H : ((strings_Split.f a0 (⟨#[32]⟩ : ByteArray)).bind fun t309 => (impl_ParseRotation.l0 k a0 t309 (t309.length : Int) 0 ([] : List Int) ([] : List Int))) = some (r1,r2,r3):=h
 clear h
 replace H:=Option.bind_eq_some_iff.mp H
 obtain ⟨t309,A20,H⟩:=H
 replace H : (impl_ParseRotation.l0 k a0 t309 (t309.length : Int) 0 ([] : List Int) ([] : List Int)) = some (r1,r2,r3):=H
 have A2:=Aside0.mk A20
 clear A20
 have H':=Aside0.mk H
 clear H
 go_enter Tryz.func10,Tryz.ntmps10
 go_wp2_with (first|((with_reducible refine gate_dst (N:=2) rfl ?_); refine box_event ?hg (N:=2) ?hd (cs:=#[.slice none 0 0,.slice none 0 0]) (t:=26) ?hr ?_; (case hd => rfl); (case hg => rfl); (case hr => (go_simp; done)); intro gb307 hg w3 hbox hb; have n0_:=Aside0.mk (below_step (by repeat (((with_reducible (exact HB.out))))) hb); have n1_:=Aside0.mk (hbox); have n2_:=Aside0.mk ((by rw [hg]; exact (below_size (by repeat (((with_reducible (exact HB.out)))))) : w.heap.size ≤ gb307)); have n3_:=Aside0.mk ((by rw [hg]; exact (below_size (by repeat (((with_reducible (exact HB.out)))))) : w.heap.size ≤ gb307)); clear HB; have HB:=n0_; have BK307:=n1_; have GW307:=n2_; have GE307:=n3_; clear n0_ n1_ n2_ n3_; clear hb hbox hg)|((with_reducible refine gate_dst (N:=4) rfl ?_); refine box_event ?hg (N:=4) ?hd (cs:=#[.slice none 0 0,.slice none 0 0]) (t:=26) ?hr ?_; (case hd => rfl); (case hg => rfl); (case hr => (go_simp; done)); intro gb308 hg w4 hbox hb; have n0_:=Aside0.mk (blk_below (g:=gb307) (o:=.cells #[.slice none 0 0,.slice none 0 0] 26 (0,0)) (by exact BK307.out) hb); have n1_:=Aside0.mk (below_step (by repeat (((with_reducible (exact HB.out))))) hb); have n2_:=Aside0.mk (hbox); have n3_:=Aside0.mk ((by rw [hg]; exact (below_size (by repeat (((with_reducible (exact HB.out)))))) : w.heap.size ≤ gb308)); have n4_:=Aside0.mk ((by rw [hg]; exact (below_size (by repeat (((with_reducible (exact HB.out)))))) : w.heap.size ≤ gb308)); have n5_:=Aside0.mk ((by rw [hg]; exact Nat.ne_of_lt (blk_lt (g:=gb307) (o:=.cells #[.slice none 0 0,.slice none 0 0] 26 (0,0)) (by exact BK307.out)) : gb307 ≠ gb308)); have n6_:=Aside0.mk ((by rw [hg]; exact Nat.ne_of_gt (blk_lt (g:=gb307) (o:=.cells #[.slice none 0 0,.slice none 0 0] 26 (0,0)) (by exact BK307.out)) : gb308 ≠ gb307)); clear BK307; clear HB; have BK307:=n0_; have HB:=n1_; have BK308:=n2_; have GW308:=n3_; have GE308:=n4_; have NB307_308:=n5_; have NB308_307:=n6_; clear n0_ n1_ n2_ n3_ n4_ n5_ n6_; clear hb hbox hg; have hnb5:=NB308_307.out; have hnc5:=NB307_308.out; have hcz6_0 : w4.cell? ⟨gb308,0,none⟩ = some (.slice none 0 0):=(blk_cell BK308.out 0).trans rfl; have hcz6_1 : w4.cell? ⟨gb308,1,none⟩ = some (.slice none 0 0):=(blk_cell BK308.out 1).trans rfl; have hfz6_0:=blk_frozen BK308.out 0; have hfz6_1:=blk_frozen BK308.out 1)|((with_reducible refine gate_callee (f:=36) rfl ?_); refine goesL_ (some 16) rfl rfl Tryz.func36 (by kernel_rfl) rfl #[.string a0,.string (⟨#[32]⟩ : ByteArray)] rfl (by (try simp only [List.map_toArray,List.map_cons,List.map_nil]); (rfl)) ?_; (with_reducible refine (strings_Split.calls a0 (⟨#[32]⟩ : ByteArray) t309 _ ?sideL A2.out).mono ?_); (case sideL => refine LaidA.to_LaidM ?_; ((exact LaidA.below HL.out (by repeat (with_reducible first|exact HB.out|refine below_set ?_ GE308.out))))); rintro e w7 ⟨v310,rfl,ho0,hb⟩; refine ⟨_,rfl,?_⟩; have n0_:=Aside0.mk (Kd.R_lower ho0 (below_size (by repeat (with_reducible first|exact HB.out|refine below_set ?_ GE308.out)))); have n1_:=Aside0.mk (blk_below (g:=gb307) (o:=.cells #[.slice none 0 0,.slice none 0 0] 26 (0,0)) (by refine blk_far ?_ NB307_308.out _; refine blk_far ?_ NB307_308.out _; exact BK307.out) hb); have n2_:=Aside0.mk (blk_below (g:=gb308) (o:=.cells #[.slice none 0 0,.slice none 0 0] 26 (0,0)) (by refine blk_put (cs:=#[.slice none 0 0,.slice none 0 0]) ?_ 1 _ rfl; refine blk_put (cs:=#[.slice none 0 0,.slice none 0 0]) ?_ 0 _ rfl; exact BK308.out) hb); have n3_:=Aside0.mk (below_step (by repeat (with_reducible first|exact HB.out|refine below_set ?_ GE308.out)) hb); clear BK307; clear BK308; clear HB; have HO311:=n0_; have BK307:=n1_; have BK308:=n2_; have HB:=n3_; clear n0_ n1_ n2_ n3_; (try clear hb); (try clear hb2); (try clear hk); (try clear hi); (try clear ho0); obtain ⟨Ao8,co8,eo8⟩:=Kd.R_slice HO311.out; subst eo8))
 go_loopg [18] k (fun kq v18 w' => ∃ (x18_1 : Int) (x309000_1 : List Int) (x309001_1 : List Int) (u309000 : Value) (u309001 : Value),v18 = .int .i64 x18_1 ∧ Aside0 (impl_ParseRotation.l0 kq a0 t309 (t309.length : Int) x18_1 x309000_1 x309001_1 = some (r1,r2,r3)) ∧ Aside0 (kq ≤ k) ∧ Aside0 (Kd.R Kd.string 9 w' w.heap.size (fun _ => True) (.slice Ao8 t309.length co8) t309) ∧ Aside0 (Kd.R (Kd.int .i64) 3 w' w.heap.size (fun k_ => some k_ ≠ (u309001 : Value).ownBlock) u309000 x309000_1) ∧ Aside0 (Kd.R (Kd.int .i64) 3 w' w.heap.size (fun k_ => some k_ ≠ (u309000 : Value).ownBlock) u309001 x309001_1) ∧ Aside0 (w'.heap[gb307]? = some (.cells #[(.slice none 0 0),(.slice none 0 0)] 26 (0,0))) ∧ Aside0 (w'.heap[gb308]? = some (.cells #[u309000,u309001] 26 (0,0))) ∧ Aside0 (Below w.heap.size w w'))
 case atStart => exact ⟨(0),([] : List Int),([] : List Int),(.slice none 0 0),(.slice none 0 0),(by (rfl)),H',⟨Nat.le_refl _⟩,⟨by exact HO311.out⟩,⟨by (exact Kd.R_nil _ _ _ _ _)⟩,⟨by (exact Kd.R_nil _ _ _ _ _)⟩,⟨by exact BK307.out⟩,⟨by exact BK308.out⟩,⟨by repeat (((with_reducible (exact HB.out))))⟩⟩
 case round =>
  clear H'
  try clear c1
  try clear p2
  try clear c3
  try clear c5
  try clear hcz6_0
  try clear hcz6_1
  try clear hfz6_0
  try clear hfz6_1
  obtain ⟨x18_1,x309000_1,x309001_1,u309000,u309001,rfl,HA,HK1,HO_16,HO_309000,HO_309001,BK307,BK308,HB⟩:=hrel
  cases gk with
  | zero => exact absurd HA.out (by simp [impl_ParseRotation.l0])
  | succ k1 =>
   have H:=HA.out
   clear HA
   simp only [impl_ParseRotation.l0] at H
   by_cases c9 : x18_1 < (t309.length : Int)
   ·rw [if_pos c9] at H
    have c9b0 : decide (x18_1 < (t309.length : Int)) = true:=decide_eq_true c9
    clear c9
    by_cases c10 : 0 ≤ x18_1
    ·rw [if_pos c10] at H
     have c10b0 : decide (0 ≤ x18_1) = true:=decide_eq_true c10
     clear c10
     by_cases c11 : x18_1 < (t309.length : Int)
     ·rw [if_pos c11] at H
      have c11b0 : decide (x18_1 < (t309.length : Int)) = true:=decide_eq_true c11
      clear c11
      replace H:=Option.bind_eq_some_iff.mp H
      obtain ⟨⟨t313,t314,t315⟩,A120,H⟩:=H
      replace H : ((impl_ParseInt.f t313).bind fun bt316 => ((impl_ParseInt.f t314).bind fun bt318 => (if x309000_1.length < 17592186044416 then (if x309001_1.length < 17592186044416 then (impl_ParseRotation.l0 k1 a0 t309 (t309.length : Int) (wrap64 (x18_1 + 1)) (x309000_1 ++ [bt316.1]) (x309001_1 ++ [bt318.1])) else (none)) else (none)))) = some (r1,r2,r3):=H
      have A12:=Aside0.mk A120
      clear A120
      replace H:=Option.bind_eq_some_iff.mp H
      obtain ⟨⟨t316,t317⟩,A130,H⟩:=H
      replace H : ((impl_ParseInt.f t314).bind fun bt318 => (if x309000_1.length < 17592186044416 then (if x309001_1.length < 17592186044416 then (impl_ParseRotation.l0 k1 a0 t309 (t309.length : Int) (wrap64 (x18_1 + 1)) (x309000_1 ++ [t316]) (x309001_1 ++ [bt318.1])) else (none)) else (none))) = some (r1,r2,r3):=H
      have A13:=Aside0.mk A130
      clear A130
      replace H:=Option.bind_eq_some_iff.mp H
      obtain ⟨⟨t318,t319⟩,A140,H⟩:=H
      replace H : (if x309000_1.length < 17592186044416 then (if x309001_1.length < 17592186044416 then (impl_ParseRotation.l0 k1 a0 t309 (t309.length : Int) (wrap64 (x18_1 + 1)) (x309000_1 ++ [t316]) (x309001_1 ++ [t318])) else (none)) else (none)) = some (r1,r2,r3):=H
      have A14:=Aside0.mk A140
      clear A140
      by_cases c15 : x309000_1.length < 17592186044416
      ·rw [if_pos c15] at H
       have LMc15:=Aside0.mk c15
       clear c15
       obtain ⟨y320,hy320⟩ : ∃ y_ : List Int,y_ = (x309000_1 ++ [t316]):=⟨_,rfl⟩
       replace H : (if x309001_1.length < 17592186044416 then (impl_ParseRotation.l0 k1 a0 t309 (t309.length : Int) (wrap64 (x18_1 + 1)) y320 (x309001_1 ++ [t318])) else (none)) = some (r1,r2,r3):=by (rw [hy320]; with_reducible exact H)
       have Ny320:=Aside0.mk hy320
       clear hy320
       by_cases c16 : x309001_1.length < 17592186044416
       ·rw [if_pos c16] at H
        have LMc16:=Aside0.mk c16
        clear c16
        obtain ⟨y323,hy323⟩ : ∃ y_ : List Int,y_ = (x309001_1 ++ [t318]):=⟨_,rfl⟩
        replace H : (impl_ParseRotation.l0 k1 a0 t309 (t309.length : Int) (wrap64 (x18_1 + 1)) y320 y323) = some (r1,r2,r3):=by (rw [hy323]; with_reducible exact H)
        have Ny323:=Aside0.mk hy323
        clear hy323
        have H':=Aside0.mk H
        clear H
        have p312 : 0 ≤ (x18_1 : Int):=of_decide_eq_true (by (with_reducible assumption))
        have q312 : x18_1 < (t309.length : Int):=of_decide_eq_true (by (with_reducible assumption))
        obtain ⟨ad312,e312,hx312_0⟩:=Kd.at_string (Kd.R_reads' HO_16.out).2.2 x18_1 p312 q312
        cases e312
        replace p312:=eq_true p312
        replace q312:=eq_true q312
        go_wp2_with (first|((with_reducible refine gate_callee (f:=37) rfl ?_); refine goesL_ (some 24) rfl rfl Tryz.func37 (by kernel_rfl) rfl #[.string (rdOf ByteArray.empty t309 x18_1),.string (⟨#[58]⟩ : ByteArray)] rfl (by (try simp only [List.map_toArray,List.map_cons,List.map_nil]); (rfl)) ?_; (with_reducible refine (strings_Cut.calls (rdOf ByteArray.empty t309 x18_1) (⟨#[58]⟩ : ByteArray) t313 t314 t315 _ A12.out).mono ?_); rintro e w17 ⟨rfl,hb⟩; refine ⟨_,rfl,?_⟩; have n0_:=Aside0.mk (Kd.R_below (by exact HO_16.out) hb); have n1_:=Aside0.mk (Kd.R_below (by exact HO_309000.out) hb); have n2_:=Aside0.mk (Kd.R_below (by exact HO_309001.out) hb); have n3_:=Aside0.mk (blk_below (g:=gb307) (o:=.cells #[.slice none 0 0,.slice none 0 0] 26 (0,0)) (by exact BK307.out) hb); have n4_:=Aside0.mk (blk_below (g:=gb308) (o:=.cells #[u309000,u309001] 26 (0,0)) (by exact BK308.out) hb); have n5_:=Aside0.mk (below_step (by repeat (((with_reducible (exact HB.out))))) hb); clear HO_16; clear HO_309000; clear HO_309001; clear BK307; clear BK308; clear HB; have HO_16:=n0_; have HO_309000:=n1_; have HO_309001:=n2_; have BK307:=n3_; have BK308:=n4_; have HB:=n5_; clear n0_ n1_ n2_ n3_ n4_ n5_; (try clear hb); (try clear hb2); (try clear hk); (try clear hi))|((with_reducible refine gate_callee (f:=38) rfl ?_); refine goesL_ (some 30) rfl rfl Tryz.func38 (by kernel_rfl) rfl #[.string t313] rfl (by (try simp only [List.map_toArray,List.map_cons,List.map_nil]); (rfl)) ?_; (with_reducible refine (impl_ParseInt.calls t313 t316 t317 _ ?sideL A13.out).mono ?_); (case sideL => refine LaidA.to_LaidE ?_; (with_reducible exact LaidA.below HL.out HB.out)); rintro e w18 ⟨rfl,hb⟩; refine ⟨_,rfl,?_⟩; have n0_:=Aside0.mk (Kd.R_below (by exact HO_16.out) hb); have n1_:=Aside0.mk (Kd.R_below (by exact HO_309000.out) hb); have n2_:=Aside0.mk (Kd.R_below (by exact HO_309001.out) hb); have n3_:=Aside0.mk (blk_below (g:=gb307) (o:=.cells #[.slice none 0 0,.slice none 0 0] 26 (0,0)) (by exact BK307.out) hb); have n4_:=Aside0.mk (blk_below (g:=gb308) (o:=.cells #[u309000,u309001] 26 (0,0)) (by exact BK308.out) hb); have n5_:=Aside0.mk (below_step (by repeat (((with_reducible (exact HB.out))))) hb); clear HO_16; clear HO_309000; clear HO_309001; clear BK307; clear BK308; clear HB; have HO_16:=n0_; have HO_309000:=n1_; have HO_309001:=n2_; have BK307:=n3_; have BK308:=n4_; have HB:=n5_; clear n0_ n1_ n2_ n3_ n4_ n5_; (try clear hb); (try clear hb2); (try clear hk); (try clear hi))|((with_reducible refine gate_callee (f:=38) rfl ?_); refine goesL_ (some 35) rfl rfl Tryz.func38 (by kernel_rfl) rfl #[.string t314] rfl (by (try simp only [List.map_toArray,List.map_cons,List.map_nil]); (rfl)) ?_; (with_reducible refine (impl_ParseInt.calls t314 t318 t319 _ ?sideL A14.out).mono ?_); (case sideL => refine LaidA.to_LaidE ?_; (with_reducible exact LaidA.below HL.out HB.out)); rintro e w19 ⟨rfl,hb⟩; refine ⟨_,rfl,?_⟩; have n0_:=Aside0.mk (Kd.R_below (by exact HO_16.out) hb); have n1_:=Aside0.mk (Kd.R_below (by exact HO_309000.out) hb); have n2_:=Aside0.mk (Kd.R_below (by exact HO_309001.out) hb); have n3_:=Aside0.mk (blk_below (g:=gb307) (o:=.cells #[.slice none 0 0,.slice none 0 0] 26 (0,0)) (by exact BK307.out) hb); have n4_:=Aside0.mk (blk_below (g:=gb308) (o:=.cells #[u309000,u309001] 26 (0,0)) (by exact BK308.out) hb); have n5_:=Aside0.mk (below_step (by repeat (((with_reducible (exact HB.out))))) hb); clear HO_16; clear HO_309000; clear HO_309001; clear BK307; clear BK308; clear HB; have HO_16:=n0_; have HO_309000:=n1_; have HO_309001:=n2_; have BK307:=n3_; have BK308:=n4_; have HB:=n5_; clear n0_ n1_ n2_ n3_ n4_ n5_; (try clear hb); (try clear hb2); (try clear hk); (try clear hi); have hnb20:=NB308_307.out; have hnc20:=NB307_308.out; have hcz21_0 : w19.cell? ⟨gb308,0,none⟩ = some (u309000):=(blk_cell BK308.out 0).trans rfl; have hcz21_1 : w19.cell? ⟨gb308,1,none⟩ = some (u309001):=(blk_cell BK308.out 1).trans rfl; have hfz21_0:=blk_frozen BK308.out 0; have hfz21_1:=blk_frozen BK308.out 1)|((with_reducible refine gate_builtin (b:=.append) (xs:=#[.tmp 39,.tmp 41]) rfl ?_); at_builtin; refine Kd.R_append (Kd.int .i64) (w0:=w) w.heap.size rfl (.tmp 39) (.tmp 41) 24 3 (.int .i64 0) 8 rfl Tryz.underlying24 info3 rfl (by decide) (by omega) u309000 x309000_1 t316 [.int .i64 t316] (fun k_ => some k_ ≠ (u309001 : Value).ownBlock) (fun _ => False) rfl rfl ?aP (fun _ hk => hk.elim) ?aF ?aO ?aB ?aS ?aL ?_; (case aP => exact rfl); (case aB => exact (by repeat (((with_reducible (exact HB.out)))))); (case aF => exact (fun k_ hk => Kd.fresh' (Kd.R_lt (by exact HO_309001.out)) k_ hk)); (case aO => exact (by exact HO_309000.out)); (case aS => exact (below_size (by repeat (((with_reducible (exact HB.out))))))); (case aL => have:=LMc15.out; omega); intro v321 w22 ho hb hg hat; rw [← Ny320.out] at ho; have n0_:=Aside0.mk (Kd.R_over' (by exact HO_16.out) (Kd.R_typed (by exact HO_309000.out)) (by decide) hg); have n1_:=Aside0.mk (Kd.R_after (ok:=(fun _ => True)) (by exact Kd.R_mono HO_309001.out (fun _ hk => ⟨trivial,hk⟩)) hg hat); have n2_:=Aside0.mk (blk_grown (g:=gb307) (o:=.cells #[.slice none 0 0,.slice none 0 0] 26 (0,0)) (by exact BK307.out) hg (Kd.R_ne HO_309000.out BK307.out (by decide))); have n3_:=Aside0.mk (blk_grown (g:=gb308) (o:=.cells #[u309000,u309001] 26 (0,0)) (by exact BK308.out) hg (Kd.R_ne HO_309000.out BK308.out (by decide))); have n4_:=Aside0.mk (hb); have n5_:=Aside0.mk (ho); clear HO_16; clear HO_309001; clear BK307; clear BK308; clear HB; clear HO_309000; have HO_16:=n0_; have HO_309001:=n1_; have BK307:=n2_; have BK308:=n3_; have HB:=n4_; have HO322:=n5_; clear n0_ n1_ n2_ n3_ n4_ n5_; clear ho hb hg hat; obtain ⟨Ao23,co23,eo23⟩:=Kd.R_slice HO322.out; subst eo23; have hcz24_0 : w22.cell? ⟨gb308,0,none⟩ = some (u309000):=(blk_cell BK308.out 0).trans rfl; have hcz24_1 : w22.cell? ⟨gb308,1,none⟩ = some (u309001):=(blk_cell BK308.out 1).trans rfl; have hfz24_0:=blk_frozen BK308.out 0; have hfz24_1:=blk_frozen BK308.out 1)|((with_reducible refine gate_builtin (b:=.append) (xs:=#[.tmp 45,.tmp 47]) rfl ?_); at_builtin; refine Kd.R_append (Kd.int .i64) (w0:=w) w.heap.size rfl (.tmp 45) (.tmp 47) 24 3 (.int .i64 0) 8 rfl Tryz.underlying24 info3 rfl (by decide) (by omega) u309001 x309001_1 t318 [.int .i64 t318] (fun k_ => some k_ ≠ (.slice Ao23 y320.length co23 : Value).ownBlock) (fun _ => False) rfl (by (go_simp; done)) ?aP (fun _ hk => hk.elim) ?aF ?aO ?aB ?aS ?aL ?_; (case aP => exact rfl); (case aB => exact (by repeat (with_reducible first|exact HB.out|refine below_set ?_ GE308.out))); (case aF => exact (fun k_ hk => Kd.fresh' (Kd.R_lt (by exact (Kd.R_mono (Kd.R_far (p:=⟨gb308,0,none⟩) (Kd.R_types HO322.out BK308.out (by decide)) (fun _ hk => hk.2) (.slice Ao23 y320.length co23)) (fun _ h_ => h_.1)))) k_ hk)); (case aO => exact (by exact Kd.R_mono (Kd.R_far (p:=⟨gb308,0,none⟩) (Kd.R_types HO_309001.out BK308.out (by decide)) (fun _ hk => hk.2) (.slice Ao23 y320.length co23)) (fun _ hk => hk.1.2))); (case aS => exact (below_size (by repeat (with_reducible first|exact HB.out|refine below_set ?_ GE308.out)))); (case aL => have:=LMc16.out; omega); intro v324 w25 ho hb hg hat; rw [← Ny323.out] at ho; have n0_:=Aside0.mk (Kd.R_over' (by exact (Kd.R_mono (Kd.R_far (p:=⟨gb308,0,none⟩) (Kd.R_types HO_16.out BK308.out (by decide)) (fun _ hk => hk.2) (.slice Ao23 y320.length co23)) (fun _ h_ => h_.1))) (Kd.R_typed (by exact (Kd.R_mono (Kd.R_far (p:=⟨gb308,0,none⟩) (Kd.R_types HO_309001.out BK308.out (by decide)) (fun _ hk => hk.2) (.slice Ao23 y320.length co23)) (fun _ h_ => h_.1)))) (by decide) hg); have n1_:=Aside0.mk (blk_grown (g:=gb307) (o:=.cells #[.slice none 0 0,.slice none 0 0] 26 (0,0)) (by refine blk_far ?_ NB307_308.out _; exact BK307.out) hg (Kd.R_ne HO_309001.out BK307.out (by decide))); have n2_:=Aside0.mk (blk_grown (g:=gb308) (o:=.cells #[.slice Ao23 y320.length co23,u309001] 26 (0,0)) (by refine blk_put (cs:=#[u309000,u309001]) ?_ 0 _ rfl; exact BK308.out) hg (Kd.R_ne HO_309001.out BK308.out (by decide))); have n3_:=Aside0.mk (Kd.R_after (ok:=(fun _ => True)) (by exact Kd.R_mono (Kd.R_far (p:=⟨gb308,0,none⟩) (Kd.R_types HO322.out BK308.out (by decide)) (fun _ hk => hk.2) (.slice Ao23 y320.length co23)) (fun _ hk => ⟨trivial,hk.1⟩)) hg hat); have n4_:=Aside0.mk (hb); have n5_:=Aside0.mk (ho); clear HO_16; clear BK307; clear BK308; clear HO322; clear HB; clear HO_309001; have HO_16:=n0_; have BK307:=n1_; have BK308:=n2_; have HO322:=n3_; have HB:=n4_; have HO325:=n5_; clear n0_ n1_ n2_ n3_ n4_ n5_; clear ho hb hg hat; obtain ⟨Ao26,co26,eo26⟩:=Kd.R_slice HO325.out; subst eo26; have hcz27_0 : w25.cell? ⟨gb308,0,none⟩ = some (.slice Ao23 y320.length co23):=(blk_cell BK308.out 0).trans rfl; have hcz27_1 : w25.cell? ⟨gb308,1,none⟩ = some (u309001):=(blk_cell BK308.out 1).trans rfl; have hfz27_0:=blk_frozen BK308.out 0; have hfz27_1:=blk_frozen BK308.out 1))
        go_roundg k1
        case measure => have:=HK1.out; omega
        case rel => exact ⟨(wrap64 (x18_1 + 1)),(y320),(y323),(.slice Ao23 y320.length co23),(.slice Ao26 y323.length co26),(by (rfl)),H',⟨by have:=HK1.out; omega⟩,⟨by exact Kd.R_mono (Kd.R_far (p:=⟨gb308,1,none⟩) (Kd.R_types HO_16.out BK308.out (by decide)) (fun _ hk => hk.2) (.slice Ao26 y323.length co26)) (fun _ hk => trivial)⟩,⟨by exact Kd.R_mono (Kd.R_far (p:=⟨gb308,1,none⟩) (Kd.R_types HO322.out BK308.out (by decide)) (fun _ hk => hk.2) (.slice Ao26 y323.length co26)) (fun _ hk => hk.1.2)⟩,⟨by exact Kd.R_mono (Kd.R_far (p:=⟨gb308,1,none⟩) (Kd.R_types HO325.out BK308.out (by decide)) (fun _ hk => hk.2) (.slice Ao26 y323.length co26)) (fun _ hk => hk.1)⟩,⟨by refine blk_far ?_ NB307_308.out _; exact BK307.out⟩,⟨by refine blk_put (cs:=#[.slice Ao23 y320.length co23,u309001]) ?_ 1 _ rfl; exact BK308.out⟩,⟨by repeat (with_reducible first|exact HB.out|refine below_set ?_ GE308.out)⟩⟩
       ·rw [if_neg c16] at H
        exact absurd H (by simp)
      ·rw [if_neg c15] at H
       exact absurd H (by simp)
     ·rw [if_neg c11] at H
      exact absurd H (by simp)
    ·rw [if_neg c10] at H
     exact absurd H (by simp)
   ·rw [if_neg c9] at H
    have c9b0 : decide (x18_1 < (t309.length : Int)) = false:=decide_eq_false c9
    clear c9
    replace H:=Option.bind_eq_some_iff.mp H
    obtain ⟨t326,A280,H⟩:=H
    replace H : (if t326 = true then ((impl_rotationText.f k1 x309000_1 x309001_1).bind fun t327 => (if t327.toList = a0.toList then (some (x309000_1,x309001_1,true)) else (some (([] : List Int),([] : List Int),false)))) else (some (([] : List Int),([] : List Int),false))) = some (r1,r2,r3):=H
    have A28:=Aside0.mk A280
    clear A280
    by_cases c29 : t326 = true
    ·subst c29
     have H1 : ((impl_rotationText.f k1 x309000_1 x309001_1).bind fun t327 => (if t327.toList = a0.toList then (some (x309000_1,x309001_1,true)) else (some (([] : List Int),([] : List Int),false)))) = some (r1,r2,r3):=by rw [if_pos rfl] at H; exact H
     clear H
     have H:=H1
     clear H1
     replace H:=Option.bind_eq_some_iff.mp H
     obtain ⟨t327,A300,H⟩:=H
     replace H : (if t327.toList = a0.toList then (some (x309000_1,x309001_1,true)) else (some (([] : List Int),([] : List Int),false))) = some (r1,r2,r3):=H
     have A30:=Aside0.mk A300
     clear A300
     by_cases c31 : t327.toList = a0.toList
     ·rw [if_pos c31] at H
      have c31b0 : (t327.toList == a0.toList) = true:=beq_iff_eq.mpr c31
      have c31b1 : (t327.toList != a0.toList) = false:=bne_eq_false_iff_eq.mpr c31
      clear c31
      simp only [Option.some.injEq,Prod.mk.injEq] at H
      obtain ⟨rfl,rfl,rfl⟩:=H
      have hnb32:=NB308_307.out
      have hnc32:=NB307_308.out
      have hcz33_0 : wr.cell? ⟨gb308,0,none⟩ = some (u309000):=(blk_cell BK308.out 0).trans rfl
      have hcz33_1 : wr.cell? ⟨gb308,1,none⟩ = some (u309001):=(blk_cell BK308.out 1).trans rfl
      have hfz33_0:=blk_frozen BK308.out 0
      have hfz33_1:=blk_frozen BK308.out 1
      obtain ⟨Ao34,co34,eo34⟩:=Kd.R_slice HO_309000.out
      subst eo34
      obtain ⟨Ao35,co35,eo35⟩:=Kd.R_slice HO_309001.out
      subst eo35
      go_wp2_with (first|((with_reducible refine gate_callee (f:=9) rfl ?_); refine goesL_ (some 52) rfl rfl Tryz.func9 (by kernel_rfl) rfl #[.agg #[.slice Ao34 x309000_1.length co34,.slice Ao35 x309001_1.length co35]] rfl (by (try simp only [List.map_toArray,List.map_cons,List.map_nil]); (rfl)) ?_; (with_reducible refine (impl_IsValidRotation.calls k1 _ _ x309000_1 _ _ x309001_1 true _ ?side1 ?side2 ?side3 ?side4 A28.out).mono ?_); (case side1 => repeat ((exact (Kd.R_reads' HO_309000.out).2.2))); (case side2 => exact (Kd.R_reads' HO_309000.out).2.1); (case side3 => repeat ((exact (Kd.R_reads' HO_309001.out).2.2))); (case side4 => exact (Kd.R_reads' HO_309001.out).2.1); rintro e w36 ⟨rfl,hb⟩; refine ⟨_,rfl,?_⟩; have n0_:=Aside0.mk (Kd.R_below (by exact HO_16.out) hb); have n1_:=Aside0.mk (Kd.R_below (by exact HO_309000.out) hb); have n2_:=Aside0.mk (Kd.R_below (by exact HO_309001.out) hb); have n3_:=Aside0.mk (blk_below (g:=gb307) (o:=.cells #[.slice none 0 0,.slice none 0 0] 26 (0,0)) (by exact BK307.out) hb); have n4_:=Aside0.mk (blk_below (g:=gb308) (o:=.cells #[.slice Ao34 x309000_1.length co34,.slice Ao35 x309001_1.length co35] 26 (0,0)) (by exact BK308.out) hb); have n5_:=Aside0.mk (below_step (by repeat (((with_reducible (exact HB.out))))) hb); clear HO_16; clear HO_309000; clear HO_309001; clear BK307; clear BK308; clear HB; have HO_16:=n0_; have HO_309000:=n1_; have HO_309001:=n2_; have BK307:=n3_; have BK308:=n4_; have HB:=n5_; clear n0_ n1_ n2_ n3_ n4_ n5_; (try clear hb); (try clear hb2); (try clear hk); (try clear hi); have hcz37_0 : w36.cell? ⟨gb308,0,none⟩ = some (.slice Ao34 x309000_1.length co34):=(blk_cell BK308.out 0).trans rfl; have hcz37_1 : w36.cell? ⟨gb308,1,none⟩ = some (.slice Ao35 x309001_1.length co35):=(blk_cell BK308.out 1).trans rfl; have hfz37_0:=blk_frozen BK308.out 0; have hfz37_1:=blk_frozen BK308.out 1)|(go_at_call 32; (with_reducible refine (impl_rotationText.calls k1 _ _ x309000_1 _ _ x309001_1 t327 _ ?side1 ?side2 ?side3 ?side4 ?sideL A30.out).mono ?_); (case sideL => refine LaidA.to_Laid ?_; (with_reducible exact LaidA.below HL.out HB.out)); (case side1 => repeat ((exact (Kd.R_reads' HO_309000.out).2.2))); (case side2 => exact (Kd.R_reads' HO_309000.out).2.1); (case side3 => repeat ((exact (Kd.R_reads' HO_309001.out).2.2))); (case side4 => exact (Kd.R_reads' HO_309001.out).2.1); rintro e w38 ⟨rfl,hb⟩; have n0_:=Aside0.mk (Kd.R_below (by exact HO_16.out) hb); have n1_:=Aside0.mk (Kd.R_below (by exact HO_309000.out) hb); have n2_:=Aside0.mk (Kd.R_below (by exact HO_309001.out) hb); have n3_:=Aside0.mk (blk_below (g:=gb307) (o:=.cells #[.slice none 0 0,.slice none 0 0] 26 (0,0)) (by exact BK307.out) hb); have n4_:=Aside0.mk (blk_below (g:=gb308) (o:=.cells #[.slice Ao34 x309000_1.length co34,.slice Ao35 x309001_1.length co35] 26 (0,0)) (by exact BK308.out) hb); have n5_:=Aside0.mk (below_step (by repeat (((with_reducible (exact HB.out))))) hb); clear HO_16; clear HO_309000; clear HO_309001; clear BK307; clear BK308; clear HB; have HO_16:=n0_; have HO_309000:=n1_; have HO_309001:=n2_; have BK307:=n3_; have BK308:=n4_; have HB:=n5_; clear n0_ n1_ n2_ n3_ n4_ n5_; (try clear hb); (try clear hb2); (try clear hk); (try clear hi); have hcz39_0 : w38.cell? ⟨gb308,0,none⟩ = some (.slice Ao34 x309000_1.length co34):=(blk_cell BK308.out 0).trans rfl; have hcz39_1 : w38.cell? ⟨gb308,1,none⟩ = some (.slice Ao35 x309001_1.length co35):=(blk_cell BK308.out 1).trans rfl; have hfz39_0:=blk_frozen BK308.out 0; have hfz39_1:=blk_frozen BK308.out 1; have hcz40_0 : w38.cell? ⟨gb307,0,none⟩ = some (.slice none 0 0):=(blk_cell BK307.out 0).trans rfl; have hcz40_1 : w38.cell? ⟨gb307,1,none⟩ = some (.slice none 0 0):=(blk_cell BK307.out 1).trans rfl; have hfz40_0:=blk_frozen BK307.out 0; have hfz40_1:=blk_frozen BK307.out 1))
      refine bodyPost_ret (results_ct rfl _ _ gb307 26 #[.slice Ao34 x309000_1.length co34,.slice Ao35 x309001_1.length co35] (0,0) _ rfl (by refine blk_put (cs:=#[.slice Ao34 x309000_1.length co34,.slice none 0 0]) ?_ 1 _ rfl; refine blk_put (cs:=#[.slice none 0 0,.slice none 0 0]) ?_ 0 _ rfl; exact BK307.out) Tryz.underlying26 rfl (by kernel_rfl)) rfl ?_
      exact ⟨_,_,by (rfl),by exact Kd.R_mono (Kd.R_far (p:=⟨gb307,1,none⟩) (Kd.R_far (p:=⟨gb307,0,none⟩) (Kd.R_types HO_309000.out BK307.out (by decide)) (fun _ hk => hk.2) (.slice Ao34 x309000_1.length co34)) (fun _ hk => hk.2) (.slice Ao35 x309001_1.length co35)) (fun _ hk => hk.1),by exact Kd.R_mono (Kd.R_far (p:=⟨gb307,1,none⟩) (Kd.R_far (p:=⟨gb307,0,none⟩) (Kd.R_types HO_309001.out BK307.out (by decide)) (fun _ hk => hk.2) (.slice Ao34 x309000_1.length co34)) (fun _ hk => hk.2) (.slice Ao35 x309001_1.length co35)) (fun _ hk => hk.1),by repeat (with_reducible first|exact HB.out|refine below_set ?_ GE307.out)⟩
     ·rw [if_neg c31] at H
      have c31b0 : (t327.toList == a0.toList) = false:=beq_eq_false_iff_ne.mpr c31
      have c31b1 : (t327.toList != a0.toList) = true:=bne_iff_ne.mpr c31
      simp only [Option.some.injEq,Prod.mk.injEq] at H
      obtain ⟨rfl,rfl,rfl⟩:=H
      have hnb41:=NB308_307.out
      have hnc41:=NB307_308.out
      have hcz42_0 : wr.cell? ⟨gb308,0,none⟩ = some (u309000):=(blk_cell BK308.out 0).trans rfl
      have hcz42_1 : wr.cell? ⟨gb308,1,none⟩ = some (u309001):=(blk_cell BK308.out 1).trans rfl
      have hfz42_0:=blk_frozen BK308.out 0
      have hfz42_1:=blk_frozen BK308.out 1
      obtain ⟨Ao43,co43,eo43⟩:=Kd.R_slice HO_309000.out
      subst eo43
      obtain ⟨Ao44,co44,eo44⟩:=Kd.R_slice HO_309001.out
      subst eo44
      go_wp2_with (first|((with_reducible refine gate_callee (f:=9) rfl ?_); refine goesL_ (some 52) rfl rfl Tryz.func9 (by kernel_rfl) rfl #[.agg #[.slice Ao43 x309000_1.length co43,.slice Ao44 x309001_1.length co44]] rfl (by (try simp only [List.map_toArray,List.map_cons,List.map_nil]); (rfl)) ?_; (with_reducible refine (impl_IsValidRotation.calls k1 _ _ x309000_1 _ _ x309001_1 true _ ?side1 ?side2 ?side3 ?side4 A28.out).mono ?_); (case side1 => repeat ((exact (Kd.R_reads' HO_309000.out).2.2))); (case side2 => exact (Kd.R_reads' HO_309000.out).2.1); (case side3 => repeat ((exact (Kd.R_reads' HO_309001.out).2.2))); (case side4 => exact (Kd.R_reads' HO_309001.out).2.1); rintro e w45 ⟨rfl,hb⟩; refine ⟨_,rfl,?_⟩; have n0_:=Aside0.mk (Kd.R_below (by exact HO_16.out) hb); have n1_:=Aside0.mk (Kd.R_below (by exact HO_309000.out) hb); have n2_:=Aside0.mk (Kd.R_below (by exact HO_309001.out) hb); have n3_:=Aside0.mk (blk_below (g:=gb307) (o:=.cells #[.slice none 0 0,.slice none 0 0] 26 (0,0)) (by exact BK307.out) hb); have n4_:=Aside0.mk (blk_below (g:=gb308) (o:=.cells #[.slice Ao43 x309000_1.length co43,.slice Ao44 x309001_1.length co44] 26 (0,0)) (by exact BK308.out) hb); have n5_:=Aside0.mk (below_step (by repeat (((with_reducible (exact HB.out))))) hb); clear HO_16; clear HO_309000; clear HO_309001; clear BK307; clear BK308; clear HB; have HO_16:=n0_; have HO_309000:=n1_; have HO_309001:=n2_; have BK307:=n3_; have BK308:=n4_; have HB:=n5_; clear n0_ n1_ n2_ n3_ n4_ n5_; (try clear hb); (try clear hb2); (try clear hk); (try clear hi); have hcz46_0 : w45.cell? ⟨gb308,0,none⟩ = some (.slice Ao43 x309000_1.length co43):=(blk_cell BK308.out 0).trans rfl; have hcz46_1 : w45.cell? ⟨gb308,1,none⟩ = some (.slice Ao44 x309001_1.length co44):=(blk_cell BK308.out 1).trans rfl; have hfz46_0:=blk_frozen BK308.out 0; have hfz46_1:=blk_frozen BK308.out 1)|(go_at_call 32; (with_reducible refine (impl_rotationText.calls k1 _ _ x309000_1 _ _ x309001_1 t327 _ ?side1 ?side2 ?side3 ?side4 ?sideL A30.out).mono ?_); (case sideL => refine LaidA.to_Laid ?_; (with_reducible exact LaidA.below HL.out HB.out)); (case side1 => repeat ((exact (Kd.R_reads' HO_309000.out).2.2))); (case side2 => exact (Kd.R_reads' HO_309000.out).2.1); (case side3 => repeat ((exact (Kd.R_reads' HO_309001.out).2.2))); (case side4 => exact (Kd.R_reads' HO_309001.out).2.1); rintro e w47 ⟨rfl,hb⟩; have n0_:=Aside0.mk (Kd.R_below (by exact HO_16.out) hb); have n1_:=Aside0.mk (Kd.R_below (by exact HO_309000.out) hb); have n2_:=Aside0.mk (Kd.R_below (by exact HO_309001.out) hb); have n3_:=Aside0.mk (blk_below (g:=gb307) (o:=.cells #[.slice none 0 0,.slice none 0 0] 26 (0,0)) (by exact BK307.out) hb); have n4_:=Aside0.mk (blk_below (g:=gb308) (o:=.cells #[.slice Ao43 x309000_1.length co43,.slice Ao44 x309001_1.length co44] 26 (0,0)) (by exact BK308.out) hb); have n5_:=Aside0.mk (below_step (by repeat (((with_reducible (exact HB.out))))) hb); clear HO_16; clear HO_309000; clear HO_309001; clear BK307; clear BK308; clear HB; have HO_16:=n0_; have HO_309000:=n1_; have HO_309001:=n2_; have BK307:=n3_; have BK308:=n4_; have HB:=n5_; clear n0_ n1_ n2_ n3_ n4_ n5_; (try clear hb); (try clear hb2); (try clear hk); (try clear hi); have hcz48_0 : w47.cell? ⟨gb307,0,none⟩ = some (.slice none 0 0):=(blk_cell BK307.out 0).trans rfl; have hcz48_1 : w47.cell? ⟨gb307,1,none⟩ = some (.slice none 0 0):=(blk_cell BK307.out 1).trans rfl; have hfz48_0:=blk_frozen BK307.out 0; have hfz48_1:=blk_frozen BK307.out 1))
      refine bodyPost_ret (results_ct rfl _ _ gb307 26 #[.slice none 0 0,.slice none 0 0] (0,0) _ rfl (by refine blk_put (cs:=#[.slice none 0 0,.slice none 0 0]) ?_ 1 _ rfl; refine blk_put (cs:=#[.slice none 0 0,.slice none 0 0]) ?_ 0 _ rfl; exact BK307.out) Tryz.underlying26 rfl (by kernel_rfl)) rfl ?_
      exact ⟨_,_,by (rfl),by (exact Kd.R_nil _ _ _ _ _),by (exact Kd.R_nil _ _ _ _ _),by repeat (with_reducible first|exact HB.out|refine below_set ?_ GE307.out)⟩
    ·replace c29:=Bool.eq_false_iff.mpr c29
     subst c29
     have H1 : (some (([] : List Int),([] : List Int),false)) = some (r1,r2,r3):=by rw [if_neg (show ¬ (false = true) by decide)] at H; exact H
     clear H
     have H:=H1
     clear H1
     simp only [Option.some.injEq,Prod.mk.injEq] at H
     obtain ⟨rfl,rfl,rfl⟩:=H
     have hnb49:=NB308_307.out
     have hnc49:=NB307_308.out
     have hcz50_0 : wr.cell? ⟨gb308,0,none⟩ = some (u309000):=(blk_cell BK308.out 0).trans rfl
     have hcz50_1 : wr.cell? ⟨gb308,1,none⟩ = some (u309001):=(blk_cell BK308.out 1).trans rfl
     have hfz50_0:=blk_frozen BK308.out 0
     have hfz50_1:=blk_frozen BK308.out 1
     obtain ⟨Ao51,co51,eo51⟩:=Kd.R_slice HO_309000.out
     subst eo51
     obtain ⟨Ao52,co52,eo52⟩:=Kd.R_slice HO_309001.out
     subst eo52
     go_wp2_with ((((with_reducible refine gate_callee (f:=9) rfl ?_); refine goesL_ (some 52) rfl rfl Tryz.func9 (by kernel_rfl) rfl #[.agg #[.slice Ao51 x309000_1.length co51,.slice Ao52 x309001_1.length co52]] rfl (by (try simp only [List.map_toArray,List.map_cons,List.map_nil]); (rfl)) ?_; (with_reducible refine (impl_IsValidRotation.calls k1 _ _ x309000_1 _ _ x309001_1 false _ ?side1 ?side2 ?side3 ?side4 A28.out).mono ?_); (case side1 => repeat ((exact (Kd.R_reads' HO_309000.out).2.2))); (case side2 => exact (Kd.R_reads' HO_309000.out).2.1); (case side3 => repeat ((exact (Kd.R_reads' HO_309001.out).2.2))); (case side4 => exact (Kd.R_reads' HO_309001.out).2.1); rintro e w53 ⟨rfl,hb⟩; refine ⟨_,rfl,?_⟩; have n0_:=Aside0.mk (Kd.R_below (by exact HO_16.out) hb); have n1_:=Aside0.mk (Kd.R_below (by exact HO_309000.out) hb); have n2_:=Aside0.mk (Kd.R_below (by exact HO_309001.out) hb); have n3_:=Aside0.mk (blk_below (g:=gb307) (o:=.cells #[.slice none 0 0,.slice none 0 0] 26 (0,0)) (by exact BK307.out) hb); have n4_:=Aside0.mk (blk_below (g:=gb308) (o:=.cells #[.slice Ao51 x309000_1.length co51,.slice Ao52 x309001_1.length co52] 26 (0,0)) (by exact BK308.out) hb); have n5_:=Aside0.mk (below_step (by repeat (((with_reducible (exact HB.out))))) hb); clear HO_16; clear HO_309000; clear HO_309001; clear BK307; clear BK308; clear HB; have HO_16:=n0_; have HO_309000:=n1_; have HO_309001:=n2_; have BK307:=n3_; have BK308:=n4_; have HB:=n5_; clear n0_ n1_ n2_ n3_ n4_ n5_; (try clear hb); (try clear hb2); (try clear hk); (try clear hi); have hcz54_0 : w53.cell? ⟨gb307,0,none⟩ = some (.slice none 0 0):=(blk_cell BK307.out 0).trans rfl; have hcz54_1 : w53.cell? ⟨gb307,1,none⟩ = some (.slice none 0 0):=(blk_cell BK307.out 1).trans rfl; have hfz54_0:=blk_frozen BK307.out 0; have hfz54_1:=blk_frozen BK307.out 1)))
     refine bodyPost_ret (results_ct rfl _ _ gb307 26 #[.slice none 0 0,.slice none 0 0] (0,0) _ rfl (by refine blk_put (cs:=#[.slice none 0 0,.slice none 0 0]) ?_ 1 _ rfl; refine blk_put (cs:=#[.slice none 0 0,.slice none 0 0]) ?_ 0 _ rfl; exact BK307.out) Tryz.underlying26 rfl (by kernel_rfl)) rfl ?_
     exact ⟨_,_,by (rfl),by (exact Kd.R_nil _ _ _ _ _),by (exact Kd.R_nil _ _ _ _ _),by repeat (with_reducible first|exact HB.out|refine below_set ?_ GE307.out)⟩

end Go.Proofs.YtfindomajbjacaaGreatDoor.X
