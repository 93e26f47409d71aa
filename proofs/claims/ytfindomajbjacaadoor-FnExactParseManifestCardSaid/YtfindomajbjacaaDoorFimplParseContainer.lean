-- Written by a program of ours (wip/bin/xprint.py,over the kit's print.py) out of the translation. Not trusted: Lean checks it.
import Derived.Test.YtfindomajbjacaaDoorX0
import Derived.Test.YtfindomajbjacaaDoorLaidA
import Derived.Test.YtfindomajbjacaaDoorFbCText
import Derived.Test.YtfindomajbjacaaDoorFbGoodA
import Derived.Test.YtfindomajbjacaaDoorFbIdx
import Derived.Test.YtfindomajbjacaaDoorGParseInt
import Derived.Test.YtfindomajbjacaaDoorGSplit
namespace Go.Proofs.YtfindomajbjacaaDoor.X
open Go.RowKit Go.Proofs.YtfindomajbjacaaDoorW.PrintWords Go.Proofs.YtfindomajbjacaaDoorW.PrintLast Go.Proofs.YtfindomajbjacaaDoorW.PrintMore
def lbc16 : Nat → Nat → List Bool
 | 0,_ => []
 | n+1,m => (m%2==1) :: lbc16 n (m/2)
def bc16 (n m : Nat) : Array Bool := ⟨lbc16 n m⟩
attribute [local go_sem] max2_int min2_int max_two min_two max_three min_three max_four min_four   -- for this text's walks alone
set_option linter.unusedVariables false
set_option linter.unusedSimpArgs false

/-! ### impl_ParseContainer: function 24 -/
def impl_ParseContainer.f (k : Nat) (a0 : ByteArray) : Option (ByteArray × Int × Int × Int × Int × Bool):=(strings_Split.f a0 (⟨#[32]⟩ : ByteArray)).bind fun t350 => (if (t350.length : Int) = 5 then (if 0 < (t350.length : Int) then ((impl_sizeWords.f).bind fun t354 => (if 1 < (t350.length : Int) then ((slices_Index_string_string.f k t354 (rdOf ByteArray.empty t350 1)).bind fun t358 => ((impl_cargoWords.f).bind fun t359 => (if 3 < (t350.length : Int) then ((slices_Index_string_string.f k t359 (rdOf ByteArray.empty t350 3)).bind fun t363 => (if 2 < (t350.length : Int) then ((impl_ParseInt.f (rdOf ByteArray.empty t350 2)).bind fun bt366 => (if 4 < (t350.length : Int) then ((impl_ParseInt.f (rdOf ByteArray.empty t350 4)).bind fun bt369 => ((impl_IsValidContainer.f k (rdOf ByteArray.empty t350 0) t358 bt366.1 t363 bt369.1).bind fun t371 => (if t371 = true then ((impl_containerText.f (rdOf ByteArray.empty t350 0) t358 bt366.1 t363 bt369.1).bind fun t372 => (if t372.toList = a0.toList then (some (rdOf ByteArray.empty t350 0,t358,bt366.1,t363,bt369.1,true)) else (some ((⟨#[]⟩ : ByteArray),0,0,0,0,false)))) else (some ((⟨#[]⟩ : ByteArray),0,0,0,0,false))))) else (none))) else (none))) else (none)))) else (none))) else (none)) else (some ((⟨#[]⟩ : ByteArray),0,0,0,0,false)))
theorem impl_ParseContainer.mono : ∀ a0 k,LeO (impl_ParseContainer.f k a0) (impl_ParseContainer.f (k + 1) a0):=by
 intro a0 k
 unfold impl_ParseContainer.f
 repeat' first
   | (with_reducible exact impl_IsValidContainer.mono _ _ _ _ _ _)
   | (with_reducible exact slices_Index_string_string.mono _ _ _)
   | (with_reducible exact LeO.refl _)
   | (with_reducible exact LeO.none _)
   | (with_reducible refine LeO.ite ?_ ?_)
   | (with_reducible refine LeO.bind ?_ (fun _ => ?_))
   | exact impl_IsValidContainer.mono _ _ _ _ _ _
   | exact slices_Index_string_string.mono _ _ _
   | exact LeO.none _
   | refine LeO.ite ?_ ?_
   | refine LeO.bind ?_ (fun _ => ?_)
def impl_ParseContainer.T4 : Bool × List (List Nat × List Nat):=(true,[([],[]),([0],[0]),([1],[1]),([],[]),([],[]),([4],[4]),([5],[5]),([3,6,3],[3,6]),([7],[]),([],[]),([9],[9]),([10],[10]),([8,11,8],[8,11]),([2,7,12],[2,7,12]),([],[]),([14,13,12,0,1,2,3,4,5,6,7,8,9,10,11,12,13,14],[13,14])])
def impl_ParseContainer.B4 : List Nat:=[0,1,3,0,0,16,48,120,248,0,512,1536,4088,8191,0,32767]
theorem impl_ParseContainer.tab4 : rtab .any (opsOf Tryd.f24 4) = impl_ParseContainer.T4:=by kernel_rfl
theorem impl_ParseContainer.bits4 : waitsOk impl_ParseContainer.T4.2 impl_ParseContainer.B4 = true:=by kernel_rfl
set_option maxHeartbeats 8000000 in
set_option maxRecDepth 100000 in
theorem impl_ParseContainer.calls (k : Nat) (a0 : ByteArray) (r1 : ByteArray) (r2 : Int) (r3 : Int) (r4 : Int) (r5 : Int) (r6 : Bool) (w : World) (hL : LaidA w) (h : impl_ParseContainer.f k a0 = some (r1,r2,r3,r4,r5,r6)) :
  Calls Tryd.prog 24 #[.string a0] w fun e w' => e = .returned (.tuple #[.agg #[.string r1,.int .i64 r2,.int .i64 r3,.int .i64 r4,.int .i64 r5],.bool r6]) ∧ Below w.heap.size w w':=by
 have HL:=Aside0.mk hL
 clear hL
 have hu27:=Tryd.underlying27
 have HB:=Aside0.mk (Below.refl w.heap.size w)
 have H : ((strings_Split.f a0 (⟨#[32]⟩ : ByteArray)).bind fun t350 => (if (t350.length : Int) = 5 then (if 0 < (t350.length : Int) then ((impl_sizeWords.f).bind fun t354 => (if 1 < (t350.length : Int) then ((slices_Index_string_string.f k t354 (rdOf ByteArray.empty t350 1)).bind fun t358 => ((impl_cargoWords.f).bind fun t359 => (if 3 < (t350.length : Int) then ((slices_Index_string_string.f k t359 (rdOf ByteArray.empty t350 3)).bind fun t363 => (if 2 < (t350.length : Int) then ((impl_ParseInt.f (rdOf ByteArray.empty t350 2)).bind fun bt366 => (if 4 < (t350.length : Int) then ((impl_ParseInt.f (rdOf ByteArray.empty t350 4)).bind fun bt369 => ((impl_IsValidContainer.f k (rdOf ByteArray.empty t350 0) t358 bt366.1 t363 bt369.1).bind fun t371 => (if t371 = true then ((impl_containerText.f (rdOf ByteArray.empty t350 0) t358 bt366.1 t363 bt369.1).bind fun t372 => (if t372.toList = a0.toList then (some (rdOf ByteArray.empty t350 0,t358,bt366.1,t363,bt369.1,true)) else (some ((⟨#[]⟩ : ByteArray),0,0,0,0,false)))) else (some ((⟨#[]⟩ : ByteArray),0,0,0,0,false))))) else (none))) else (none))) else (none)))) else (none))) else (none)) else (some ((⟨#[]⟩ : ByteArray),0,0,0,0,false)))) = some (r1,r2,r3,r4,r5,r6):=h
 clear h
 replace H:=Option.bind_eq_some_iff.mp H
 obtain ⟨t350,A20,H⟩:=H
 replace H : (if (t350.length : Int) = 5 then (if 0 < (t350.length : Int) then ((impl_sizeWords.f).bind fun t354 => (if 1 < (t350.length : Int) then ((slices_Index_string_string.f k t354 (rdOf ByteArray.empty t350 1)).bind fun t358 => ((impl_cargoWords.f).bind fun t359 => (if 3 < (t350.length : Int) then ((slices_Index_string_string.f k t359 (rdOf ByteArray.empty t350 3)).bind fun t363 => (if 2 < (t350.length : Int) then ((impl_ParseInt.f (rdOf ByteArray.empty t350 2)).bind fun bt366 => (if 4 < (t350.length : Int) then ((impl_ParseInt.f (rdOf ByteArray.empty t350 4)).bind fun bt369 => ((impl_IsValidContainer.f k (rdOf ByteArray.empty t350 0) t358 bt366.1 t363 bt369.1).bind fun t371 => (if t371 = true then ((impl_containerText.f (rdOf ByteArray.empty t350 0) t358 bt366.1 t363 bt369.1).bind fun t372 => (if t372.toList = a0.toList then (some (rdOf ByteArray.empty t350 0,t358,bt366.1,t363,bt369.1,true)) else (some ((⟨#[]⟩ : ByteArray),0,0,0,0,false)))) else (some ((⟨#[]⟩ : ByteArray),0,0,0,0,false))))) else (none))) else (none))) else (none)))) else (none))) else (none)) else (some ((⟨#[]⟩ : ByteArray),0,0,0,0,false))) = some (r1,r2,r3,r4,r5,r6):=H
 have A2:=Aside0.mk A20
 clear A20
 by_cases c3 : (t350.length : Int) = 5
 ·rw [if_pos c3] at H
  have c3b0 : ((t350.length : Int) == 5) = true:=beq_iff_eq.mpr c3
  have c3b1 : ((t350.length : Int) != 5) = false:=bne_eq_false_iff_eq.mpr c3
  clear c3
  by_cases c4 : 0 < (t350.length : Int)
  ·rw [if_pos c4] at H
   have c4b0 : decide (0 < (t350.length : Int)) = true:=decide_eq_true c4
   have c4b1 : decide (0 < t350.length) = true:=decide_eq_true (by omega)
   clear c4
   replace H:=Option.bind_eq_some_iff.mp H
   obtain ⟨t354,A50,H⟩:=H
   replace H : (if 1 < (t350.length : Int) then ((slices_Index_string_string.f k t354 (rdOf ByteArray.empty t350 1)).bind fun t358 => ((impl_cargoWords.f).bind fun t359 => (if 3 < (t350.length : Int) then ((slices_Index_string_string.f k t359 (rdOf ByteArray.empty t350 3)).bind fun t363 => (if 2 < (t350.length : Int) then ((impl_ParseInt.f (rdOf ByteArray.empty t350 2)).bind fun bt366 => (if 4 < (t350.length : Int) then ((impl_ParseInt.f (rdOf ByteArray.empty t350 4)).bind fun bt369 => ((impl_IsValidContainer.f k (rdOf ByteArray.empty t350 0) t358 bt366.1 t363 bt369.1).bind fun t371 => (if t371 = true then ((impl_containerText.f (rdOf ByteArray.empty t350 0) t358 bt366.1 t363 bt369.1).bind fun t372 => (if t372.toList = a0.toList then (some (rdOf ByteArray.empty t350 0,t358,bt366.1,t363,bt369.1,true)) else (some ((⟨#[]⟩ : ByteArray),0,0,0,0,false)))) else (some ((⟨#[]⟩ : ByteArray),0,0,0,0,false))))) else (none))) else (none))) else (none)))) else (none)) = some (r1,r2,r3,r4,r5,r6):=H
   have A5:=Aside0.mk A50
   clear A50
   by_cases c6 : 1 < (t350.length : Int)
   ·rw [if_pos c6] at H
    have c6b0 : decide (1 < (t350.length : Int)) = true:=decide_eq_true c6
    have c6b1 : decide (1 < t350.length) = true:=decide_eq_true (by omega)
    clear c6
    replace H:=Option.bind_eq_some_iff.mp H
    obtain ⟨t358,A70,H⟩:=H
    replace H : ((impl_cargoWords.f).bind fun t359 => (if 3 < (t350.length : Int) then ((slices_Index_string_string.f k t359 (rdOf ByteArray.empty t350 3)).bind fun t363 => (if 2 < (t350.length : Int) then ((impl_ParseInt.f (rdOf ByteArray.empty t350 2)).bind fun bt366 => (if 4 < (t350.length : Int) then ((impl_ParseInt.f (rdOf ByteArray.empty t350 4)).bind fun bt369 => ((impl_IsValidContainer.f k (rdOf ByteArray.empty t350 0) t358 bt366.1 t363 bt369.1).bind fun t371 => (if t371 = true then ((impl_containerText.f (rdOf ByteArray.empty t350 0) t358 bt366.1 t363 bt369.1).bind fun t372 => (if t372.toList = a0.toList then (some (rdOf ByteArray.empty t350 0,t358,bt366.1,t363,bt369.1,true)) else (some ((⟨#[]⟩ : ByteArray),0,0,0,0,false)))) else (some ((⟨#[]⟩ : ByteArray),0,0,0,0,false))))) else (none))) else (none))) else (none))) = some (r1,r2,r3,r4,r5,r6):=H
    have A7:=Aside0.mk A70
    clear A70
    replace H:=Option.bind_eq_some_iff.mp H
    obtain ⟨t359,A80,H⟩:=H
    replace H : (if 3 < (t350.length : Int) then ((slices_Index_string_string.f k t359 (rdOf ByteArray.empty t350 3)).bind fun t363 => (if 2 < (t350.length : Int) then ((impl_ParseInt.f (rdOf ByteArray.empty t350 2)).bind fun bt366 => (if 4 < (t350.length : Int) then ((impl_ParseInt.f (rdOf ByteArray.empty t350 4)).bind fun bt369 => ((impl_IsValidContainer.f k (rdOf ByteArray.empty t350 0) t358 bt366.1 t363 bt369.1).bind fun t371 => (if t371 = true then ((impl_containerText.f (rdOf ByteArray.empty t350 0) t358 bt366.1 t363 bt369.1).bind fun t372 => (if t372.toList = a0.toList then (some (rdOf ByteArray.empty t350 0,t358,bt366.1,t363,bt369.1,true)) else (some ((⟨#[]⟩ : ByteArray),0,0,0,0,false)))) else (some ((⟨#[]⟩ : ByteArray),0,0,0,0,false))))) else (none))) else (none))) else (none)) = some (r1,r2,r3,r4,r5,r6):=H
    have A8:=Aside0.mk A80
    clear A80
    by_cases c9 : 3 < (t350.length : Int)
    ·rw [if_pos c9] at H
     have c9b0 : decide (3 < (t350.length : Int)) = true:=decide_eq_true c9
     have c9b1 : decide (3 < t350.length) = true:=decide_eq_true (by omega)
     clear c9
     replace H:=Option.bind_eq_some_iff.mp H
     obtain ⟨t363,A100,H⟩:=H
     replace H : (if 2 < (t350.length : Int) then ((impl_ParseInt.f (rdOf ByteArray.empty t350 2)).bind fun bt366 => (if 4 < (t350.length : Int) then ((impl_ParseInt.f (rdOf ByteArray.empty t350 4)).bind fun bt369 => ((impl_IsValidContainer.f k (rdOf ByteArray.empty t350 0) t358 bt366.1 t363 bt369.1).bind fun t371 => (if t371 = true then ((impl_containerText.f (rdOf ByteArray.empty t350 0) t358 bt366.1 t363 bt369.1).bind fun t372 => (if t372.toList = a0.toList then (some (rdOf ByteArray.empty t350 0,t358,bt366.1,t363,bt369.1,true)) else (some ((⟨#[]⟩ : ByteArray),0,0,0,0,false)))) else (some ((⟨#[]⟩ : ByteArray),0,0,0,0,false))))) else (none))) else (none)) = some (r1,r2,r3,r4,r5,r6):=H
     have A10:=Aside0.mk A100
     clear A100
     by_cases c11 : 2 < (t350.length : Int)
     ·rw [if_pos c11] at H
      have c11b0 : decide (2 < (t350.length : Int)) = true:=decide_eq_true c11
      have c11b1 : decide (2 < t350.length) = true:=decide_eq_true (by omega)
      clear c11
      replace H:=Option.bind_eq_some_iff.mp H
      obtain ⟨⟨t366,t367⟩,A120,H⟩:=H
      replace H : (if 4 < (t350.length : Int) then ((impl_ParseInt.f (rdOf ByteArray.empty t350 4)).bind fun bt369 => ((impl_IsValidContainer.f k (rdOf ByteArray.empty t350 0) t358 t366 t363 bt369.1).bind fun t371 => (if t371 = true then ((impl_containerText.f (rdOf ByteArray.empty t350 0) t358 t366 t363 bt369.1).bind fun t372 => (if t372.toList = a0.toList then (some (rdOf ByteArray.empty t350 0,t358,t366,t363,bt369.1,true)) else (some ((⟨#[]⟩ : ByteArray),0,0,0,0,false)))) else (some ((⟨#[]⟩ : ByteArray),0,0,0,0,false))))) else (none)) = some (r1,r2,r3,r4,r5,r6):=H
      have A12:=Aside0.mk A120
      clear A120
      by_cases c13 : 4 < (t350.length : Int)
      ·rw [if_pos c13] at H
       have c13b0 : decide (4 < (t350.length : Int)) = true:=decide_eq_true c13
       have c13b1 : decide (4 < t350.length) = true:=decide_eq_true (by omega)
       clear c13
       replace H:=Option.bind_eq_some_iff.mp H
       obtain ⟨⟨t369,t370⟩,A140,H⟩:=H
       replace H : ((impl_IsValidContainer.f k (rdOf ByteArray.empty t350 0) t358 t366 t363 t369).bind fun t371 => (if t371 = true then ((impl_containerText.f (rdOf ByteArray.empty t350 0) t358 t366 t363 t369).bind fun t372 => (if t372.toList = a0.toList then (some (rdOf ByteArray.empty t350 0,t358,t366,t363,t369,true)) else (some ((⟨#[]⟩ : ByteArray),0,0,0,0,false)))) else (some ((⟨#[]⟩ : ByteArray),0,0,0,0,false)))) = some (r1,r2,r3,r4,r5,r6):=H
       have A14:=Aside0.mk A140
       clear A140
       replace H:=Option.bind_eq_some_iff.mp H
       obtain ⟨t371,A150,H⟩:=H
       replace H : (if t371 = true then ((impl_containerText.f (rdOf ByteArray.empty t350 0) t358 t366 t363 t369).bind fun t372 => (if t372.toList = a0.toList then (some (rdOf ByteArray.empty t350 0,t358,t366,t363,t369,true)) else (some ((⟨#[]⟩ : ByteArray),0,0,0,0,false)))) else (some ((⟨#[]⟩ : ByteArray),0,0,0,0,false))) = some (r1,r2,r3,r4,r5,r6):=H
       have A15:=Aside0.mk A150
       clear A150
       have HF_:=Aside0.mk H
       clear H
       go_enter Tryd.func24,Tryd.ntmps24
       try go_wp2_with (first|((with_reducible refine gate_dst (N:=2) rfl ?_); refine box_event ?hg (N:=2) ?hd (cs:=#[.string (⟨#[]⟩ : ByteArray),.int .i64 0,.int .i64 0,.int .i64 0,.int .i64 0]) (t:=27) ?hr ?_; (case hd => rfl); (case hg => rfl); (case hr => first|(go_simp; done)|(go_simp; rfl)); intro gb349 hg w19 hbox hb; have n0_:=Aside0.mk (below_step (by repeat (first|(with_reducible first|exact HB.out|apply below_alloc|apply pw_below_drewN|apply below_drew1)|exact HB.out)) hb); have n1_:=Aside0.mk (hbox); have n2_:=Aside0.mk ((by rw [hg]; exact (below_size (by repeat (first|(with_reducible first|exact HB.out|apply below_alloc|apply pw_below_drewN|apply below_drew1)|exact HB.out))) : w.heap.size ≤ gb349)); have n3_:=Aside0.mk ((by rw [hg]; exact (below_size (by repeat (first|(with_reducible first|exact HB.out|apply below_alloc|apply pw_below_drewN|apply below_drew1)|exact HB.out))) : w.heap.size ≤ gb349)); clear HB; have HB:=n0_; have BK349:=n1_; have GW349:=n2_; have GE349:=n3_; clear n0_ n1_ n2_ n3_; clear hb hbox hg)|((with_reducible refine gate_callee (f:=50) rfl ?_); refine goesL_ (some 7) rfl rfl Tryd.func50 (by kernel_rfl) rfl #[.string a0,.string (⟨#[32]⟩ : ByteArray)] rfl (by (try simp only [List.map_toArray,List.map_cons,List.map_nil]); first|done|rfl|(simp only [List.length_drop,List.length_take]; rfl)) ?_; (with_reducible refine (strings_Split.calls a0 (⟨#[32]⟩ : ByteArray) t350 _ ?sideL A2.out).mono ?_); (case sideL => refine LaidA.to_LaidM ?_; first|(with_reducible exact HL.out)|(with_reducible exact LaidA.below HL.out HB.out)|(exact LaidA.below HL.out (by repeat (first|(with_reducible first|exact HB.out|apply below_alloc|apply pw_below_drewN|apply below_drew1|refine below_set ?_ GE349.out|refine below_set ?_ GE364.out)|exact HB.out)))|(repeat (first|exact HL.out|exact LaidA.below HL.out HB.out|(with_reducible refine LaidA.alloc ?_ _)|(with_reducible refine LaidA.drewN ?_ _)|(with_reducible refine LaidA.drew ?_)))); rintro e w20 ⟨v351,rfl,ho0,hb⟩; refine ⟨_,rfl,?_⟩; have n0_:=Aside0.mk (Kd.R_lower ho0 (below_size (by repeat (first|(with_reducible first|exact HB.out|apply below_alloc|apply pw_below_drewN|apply below_drew1|refine below_set ?_ GE349.out)|exact HB.out)))); have n1_:=Aside0.mk (blk_below (g:=gb349) (o:=.cells #[.string (⟨#[]⟩ : ByteArray),.int .i64 0,.int .i64 0,.int .i64 0,.int .i64 0] 27 (0,0)) (by (with_reducible repeat (first|refine blk_drewN ?_ _|refine blk_drew ?_|refine blk_alloc ?_ _)); exact BK349.out) hb); have n2_:=Aside0.mk (below_step (by repeat (first|(with_reducible first|exact HB.out|apply below_alloc|apply pw_below_drewN|apply below_drew1|refine below_set ?_ GE349.out)|exact HB.out)) hb); clear BK349; clear HB; have HO352:=n0_; have BK349:=n1_; have HB:=n2_; clear n0_ n1_ n2_; (try clear hb); (try clear hb2); (try clear hk); (try clear hi); (try clear ho0); obtain ⟨Ao21,co21,eo21⟩:=Kd.R_slice HO352.out; subst eo21))
       have n0_:=Aside0.mk (Kd.R_drew HO352.out)
       have n1_:=Aside0.mk (blk_drew BK349.out)
       have n2_:=Aside0.mk (below_drew1 HB.out)
       clear HO352
       clear BK349
       clear HB
       have HO352:=n0_
       have BK349:=n1_
       have HB:=n2_
       clear n0_ n1_ n2_
       have p353 : 0 ≤ (0 : Int):=(by omega)
       have q353 : 0 < (t350.length : Int):=of_decide_eq_true (by first|(with_reducible assumption)|assumption)
       obtain ⟨ad353,e353,hx353_0⟩:=Kd.at_string (Kd.R_reads' HO352.out).2.2 0 p353 q353
       cases e353
       have qi353 : (0 < t350.length) = True:=eq_true (by omega)
       (try rw [show ((0 : Int)).toNat = 0 from rfl] at hx353_0)
       (try rw [Addr.add_zero'] at hx353_0)
       replace p353:=eq_true p353
       replace q353:=eq_true q353
       have p357 : 0 ≤ (1 : Int):=(by omega)
       have q357 : 1 < (t350.length : Int):=of_decide_eq_true (by first|(with_reducible assumption)|assumption)
       obtain ⟨ad357,e357,hx357_0⟩:=Kd.at_string (Kd.R_reads' HO352.out).2.2 1 p357 q357
       obtain rfl : ad353 = ad357:=(by injection e357)
       (try simp only [show (1 : Int).toNat = 1 from rfl,Nat.reduceMul,Nat.reduceEqDiff,Go.Addr.add,↓reduceIte] at hx357_0)
       have qi357 : (1 < t350.length) = True:=eq_true (by omega)
       (try rw [show ((1 : Int)).toNat = 1 from rfl] at hx357_0)
       replace p357:=eq_true p357
       replace q357:=eq_true q357
       have p362 : 0 ≤ (3 : Int):=(by omega)
       have q362 : 3 < (t350.length : Int):=of_decide_eq_true (by first|(with_reducible assumption)|assumption)
       obtain ⟨ad362,e362,hx362_0⟩:=Kd.at_string (Kd.R_reads' HO352.out).2.2 3 p362 q362
       obtain rfl : ad353 = ad362:=(by injection e362)
       (try simp only [show (3 : Int).toNat = 3 from rfl,Nat.reduceMul,Nat.reduceEqDiff,Go.Addr.add,↓reduceIte] at hx362_0)
       have qi362 : (3 < t350.length) = True:=eq_true (by omega)
       (try rw [show ((3 : Int)).toNat = 3 from rfl] at hx362_0)
       replace p362:=eq_true p362
       replace q362:=eq_true q362
       refine start_ (n:=16) (S:=fun w' => w'.cell? ad353 = some (.string (rdOf ByteArray.empty t350 0)) ∧ w'.cell? ⟨ad353.block,ad353.off + 1,none⟩ = some (.string (rdOf ByteArray.empty t350 1)) ∧ w'.cell? ⟨ad353.block,ad353.off + 3,none⟩ = some (.string (rdOf ByteArray.empty t350 3))) (ds:=[]) (bc16 16 0) (by kernel_rfl) rfl rfl ⟨hx353_0,hx357_0,hx362_0⟩ (fun hHeld => ?_); refine with_tabW impl_ParseContainer.tab4 impl_ParseContainer.bits4 (fun HT_ HW_ => ?_)
       generalize w20.drew = w22 at HO352 BK349 HB hx353_0 hx357_0 hx362_0 hHeld ⊢
       refine pure_ (i:=0) (N:=some 12) (v:=?_) (a':=?_) (bc16 16 1) rfl rfl (any_of HT_.out (by kernel_rfl)) (fun _ _ _ h => h) (Or.inl ⟨by rfl,?_⟩) ?_ ?_
       rotate_left
       ·intro w'
        go_simp
        with_reducible rfl
       rotate_left
       ·simp only [Act.put,List.setIfInBounds_toArray,List.set_cons_zero,List.set_cons_succ,i64_w,i32_w]
        rfl
       refine pure_ (i:=1) (N:=some 13) (v:=?_) (a':=?_) (bc16 16 3) rfl rfl (any_of HT_.out (by kernel_rfl)) (fun _ _ _ h => h) (Or.inl ⟨by rfl,?_⟩) ?_ ?_
       rotate_left
       ·intro w'
        go_simp
        with_reducible rfl
       rotate_left
       ·simp only [Act.put,List.setIfInBounds_toArray,List.set_cons_zero,List.set_cons_succ,i64_w,i32_w]
        rfl
       refine pure_ (i:=4) (N:=some 16) (v:=?_) (a':=?_) (bc16 16 19) rfl rfl (any_of HT_.out (by kernel_rfl)) (fun _ _ _ h => h) (Or.inl ⟨by rfl,?_⟩) ?_ ?_
       rotate_left
       ·intro w'
        go_simp
        with_reducible rfl
       rotate_left
       ·simp only [Act.put,List.setIfInBounds_toArray,List.set_cons_zero,List.set_cons_succ,i64_w,i32_w]
        rfl
       refine pure_ (i:=5) (N:=some 17) (v:=?_) (a':=?_) (bc16 16 51) rfl rfl (any_of HT_.out (by kernel_rfl)) (fun _ _ _ h => h) (Or.inl ⟨by rfl,?_⟩) ?_ ?_
       rotate_left
       ·intro w'
        go_simp
        with_reducible rfl
       rotate_left
       ·simp only [Act.put,List.setIfInBounds_toArray,List.set_cons_zero,List.set_cons_succ,i64_w,i32_w]
        rfl
       refine pure_ (i:=9) (N:=some 21) (v:=?_) (a':=?_) (bc16 16 563) rfl rfl (any_of HT_.out (by kernel_rfl)) (fun _ _ _ h => h) (Or.inl ⟨by rfl,?_⟩) ?_ ?_
       rotate_left
       ·intro w'
        go_simp
        with_reducible rfl
       rotate_left
       ·simp only [Act.put,List.setIfInBounds_toArray,List.set_cons_zero,List.set_cons_succ,i64_w,i32_w]
        rfl
       refine pure_ (i:=10) (N:=some 22) (v:=?_) (a':=?_) (bc16 16 1587) rfl rfl (any_of HT_.out (by kernel_rfl)) (fun _ _ _ h => h) (Or.inl ⟨by rfl,?_⟩) ?_ ?_
       rotate_left
       ·intro w'
        go_simp
        with_reducible rfl
       rotate_left
       ·simp only [Act.put,List.setIfInBounds_toArray,List.set_cons_zero,List.set_cons_succ,i64_w,i32_w]
        rfl
       refine take_ (i:=2) (N:=some 14) (v:=?_) (a':=?_) (bc16 16 1591) rfl rfl (take_ofW HT_.out HW_.out (by kernel_rfl)) (fun _ _ _ h => h) (Or.inl ⟨by rfl,?_⟩) hHeld ?_ ?_
       rotate_left
       ·rintro w' ⟨s0,s1,s2⟩
        go_simp
        with_reducible rfl
       rotate_left
       ·simp only [Act.put,List.setIfInBounds_toArray,List.set_cons_zero,List.set_cons_succ,i64_w,i32_w]
        rfl
       refine take_ (i:=6) (N:=some 18) (v:=?_) (a':=?_) (bc16 16 1655) rfl rfl (take_ofW HT_.out HW_.out (by kernel_rfl)) (fun _ _ _ h => h) (Or.inl ⟨by rfl,?_⟩) hHeld ?_ ?_
       rotate_left
       ·rintro w' ⟨s0,s1,s2⟩
        go_simp
        with_reducible rfl
       rotate_left
       ·simp only [Act.put,List.setIfInBounds_toArray,List.set_cons_zero,List.set_cons_succ,i64_w,i32_w]
        rfl
       refine take_ (i:=11) (N:=some 23) (v:=?_) (a':=?_) (bc16 16 3703) rfl rfl (take_ofW HT_.out HW_.out (by kernel_rfl)) (fun _ _ _ h => h) (Or.inl ⟨by rfl,?_⟩) hHeld ?_ ?_
       rotate_left
       ·rintro w' ⟨s0,s1,s2⟩
        go_simp
        with_reducible rfl
       rotate_left
       ·simp only [Act.put,List.setIfInBounds_toArray,List.set_cons_zero,List.set_cons_succ,i64_w,i32_w]
        rfl
       refine join_ (σ:=Value × Value × Nat) 1 (bc16 16 32767) (fun s_ => [(15,s_.1),(19,.int .i64 t358),(20,s_.2.1),(24,.int .i64 t363),(5,.pointer (some ⟨s_.2.2,0,none⟩)),(25,.agg #[.string (rdOf ByteArray.empty t350 0),.int .i64 t358,.int .i64 0,.int .i64 t363,.int .i64 0])]) (fun s_ w' => (w'.cell? ad353 = some (.string (rdOf ByteArray.empty t350 0)) ∧ w'.cell? ⟨ad353.block,ad353.off + 1,none⟩ = some (.string (rdOf ByteArray.empty t350 1)) ∧ w'.cell? ⟨ad353.block,ad353.off + 3,none⟩ = some (.string (rdOf ByteArray.empty t350 3))) ∧ (Kd.R Kd.string 9 w' w.heap.size (fun k_ => some k_ ≠ (s_.1 : Value).ownBlock ∧ some k_ ≠ (s_.2.1 : Value).ownBlock) (.slice (some ad353) t350.length co21) t350) ∧ (Kd.R Kd.string 9 w' w.heap.size (fun k_ => some k_ ≠ (.slice (some ad353) t350.length co21 : Value).ownBlock ∧ some k_ ≠ (s_.2.1 : Value).ownBlock) s_.1 t354) ∧ (Kd.R Kd.string 9 w' w.heap.size (fun k_ => some k_ ≠ (.slice (some ad353) t350.length co21 : Value).ownBlock ∧ some k_ ≠ (s_.1 : Value).ownBlock) s_.2.1 t359) ∧ (w'.heap[gb349]? = some (.cells #[.string (⟨#[]⟩ : ByteArray),.int .i64 0,.int .i64 0,.int .i64 0,.int .i64 0] 27 (0,0))) ∧ (w'.heap[s_.2.2]? = some (.cells #[.string (⟨#[]⟩ : ByteArray),.int .i64 0,.int .i64 0,.int .i64 0,.int .i64 0] 27 (0,0))) ∧ (w.heap.size ≤ s_.2.2) ∧ (w.heap.size ≤ s_.2.2) ∧ (gb349 ≠ s_.2.2) ∧ (s_.2.2 ≠ gb349) ∧ (Below w.heap.size w w')) ?_ ?_
       rotate_left
       ·intro hJ3_7_8_12_14
        refine join_ (σ:=Value × Value) 2 (bc16 16 16383) (fun s_ => [(15,s_.1),(19,.int .i64 t358),(20,s_.2),(24,.int .i64 t363),(25,.agg #[.string (rdOf ByteArray.empty t350 0),.int .i64 t358,.int .i64 0,.int .i64 t363,.int .i64 0])]) (fun s_ w' => (w'.cell? ad353 = some (.string (rdOf ByteArray.empty t350 0)) ∧ w'.cell? ⟨ad353.block,ad353.off + 1,none⟩ = some (.string (rdOf ByteArray.empty t350 1)) ∧ w'.cell? ⟨ad353.block,ad353.off + 3,none⟩ = some (.string (rdOf ByteArray.empty t350 3))) ∧ (Kd.R Kd.string 9 w' w.heap.size (fun k_ => some k_ ≠ (s_.1 : Value).ownBlock ∧ some k_ ≠ (s_.2 : Value).ownBlock) (.slice (some ad353) t350.length co21) t350) ∧ (Kd.R Kd.string 9 w' w.heap.size (fun k_ => some k_ ≠ (.slice (some ad353) t350.length co21 : Value).ownBlock ∧ some k_ ≠ (s_.2 : Value).ownBlock) s_.1 t354) ∧ (Kd.R Kd.string 9 w' w.heap.size (fun k_ => some k_ ≠ (.slice (some ad353) t350.length co21 : Value).ownBlock ∧ some k_ ≠ (s_.1 : Value).ownBlock) s_.2 t359) ∧ (w'.heap[gb349]? = some (.cells #[.string (⟨#[]⟩ : ByteArray),.int .i64 0,.int .i64 0,.int .i64 0,.int .i64 0] 27 (0,0))) ∧ (Below w.heap.size w w')) ?_ ?_
        rotate_left
        ·intro hJ3_7_8_12
         refine join_ (σ:=Value × Value × Nat) 3 (bc16 16 20479) (fun s_ => [(15,s_.1),(19,.int .i64 t358),(20,s_.2.1),(5,.pointer (some ⟨s_.2.2,0,none⟩))]) (fun s_ w' => (w'.cell? ad353 = some (.string (rdOf ByteArray.empty t350 0)) ∧ w'.cell? ⟨ad353.block,ad353.off + 1,none⟩ = some (.string (rdOf ByteArray.empty t350 1)) ∧ w'.cell? ⟨ad353.block,ad353.off + 3,none⟩ = some (.string (rdOf ByteArray.empty t350 3))) ∧ (Kd.R Kd.string 9 w' w.heap.size (fun k_ => some k_ ≠ (s_.1 : Value).ownBlock ∧ some k_ ≠ (s_.2.1 : Value).ownBlock) (.slice (some ad353) t350.length co21) t350) ∧ (Kd.R Kd.string 9 w' w.heap.size (fun k_ => some k_ ≠ (.slice (some ad353) t350.length co21 : Value).ownBlock ∧ some k_ ≠ (s_.2.1 : Value).ownBlock) s_.1 t354) ∧ (Kd.R Kd.string 9 w' w.heap.size (fun k_ => some k_ ≠ (.slice (some ad353) t350.length co21 : Value).ownBlock ∧ some k_ ≠ (s_.1 : Value).ownBlock) s_.2.1 t359) ∧ (w'.heap[gb349]? = some (.cells #[.string (⟨#[]⟩ : ByteArray),.int .i64 0,.int .i64 0,.int .i64 0,.int .i64 0] 27 (0,0))) ∧ (w'.heap[s_.2.2]? = some (.cells #[.string (⟨#[]⟩ : ByteArray),.int .i64 0,.int .i64 0,.int .i64 0,.int .i64 0] 27 (0,0))) ∧ (w.heap.size ≤ s_.2.2) ∧ (w.heap.size ≤ s_.2.2) ∧ (gb349 ≠ s_.2.2) ∧ (s_.2.2 ≠ gb349) ∧ (Below w.heap.size w w')) ?_ ?_
         rotate_left
         ·intro hJ3_7_8_14
          refine join_ (σ:=Value × Value) 4 (bc16 16 4095) (fun s_ => [(15,s_.1),(19,.int .i64 t358),(20,s_.2)]) (fun s_ w' => (w'.cell? ad353 = some (.string (rdOf ByteArray.empty t350 0)) ∧ w'.cell? ⟨ad353.block,ad353.off + 1,none⟩ = some (.string (rdOf ByteArray.empty t350 1)) ∧ w'.cell? ⟨ad353.block,ad353.off + 3,none⟩ = some (.string (rdOf ByteArray.empty t350 3))) ∧ (Kd.R Kd.string 9 w' w.heap.size (fun k_ => some k_ ≠ (s_.1 : Value).ownBlock ∧ some k_ ≠ (s_.2 : Value).ownBlock) (.slice (some ad353) t350.length co21) t350) ∧ (Kd.R Kd.string 9 w' w.heap.size (fun k_ => some k_ ≠ (.slice (some ad353) t350.length co21 : Value).ownBlock ∧ some k_ ≠ (s_.2 : Value).ownBlock) s_.1 t354) ∧ (Kd.R Kd.string 9 w' w.heap.size (fun k_ => some k_ ≠ (.slice (some ad353) t350.length co21 : Value).ownBlock ∧ some k_ ≠ (s_.1 : Value).ownBlock) s_.2 t359) ∧ (w'.heap[gb349]? = some (.cells #[.string (⟨#[]⟩ : ByteArray),.int .i64 0,.int .i64 0,.int .i64 0,.int .i64 0] 27 (0,0))) ∧ (Below w.heap.size w w')) ?_ ?_
          rotate_left
          ·intro hJ3_7_8
           refine join_ (σ:=Value × Nat) 4 (bc16 16 20223) (fun s_ => [(15,s_.1),(19,.int .i64 t358),(5,.pointer (some ⟨s_.2,0,none⟩))]) (fun s_ w' => (w'.cell? ad353 = some (.string (rdOf ByteArray.empty t350 0)) ∧ w'.cell? ⟨ad353.block,ad353.off + 1,none⟩ = some (.string (rdOf ByteArray.empty t350 1)) ∧ w'.cell? ⟨ad353.block,ad353.off + 3,none⟩ = some (.string (rdOf ByteArray.empty t350 3))) ∧ (Kd.R Kd.string 9 w' w.heap.size (fun k_ => some k_ ≠ (s_.1 : Value).ownBlock) (.slice (some ad353) t350.length co21) t350) ∧ (Kd.R Kd.string 9 w' w.heap.size (fun k_ => some k_ ≠ (.slice (some ad353) t350.length co21 : Value).ownBlock) s_.1 t354) ∧ (w'.heap[gb349]? = some (.cells #[.string (⟨#[]⟩ : ByteArray),.int .i64 0,.int .i64 0,.int .i64 0,.int .i64 0] 27 (0,0))) ∧ (w'.heap[s_.2]? = some (.cells #[.string (⟨#[]⟩ : ByteArray),.int .i64 0,.int .i64 0,.int .i64 0,.int .i64 0] 27 (0,0))) ∧ (w.heap.size ≤ s_.2) ∧ (w.heap.size ≤ s_.2) ∧ (gb349 ≠ s_.2) ∧ (s_.2 ≠ gb349) ∧ (Below w.heap.size w w')) ?_ ?_
           rotate_left
           ·intro hJ3_7_14
            refine join_ (σ:=Value) 5 (bc16 16 3839) (fun s_ => [(15,s_),(19,.int .i64 t358)]) (fun s_ w' => (w'.cell? ad353 = some (.string (rdOf ByteArray.empty t350 0)) ∧ w'.cell? ⟨ad353.block,ad353.off + 1,none⟩ = some (.string (rdOf ByteArray.empty t350 1)) ∧ w'.cell? ⟨ad353.block,ad353.off + 3,none⟩ = some (.string (rdOf ByteArray.empty t350 3))) ∧ (Kd.R Kd.string 9 w' w.heap.size (fun k_ => some k_ ≠ (s_ : Value).ownBlock) (.slice (some ad353) t350.length co21) t350) ∧ (Kd.R Kd.string 9 w' w.heap.size (fun k_ => some k_ ≠ (.slice (some ad353) t350.length co21 : Value).ownBlock) s_ t354) ∧ (w'.heap[gb349]? = some (.cells #[.string (⟨#[]⟩ : ByteArray),.int .i64 0,.int .i64 0,.int .i64 0,.int .i64 0] 27 (0,0))) ∧ (Below w.heap.size w w')) ?_ ?_
            rotate_left
            ·intro hJ3_7
             refine join_ (σ:=Value × Nat) 5 (bc16 16 20095) (fun s_ => [(15,s_.1),(5,.pointer (some ⟨s_.2,0,none⟩))]) (fun s_ w' => (w'.cell? ad353 = some (.string (rdOf ByteArray.empty t350 0)) ∧ w'.cell? ⟨ad353.block,ad353.off + 1,none⟩ = some (.string (rdOf ByteArray.empty t350 1)) ∧ w'.cell? ⟨ad353.block,ad353.off + 3,none⟩ = some (.string (rdOf ByteArray.empty t350 3))) ∧ (Kd.R Kd.string 9 w' w.heap.size (fun k_ => some k_ ≠ (s_.1 : Value).ownBlock) (.slice (some ad353) t350.length co21) t350) ∧ (Kd.R Kd.string 9 w' w.heap.size (fun k_ => some k_ ≠ (.slice (some ad353) t350.length co21 : Value).ownBlock) s_.1 t354) ∧ (w'.heap[gb349]? = some (.cells #[.string (⟨#[]⟩ : ByteArray),.int .i64 0,.int .i64 0,.int .i64 0,.int .i64 0] 27 (0,0))) ∧ (w'.heap[s_.2]? = some (.cells #[.string (⟨#[]⟩ : ByteArray),.int .i64 0,.int .i64 0,.int .i64 0,.int .i64 0] 27 (0,0))) ∧ (w.heap.size ≤ s_.2) ∧ (w.heap.size ≤ s_.2) ∧ (gb349 ≠ s_.2) ∧ (s_.2 ≠ gb349) ∧ (Below w.heap.size w w')) ?_ ?_
             rotate_left
             ·intro hJ3_14
              refine join_ (σ:=Value) 6 (bc16 16 3711) (fun s_ => [(15,s_)]) (fun s_ w' => (w'.cell? ad353 = some (.string (rdOf ByteArray.empty t350 0)) ∧ w'.cell? ⟨ad353.block,ad353.off + 1,none⟩ = some (.string (rdOf ByteArray.empty t350 1)) ∧ w'.cell? ⟨ad353.block,ad353.off + 3,none⟩ = some (.string (rdOf ByteArray.empty t350 3))) ∧ (Kd.R Kd.string 9 w' w.heap.size (fun k_ => some k_ ≠ (s_ : Value).ownBlock) (.slice (some ad353) t350.length co21) t350) ∧ (Kd.R Kd.string 9 w' w.heap.size (fun k_ => some k_ ≠ (.slice (some ad353) t350.length co21 : Value).ownBlock) s_ t354) ∧ (w'.heap[gb349]? = some (.cells #[.string (⟨#[]⟩ : ByteArray),.int .i64 0,.int .i64 0,.int .i64 0,.int .i64 0] 27 (0,0))) ∧ (Below w.heap.size w w')) ?_ ?_
              rotate_left
              ·intro hJ3
               refine join_ (σ:=Nat) 6 (bc16 16 20087) (fun s_ => [(5,.pointer (some ⟨s_,0,none⟩))]) (fun s_ w' => (w'.cell? ad353 = some (.string (rdOf ByteArray.empty t350 0)) ∧ w'.cell? ⟨ad353.block,ad353.off + 1,none⟩ = some (.string (rdOf ByteArray.empty t350 1)) ∧ w'.cell? ⟨ad353.block,ad353.off + 3,none⟩ = some (.string (rdOf ByteArray.empty t350 3))) ∧ (Kd.R Kd.string 9 w' w.heap.size (fun _ => True) (.slice (some ad353) t350.length co21) t350) ∧ (w'.heap[gb349]? = some (.cells #[.string (⟨#[]⟩ : ByteArray),.int .i64 0,.int .i64 0,.int .i64 0,.int .i64 0] 27 (0,0))) ∧ (w'.heap[s_]? = some (.cells #[.string (⟨#[]⟩ : ByteArray),.int .i64 0,.int .i64 0,.int .i64 0,.int .i64 0] 27 (0,0))) ∧ (w.heap.size ≤ s_) ∧ (w.heap.size ≤ s_) ∧ (gb349 ≠ s_) ∧ (s_ ≠ gb349) ∧ (Below w.heap.size w w')) ?_ ?_
               rotate_left
               ·intro hJ14
                refine two_ (i:=3) (j:=14) (Ni:=some 15) (Nj:=some 5) (bc16 16 3711) (bc16 16 20087) rfl rfl rfl rfl (two_of HT_.out (by kernel_rfl)) (by decide) (by decide) (fun K hK => ?_) (fun K hK => ?_)
                ·skip
                 refine goes_ Tryd.func52 (by kernel_rfl) rfl #[] (by rfl) rfl rfl (by (try simp only [List.map_toArray,List.map_cons,List.map_nil]); first|done|rfl|(simp only [List.length_drop,List.length_take]; rfl)) ?_
                 with_reducible refine (impl_sizeWords.calls  t354 _ A5.out).mono ?_
                 rintro e w23 ⟨v355,rfl,ho0,hb⟩
                 have HS0_:=(hb.cell (World.block_lt_of_cell? _ _ (hHeld.1))).trans (hHeld.1)
                 have HS1_:=(hb.cell (World.block_lt_of_cell? _ _ (hHeld.2.1))).trans (hHeld.2.1)
                 have HS2_:=(hb.cell (World.block_lt_of_cell? _ _ (hHeld.2.2))).trans (hHeld.2.2)
                 refine ⟨_,rfl,?_⟩
                 have n0_:=Aside0.mk (Kd.R_elder' (by (with_reducible repeat (first|apply Kd.R_alloc|apply Kd.R_drewN|apply Kd.R_drew)); exact HO352.out) (Kd.R_base ho0) hb)
                 have n1_:=Aside0.mk (Kd.R_lower (Kd.R_new' ho0 (Kd.R_lt (by (with_reducible repeat (first|apply Kd.R_alloc|apply Kd.R_drewN|apply Kd.R_drew)); exact HO352.out))) (below_size (by repeat (first|(with_reducible first|exact HB.out|apply below_alloc|apply pw_below_drewN|apply below_drew1|refine below_set ?_ GE349.out)|exact HB.out))))
                 have n2_:=Aside0.mk (blk_below (g:=gb349) (o:=.cells #[.string (⟨#[]⟩ : ByteArray),.int .i64 0,.int .i64 0,.int .i64 0,.int .i64 0] 27 (0,0)) (by (with_reducible repeat (first|refine blk_drewN ?_ _|refine blk_drew ?_|refine blk_alloc ?_ _)); exact BK349.out) hb)
                 have n3_:=Aside0.mk (below_step (by repeat (first|(with_reducible first|exact HB.out|apply below_alloc|apply pw_below_drewN|apply below_drew1|refine below_set ?_ GE349.out)|exact HB.out)) hb)
                 clear HO352
                 clear BK349
                 clear HB
                 have HO352:=n0_
                 have HO356:=n1_
                 have BK349:=n2_
                 have HB:=n3_
                 clear n0_ n1_ n2_ n3_
                 (try clear hb)
                 (try clear hb2)
                 (try clear hk)
                 (try clear hi)
                 (try clear ho0)
                 refine hK.out _ _ ⟨HS0_,HS1_,HS2_⟩ (fun hHeld => ?_)
                 clear hK K
                 refine norm_ (a':=?_) ?_ ?_
                 rotate_left
                 ·show Act.put _ (some 15) _ = _
                  simp only [Act.put,List.setIfInBounds_toArray,List.set_cons_zero,List.set_cons_succ,i64_w,i32_w]
                  rfl
                 exact norm_ (by first|(simp only [putAll,Act.put,List.setIfInBounds_toArray,List.set_cons_zero,List.set_cons_succ]; done)|(simp only [putAll,Act.put,List.setIfInBounds_toArray,List.set_cons_zero,List.set_cons_succ]; rfl)) (hJ3 (v355) _ ⟨hHeld,(by (with_reducible repeat (first|apply Kd.R_alloc|apply Kd.R_drewN|apply Kd.R_drew)); exact Kd.R_mono HO352.out (fun _ hk => hk.2)),(by (with_reducible repeat (first|apply Kd.R_alloc|apply Kd.R_drewN|apply Kd.R_drew)); exact Kd.R_mono HO356.out (fun _ hk => hk.2)),(by (with_reducible repeat (first|refine blk_drewN ?_ _|refine blk_drew ?_|refine blk_alloc ?_ _)); exact BK349.out),(by repeat (first|(with_reducible first|exact HB.out|apply below_alloc|apply pw_below_drewN|apply below_drew1|refine below_set ?_ GE349.out)|exact HB.out))⟩)
                ·skip
                 refine box_step ?hg (N:=5) ?hd (cs:=#[.string (⟨#[]⟩ : ByteArray),.int .i64 0,.int .i64 0,.int .i64 0,.int .i64 0]) (t:=27) ?hr ?_; (case hd => rfl); (case hg => rfl); (case hr => first|(go_simp; done)|(go_simp; rfl))
                 intro gb364 hg w23 hbox hb
                 have HS0_:=(hb.cell (World.block_lt_of_cell? _ _ (hHeld.1))).trans (hHeld.1)
                 have HS1_:=(hb.cell (World.block_lt_of_cell? _ _ (hHeld.2.1))).trans (hHeld.2.1)
                 have HS2_:=(hb.cell (World.block_lt_of_cell? _ _ (hHeld.2.2))).trans (hHeld.2.2)
                 have n0_:=Aside0.mk (Kd.R_below (by (with_reducible repeat (first|apply Kd.R_alloc|apply Kd.R_drewN|apply Kd.R_drew)); exact HO352.out) hb)
                 have n1_:=Aside0.mk (blk_below (g:=gb349) (o:=.cells #[.string (⟨#[]⟩ : ByteArray),.int .i64 0,.int .i64 0,.int .i64 0,.int .i64 0] 27 (0,0)) (by (with_reducible repeat (first|refine blk_drewN ?_ _|refine blk_drew ?_|refine blk_alloc ?_ _)); exact BK349.out) hb)
                 have n2_:=Aside0.mk (below_step (by repeat (first|(with_reducible first|exact HB.out|apply below_alloc|apply pw_below_drewN|apply below_drew1|refine below_set ?_ GE349.out)|exact HB.out)) hb)
                 have n3_:=Aside0.mk (hbox)
                 have n4_:=Aside0.mk ((by rw [hg]; exact (below_size (by repeat (first|(with_reducible first|exact HB.out|apply below_alloc|apply pw_below_drewN|apply below_drew1|refine below_set ?_ GE349.out)|exact HB.out))) : w.heap.size ≤ gb364))
                 have n5_:=Aside0.mk ((by rw [hg]; exact (below_size (by repeat (first|(with_reducible first|exact HB.out|apply below_alloc|apply pw_below_drewN|apply below_drew1|refine below_set ?_ GE349.out)|exact HB.out))) : w.heap.size ≤ gb364))
                 have n6_:=Aside0.mk ((by rw [hg]; exact Nat.ne_of_lt (blk_lt (g:=gb349) (o:=.cells #[.string (⟨#[]⟩ : ByteArray),.int .i64 0,.int .i64 0,.int .i64 0,.int .i64 0] 27 (0,0)) (by (with_reducible repeat (first|refine blk_drewN ?_ _|refine blk_drew ?_|refine blk_alloc ?_ _)); exact BK349.out)) : gb349 ≠ gb364))
                 have n7_:=Aside0.mk ((by rw [hg]; exact Nat.ne_of_gt (blk_lt (g:=gb349) (o:=.cells #[.string (⟨#[]⟩ : ByteArray),.int .i64 0,.int .i64 0,.int .i64 0,.int .i64 0] 27 (0,0)) (by (with_reducible repeat (first|refine blk_drewN ?_ _|refine blk_drew ?_|refine blk_alloc ?_ _)); exact BK349.out)) : gb364 ≠ gb349))
                 clear HO352
                 clear BK349
                 clear HB
                 have HO352:=n0_
                 have BK349:=n1_
                 have HB:=n2_
                 have BK364:=n3_
                 have GW364:=n4_
                 have GE364:=n5_
                 have NB349_364:=n6_
                 have NB364_349:=n7_
                 clear n0_ n1_ n2_ n3_ n4_ n5_ n6_ n7_
                 clear hb hbox hg
                 refine hK.out _ _ ⟨HS0_,HS1_,HS2_⟩ (fun hHeld => ?_)
                 clear hK K
                 refine norm_ (a':=?_) ?_ ?_
                 rotate_left
                 ·show Act.put _ (some 5) _ = _
                  simp only [Act.put,List.setIfInBounds_toArray,List.set_cons_zero,List.set_cons_succ,i64_w,i32_w]
                  rfl
                 exact norm_ (by first|(simp only [putAll,Act.put,List.setIfInBounds_toArray,List.set_cons_zero,List.set_cons_succ]; done)|(simp only [putAll,Act.put,List.setIfInBounds_toArray,List.set_cons_zero,List.set_cons_succ]; rfl)) (hJ14 (gb364) _ ⟨hHeld,(by (with_reducible repeat (first|apply Kd.R_alloc|apply Kd.R_drewN|apply Kd.R_drew)); exact HO352.out),(by (with_reducible repeat (first|refine blk_drewN ?_ _|refine blk_drew ?_|refine blk_alloc ?_ _)); exact BK349.out),(by (with_reducible repeat (first|refine blk_drewN ?_ _|refine blk_drew ?_|refine blk_alloc ?_ _)); exact BK364.out),GW364.out,GE364.out,NB349_364.out,NB364_349.out,(by repeat (first|(with_reducible first|exact HB.out|apply below_alloc|apply pw_below_drewN|apply below_drew1|refine below_set ?_ GE349.out|refine below_set ?_ GE364.out)|exact HB.out))⟩)
               ·skip
                rintro gb364 w24 ⟨hS_,h0_,h1_,h2_,h3_,h4_,h5_,h6_,h7_⟩
                have n0_ : Aside0 (Kd.R Kd.string 9 w24 w.heap.size (fun _ => True) (.slice (some ad353) t350.length co21) t350):=⟨h0_⟩
                have n1_ : Aside0 (w24.heap[gb349]? = some (.cells #[.string (⟨#[]⟩ : ByteArray),.int .i64 0,.int .i64 0,.int .i64 0,.int .i64 0] 27 (0,0))):=⟨h1_⟩
                have n2_ : Aside0 (w24.heap[gb364]? = some (.cells #[.string (⟨#[]⟩ : ByteArray),.int .i64 0,.int .i64 0,.int .i64 0,.int .i64 0] 27 (0,0))):=⟨h2_⟩
                have n3_ : Aside0 (w.heap.size ≤ gb364):=⟨h3_⟩
                have n4_ : Aside0 (w.heap.size ≤ gb364):=⟨h4_⟩
                have n5_ : Aside0 (gb349 ≠ gb364):=⟨h5_⟩
                have n6_ : Aside0 (gb364 ≠ gb349):=⟨h6_⟩
                have n7_ : Aside0 (Below w.heap.size w w24):=⟨h7_⟩
                clear HO352
                clear BK349
                clear HB
                clear h0_ h1_ h2_ h3_ h4_ h5_ h6_ h7_
                have HO352:=n0_
                have BK349:=n1_
                have BK364:=n2_
                have GW364:=n3_
                have GE364:=n4_
                have NB349_364:=n5_
                have NB364_349:=n6_
                have HB:=n7_
                clear n0_ n1_ n2_ n3_ n4_ n5_ n6_ n7_
                have hHeld : w24.cell? ad353 = some (.string (rdOf ByteArray.empty t350 0)) ∧ w24.cell? ⟨ad353.block,ad353.off + 1,none⟩ = some (.string (rdOf ByteArray.empty t350 1)) ∧ w24.cell? ⟨ad353.block,ad353.off + 3,none⟩ = some (.string (rdOf ByteArray.empty t350 3)):=hS_
                refine norm_ (a':=?_) ?_ ?_
                rotate_left
                ·simp only [putAll,Act.put,List.setIfInBounds_toArray,List.set_cons_zero,List.set_cons_succ]
                 rfl
                refine one_ (i:=3) (N:=some 15) (bc16 16 20095) rfl rfl (one_of HT_.out (by kernel_rfl)) (by decide) (fun K hK => ?_)
                refine goes_ Tryd.func52 (by kernel_rfl) rfl #[] (by rfl) rfl rfl (by (try simp only [List.map_toArray,List.map_cons,List.map_nil]); first|done|rfl|(simp only [List.length_drop,List.length_take]; rfl)) ?_
                with_reducible refine (impl_sizeWords.calls  t354 _ A5.out).mono ?_
                rintro e w25 ⟨v355,rfl,ho0,hb⟩
                have HS0_:=(hb.cell (World.block_lt_of_cell? _ _ (hHeld.1))).trans (hHeld.1)
                have HS1_:=(hb.cell (World.block_lt_of_cell? _ _ (hHeld.2.1))).trans (hHeld.2.1)
                have HS2_:=(hb.cell (World.block_lt_of_cell? _ _ (hHeld.2.2))).trans (hHeld.2.2)
                refine ⟨_,rfl,?_⟩
                have n0_:=Aside0.mk (Kd.R_elder' (by (with_reducible repeat (first|apply Kd.R_alloc|apply Kd.R_drewN|apply Kd.R_drew)); exact HO352.out) (Kd.R_base ho0) hb)
                have n1_:=Aside0.mk (Kd.R_lower (Kd.R_new' ho0 (Kd.R_lt (by (with_reducible repeat (first|apply Kd.R_alloc|apply Kd.R_drewN|apply Kd.R_drew)); exact HO352.out))) (below_size (by repeat (first|(with_reducible first|exact HB.out|apply below_alloc|apply pw_below_drewN|apply below_drew1|refine below_set ?_ GE349.out|refine below_set ?_ GE364.out)|exact HB.out))))
                have n2_:=Aside0.mk (blk_below (g:=gb349) (o:=.cells #[.string (⟨#[]⟩ : ByteArray),.int .i64 0,.int .i64 0,.int .i64 0,.int .i64 0] 27 (0,0)) (by (with_reducible repeat (first|refine blk_drewN ?_ _|refine blk_drew ?_|refine blk_alloc ?_ _)); exact BK349.out) hb)
                have n3_:=Aside0.mk (blk_below (g:=gb364) (o:=.cells #[.string (⟨#[]⟩ : ByteArray),.int .i64 0,.int .i64 0,.int .i64 0,.int .i64 0] 27 (0,0)) (by (with_reducible repeat (first|refine blk_drewN ?_ _|refine blk_drew ?_|refine blk_alloc ?_ _)); exact BK364.out) hb)
                have n4_:=Aside0.mk (below_step (by repeat (first|(with_reducible first|exact HB.out|apply below_alloc|apply pw_below_drewN|apply below_drew1|refine below_set ?_ GE349.out|refine below_set ?_ GE364.out)|exact HB.out)) hb)
                clear HO352
                clear BK349
                clear BK364
                clear HB
                have HO352:=n0_
                have HO356:=n1_
                have BK349:=n2_
                have BK364:=n3_
                have HB:=n4_
                clear n0_ n1_ n2_ n3_ n4_
                (try clear hb)
                (try clear hb2)
                (try clear hk)
                (try clear hi)
                (try clear ho0)
                refine hK.out _ _ ⟨HS0_,HS1_,HS2_⟩ (fun hHeld => ?_)
                clear hK K
                refine norm_ (a':=?_) ?_ ?_
                rotate_left
                ·show Act.put _ (some 15) _ = _
                 simp only [Act.put,List.setIfInBounds_toArray,List.set_cons_zero,List.set_cons_succ,i64_w,i32_w]
                 rfl
                exact norm_ (by first|(simp only [putAll,Act.put,List.setIfInBounds_toArray,List.set_cons_zero,List.set_cons_succ]; done)|(simp only [putAll,Act.put,List.setIfInBounds_toArray,List.set_cons_zero,List.set_cons_succ]; rfl)) (hJ3_14 (v355,gb364) _ ⟨hHeld,(by (with_reducible repeat (first|apply Kd.R_alloc|apply Kd.R_drewN|apply Kd.R_drew)); exact Kd.R_mono HO352.out (fun _ hk => hk.2)),(by (with_reducible repeat (first|apply Kd.R_alloc|apply Kd.R_drewN|apply Kd.R_drew)); exact Kd.R_mono HO356.out (fun _ hk => hk.2)),(by (with_reducible repeat (first|refine blk_drewN ?_ _|refine blk_drew ?_|refine blk_alloc ?_ _)); exact BK349.out),(by (with_reducible repeat (first|refine blk_drewN ?_ _|refine blk_drew ?_|refine blk_alloc ?_ _)); exact BK364.out),GW364.out,GE364.out,NB349_364.out,NB364_349.out,(by repeat (first|(with_reducible first|exact HB.out|apply below_alloc|apply pw_below_drewN|apply below_drew1|refine below_set ?_ GE349.out|refine below_set ?_ GE364.out)|exact HB.out))⟩)
              ·skip
               rintro v355 w24 ⟨hS_,h0_,h1_,h2_,h3_⟩
               have n0_ : Aside0 (Kd.R Kd.string 9 w24 w.heap.size (fun k_ => some k_ ≠ (v355 : Value).ownBlock) (.slice (some ad353) t350.length co21) t350):=⟨h0_⟩
               have n1_ : Aside0 (Kd.R Kd.string 9 w24 w.heap.size (fun k_ => some k_ ≠ (.slice (some ad353) t350.length co21 : Value).ownBlock) v355 t354):=⟨h1_⟩
               have n2_ : Aside0 (w24.heap[gb349]? = some (.cells #[.string (⟨#[]⟩ : ByteArray),.int .i64 0,.int .i64 0,.int .i64 0,.int .i64 0] 27 (0,0))):=⟨h2_⟩
               have n3_ : Aside0 (Below w.heap.size w w24):=⟨h3_⟩
               clear HO352
               clear BK349
               clear HB
               clear h0_ h1_ h2_ h3_
               have HO352:=n0_
               have HO356:=n1_
               have BK349:=n2_
               have HB:=n3_
               clear n0_ n1_ n2_ n3_
               have hHeld : w24.cell? ad353 = some (.string (rdOf ByteArray.empty t350 0)) ∧ w24.cell? ⟨ad353.block,ad353.off + 1,none⟩ = some (.string (rdOf ByteArray.empty t350 1)) ∧ w24.cell? ⟨ad353.block,ad353.off + 3,none⟩ = some (.string (rdOf ByteArray.empty t350 3)):=hS_
               obtain ⟨Ao25,co25,eo25⟩:=Kd.R_slice HO356.out
               (first|subst eo25|(injection eo25 with f1_ f2_ f3_; have f4_:=f1_.symm; have f5_:=f3_.symm; clear f1_ f2_ f3_; subst f4_; subst f5_))
               let v355 : Value:=.slice Ao25 t354.length co25
               refine norm_ (a':=?_) ?_ ?_
               rotate_left
               ·simp only [putAll,Act.put,List.setIfInBounds_toArray,List.set_cons_zero,List.set_cons_succ]
                rfl
               refine two_ (i:=7) (j:=14) (Ni:=some 19) (Nj:=some 5) (bc16 16 3839) (bc16 16 20095) rfl rfl rfl rfl (two_of HT_.out (by kernel_rfl)) (by decide) (by decide) (fun K hK => ?_) (fun K hK => ?_)
               ·skip
                refine goes_ Tryd.func51 (by kernel_rfl) rfl #[.slice Ao25 t354.length co25,.string (rdOf ByteArray.empty t350 1)] (by rfl) rfl rfl (by (try simp only [List.map_toArray,List.map_cons,List.map_nil]); first|done|rfl|(simp only [List.length_drop,List.length_take]; rfl)) ?_
                with_reducible refine (slices_Index_string_string.calls k _ _ t354 (rdOf ByteArray.empty t350 1) t358 _ ?side1 ?side2 A7.out).mono ?_
                (case side1 => repeat (first|exact (Kd.R_reads' HO356.out).2.2|(with_reducible refine Kd.C_alloc ?_ _)|(with_reducible refine Kd.C_drewN ?_ _)|(with_reducible refine Kd.C_drew ?_)))
                (case side2 => exact (Kd.R_reads' HO356.out).2.1)
                rintro e w' ⟨rfl,⟨nd,rfl⟩⟩
                refine ⟨_,rfl,?_⟩
                refine hK.out _ _ ⟨hHeld.1,hHeld.2.1,hHeld.2.2⟩ (fun hHeld => ?_)
                clear hK K
                refine norm_ (a':=?_) ?_ ?_
                rotate_left
                ·show Act.put _ (some 19) _ = _
                 simp only [Act.put,List.setIfInBounds_toArray,List.set_cons_zero,List.set_cons_succ,i64_w,i32_w]
                 rfl
                exact norm_ (by first|(simp only [putAll,Act.put,List.setIfInBounds_toArray,List.set_cons_zero,List.set_cons_succ]; done)|(simp only [putAll,Act.put,List.setIfInBounds_toArray,List.set_cons_zero,List.set_cons_succ]; rfl)) (hJ3_7 (.slice Ao25 t354.length co25) _ ⟨hHeld,(by (with_reducible repeat (first|apply Kd.R_alloc|apply Kd.R_drewN|apply Kd.R_drew)); exact HO352.out),(by (with_reducible repeat (first|apply Kd.R_alloc|apply Kd.R_drewN|apply Kd.R_drew)); exact HO356.out),(by (with_reducible repeat (first|refine blk_drewN ?_ _|refine blk_drew ?_|refine blk_alloc ?_ _)); exact BK349.out),(by repeat (first|(with_reducible first|exact HB.out|apply below_alloc|apply pw_below_drewN|apply below_drew1|refine below_set ?_ GE349.out)|exact HB.out))⟩)
               ·skip
                refine box_step ?hg (N:=5) ?hd (cs:=#[.string (⟨#[]⟩ : ByteArray),.int .i64 0,.int .i64 0,.int .i64 0,.int .i64 0]) (t:=27) ?hr ?_; (case hd => rfl); (case hg => rfl); (case hr => first|(go_simp; done)|(go_simp; rfl))
                intro gb364 hg w25 hbox hb
                have HS0_:=(hb.cell (World.block_lt_of_cell? _ _ (hHeld.1))).trans (hHeld.1)
                have HS1_:=(hb.cell (World.block_lt_of_cell? _ _ (hHeld.2.1))).trans (hHeld.2.1)
                have HS2_:=(hb.cell (World.block_lt_of_cell? _ _ (hHeld.2.2))).trans (hHeld.2.2)
                have n0_:=Aside0.mk (Kd.R_below (by (with_reducible repeat (first|apply Kd.R_alloc|apply Kd.R_drewN|apply Kd.R_drew)); exact HO352.out) hb)
                have n1_:=Aside0.mk (Kd.R_below (by (with_reducible repeat (first|apply Kd.R_alloc|apply Kd.R_drewN|apply Kd.R_drew)); exact HO356.out) hb)
                have n2_:=Aside0.mk (blk_below (g:=gb349) (o:=.cells #[.string (⟨#[]⟩ : ByteArray),.int .i64 0,.int .i64 0,.int .i64 0,.int .i64 0] 27 (0,0)) (by (with_reducible repeat (first|refine blk_drewN ?_ _|refine blk_drew ?_|refine blk_alloc ?_ _)); exact BK349.out) hb)
                have n3_:=Aside0.mk (below_step (by repeat (first|(with_reducible first|exact HB.out|apply below_alloc|apply pw_below_drewN|apply below_drew1|refine below_set ?_ GE349.out)|exact HB.out)) hb)
                have n4_:=Aside0.mk (hbox)
                have n5_:=Aside0.mk ((by rw [hg]; exact (below_size (by repeat (first|(with_reducible first|exact HB.out|apply below_alloc|apply pw_below_drewN|apply below_drew1|refine below_set ?_ GE349.out)|exact HB.out))) : w.heap.size ≤ gb364))
                have n6_:=Aside0.mk ((by rw [hg]; exact (below_size (by repeat (first|(with_reducible first|exact HB.out|apply below_alloc|apply pw_below_drewN|apply below_drew1|refine below_set ?_ GE349.out)|exact HB.out))) : w.heap.size ≤ gb364))
                have n7_:=Aside0.mk ((by rw [hg]; exact Nat.ne_of_lt (blk_lt (g:=gb349) (o:=.cells #[.string (⟨#[]⟩ : ByteArray),.int .i64 0,.int .i64 0,.int .i64 0,.int .i64 0] 27 (0,0)) (by (with_reducible repeat (first|refine blk_drewN ?_ _|refine blk_drew ?_|refine blk_alloc ?_ _)); exact BK349.out)) : gb349 ≠ gb364))
                have n8_:=Aside0.mk ((by rw [hg]; exact Nat.ne_of_gt (blk_lt (g:=gb349) (o:=.cells #[.string (⟨#[]⟩ : ByteArray),.int .i64 0,.int .i64 0,.int .i64 0,.int .i64 0] 27 (0,0)) (by (with_reducible repeat (first|refine blk_drewN ?_ _|refine blk_drew ?_|refine blk_alloc ?_ _)); exact BK349.out)) : gb364 ≠ gb349))
                clear HO352
                clear HO356
                clear BK349
                clear HB
                have HO352:=n0_
                have HO356:=n1_
                have BK349:=n2_
                have HB:=n3_
                have BK364:=n4_
                have GW364:=n5_
                have GE364:=n6_
                have NB349_364:=n7_
                have NB364_349:=n8_
                clear n0_ n1_ n2_ n3_ n4_ n5_ n6_ n7_ n8_
                clear hb hbox hg
                refine hK.out _ _ ⟨HS0_,HS1_,HS2_⟩ (fun hHeld => ?_)
                clear hK K
                refine norm_ (a':=?_) ?_ ?_
                rotate_left
                ·show Act.put _ (some 5) _ = _
                 simp only [Act.put,List.setIfInBounds_toArray,List.set_cons_zero,List.set_cons_succ,i64_w,i32_w]
                 rfl
                exact norm_ (by first|(simp only [putAll,Act.put,List.setIfInBounds_toArray,List.set_cons_zero,List.set_cons_succ]; done)|(simp only [putAll,Act.put,List.setIfInBounds_toArray,List.set_cons_zero,List.set_cons_succ]; rfl)) (hJ3_14 (v355,gb364) _ ⟨hHeld,(by (with_reducible repeat (first|apply Kd.R_alloc|apply Kd.R_drewN|apply Kd.R_drew)); exact HO352.out),(by (with_reducible repeat (first|apply Kd.R_alloc|apply Kd.R_drewN|apply Kd.R_drew)); exact HO356.out),(by (with_reducible repeat (first|refine blk_drewN ?_ _|refine blk_drew ?_|refine blk_alloc ?_ _)); exact BK349.out),(by (with_reducible repeat (first|refine blk_drewN ?_ _|refine blk_drew ?_|refine blk_alloc ?_ _)); exact BK364.out),GW364.out,GE364.out,NB349_364.out,NB364_349.out,(by repeat (first|(with_reducible first|exact HB.out|apply below_alloc|apply pw_below_drewN|apply below_drew1|refine below_set ?_ GE349.out|refine below_set ?_ GE364.out)|exact HB.out))⟩)
             ·skip
              rintro ⟨v355,gb364⟩ w25 ⟨hS_,h0_,h1_,h2_,h3_,h4_,h5_,h6_,h7_,h8_⟩
              have n0_ : Aside0 (Kd.R Kd.string 9 w25 w.heap.size (fun k_ => some k_ ≠ (v355 : Value).ownBlock) (.slice (some ad353) t350.length co21) t350):=⟨h0_⟩
              have n1_ : Aside0 (Kd.R Kd.string 9 w25 w.heap.size (fun k_ => some k_ ≠ (.slice (some ad353) t350.length co21 : Value).ownBlock) v355 t354):=⟨h1_⟩
              have n2_ : Aside0 (w25.heap[gb349]? = some (.cells #[.string (⟨#[]⟩ : ByteArray),.int .i64 0,.int .i64 0,.int .i64 0,.int .i64 0] 27 (0,0))):=⟨h2_⟩
              have n3_ : Aside0 (w25.heap[gb364]? = some (.cells #[.string (⟨#[]⟩ : ByteArray),.int .i64 0,.int .i64 0,.int .i64 0,.int .i64 0] 27 (0,0))):=⟨h3_⟩
              have n4_ : Aside0 (w.heap.size ≤ gb364):=⟨h4_⟩
              have n5_ : Aside0 (w.heap.size ≤ gb364):=⟨h5_⟩
              have n6_ : Aside0 (gb349 ≠ gb364):=⟨h6_⟩
              have n7_ : Aside0 (gb364 ≠ gb349):=⟨h7_⟩
              have n8_ : Aside0 (Below w.heap.size w w25):=⟨h8_⟩
              clear HO352
              clear BK349
              clear HB
              clear h0_ h1_ h2_ h3_ h4_ h5_ h6_ h7_ h8_
              have HO352:=n0_
              have HO356:=n1_
              have BK349:=n2_
              have BK364:=n3_
              have GW364:=n4_
              have GE364:=n5_
              have NB349_364:=n6_
              have NB364_349:=n7_
              have HB:=n8_
              clear n0_ n1_ n2_ n3_ n4_ n5_ n6_ n7_ n8_
              have hHeld : w25.cell? ad353 = some (.string (rdOf ByteArray.empty t350 0)) ∧ w25.cell? ⟨ad353.block,ad353.off + 1,none⟩ = some (.string (rdOf ByteArray.empty t350 1)) ∧ w25.cell? ⟨ad353.block,ad353.off + 3,none⟩ = some (.string (rdOf ByteArray.empty t350 3)):=hS_
              obtain ⟨Ao26,co26,eo26⟩:=Kd.R_slice HO356.out
              (first|subst eo26|(injection eo26 with f1_ f2_ f3_; have f4_:=f1_.symm; have f5_:=f3_.symm; clear f1_ f2_ f3_; subst f4_; subst f5_))
              refine norm_ (a':=?_) ?_ ?_
              rotate_left
              ·simp only [putAll,Act.put,List.setIfInBounds_toArray,List.set_cons_zero,List.set_cons_succ]
               rfl
              refine one_ (i:=7) (N:=some 19) (bc16 16 20223) rfl rfl (one_of HT_.out (by kernel_rfl)) (by decide) (fun K hK => ?_)
              refine goes_ Tryd.func51 (by kernel_rfl) rfl #[.slice Ao26 t354.length co26,.string (rdOf ByteArray.empty t350 1)] (by rfl) rfl rfl (by (try simp only [List.map_toArray,List.map_cons,List.map_nil]); first|done|rfl|(simp only [List.length_drop,List.length_take]; rfl)) ?_
              with_reducible refine (slices_Index_string_string.calls k _ _ t354 (rdOf ByteArray.empty t350 1) t358 _ ?side1 ?side2 A7.out).mono ?_
              (case side1 => repeat (first|exact (Kd.R_reads' HO356.out).2.2|(with_reducible refine Kd.C_alloc ?_ _)|(with_reducible refine Kd.C_drewN ?_ _)|(with_reducible refine Kd.C_drew ?_)))
              (case side2 => exact (Kd.R_reads' HO356.out).2.1)
              rintro e w' ⟨rfl,⟨nd,rfl⟩⟩
              refine ⟨_,rfl,?_⟩
              refine hK.out _ _ ⟨hHeld.1,hHeld.2.1,hHeld.2.2⟩ (fun hHeld => ?_)
              clear hK K
              refine norm_ (a':=?_) ?_ ?_
              rotate_left
              ·show Act.put _ (some 19) _ = _
               simp only [Act.put,List.setIfInBounds_toArray,List.set_cons_zero,List.set_cons_succ,i64_w,i32_w]
               rfl
              exact norm_ (by first|(simp only [putAll,Act.put,List.setIfInBounds_toArray,List.set_cons_zero,List.set_cons_succ]; done)|(simp only [putAll,Act.put,List.setIfInBounds_toArray,List.set_cons_zero,List.set_cons_succ]; rfl)) (hJ3_7_14 (.slice Ao26 t354.length co26,gb364) _ ⟨hHeld,(by (with_reducible repeat (first|apply Kd.R_alloc|apply Kd.R_drewN|apply Kd.R_drew)); exact HO352.out),(by (with_reducible repeat (first|apply Kd.R_alloc|apply Kd.R_drewN|apply Kd.R_drew)); exact HO356.out),(by (with_reducible repeat (first|refine blk_drewN ?_ _|refine blk_drew ?_|refine blk_alloc ?_ _)); exact BK349.out),(by (with_reducible repeat (first|refine blk_drewN ?_ _|refine blk_drew ?_|refine blk_alloc ?_ _)); exact BK364.out),GW364.out,GE364.out,NB349_364.out,NB364_349.out,(by repeat (first|(with_reducible first|exact HB.out|apply below_alloc|apply pw_below_drewN|apply below_drew1|refine below_set ?_ GE349.out|refine below_set ?_ GE364.out)|exact HB.out))⟩)
            ·skip
             rintro v355 w25 ⟨hS_,h0_,h1_,h2_,h3_⟩
             have n0_ : Aside0 (Kd.R Kd.string 9 w25 w.heap.size (fun k_ => some k_ ≠ (v355 : Value).ownBlock) (.slice (some ad353) t350.length co21) t350):=⟨h0_⟩
             have n1_ : Aside0 (Kd.R Kd.string 9 w25 w.heap.size (fun k_ => some k_ ≠ (.slice (some ad353) t350.length co21 : Value).ownBlock) v355 t354):=⟨h1_⟩
             have n2_ : Aside0 (w25.heap[gb349]? = some (.cells #[.string (⟨#[]⟩ : ByteArray),.int .i64 0,.int .i64 0,.int .i64 0,.int .i64 0] 27 (0,0))):=⟨h2_⟩
             have n3_ : Aside0 (Below w.heap.size w w25):=⟨h3_⟩
             clear HO352
             clear BK349
             clear HB
             clear h0_ h1_ h2_ h3_
             have HO352:=n0_
             have HO356:=n1_
             have BK349:=n2_
             have HB:=n3_
             clear n0_ n1_ n2_ n3_
             have hHeld : w25.cell? ad353 = some (.string (rdOf ByteArray.empty t350 0)) ∧ w25.cell? ⟨ad353.block,ad353.off + 1,none⟩ = some (.string (rdOf ByteArray.empty t350 1)) ∧ w25.cell? ⟨ad353.block,ad353.off + 3,none⟩ = some (.string (rdOf ByteArray.empty t350 3)):=hS_
             refine norm_ (a':=?_) ?_ ?_
             rotate_left
             ·simp only [putAll,Act.put,List.setIfInBounds_toArray,List.set_cons_zero,List.set_cons_succ]
              rfl
             refine two_ (i:=8) (j:=14) (Ni:=some 20) (Nj:=some 5) (bc16 16 4095) (bc16 16 20223) rfl rfl rfl rfl (two_of HT_.out (by kernel_rfl)) (by decide) (by decide) (fun K hK => ?_) (fun K hK => ?_)
             ·skip
              refine goes_ Tryd.func53 (by kernel_rfl) rfl #[] (by rfl) rfl rfl (by (try simp only [List.map_toArray,List.map_cons,List.map_nil]); first|done|rfl|(simp only [List.length_drop,List.length_take]; rfl)) ?_
              with_reducible refine (impl_cargoWords.calls  t359 _ A8.out).mono ?_
              rintro e w26 ⟨v360,rfl,ho0,hb⟩
              have HS0_:=(hb.cell (World.block_lt_of_cell? _ _ (hHeld.1))).trans (hHeld.1)
              have HS1_:=(hb.cell (World.block_lt_of_cell? _ _ (hHeld.2.1))).trans (hHeld.2.1)
              have HS2_:=(hb.cell (World.block_lt_of_cell? _ _ (hHeld.2.2))).trans (hHeld.2.2)
              refine ⟨_,rfl,?_⟩
              have n0_:=Aside0.mk (Kd.R_elder' (by (with_reducible repeat (first|apply Kd.R_alloc|apply Kd.R_drewN|apply Kd.R_drew)); exact HO352.out) (Kd.R_base ho0) hb)
              have n1_:=Aside0.mk (Kd.R_elder' (by (with_reducible repeat (first|apply Kd.R_alloc|apply Kd.R_drewN|apply Kd.R_drew)); exact HO356.out) (Kd.R_base ho0) hb)
              have n2_:=Aside0.mk (Kd.R_lower (Kd.R_new' (Kd.R_new' ho0 (Kd.R_lt (by (with_reducible repeat (first|apply Kd.R_alloc|apply Kd.R_drewN|apply Kd.R_drew)); exact HO352.out))) (Kd.R_lt (by (with_reducible repeat (first|apply Kd.R_alloc|apply Kd.R_drewN|apply Kd.R_drew)); exact HO356.out))) (below_size (by repeat (first|(with_reducible first|exact HB.out|apply below_alloc|apply pw_below_drewN|apply below_drew1|refine below_set ?_ GE349.out)|exact HB.out))))
              have n3_:=Aside0.mk (blk_below (g:=gb349) (o:=.cells #[.string (⟨#[]⟩ : ByteArray),.int .i64 0,.int .i64 0,.int .i64 0,.int .i64 0] 27 (0,0)) (by (with_reducible repeat (first|refine blk_drewN ?_ _|refine blk_drew ?_|refine blk_alloc ?_ _)); exact BK349.out) hb)
              have n4_:=Aside0.mk (below_step (by repeat (first|(with_reducible first|exact HB.out|apply below_alloc|apply pw_below_drewN|apply below_drew1|refine below_set ?_ GE349.out)|exact HB.out)) hb)
              clear HO352
              clear HO356
              clear BK349
              clear HB
              have HO352:=n0_
              have HO356:=n1_
              have HO361:=n2_
              have BK349:=n3_
              have HB:=n4_
              clear n0_ n1_ n2_ n3_ n4_
              (try clear hb)
              (try clear hb2)
              (try clear hk)
              (try clear hi)
              (try clear ho0)
              refine hK.out _ _ ⟨HS0_,HS1_,HS2_⟩ (fun hHeld => ?_)
              clear hK K
              refine norm_ (a':=?_) ?_ ?_
              rotate_left
              ·show Act.put _ (some 20) _ = _
               simp only [Act.put,List.setIfInBounds_toArray,List.set_cons_zero,List.set_cons_succ,i64_w,i32_w]
               rfl
              exact norm_ (by first|(simp only [putAll,Act.put,List.setIfInBounds_toArray,List.set_cons_zero,List.set_cons_succ]; done)|(simp only [putAll,Act.put,List.setIfInBounds_toArray,List.set_cons_zero,List.set_cons_succ]; rfl)) (hJ3_7_8 (v355,v360) _ ⟨hHeld,(by (with_reducible repeat (first|apply Kd.R_alloc|apply Kd.R_drewN|apply Kd.R_drew)); exact HO352.out),(by (with_reducible repeat (first|apply Kd.R_alloc|apply Kd.R_drewN|apply Kd.R_drew)); exact HO356.out),(by (with_reducible repeat (first|apply Kd.R_alloc|apply Kd.R_drewN|apply Kd.R_drew)); exact Kd.R_mono HO361.out (fun _ hk => ⟨hk.1.2,hk.2⟩)),(by (with_reducible repeat (first|refine blk_drewN ?_ _|refine blk_drew ?_|refine blk_alloc ?_ _)); exact BK349.out),(by repeat (first|(with_reducible first|exact HB.out|apply below_alloc|apply pw_below_drewN|apply below_drew1|refine below_set ?_ GE349.out)|exact HB.out))⟩)
             ·skip
              refine box_step ?hg (N:=5) ?hd (cs:=#[.string (⟨#[]⟩ : ByteArray),.int .i64 0,.int .i64 0,.int .i64 0,.int .i64 0]) (t:=27) ?hr ?_; (case hd => rfl); (case hg => rfl); (case hr => first|(go_simp; done)|(go_simp; rfl))
              intro gb364 hg w26 hbox hb
              have HS0_:=(hb.cell (World.block_lt_of_cell? _ _ (hHeld.1))).trans (hHeld.1)
              have HS1_:=(hb.cell (World.block_lt_of_cell? _ _ (hHeld.2.1))).trans (hHeld.2.1)
              have HS2_:=(hb.cell (World.block_lt_of_cell? _ _ (hHeld.2.2))).trans (hHeld.2.2)
              have n0_:=Aside0.mk (Kd.R_below (by (with_reducible repeat (first|apply Kd.R_alloc|apply Kd.R_drewN|apply Kd.R_drew)); exact HO352.out) hb)
              have n1_:=Aside0.mk (Kd.R_below (by (with_reducible repeat (first|apply Kd.R_alloc|apply Kd.R_drewN|apply Kd.R_drew)); exact HO356.out) hb)
              have n2_:=Aside0.mk (blk_below (g:=gb349) (o:=.cells #[.string (⟨#[]⟩ : ByteArray),.int .i64 0,.int .i64 0,.int .i64 0,.int .i64 0] 27 (0,0)) (by (with_reducible repeat (first|refine blk_drewN ?_ _|refine blk_drew ?_|refine blk_alloc ?_ _)); exact BK349.out) hb)
              have n3_:=Aside0.mk (below_step (by repeat (first|(with_reducible first|exact HB.out|apply below_alloc|apply pw_below_drewN|apply below_drew1|refine below_set ?_ GE349.out)|exact HB.out)) hb)
              have n4_:=Aside0.mk (hbox)
              have n5_:=Aside0.mk ((by rw [hg]; exact (below_size (by repeat (first|(with_reducible first|exact HB.out|apply below_alloc|apply pw_below_drewN|apply below_drew1|refine below_set ?_ GE349.out)|exact HB.out))) : w.heap.size ≤ gb364))
              have n6_:=Aside0.mk ((by rw [hg]; exact (below_size (by repeat (first|(with_reducible first|exact HB.out|apply below_alloc|apply pw_below_drewN|apply below_drew1|refine below_set ?_ GE349.out)|exact HB.out))) : w.heap.size ≤ gb364))
              have n7_:=Aside0.mk ((by rw [hg]; exact Nat.ne_of_lt (blk_lt (g:=gb349) (o:=.cells #[.string (⟨#[]⟩ : ByteArray),.int .i64 0,.int .i64 0,.int .i64 0,.int .i64 0] 27 (0,0)) (by (with_reducible repeat (first|refine blk_drewN ?_ _|refine blk_drew ?_|refine blk_alloc ?_ _)); exact BK349.out)) : gb349 ≠ gb364))
              have n8_:=Aside0.mk ((by rw [hg]; exact Nat.ne_of_gt (blk_lt (g:=gb349) (o:=.cells #[.string (⟨#[]⟩ : ByteArray),.int .i64 0,.int .i64 0,.int .i64 0,.int .i64 0] 27 (0,0)) (by (with_reducible repeat (first|refine blk_drewN ?_ _|refine blk_drew ?_|refine blk_alloc ?_ _)); exact BK349.out)) : gb364 ≠ gb349))
              clear HO352
              clear HO356
              clear BK349
              clear HB
              have HO352:=n0_
              have HO356:=n1_
              have BK349:=n2_
              have HB:=n3_
              have BK364:=n4_
              have GW364:=n5_
              have GE364:=n6_
              have NB349_364:=n7_
              have NB364_349:=n8_
              clear n0_ n1_ n2_ n3_ n4_ n5_ n6_ n7_ n8_
              clear hb hbox hg
              refine hK.out _ _ ⟨HS0_,HS1_,HS2_⟩ (fun hHeld => ?_)
              clear hK K
              refine norm_ (a':=?_) ?_ ?_
              rotate_left
              ·show Act.put _ (some 5) _ = _
               simp only [Act.put,List.setIfInBounds_toArray,List.set_cons_zero,List.set_cons_succ,i64_w,i32_w]
               rfl
              exact norm_ (by first|(simp only [putAll,Act.put,List.setIfInBounds_toArray,List.set_cons_zero,List.set_cons_succ]; done)|(simp only [putAll,Act.put,List.setIfInBounds_toArray,List.set_cons_zero,List.set_cons_succ]; rfl)) (hJ3_7_14 (v355,gb364) _ ⟨hHeld,(by (with_reducible repeat (first|apply Kd.R_alloc|apply Kd.R_drewN|apply Kd.R_drew)); exact HO352.out),(by (with_reducible repeat (first|apply Kd.R_alloc|apply Kd.R_drewN|apply Kd.R_drew)); exact HO356.out),(by (with_reducible repeat (first|refine blk_drewN ?_ _|refine blk_drew ?_|refine blk_alloc ?_ _)); exact BK349.out),(by (with_reducible repeat (first|refine blk_drewN ?_ _|refine blk_drew ?_|refine blk_alloc ?_ _)); exact BK364.out),GW364.out,GE364.out,NB349_364.out,NB364_349.out,(by repeat (first|(with_reducible first|exact HB.out|apply below_alloc|apply pw_below_drewN|apply below_drew1|refine below_set ?_ GE349.out|refine below_set ?_ GE364.out)|exact HB.out))⟩)
           ·skip
            rintro ⟨v355,gb364⟩ w26 ⟨hS_,h0_,h1_,h2_,h3_,h4_,h5_,h6_,h7_,h8_⟩
            have n0_ : Aside0 (Kd.R Kd.string 9 w26 w.heap.size (fun k_ => some k_ ≠ (v355 : Value).ownBlock) (.slice (some ad353) t350.length co21) t350):=⟨h0_⟩
            have n1_ : Aside0 (Kd.R Kd.string 9 w26 w.heap.size (fun k_ => some k_ ≠ (.slice (some ad353) t350.length co21 : Value).ownBlock) v355 t354):=⟨h1_⟩
            have n2_ : Aside0 (w26.heap[gb349]? = some (.cells #[.string (⟨#[]⟩ : ByteArray),.int .i64 0,.int .i64 0,.int .i64 0,.int .i64 0] 27 (0,0))):=⟨h2_⟩
            have n3_ : Aside0 (w26.heap[gb364]? = some (.cells #[.string (⟨#[]⟩ : ByteArray),.int .i64 0,.int .i64 0,.int .i64 0,.int .i64 0] 27 (0,0))):=⟨h3_⟩
            have n4_ : Aside0 (w.heap.size ≤ gb364):=⟨h4_⟩
            have n5_ : Aside0 (w.heap.size ≤ gb364):=⟨h5_⟩
            have n6_ : Aside0 (gb349 ≠ gb364):=⟨h6_⟩
            have n7_ : Aside0 (gb364 ≠ gb349):=⟨h7_⟩
            have n8_ : Aside0 (Below w.heap.size w w26):=⟨h8_⟩
            clear HO352
            clear BK349
            clear HB
            clear h0_ h1_ h2_ h3_ h4_ h5_ h6_ h7_ h8_
            have HO352:=n0_
            have HO356:=n1_
            have BK349:=n2_
            have BK364:=n3_
            have GW364:=n4_
            have GE364:=n5_
            have NB349_364:=n6_
            have NB364_349:=n7_
            have HB:=n8_
            clear n0_ n1_ n2_ n3_ n4_ n5_ n6_ n7_ n8_
            have hHeld : w26.cell? ad353 = some (.string (rdOf ByteArray.empty t350 0)) ∧ w26.cell? ⟨ad353.block,ad353.off + 1,none⟩ = some (.string (rdOf ByteArray.empty t350 1)) ∧ w26.cell? ⟨ad353.block,ad353.off + 3,none⟩ = some (.string (rdOf ByteArray.empty t350 3)):=hS_
            refine norm_ (a':=?_) ?_ ?_
            rotate_left
            ·simp only [putAll,Act.put,List.setIfInBounds_toArray,List.set_cons_zero,List.set_cons_succ]
             rfl
            refine one_ (i:=8) (N:=some 20) (bc16 16 20479) rfl rfl (one_of HT_.out (by kernel_rfl)) (by decide) (fun K hK => ?_)
            refine goes_ Tryd.func53 (by kernel_rfl) rfl #[] (by rfl) rfl rfl (by (try simp only [List.map_toArray,List.map_cons,List.map_nil]); first|done|rfl|(simp only [List.length_drop,List.length_take]; rfl)) ?_
            with_reducible refine (impl_cargoWords.calls  t359 _ A8.out).mono ?_
            rintro e w27 ⟨v360,rfl,ho0,hb⟩
            have HS0_:=(hb.cell (World.block_lt_of_cell? _ _ (hHeld.1))).trans (hHeld.1)
            have HS1_:=(hb.cell (World.block_lt_of_cell? _ _ (hHeld.2.1))).trans (hHeld.2.1)
            have HS2_:=(hb.cell (World.block_lt_of_cell? _ _ (hHeld.2.2))).trans (hHeld.2.2)
            refine ⟨_,rfl,?_⟩
            have n0_:=Aside0.mk (Kd.R_elder' (by (with_reducible repeat (first|apply Kd.R_alloc|apply Kd.R_drewN|apply Kd.R_drew)); exact HO352.out) (Kd.R_base ho0) hb)
            have n1_:=Aside0.mk (Kd.R_elder' (by (with_reducible repeat (first|apply Kd.R_alloc|apply Kd.R_drewN|apply Kd.R_drew)); exact HO356.out) (Kd.R_base ho0) hb)
            have n2_:=Aside0.mk (Kd.R_lower (Kd.R_new' (Kd.R_new' ho0 (Kd.R_lt (by (with_reducible repeat (first|apply Kd.R_alloc|apply Kd.R_drewN|apply Kd.R_drew)); exact HO352.out))) (Kd.R_lt (by (with_reducible repeat (first|apply Kd.R_alloc|apply Kd.R_drewN|apply Kd.R_drew)); exact HO356.out))) (below_size (by repeat (first|(with_reducible first|exact HB.out|apply below_alloc|apply pw_below_drewN|apply below_drew1|refine below_set ?_ GE349.out|refine below_set ?_ GE364.out)|exact HB.out))))
            have n3_:=Aside0.mk (blk_below (g:=gb349) (o:=.cells #[.string (⟨#[]⟩ : ByteArray),.int .i64 0,.int .i64 0,.int .i64 0,.int .i64 0] 27 (0,0)) (by (with_reducible repeat (first|refine blk_drewN ?_ _|refine blk_drew ?_|refine blk_alloc ?_ _)); exact BK349.out) hb)
            have n4_:=Aside0.mk (blk_below (g:=gb364) (o:=.cells #[.string (⟨#[]⟩ : ByteArray),.int .i64 0,.int .i64 0,.int .i64 0,.int .i64 0] 27 (0,0)) (by (with_reducible repeat (first|refine blk_drewN ?_ _|refine blk_drew ?_|refine blk_alloc ?_ _)); exact BK364.out) hb)
            have n5_:=Aside0.mk (below_step (by repeat (first|(with_reducible first|exact HB.out|apply below_alloc|apply pw_below_drewN|apply below_drew1|refine below_set ?_ GE349.out|refine below_set ?_ GE364.out)|exact HB.out)) hb)
            clear HO352
            clear HO356
            clear BK349
            clear BK364
            clear HB
            have HO352:=n0_
            have HO356:=n1_
            have HO361:=n2_
            have BK349:=n3_
            have BK364:=n4_
            have HB:=n5_
            clear n0_ n1_ n2_ n3_ n4_ n5_
            (try clear hb)
            (try clear hb2)
            (try clear hk)
            (try clear hi)
            (try clear ho0)
            refine hK.out _ _ ⟨HS0_,HS1_,HS2_⟩ (fun hHeld => ?_)
            clear hK K
            refine norm_ (a':=?_) ?_ ?_
            rotate_left
            ·show Act.put _ (some 20) _ = _
             simp only [Act.put,List.setIfInBounds_toArray,List.set_cons_zero,List.set_cons_succ,i64_w,i32_w]
             rfl
            exact norm_ (by first|(simp only [putAll,Act.put,List.setIfInBounds_toArray,List.set_cons_zero,List.set_cons_succ]; done)|(simp only [putAll,Act.put,List.setIfInBounds_toArray,List.set_cons_zero,List.set_cons_succ]; rfl)) (hJ3_7_8_14 (v355,v360,gb364) _ ⟨hHeld,(by (with_reducible repeat (first|apply Kd.R_alloc|apply Kd.R_drewN|apply Kd.R_drew)); exact HO352.out),(by (with_reducible repeat (first|apply Kd.R_alloc|apply Kd.R_drewN|apply Kd.R_drew)); exact HO356.out),(by (with_reducible repeat (first|apply Kd.R_alloc|apply Kd.R_drewN|apply Kd.R_drew)); exact Kd.R_mono HO361.out (fun _ hk => ⟨hk.1.2,hk.2⟩)),(by (with_reducible repeat (first|refine blk_drewN ?_ _|refine blk_drew ?_|refine blk_alloc ?_ _)); exact BK349.out),(by (with_reducible repeat (first|refine blk_drewN ?_ _|refine blk_drew ?_|refine blk_alloc ?_ _)); exact BK364.out),GW364.out,GE364.out,NB349_364.out,NB364_349.out,(by repeat (first|(with_reducible first|exact HB.out|apply below_alloc|apply pw_below_drewN|apply below_drew1|refine below_set ?_ GE349.out|refine below_set ?_ GE364.out)|exact HB.out))⟩)
          ·skip
           rintro ⟨v355,v360⟩ w26 ⟨hS_,h0_,h1_,h2_,h3_,h4_⟩
           have n0_ : Aside0 (Kd.R Kd.string 9 w26 w.heap.size (fun k_ => some k_ ≠ (v355 : Value).ownBlock ∧ some k_ ≠ (v360 : Value).ownBlock) (.slice (some ad353) t350.length co21) t350):=⟨h0_⟩
           have n1_ : Aside0 (Kd.R Kd.string 9 w26 w.heap.size (fun k_ => some k_ ≠ (.slice (some ad353) t350.length co21 : Value).ownBlock ∧ some k_ ≠ (v360 : Value).ownBlock) v355 t354):=⟨h1_⟩
           have n2_ : Aside0 (Kd.R Kd.string 9 w26 w.heap.size (fun k_ => some k_ ≠ (.slice (some ad353) t350.length co21 : Value).ownBlock ∧ some k_ ≠ (v355 : Value).ownBlock) v360 t359):=⟨h2_⟩
           have n3_ : Aside0 (w26.heap[gb349]? = some (.cells #[.string (⟨#[]⟩ : ByteArray),.int .i64 0,.int .i64 0,.int .i64 0,.int .i64 0] 27 (0,0))):=⟨h3_⟩
           have n4_ : Aside0 (Below w.heap.size w w26):=⟨h4_⟩
           clear HO352
           clear BK349
           clear HB
           clear h0_ h1_ h2_ h3_ h4_
           have HO352:=n0_
           have HO356:=n1_
           have HO361:=n2_
           have BK349:=n3_
           have HB:=n4_
           clear n0_ n1_ n2_ n3_ n4_
           have hHeld : w26.cell? ad353 = some (.string (rdOf ByteArray.empty t350 0)) ∧ w26.cell? ⟨ad353.block,ad353.off + 1,none⟩ = some (.string (rdOf ByteArray.empty t350 1)) ∧ w26.cell? ⟨ad353.block,ad353.off + 3,none⟩ = some (.string (rdOf ByteArray.empty t350 3)):=hS_
           obtain ⟨Ao27,co27,eo27⟩:=Kd.R_slice HO361.out
           (first|subst eo27|(injection eo27 with f1_ f2_ f3_; have f4_:=f1_.symm; have f5_:=f3_.symm; clear f1_ f2_ f3_; subst f4_; subst f5_))
           let v360 : Value:=.slice Ao27 t359.length co27
           refine norm_ (a':=?_) ?_ ?_
           rotate_left
           ·simp only [putAll,Act.put,List.setIfInBounds_toArray,List.set_cons_zero,List.set_cons_succ]
            rfl
           refine two_ (i:=12) (j:=14) (Ni:=some 24) (Nj:=some 5) (bc16 16 8191) (bc16 16 20479) rfl rfl rfl rfl (two_of HT_.out (by kernel_rfl)) (by decide) (by decide) (fun K hK => ?_) (fun K hK => ?_)
           ·skip
            refine goes_ Tryd.func51 (by kernel_rfl) rfl #[.slice Ao27 t359.length co27,.string (rdOf ByteArray.empty t350 3)] (by rfl) rfl rfl (by (try simp only [List.map_toArray,List.map_cons,List.map_nil]); first|done|rfl|(simp only [List.length_drop,List.length_take]; rfl)) ?_
            with_reducible refine (slices_Index_string_string.calls k _ _ t359 (rdOf ByteArray.empty t350 3) t363 _ ?side1 ?side2 A10.out).mono ?_
            (case side1 => repeat (first|exact (Kd.R_reads' HO361.out).2.2|(with_reducible refine Kd.C_alloc ?_ _)|(with_reducible refine Kd.C_drewN ?_ _)|(with_reducible refine Kd.C_drew ?_)))
            (case side2 => exact (Kd.R_reads' HO361.out).2.1)
            rintro e w' ⟨rfl,⟨nd,rfl⟩⟩
            refine ⟨_,rfl,?_⟩
            refine hK.out _ _ ⟨hHeld.1,hHeld.2.1,hHeld.2.2⟩ (fun hHeld => ?_)
            clear hK K
            refine norm_ (a':=?_) ?_ ?_
            rotate_left
            ·show Act.put _ (some 24) _ = _
             simp only [Act.put,List.setIfInBounds_toArray,List.set_cons_zero,List.set_cons_succ,i64_w,i32_w]
             rfl
            refine pure_ (i:=13) (N:=some 25) (v:=?_) (a':=?_) (bc16 16 16383) rfl rfl (any_of HT_.out (by kernel_rfl)) (fun _ _ _ h => h) (Or.inl ⟨by rfl,?_⟩) ?_ ?_
            rotate_left
            ·intro w'
             go_simp
             with_reducible rfl
            rotate_left
            ·simp only [Act.put,List.setIfInBounds_toArray,List.set_cons_zero,List.set_cons_succ,i64_w,i32_w]
             rfl
            exact norm_ (by first|(simp only [putAll,Act.put,List.setIfInBounds_toArray,List.set_cons_zero,List.set_cons_succ]; done)|(simp only [putAll,Act.put,List.setIfInBounds_toArray,List.set_cons_zero,List.set_cons_succ]; rfl)) (hJ3_7_8_12 (v355,.slice Ao27 t359.length co27) _ ⟨hHeld,(by (with_reducible repeat (first|apply Kd.R_alloc|apply Kd.R_drewN|apply Kd.R_drew)); exact HO352.out),(by (with_reducible repeat (first|apply Kd.R_alloc|apply Kd.R_drewN|apply Kd.R_drew)); exact HO356.out),(by (with_reducible repeat (first|apply Kd.R_alloc|apply Kd.R_drewN|apply Kd.R_drew)); exact HO361.out),(by (with_reducible repeat (first|refine blk_drewN ?_ _|refine blk_drew ?_|refine blk_alloc ?_ _)); exact BK349.out),(by repeat (first|(with_reducible first|exact HB.out|apply below_alloc|apply pw_below_drewN|apply below_drew1|refine below_set ?_ GE349.out)|exact HB.out))⟩)
           ·skip
            refine box_step ?hg (N:=5) ?hd (cs:=#[.string (⟨#[]⟩ : ByteArray),.int .i64 0,.int .i64 0,.int .i64 0,.int .i64 0]) (t:=27) ?hr ?_; (case hd => rfl); (case hg => rfl); (case hr => first|(go_simp; done)|(go_simp; rfl))
            intro gb364 hg w27 hbox hb
            have HS0_:=(hb.cell (World.block_lt_of_cell? _ _ (hHeld.1))).trans (hHeld.1)
            have HS1_:=(hb.cell (World.block_lt_of_cell? _ _ (hHeld.2.1))).trans (hHeld.2.1)
            have HS2_:=(hb.cell (World.block_lt_of_cell? _ _ (hHeld.2.2))).trans (hHeld.2.2)
            have n0_:=Aside0.mk (Kd.R_below (by (with_reducible repeat (first|apply Kd.R_alloc|apply Kd.R_drewN|apply Kd.R_drew)); exact HO352.out) hb)
            have n1_:=Aside0.mk (Kd.R_below (by (with_reducible repeat (first|apply Kd.R_alloc|apply Kd.R_drewN|apply Kd.R_drew)); exact HO356.out) hb)
            have n2_:=Aside0.mk (Kd.R_below (by (with_reducible repeat (first|apply Kd.R_alloc|apply Kd.R_drewN|apply Kd.R_drew)); exact HO361.out) hb)
            have n3_:=Aside0.mk (blk_below (g:=gb349) (o:=.cells #[.string (⟨#[]⟩ : ByteArray),.int .i64 0,.int .i64 0,.int .i64 0,.int .i64 0] 27 (0,0)) (by (with_reducible repeat (first|refine blk_drewN ?_ _|refine blk_drew ?_|refine blk_alloc ?_ _)); exact BK349.out) hb)
            have n4_:=Aside0.mk (below_step (by repeat (first|(with_reducible first|exact HB.out|apply below_alloc|apply pw_below_drewN|apply below_drew1|refine below_set ?_ GE349.out)|exact HB.out)) hb)
            have n5_:=Aside0.mk (hbox)
            have n6_:=Aside0.mk ((by rw [hg]; exact (below_size (by repeat (first|(with_reducible first|exact HB.out|apply below_alloc|apply pw_below_drewN|apply below_drew1|refine below_set ?_ GE349.out)|exact HB.out))) : w.heap.size ≤ gb364))
            have n7_:=Aside0.mk ((by rw [hg]; exact (below_size (by repeat (first|(with_reducible first|exact HB.out|apply below_alloc|apply pw_below_drewN|apply below_drew1|refine below_set ?_ GE349.out)|exact HB.out))) : w.heap.size ≤ gb364))
            have n8_:=Aside0.mk ((by rw [hg]; exact Nat.ne_of_lt (blk_lt (g:=gb349) (o:=.cells #[.string (⟨#[]⟩ : ByteArray),.int .i64 0,.int .i64 0,.int .i64 0,.int .i64 0] 27 (0,0)) (by (with_reducible repeat (first|refine blk_drewN ?_ _|refine blk_drew ?_|refine blk_alloc ?_ _)); exact BK349.out)) : gb349 ≠ gb364))
            have n9_:=Aside0.mk ((by rw [hg]; exact Nat.ne_of_gt (blk_lt (g:=gb349) (o:=.cells #[.string (⟨#[]⟩ : ByteArray),.int .i64 0,.int .i64 0,.int .i64 0,.int .i64 0] 27 (0,0)) (by (with_reducible repeat (first|refine blk_drewN ?_ _|refine blk_drew ?_|refine blk_alloc ?_ _)); exact BK349.out)) : gb364 ≠ gb349))
            clear HO352
            clear HO356
            clear HO361
            clear BK349
            clear HB
            have HO352:=n0_
            have HO356:=n1_
            have HO361:=n2_
            have BK349:=n3_
            have HB:=n4_
            have BK364:=n5_
            have GW364:=n6_
            have GE364:=n7_
            have NB349_364:=n8_
            have NB364_349:=n9_
            clear n0_ n1_ n2_ n3_ n4_ n5_ n6_ n7_ n8_ n9_
            clear hb hbox hg
            refine hK.out _ _ ⟨HS0_,HS1_,HS2_⟩ (fun hHeld => ?_)
            clear hK K
            refine norm_ (a':=?_) ?_ ?_
            rotate_left
            ·show Act.put _ (some 5) _ = _
             simp only [Act.put,List.setIfInBounds_toArray,List.set_cons_zero,List.set_cons_succ,i64_w,i32_w]
             rfl
            exact norm_ (by first|(simp only [putAll,Act.put,List.setIfInBounds_toArray,List.set_cons_zero,List.set_cons_succ]; done)|(simp only [putAll,Act.put,List.setIfInBounds_toArray,List.set_cons_zero,List.set_cons_succ]; rfl)) (hJ3_7_8_14 (v355,v360,gb364) _ ⟨hHeld,(by (with_reducible repeat (first|apply Kd.R_alloc|apply Kd.R_drewN|apply Kd.R_drew)); exact HO352.out),(by (with_reducible repeat (first|apply Kd.R_alloc|apply Kd.R_drewN|apply Kd.R_drew)); exact HO356.out),(by (with_reducible repeat (first|apply Kd.R_alloc|apply Kd.R_drewN|apply Kd.R_drew)); exact HO361.out),(by (with_reducible repeat (first|refine blk_drewN ?_ _|refine blk_drew ?_|refine blk_alloc ?_ _)); exact BK349.out),(by (with_reducible repeat (first|refine blk_drewN ?_ _|refine blk_drew ?_|refine blk_alloc ?_ _)); exact BK364.out),GW364.out,GE364.out,NB349_364.out,NB364_349.out,(by repeat (first|(with_reducible first|exact HB.out|apply below_alloc|apply pw_below_drewN|apply below_drew1|refine below_set ?_ GE349.out|refine below_set ?_ GE364.out)|exact HB.out))⟩)
         ·skip
          rintro ⟨v355,v360,gb364⟩ w27 ⟨hS_,h0_,h1_,h2_,h3_,h4_,h5_,h6_,h7_,h8_,h9_⟩
          have n0_ : Aside0 (Kd.R Kd.string 9 w27 w.heap.size (fun k_ => some k_ ≠ (v355 : Value).ownBlock ∧ some k_ ≠ (v360 : Value).ownBlock) (.slice (some ad353) t350.length co21) t350):=⟨h0_⟩
          have n1_ : Aside0 (Kd.R Kd.string 9 w27 w.heap.size (fun k_ => some k_ ≠ (.slice (some ad353) t350.length co21 : Value).ownBlock ∧ some k_ ≠ (v360 : Value).ownBlock) v355 t354):=⟨h1_⟩
          have n2_ : Aside0 (Kd.R Kd.string 9 w27 w.heap.size (fun k_ => some k_ ≠ (.slice (some ad353) t350.length co21 : Value).ownBlock ∧ some k_ ≠ (v355 : Value).ownBlock) v360 t359):=⟨h2_⟩
          have n3_ : Aside0 (w27.heap[gb349]? = some (.cells #[.string (⟨#[]⟩ : ByteArray),.int .i64 0,.int .i64 0,.int .i64 0,.int .i64 0] 27 (0,0))):=⟨h3_⟩
          have n4_ : Aside0 (w27.heap[gb364]? = some (.cells #[.string (⟨#[]⟩ : ByteArray),.int .i64 0,.int .i64 0,.int .i64 0,.int .i64 0] 27 (0,0))):=⟨h4_⟩
          have n5_ : Aside0 (w.heap.size ≤ gb364):=⟨h5_⟩
          have n6_ : Aside0 (w.heap.size ≤ gb364):=⟨h6_⟩
          have n7_ : Aside0 (gb349 ≠ gb364):=⟨h7_⟩
          have n8_ : Aside0 (gb364 ≠ gb349):=⟨h8_⟩
          have n9_ : Aside0 (Below w.heap.size w w27):=⟨h9_⟩
          clear HO352
          clear BK349
          clear HB
          clear h0_ h1_ h2_ h3_ h4_ h5_ h6_ h7_ h8_ h9_
          have HO352:=n0_
          have HO356:=n1_
          have HO361:=n2_
          have BK349:=n3_
          have BK364:=n4_
          have GW364:=n5_
          have GE364:=n6_
          have NB349_364:=n7_
          have NB364_349:=n8_
          have HB:=n9_
          clear n0_ n1_ n2_ n3_ n4_ n5_ n6_ n7_ n8_ n9_
          have hHeld : w27.cell? ad353 = some (.string (rdOf ByteArray.empty t350 0)) ∧ w27.cell? ⟨ad353.block,ad353.off + 1,none⟩ = some (.string (rdOf ByteArray.empty t350 1)) ∧ w27.cell? ⟨ad353.block,ad353.off + 3,none⟩ = some (.string (rdOf ByteArray.empty t350 3)):=hS_
          obtain ⟨Ao28,co28,eo28⟩:=Kd.R_slice HO361.out
          (first|subst eo28|(injection eo28 with f1_ f2_ f3_; have f4_:=f1_.symm; have f5_:=f3_.symm; clear f1_ f2_ f3_; subst f4_; subst f5_))
          refine norm_ (a':=?_) ?_ ?_
          rotate_left
          ·simp only [putAll,Act.put,List.setIfInBounds_toArray,List.set_cons_zero,List.set_cons_succ]
           rfl
          refine one_ (i:=12) (N:=some 24) (bc16 16 24575) rfl rfl (one_of HT_.out (by kernel_rfl)) (by decide) (fun K hK => ?_)
          refine goes_ Tryd.func51 (by kernel_rfl) rfl #[.slice Ao28 t359.length co28,.string (rdOf ByteArray.empty t350 3)] (by rfl) rfl rfl (by (try simp only [List.map_toArray,List.map_cons,List.map_nil]); first|done|rfl|(simp only [List.length_drop,List.length_take]; rfl)) ?_
          with_reducible refine (slices_Index_string_string.calls k _ _ t359 (rdOf ByteArray.empty t350 3) t363 _ ?side1 ?side2 A10.out).mono ?_
          (case side1 => repeat (first|exact (Kd.R_reads' HO361.out).2.2|(with_reducible refine Kd.C_alloc ?_ _)|(with_reducible refine Kd.C_drewN ?_ _)|(with_reducible refine Kd.C_drew ?_)))
          (case side2 => exact (Kd.R_reads' HO361.out).2.1)
          rintro e w' ⟨rfl,⟨nd,rfl⟩⟩
          refine ⟨_,rfl,?_⟩
          refine hK.out _ _ ⟨hHeld.1,hHeld.2.1,hHeld.2.2⟩ (fun hHeld => ?_)
          clear hK K
          refine norm_ (a':=?_) ?_ ?_
          rotate_left
          ·show Act.put _ (some 24) _ = _
           simp only [Act.put,List.setIfInBounds_toArray,List.set_cons_zero,List.set_cons_succ,i64_w,i32_w]
           rfl
          refine pure_ (i:=13) (N:=some 25) (v:=?_) (a':=?_) (bc16 16 32767) rfl rfl (any_of HT_.out (by kernel_rfl)) (fun _ _ _ h => h) (Or.inl ⟨by rfl,?_⟩) ?_ ?_
          rotate_left
          ·intro w'
           go_simp
           with_reducible rfl
          rotate_left
          ·simp only [Act.put,List.setIfInBounds_toArray,List.set_cons_zero,List.set_cons_succ,i64_w,i32_w]
           rfl
          exact norm_ (by first|(simp only [putAll,Act.put,List.setIfInBounds_toArray,List.set_cons_zero,List.set_cons_succ]; done)|(simp only [putAll,Act.put,List.setIfInBounds_toArray,List.set_cons_zero,List.set_cons_succ]; rfl)) (hJ3_7_8_12_14 (v355,.slice Ao28 t359.length co28,gb364) _ ⟨hHeld,(by (with_reducible repeat (first|apply Kd.R_alloc|apply Kd.R_drewN|apply Kd.R_drew)); exact HO352.out),(by (with_reducible repeat (first|apply Kd.R_alloc|apply Kd.R_drewN|apply Kd.R_drew)); exact HO356.out),(by (with_reducible repeat (first|apply Kd.R_alloc|apply Kd.R_drewN|apply Kd.R_drew)); exact HO361.out),(by (with_reducible repeat (first|refine blk_drewN ?_ _|refine blk_drew ?_|refine blk_alloc ?_ _)); exact BK349.out),(by (with_reducible repeat (first|refine blk_drewN ?_ _|refine blk_drew ?_|refine blk_alloc ?_ _)); exact BK364.out),GW364.out,GE364.out,NB349_364.out,NB364_349.out,(by repeat (first|(with_reducible first|exact HB.out|apply below_alloc|apply pw_below_drewN|apply below_drew1|refine below_set ?_ GE349.out|refine below_set ?_ GE364.out)|exact HB.out))⟩)
        ·skip
         rintro ⟨v355,v360⟩ w27 ⟨hS_,h0_,h1_,h2_,h3_,h4_⟩
         have n0_ : Aside0 (Kd.R Kd.string 9 w27 w.heap.size (fun k_ => some k_ ≠ (v355 : Value).ownBlock ∧ some k_ ≠ (v360 : Value).ownBlock) (.slice (some ad353) t350.length co21) t350):=⟨h0_⟩
         have n1_ : Aside0 (Kd.R Kd.string 9 w27 w.heap.size (fun k_ => some k_ ≠ (.slice (some ad353) t350.length co21 : Value).ownBlock ∧ some k_ ≠ (v360 : Value).ownBlock) v355 t354):=⟨h1_⟩
         have n2_ : Aside0 (Kd.R Kd.string 9 w27 w.heap.size (fun k_ => some k_ ≠ (.slice (some ad353) t350.length co21 : Value).ownBlock ∧ some k_ ≠ (v355 : Value).ownBlock) v360 t359):=⟨h2_⟩
         have n3_ : Aside0 (w27.heap[gb349]? = some (.cells #[.string (⟨#[]⟩ : ByteArray),.int .i64 0,.int .i64 0,.int .i64 0,.int .i64 0] 27 (0,0))):=⟨h3_⟩
         have n4_ : Aside0 (Below w.heap.size w w27):=⟨h4_⟩
         clear HO352
         clear BK349
         clear HB
         clear h0_ h1_ h2_ h3_ h4_
         have HO352:=n0_
         have HO356:=n1_
         have HO361:=n2_
         have BK349:=n3_
         have HB:=n4_
         clear n0_ n1_ n2_ n3_ n4_
         have hHeld : w27.cell? ad353 = some (.string (rdOf ByteArray.empty t350 0)) ∧ w27.cell? ⟨ad353.block,ad353.off + 1,none⟩ = some (.string (rdOf ByteArray.empty t350 1)) ∧ w27.cell? ⟨ad353.block,ad353.off + 3,none⟩ = some (.string (rdOf ByteArray.empty t350 3)):=hS_
         refine norm_ (a':=?_) ?_ ?_
         rotate_left
         ·simp only [putAll,Act.put,List.setIfInBounds_toArray,List.set_cons_zero,List.set_cons_succ]
          rfl
         refine one_ (i:=14) (N:=some 5) (bc16 16 32767) rfl rfl (one_of HT_.out (by kernel_rfl)) (by decide) (fun K hK => ?_)
         refine box_step ?hg (N:=5) ?hd (cs:=#[.string (⟨#[]⟩ : ByteArray),.int .i64 0,.int .i64 0,.int .i64 0,.int .i64 0]) (t:=27) ?hr ?_; (case hd => rfl); (case hg => rfl); (case hr => first|(go_simp; done)|(go_simp; rfl))
         intro gb364 hg w28 hbox hb
         have HS0_:=(hb.cell (World.block_lt_of_cell? _ _ (hHeld.1))).trans (hHeld.1)
         have HS1_:=(hb.cell (World.block_lt_of_cell? _ _ (hHeld.2.1))).trans (hHeld.2.1)
         have HS2_:=(hb.cell (World.block_lt_of_cell? _ _ (hHeld.2.2))).trans (hHeld.2.2)
         have n0_:=Aside0.mk (Kd.R_below (by (with_reducible repeat (first|apply Kd.R_alloc|apply Kd.R_drewN|apply Kd.R_drew)); exact HO352.out) hb)
         have n1_:=Aside0.mk (Kd.R_below (by (with_reducible repeat (first|apply Kd.R_alloc|apply Kd.R_drewN|apply Kd.R_drew)); exact HO356.out) hb)
         have n2_:=Aside0.mk (Kd.R_below (by (with_reducible repeat (first|apply Kd.R_alloc|apply Kd.R_drewN|apply Kd.R_drew)); exact HO361.out) hb)
         have n3_:=Aside0.mk (blk_below (g:=gb349) (o:=.cells #[.string (⟨#[]⟩ : ByteArray),.int .i64 0,.int .i64 0,.int .i64 0,.int .i64 0] 27 (0,0)) (by (with_reducible repeat (first|refine blk_drewN ?_ _|refine blk_drew ?_|refine blk_alloc ?_ _)); exact BK349.out) hb)
         have n4_:=Aside0.mk (below_step (by repeat (first|(with_reducible first|exact HB.out|apply below_alloc|apply pw_below_drewN|apply below_drew1|refine below_set ?_ GE349.out)|exact HB.out)) hb)
         have n5_:=Aside0.mk (hbox)
         have n6_:=Aside0.mk ((by rw [hg]; exact (below_size (by repeat (first|(with_reducible first|exact HB.out|apply below_alloc|apply pw_below_drewN|apply below_drew1|refine below_set ?_ GE349.out)|exact HB.out))) : w.heap.size ≤ gb364))
         have n7_:=Aside0.mk ((by rw [hg]; exact (below_size (by repeat (first|(with_reducible first|exact HB.out|apply below_alloc|apply pw_below_drewN|apply below_drew1|refine below_set ?_ GE349.out)|exact HB.out))) : w.heap.size ≤ gb364))
         have n8_:=Aside0.mk ((by rw [hg]; exact Nat.ne_of_lt (blk_lt (g:=gb349) (o:=.cells #[.string (⟨#[]⟩ : ByteArray),.int .i64 0,.int .i64 0,.int .i64 0,.int .i64 0] 27 (0,0)) (by (with_reducible repeat (first|refine blk_drewN ?_ _|refine blk_drew ?_|refine blk_alloc ?_ _)); exact BK349.out)) : gb349 ≠ gb364))
         have n9_:=Aside0.mk ((by rw [hg]; exact Nat.ne_of_gt (blk_lt (g:=gb349) (o:=.cells #[.string (⟨#[]⟩ : ByteArray),.int .i64 0,.int .i64 0,.int .i64 0,.int .i64 0] 27 (0,0)) (by (with_reducible repeat (first|refine blk_drewN ?_ _|refine blk_drew ?_|refine blk_alloc ?_ _)); exact BK349.out)) : gb364 ≠ gb349))
         clear HO352
         clear HO356
         clear HO361
         clear BK349
         clear HB
         have HO352:=n0_
         have HO356:=n1_
         have HO361:=n2_
         have BK349:=n3_
         have HB:=n4_
         have BK364:=n5_
         have GW364:=n6_
         have GE364:=n7_
         have NB349_364:=n8_
         have NB364_349:=n9_
         clear n0_ n1_ n2_ n3_ n4_ n5_ n6_ n7_ n8_ n9_
         clear hb hbox hg
         refine hK.out _ _ ⟨HS0_,HS1_,HS2_⟩ (fun hHeld => ?_)
         clear hK K
         refine norm_ (a':=?_) ?_ ?_
         rotate_left
         ·show Act.put _ (some 5) _ = _
          simp only [Act.put,List.setIfInBounds_toArray,List.set_cons_zero,List.set_cons_succ,i64_w,i32_w]
          rfl
         exact norm_ (by first|(simp only [putAll,Act.put,List.setIfInBounds_toArray,List.set_cons_zero,List.set_cons_succ]; done)|(simp only [putAll,Act.put,List.setIfInBounds_toArray,List.set_cons_zero,List.set_cons_succ]; rfl)) (hJ3_7_8_12_14 (v355,v360,gb364) _ ⟨hHeld,(by (with_reducible repeat (first|apply Kd.R_alloc|apply Kd.R_drewN|apply Kd.R_drew)); exact HO352.out),(by (with_reducible repeat (first|apply Kd.R_alloc|apply Kd.R_drewN|apply Kd.R_drew)); exact HO356.out),(by (with_reducible repeat (first|apply Kd.R_alloc|apply Kd.R_drewN|apply Kd.R_drew)); exact HO361.out),(by (with_reducible repeat (first|refine blk_drewN ?_ _|refine blk_drew ?_|refine blk_alloc ?_ _)); exact BK349.out),(by (with_reducible repeat (first|refine blk_drewN ?_ _|refine blk_drew ?_|refine blk_alloc ?_ _)); exact BK364.out),GW364.out,GE364.out,NB349_364.out,NB364_349.out,(by repeat (first|(with_reducible first|exact HB.out|apply below_alloc|apply pw_below_drewN|apply below_drew1|refine below_set ?_ GE349.out|refine below_set ?_ GE364.out)|exact HB.out))⟩)
       rintro ⟨v355,v360,gb364⟩ w28 ⟨hS_,h0_,h1_,h2_,h3_,h4_,h5_,h6_,h7_,h8_,h9_⟩
       have n0_ : Aside0 (Kd.R Kd.string 9 w28 w.heap.size (fun k_ => some k_ ≠ (v355 : Value).ownBlock ∧ some k_ ≠ (v360 : Value).ownBlock) (.slice (some ad353) t350.length co21) t350):=⟨h0_⟩
       have n1_ : Aside0 (Kd.R Kd.string 9 w28 w.heap.size (fun k_ => some k_ ≠ (.slice (some ad353) t350.length co21 : Value).ownBlock ∧ some k_ ≠ (v360 : Value).ownBlock) v355 t354):=⟨h1_⟩
       have n2_ : Aside0 (Kd.R Kd.string 9 w28 w.heap.size (fun k_ => some k_ ≠ (.slice (some ad353) t350.length co21 : Value).ownBlock ∧ some k_ ≠ (v355 : Value).ownBlock) v360 t359):=⟨h2_⟩
       have n3_ : Aside0 (w28.heap[gb349]? = some (.cells #[.string (⟨#[]⟩ : ByteArray),.int .i64 0,.int .i64 0,.int .i64 0,.int .i64 0] 27 (0,0))):=⟨h3_⟩
       have n4_ : Aside0 (w28.heap[gb364]? = some (.cells #[.string (⟨#[]⟩ : ByteArray),.int .i64 0,.int .i64 0,.int .i64 0,.int .i64 0] 27 (0,0))):=⟨h4_⟩
       have n5_ : Aside0 (w.heap.size ≤ gb364):=⟨h5_⟩
       have n6_ : Aside0 (w.heap.size ≤ gb364):=⟨h6_⟩
       have n7_ : Aside0 (gb349 ≠ gb364):=⟨h7_⟩
       have n8_ : Aside0 (gb364 ≠ gb349):=⟨h8_⟩
       have n9_ : Aside0 (Below w.heap.size w w28):=⟨h9_⟩
       clear HO352
       clear BK349
       clear HB
       clear h0_ h1_ h2_ h3_ h4_ h5_ h6_ h7_ h8_ h9_
       have HO352:=n0_
       have HO356:=n1_
       have HO361:=n2_
       have BK349:=n3_
       have BK364:=n4_
       have GW364:=n5_
       have GE364:=n6_
       have NB349_364:=n7_
       have NB364_349:=n8_
       have HB:=n9_
       clear n0_ n1_ n2_ n3_ n4_ n5_ n6_ n7_ n8_ n9_
       have hHeld : w28.cell? ad353 = some (.string (rdOf ByteArray.empty t350 0)) ∧ w28.cell? ⟨ad353.block,ad353.off + 1,none⟩ = some (.string (rdOf ByteArray.empty t350 1)) ∧ w28.cell? ⟨ad353.block,ad353.off + 3,none⟩ = some (.string (rdOf ByteArray.empty t350 3)):=hS_
       refine norm_ (a':=?_) ?_ ?_
       rotate_left
       ·simp only [putAll,Act.put,List.setIfInBounds_toArray,List.set_cons_zero,List.set_cons_succ]
        rfl
       refine one_ (i:=15) (N:=none) (bc16 16 65535) rfl rfl (one_of HT_.out (by kernel_rfl)) (by decide) (fun K hK => ?_)
       have hs29 : w28.cell? ⟨gb364,0,none⟩ = some (.string (⟨#[]⟩ : ByteArray)):=(blk_cell BK364.out 0).trans rfl
       have H:=HF_.out
       clear HF_
       by_cases c16 : t371 = true
       ·subst c16
        have H1 : ((impl_containerText.f (rdOf ByteArray.empty t350 0) t358 t366 t363 t369).bind fun t372 => (if t372.toList = a0.toList then (some (rdOf ByteArray.empty t350 0,t358,t366,t363,t369,true)) else (some ((⟨#[]⟩ : ByteArray),0,0,0,0,false)))) = some (r1,r2,r3,r4,r5,r6):=by rw [if_pos rfl] at H; exact H
        clear H
        have H:=H1
        clear H1
        replace H:=Option.bind_eq_some_iff.mp H
        obtain ⟨t372,A170,H⟩:=H
        replace H : (if t372.toList = a0.toList then (some (rdOf ByteArray.empty t350 0,t358,t366,t363,t369,true)) else (some ((⟨#[]⟩ : ByteArray),0,0,0,0,false))) = some (r1,r2,r3,r4,r5,r6):=H
        have A17:=Aside0.mk A170
        clear A170
        by_cases c18 : t372.toList = a0.toList
        ·rw [if_pos c18] at H
         have c18b0 : (t372.toList == a0.toList) = true:=beq_iff_eq.mpr c18
         have c18b1 : (t372.toList != a0.toList) = false:=bne_eq_false_iff_eq.mpr c18
         clear c18
         simp only [Option.some.injEq,Prod.mk.injEq] at H
         obtain ⟨rfl,rfl,rfl,rfl,rfl,rfl⟩:=H
         have hfs29:=blk_frozen BK364.out 0
         have hns29_0:=NB349_364.out
         have hms29_0:=NB364_349.out
         have hs30 : w28.cell? ⟨gb364,1,none⟩ = some (.int .i64 0):=(blk_cell BK364.out 1).trans rfl
         have hfs30:=blk_frozen BK364.out 1
         have hns30_0:=NB349_364.out
         have hms30_0:=NB364_349.out
         have hs31 : w28.cell? ⟨gb364,2,none⟩ = some (.int .i64 0):=(blk_cell BK364.out 2).trans rfl
         have hfs31:=blk_frozen BK364.out 2
         have hns31_0:=NB349_364.out
         have hms31_0:=NB364_349.out
         have hs32 : w28.cell? ⟨gb364,3,none⟩ = some (.int .i64 0):=(blk_cell BK364.out 3).trans rfl
         have hfs32:=blk_frozen BK364.out 3
         have hns32_0:=NB349_364.out
         have hms32_0:=NB364_349.out
         have hs33 : w28.cell? ⟨gb364,4,none⟩ = some (.int .i64 0):=(blk_cell BK364.out 4).trans rfl
         have hfs33:=blk_frozen BK364.out 4
         have hns33_0:=NB349_364.out
         have hms33_0:=NB364_349.out
         refine skip_ (w1:=?_) (by rfl) rfl ?_ ?_
         rotate_left
         ·go_simp
          rfl
         have hne0_:=Kd.own_blk (Kd.R_ne HO352.out BK364.out (by decide))
         refine hK.out _ _ ⟨?_,?_,?_⟩ (fun hHeld => ?_)
         ·(iterate 5 (refine (cell_far ?hh_ _).trans ?_; (case hh_ => exact hne0_))); exact hHeld.1
         ·(iterate 5 (refine (cell_far ?hh_ _).trans ?_; (case hh_ => exact hne0_))); exact hHeld.2.1
         ·(iterate 5 (refine (cell_far ?hh_ _).trans ?_; (case hh_ => exact hne0_))); exact hHeld.2.2
         clear hK K
         refine done_ (done_of HT_.out (by kernel_rfl)) ?_
         have p365 : 0 ≤ (2 : Int):=(by omega)
         have q365 : 2 < (t350.length : Int):=of_decide_eq_true (by first|(with_reducible assumption)|assumption)
         obtain ⟨ad365,e365,hx365_0⟩:=Kd.at_string (Kd.R_reads' HO352.out).2.2 2 p365 q365
         obtain rfl : ad353 = ad365:=(by injection e365)
         (try simp only [show (2 : Int).toNat = 2 from rfl,Nat.reduceMul,Nat.reduceEqDiff,Go.Addr.add,↓reduceIte] at hx365_0)
         have qi365 : (2 < t350.length) = True:=eq_true (by omega)
         (try rw [show ((2 : Int)).toNat = 2 from rfl] at hx365_0)
         have hn365_0 : ad353.block ≠ gb364:=Kd.own_blk (Kd.R_ne HO352.out BK364.out (by decide))
         have hn365_1 : ad353.block ≠ gb364:=Kd.own_blk (Kd.R_ne HO352.out BK364.out (by decide))
         have hn365_2 : ad353.block ≠ gb364:=Kd.own_blk (Kd.R_ne HO352.out BK364.out (by decide))
         have hn365_3 : ad353.block ≠ gb364:=Kd.own_blk (Kd.R_ne HO352.out BK364.out (by decide))
         have hn365_4 : ad353.block ≠ gb364:=Kd.own_blk (Kd.R_ne HO352.out BK364.out (by decide))
         replace hx365_0:=(cell_far (p:=⟨gb364,0,none⟩) (by first|(rw [add_block]; exact hn365_0)|(show (Addr.add _ _).block ≠ _; rw [add_block]; exact hn365_0)|exact hn365_0) (.string (rdOf ByteArray.empty t350 0))).trans hx365_0
         replace hx365_0:=(cell_far (p:=⟨gb364,1,none⟩) (by first|(rw [add_block]; exact hn365_1)|(show (Addr.add _ _).block ≠ _; rw [add_block]; exact hn365_1)|exact hn365_1) (.int .i64 t358)).trans hx365_0
         replace hx365_0:=(cell_far (p:=⟨gb364,2,none⟩) (by first|(rw [add_block]; exact hn365_2)|(show (Addr.add _ _).block ≠ _; rw [add_block]; exact hn365_2)|exact hn365_2) (.int .i64 0)).trans hx365_0
         replace hx365_0:=(cell_far (p:=⟨gb364,3,none⟩) (by first|(rw [add_block]; exact hn365_3)|(show (Addr.add _ _).block ≠ _; rw [add_block]; exact hn365_3)|exact hn365_3) (.int .i64 t363)).trans hx365_0
         replace hx365_0:=(cell_far (p:=⟨gb364,4,none⟩) (by first|(rw [add_block]; exact hn365_4)|(show (Addr.add _ _).block ≠ _; rw [add_block]; exact hn365_4)|exact hn365_4) (.int .i64 0)).trans hx365_0
         clear hn365_0
         clear hn365_1
         clear hn365_2
         clear hn365_3
         clear hn365_4
         replace p365:=eq_true p365
         replace q365:=eq_true q365
         try go_wp2_with (first|((with_reducible refine gate_callee (f:=54) rfl ?_); refine goesL_ (some 30) rfl rfl Tryd.func54 (by kernel_rfl) rfl #[.string (rdOf ByteArray.empty t350 2)] rfl (by (try simp only [List.map_toArray,List.map_cons,List.map_nil]); first|done|rfl|(simp only [List.length_drop,List.length_take]; rfl)) ?_; (with_reducible refine (impl_ParseInt.calls (rdOf ByteArray.empty t350 2) t366 t367 _ ?sideL A12.out).mono ?_); (case sideL => refine LaidA.to_LaidE ?_; first|(with_reducible exact HL.out)|(with_reducible exact LaidA.below HL.out HB.out)|(exact LaidA.below HL.out (by repeat (first|(with_reducible first|exact HB.out|apply below_alloc|apply pw_below_drewN|apply below_drew1|refine below_set ?_ GE349.out|refine below_set ?_ GE364.out)|exact HB.out)))|(repeat (first|exact HL.out|exact LaidA.below HL.out HB.out|(with_reducible refine LaidA.alloc ?_ _)|(with_reducible refine LaidA.drewN ?_ _)|(with_reducible refine LaidA.drew ?_)))); rintro e w34 ⟨rfl,hb⟩; refine ⟨_,rfl,?_⟩; have n0_:=Aside0.mk (Kd.R_below (by (with_reducible repeat (first|apply Kd.R_alloc|apply Kd.R_drewN|apply Kd.R_drew)); exact (Kd.R_mono (Kd.R_far (p:=⟨gb364,4,none⟩) (Kd.R_far (p:=⟨gb364,3,none⟩) (Kd.R_far (p:=⟨gb364,2,none⟩) (Kd.R_far (p:=⟨gb364,1,none⟩) (Kd.R_far (p:=⟨gb364,0,none⟩) (Kd.R_types HO352.out BK364.out (by decide)) (fun _ hk => hk.2) (.string (rdOf ByteArray.empty t350 0))) (fun _ hk => hk.2) (.int .i64 t358)) (fun _ hk => hk.2) (.int .i64 0)) (fun _ hk => hk.2) (.int .i64 t363)) (fun _ hk => hk.2) (.int .i64 0)) (fun _ h_ => h_.1))) hb); have n1_:=Aside0.mk (Kd.R_below (by (with_reducible repeat (first|apply Kd.R_alloc|apply Kd.R_drewN|apply Kd.R_drew)); exact (Kd.R_mono (Kd.R_far (p:=⟨gb364,4,none⟩) (Kd.R_far (p:=⟨gb364,3,none⟩) (Kd.R_far (p:=⟨gb364,2,none⟩) (Kd.R_far (p:=⟨gb364,1,none⟩) (Kd.R_far (p:=⟨gb364,0,none⟩) (Kd.R_types HO356.out BK364.out (by decide)) (fun _ hk => hk.2) (.string (rdOf ByteArray.empty t350 0))) (fun _ hk => hk.2) (.int .i64 t358)) (fun _ hk => hk.2) (.int .i64 0)) (fun _ hk => hk.2) (.int .i64 t363)) (fun _ hk => hk.2) (.int .i64 0)) (fun _ h_ => h_.1))) hb); have n2_:=Aside0.mk (Kd.R_below (by (with_reducible repeat (first|apply Kd.R_alloc|apply Kd.R_drewN|apply Kd.R_drew)); exact (Kd.R_mono (Kd.R_far (p:=⟨gb364,4,none⟩) (Kd.R_far (p:=⟨gb364,3,none⟩) (Kd.R_far (p:=⟨gb364,2,none⟩) (Kd.R_far (p:=⟨gb364,1,none⟩) (Kd.R_far (p:=⟨gb364,0,none⟩) (Kd.R_types HO361.out BK364.out (by decide)) (fun _ hk => hk.2) (.string (rdOf ByteArray.empty t350 0))) (fun _ hk => hk.2) (.int .i64 t358)) (fun _ hk => hk.2) (.int .i64 0)) (fun _ hk => hk.2) (.int .i64 t363)) (fun _ hk => hk.2) (.int .i64 0)) (fun _ h_ => h_.1))) hb); have n3_:=Aside0.mk (blk_below (g:=gb349) (o:=.cells #[.string (⟨#[]⟩ : ByteArray),.int .i64 0,.int .i64 0,.int .i64 0,.int .i64 0] 27 (0,0)) (by (with_reducible repeat (first|refine blk_drewN ?_ _|refine blk_drew ?_|refine blk_alloc ?_ _)); refine blk_far ?_ NB349_364.out _; (with_reducible repeat (first|refine blk_drewN ?_ _|refine blk_drew ?_|refine blk_alloc ?_ _)); refine blk_far ?_ NB349_364.out _; (with_reducible repeat (first|refine blk_drewN ?_ _|refine blk_drew ?_|refine blk_alloc ?_ _)); refine blk_far ?_ NB349_364.out _; (with_reducible repeat (first|refine blk_drewN ?_ _|refine blk_drew ?_|refine blk_alloc ?_ _)); refine blk_far ?_ NB349_364.out _; (with_reducible repeat (first|refine blk_drewN ?_ _|refine blk_drew ?_|refine blk_alloc ?_ _)); refine blk_far ?_ NB349_364.out _; (with_reducible repeat (first|refine blk_drewN ?_ _|refine blk_drew ?_|refine blk_alloc ?_ _)); exact BK349.out) hb); have n4_:=Aside0.mk (blk_below (g:=gb364) (o:=.cells #[.string (rdOf ByteArray.empty t350 0),.int .i64 t358,.int .i64 0,.int .i64 t363,.int .i64 0] 27 (0,0)) (by (with_reducible repeat (first|refine blk_drewN ?_ _|refine blk_drew ?_|refine blk_alloc ?_ _)); refine blk_put (cs:=#[.string (rdOf ByteArray.empty t350 0),.int .i64 t358,.int .i64 0,.int .i64 t363,.int .i64 0]) ?_ 4 _ rfl; (with_reducible repeat (first|refine blk_drewN ?_ _|refine blk_drew ?_|refine blk_alloc ?_ _)); refine blk_put (cs:=#[.string (rdOf ByteArray.empty t350 0),.int .i64 t358,.int .i64 0,.int .i64 0,.int .i64 0]) ?_ 3 _ rfl; (with_reducible repeat (first|refine blk_drewN ?_ _|refine blk_drew ?_|refine blk_alloc ?_ _)); refine blk_put (cs:=#[.string (rdOf ByteArray.empty t350 0),.int .i64 t358,.int .i64 0,.int .i64 0,.int .i64 0]) ?_ 2 _ rfl; (with_reducible repeat (first|refine blk_drewN ?_ _|refine blk_drew ?_|refine blk_alloc ?_ _)); refine blk_put (cs:=#[.string (rdOf ByteArray.empty t350 0),.int .i64 0,.int .i64 0,.int .i64 0,.int .i64 0]) ?_ 1 _ rfl; (with_reducible repeat (first|refine blk_drewN ?_ _|refine blk_drew ?_|refine blk_alloc ?_ _)); refine blk_put (cs:=#[.string (⟨#[]⟩ : ByteArray),.int .i64 0,.int .i64 0,.int .i64 0,.int .i64 0]) ?_ 0 _ rfl; (with_reducible repeat (first|refine blk_drewN ?_ _|refine blk_drew ?_|refine blk_alloc ?_ _)); exact BK364.out) hb); have n5_:=Aside0.mk (below_step (by repeat (first|(with_reducible first|exact HB.out|apply below_alloc|apply pw_below_drewN|apply below_drew1|refine below_set ?_ GE349.out|refine below_set ?_ GE364.out)|exact HB.out)) hb); clear HO352; clear HO356; clear HO361; clear BK349; clear BK364; clear HB; have HO352:=n0_; have HO356:=n1_; have HO361:=n2_; have BK349:=n3_; have BK364:=n4_; have HB:=n5_; clear n0_ n1_ n2_ n3_ n4_ n5_; (try clear hb); (try clear hb2); (try clear hk); (try clear hi); have hnb35:=NB364_349.out; have hnc35:=NB349_364.out; have hcz36_0 : w34.cell? ⟨gb364,0,none⟩ = some (.string (rdOf ByteArray.empty t350 0)):=(blk_cell BK364.out 0).trans rfl; have hcz36_1 : w34.cell? ⟨gb364,1,none⟩ = some (.int .i64 t358):=(blk_cell BK364.out 1).trans rfl; have hcz36_2 : w34.cell? ⟨gb364,2,none⟩ = some (.int .i64 0):=(blk_cell BK364.out 2).trans rfl; have hcz36_3 : w34.cell? ⟨gb364,3,none⟩ = some (.int .i64 t363):=(blk_cell BK364.out 3).trans rfl; have hcz36_4 : w34.cell? ⟨gb364,4,none⟩ = some (.int .i64 0):=(blk_cell BK364.out 4).trans rfl; have hfz36_0:=blk_frozen BK364.out 0; have hfz36_1:=blk_frozen BK364.out 1; have hfz36_2:=blk_frozen BK364.out 2; have hfz36_3:=blk_frozen BK364.out 3; have hfz36_4:=blk_frozen BK364.out 4; have p368 : 0 ≤ (4 : Int):=(by omega); have q368 : 4 < (t350.length : Int):=of_decide_eq_true (by first|(with_reducible assumption)|assumption); obtain ⟨ad368,e368,hx368_0⟩:=Kd.at_string (Kd.R_reads' HO352.out).2.2 4 p368 q368; obtain rfl : ad353 = ad368:=(by injection e368); (try simp only [show (4 : Int).toNat = 4 from rfl,Nat.reduceMul,Nat.reduceEqDiff,Go.Addr.add,↓reduceIte] at hx368_0); have qi368 : (4 < t350.length) = True:=eq_true (by omega); (try rw [show ((4 : Int)).toNat = 4 from rfl] at hx368_0); have hn368_0 : ad353.block ≠ gb364:=Kd.own_blk (Kd.R_ne HO352.out BK364.out (by decide)); replace hx368_0:=(cell_far (p:=⟨gb364,2,none⟩) (by first|(rw [add_block]; exact hn368_0)|(show (Addr.add _ _).block ≠ _; rw [add_block]; exact hn368_0)|exact hn368_0) (.int .i64 t366)).trans hx368_0; clear hn368_0; replace p368:=eq_true p368; replace q368:=eq_true q368)|((with_reducible refine gate_callee (f:=54) rfl ?_); refine goesL_ (some 38) rfl rfl Tryd.func54 (by kernel_rfl) rfl #[.string (rdOf ByteArray.empty t350 4)] rfl (by (try simp only [List.map_toArray,List.map_cons,List.map_nil]); first|done|rfl|(simp only [List.length_drop,List.length_take]; rfl)) ?_; (with_reducible refine (impl_ParseInt.calls (rdOf ByteArray.empty t350 4) t369 t370 _ ?sideL A14.out).mono ?_); (case sideL => refine LaidA.to_LaidE ?_; first|(with_reducible exact HL.out)|(with_reducible exact LaidA.below HL.out HB.out)|(exact LaidA.below HL.out (by repeat (first|(with_reducible first|exact HB.out|apply below_alloc|apply pw_below_drewN|apply below_drew1|refine below_set ?_ GE349.out|refine below_set ?_ GE364.out)|exact HB.out)))|(repeat (first|exact HL.out|exact LaidA.below HL.out HB.out|(with_reducible refine LaidA.alloc ?_ _)|(with_reducible refine LaidA.drewN ?_ _)|(with_reducible refine LaidA.drew ?_)))); rintro e w37 ⟨rfl,hb⟩; refine ⟨_,rfl,?_⟩; have n0_:=Aside0.mk (Kd.R_below (by (with_reducible repeat (first|apply Kd.R_alloc|apply Kd.R_drewN|apply Kd.R_drew)); exact (Kd.R_mono (Kd.R_far (p:=⟨gb364,2,none⟩) (Kd.R_types HO352.out BK364.out (by decide)) (fun _ hk => hk.2) (.int .i64 t366)) (fun _ h_ => h_.1))) hb); have n1_:=Aside0.mk (Kd.R_below (by (with_reducible repeat (first|apply Kd.R_alloc|apply Kd.R_drewN|apply Kd.R_drew)); exact (Kd.R_mono (Kd.R_far (p:=⟨gb364,2,none⟩) (Kd.R_types HO356.out BK364.out (by decide)) (fun _ hk => hk.2) (.int .i64 t366)) (fun _ h_ => h_.1))) hb); have n2_:=Aside0.mk (Kd.R_below (by (with_reducible repeat (first|apply Kd.R_alloc|apply Kd.R_drewN|apply Kd.R_drew)); exact (Kd.R_mono (Kd.R_far (p:=⟨gb364,2,none⟩) (Kd.R_types HO361.out BK364.out (by decide)) (fun _ hk => hk.2) (.int .i64 t366)) (fun _ h_ => h_.1))) hb); have n3_:=Aside0.mk (blk_below (g:=gb349) (o:=.cells #[.string (⟨#[]⟩ : ByteArray),.int .i64 0,.int .i64 0,.int .i64 0,.int .i64 0] 27 (0,0)) (by (with_reducible repeat (first|refine blk_drewN ?_ _|refine blk_drew ?_|refine blk_alloc ?_ _)); refine blk_far ?_ NB349_364.out _; (with_reducible repeat (first|refine blk_drewN ?_ _|refine blk_drew ?_|refine blk_alloc ?_ _)); exact BK349.out) hb); have n4_:=Aside0.mk (blk_below (g:=gb364) (o:=.cells #[.string (rdOf ByteArray.empty t350 0),.int .i64 t358,.int .i64 t366,.int .i64 t363,.int .i64 0] 27 (0,0)) (by (with_reducible repeat (first|refine blk_drewN ?_ _|refine blk_drew ?_|refine blk_alloc ?_ _)); refine blk_put (cs:=#[.string (rdOf ByteArray.empty t350 0),.int .i64 t358,.int .i64 0,.int .i64 t363,.int .i64 0]) ?_ 2 _ rfl; (with_reducible repeat (first|refine blk_drewN ?_ _|refine blk_drew ?_|refine blk_alloc ?_ _)); exact BK364.out) hb); have n5_:=Aside0.mk (below_step (by repeat (first|(with_reducible first|exact HB.out|apply below_alloc|apply pw_below_drewN|apply below_drew1|refine below_set ?_ GE349.out|refine below_set ?_ GE364.out)|exact HB.out)) hb); clear HO352; clear HO356; clear HO361; clear BK349; clear BK364; clear HB; have HO352:=n0_; have HO356:=n1_; have HO361:=n2_; have BK349:=n3_; have BK364:=n4_; have HB:=n5_; clear n0_ n1_ n2_ n3_ n4_ n5_; (try clear hb); (try clear hb2); (try clear hk); (try clear hi); have hcz38_0 : w37.cell? ⟨gb364,0,none⟩ = some (.string (rdOf ByteArray.empty t350 0)):=(blk_cell BK364.out 0).trans rfl; have hcz38_1 : w37.cell? ⟨gb364,1,none⟩ = some (.int .i64 t358):=(blk_cell BK364.out 1).trans rfl; have hcz38_2 : w37.cell? ⟨gb364,2,none⟩ = some (.int .i64 t366):=(blk_cell BK364.out 2).trans rfl; have hcz38_3 : w37.cell? ⟨gb364,3,none⟩ = some (.int .i64 t363):=(blk_cell BK364.out 3).trans rfl; have hcz38_4 : w37.cell? ⟨gb364,4,none⟩ = some (.int .i64 0):=(blk_cell BK364.out 4).trans rfl; have hfz38_0:=blk_frozen BK364.out 0; have hfz38_1:=blk_frozen BK364.out 1; have hfz38_2:=blk_frozen BK364.out 2; have hfz38_3:=blk_frozen BK364.out 3; have hfz38_4:=blk_frozen BK364.out 4)|((with_reducible refine gate_callee (f:=36) rfl ?_); refine goesL_ (some 43) rfl rfl Tryd.func36 (by kernel_rfl) rfl #[.agg #[.string (rdOf ByteArray.empty t350 0),.int .i64 t358,.int .i64 t366,.int .i64 t363,.int .i64 t369]] rfl (by (try simp only [List.map_toArray,List.map_cons,List.map_nil]); first|done|rfl|(simp only [List.length_drop,List.length_take]; rfl)) ?_; (with_reducible refine (impl_IsValidContainer.calls k (rdOf ByteArray.empty t350 0) t358 t366 t363 t369 true _ A15.out).mono ?_); rintro e w39 ⟨rfl,hb⟩; refine ⟨_,rfl,?_⟩; have n0_:=Aside0.mk (Kd.R_below (by (with_reducible repeat (first|apply Kd.R_alloc|apply Kd.R_drewN|apply Kd.R_drew)); exact (Kd.R_mono (Kd.R_far (p:=⟨gb364,4,none⟩) (Kd.R_types HO352.out BK364.out (by decide)) (fun _ hk => hk.2) (.int .i64 t369)) (fun _ h_ => h_.1))) hb); have n1_:=Aside0.mk (Kd.R_below (by (with_reducible repeat (first|apply Kd.R_alloc|apply Kd.R_drewN|apply Kd.R_drew)); exact (Kd.R_mono (Kd.R_far (p:=⟨gb364,4,none⟩) (Kd.R_types HO356.out BK364.out (by decide)) (fun _ hk => hk.2) (.int .i64 t369)) (fun _ h_ => h_.1))) hb); have n2_:=Aside0.mk (Kd.R_below (by (with_reducible repeat (first|apply Kd.R_alloc|apply Kd.R_drewN|apply Kd.R_drew)); exact (Kd.R_mono (Kd.R_far (p:=⟨gb364,4,none⟩) (Kd.R_types HO361.out BK364.out (by decide)) (fun _ hk => hk.2) (.int .i64 t369)) (fun _ h_ => h_.1))) hb); have n3_:=Aside0.mk (blk_below (g:=gb349) (o:=.cells #[.string (⟨#[]⟩ : ByteArray),.int .i64 0,.int .i64 0,.int .i64 0,.int .i64 0] 27 (0,0)) (by (with_reducible repeat (first|refine blk_drewN ?_ _|refine blk_drew ?_|refine blk_alloc ?_ _)); refine blk_far ?_ NB349_364.out _; (with_reducible repeat (first|refine blk_drewN ?_ _|refine blk_drew ?_|refine blk_alloc ?_ _)); exact BK349.out) hb); have n4_:=Aside0.mk (blk_below (g:=gb364) (o:=.cells #[.string (rdOf ByteArray.empty t350 0),.int .i64 t358,.int .i64 t366,.int .i64 t363,.int .i64 t369] 27 (0,0)) (by (with_reducible repeat (first|refine blk_drewN ?_ _|refine blk_drew ?_|refine blk_alloc ?_ _)); refine blk_put (cs:=#[.string (rdOf ByteArray.empty t350 0),.int .i64 t358,.int .i64 t366,.int .i64 t363,.int .i64 0]) ?_ 4 _ rfl; (with_reducible repeat (first|refine blk_drewN ?_ _|refine blk_drew ?_|refine blk_alloc ?_ _)); exact BK364.out) hb); have n5_:=Aside0.mk (below_step (by repeat (first|(with_reducible first|exact HB.out|apply below_alloc|apply pw_below_drewN|apply below_drew1|refine below_set ?_ GE349.out|refine below_set ?_ GE364.out)|exact HB.out)) hb); clear HO352; clear HO356; clear HO361; clear BK349; clear BK364; clear HB; have HO352:=n0_; have HO356:=n1_; have HO361:=n2_; have BK349:=n3_; have BK364:=n4_; have HB:=n5_; clear n0_ n1_ n2_ n3_ n4_ n5_; (try clear hb); (try clear hb2); (try clear hk); (try clear hi); have hcz40_0 : w39.cell? ⟨gb364,0,none⟩ = some (.string (rdOf ByteArray.empty t350 0)):=(blk_cell BK364.out 0).trans rfl; have hcz40_1 : w39.cell? ⟨gb364,1,none⟩ = some (.int .i64 t358):=(blk_cell BK364.out 1).trans rfl; have hcz40_2 : w39.cell? ⟨gb364,2,none⟩ = some (.int .i64 t366):=(blk_cell BK364.out 2).trans rfl; have hcz40_3 : w39.cell? ⟨gb364,3,none⟩ = some (.int .i64 t363):=(blk_cell BK364.out 3).trans rfl; have hcz40_4 : w39.cell? ⟨gb364,4,none⟩ = some (.int .i64 t369):=(blk_cell BK364.out 4).trans rfl; have hfz40_0:=blk_frozen BK364.out 0; have hfz40_1:=blk_frozen BK364.out 1; have hfz40_2:=blk_frozen BK364.out 2; have hfz40_3:=blk_frozen BK364.out 3; have hfz40_4:=blk_frozen BK364.out 4)|(go_at_call 37; (with_reducible refine (impl_containerText.calls (rdOf ByteArray.empty t350 0) t358 t366 t363 t369 t372 _ ?sideL A17.out).mono ?_); (case sideL => refine LaidA.to_Laid ?_; first|(with_reducible exact HL.out)|(with_reducible exact LaidA.below HL.out HB.out)|(exact LaidA.below HL.out (by repeat (first|(with_reducible first|exact HB.out|apply below_alloc|apply pw_below_drewN|apply below_drew1|refine below_set ?_ GE349.out|refine below_set ?_ GE364.out)|exact HB.out)))|(repeat (first|exact HL.out|exact LaidA.below HL.out HB.out|(with_reducible refine LaidA.alloc ?_ _)|(with_reducible refine LaidA.drewN ?_ _)|(with_reducible refine LaidA.drew ?_)))); rintro e w41 ⟨rfl,hb⟩; have n0_:=Aside0.mk (Kd.R_below (by (with_reducible repeat (first|apply Kd.R_alloc|apply Kd.R_drewN|apply Kd.R_drew)); exact HO352.out) hb); have n1_:=Aside0.mk (Kd.R_below (by (with_reducible repeat (first|apply Kd.R_alloc|apply Kd.R_drewN|apply Kd.R_drew)); exact HO356.out) hb); have n2_:=Aside0.mk (Kd.R_below (by (with_reducible repeat (first|apply Kd.R_alloc|apply Kd.R_drewN|apply Kd.R_drew)); exact HO361.out) hb); have n3_:=Aside0.mk (blk_below (g:=gb349) (o:=.cells #[.string (⟨#[]⟩ : ByteArray),.int .i64 0,.int .i64 0,.int .i64 0,.int .i64 0] 27 (0,0)) (by (with_reducible repeat (first|refine blk_drewN ?_ _|refine blk_drew ?_|refine blk_alloc ?_ _)); exact BK349.out) hb); have n4_:=Aside0.mk (blk_below (g:=gb364) (o:=.cells #[.string (rdOf ByteArray.empty t350 0),.int .i64 t358,.int .i64 t366,.int .i64 t363,.int .i64 t369] 27 (0,0)) (by (with_reducible repeat (first|refine blk_drewN ?_ _|refine blk_drew ?_|refine blk_alloc ?_ _)); exact BK364.out) hb); have n5_:=Aside0.mk (below_step (by repeat (first|(with_reducible first|exact HB.out|apply below_alloc|apply pw_below_drewN|apply below_drew1|refine below_set ?_ GE349.out|refine below_set ?_ GE364.out)|exact HB.out)) hb); clear HO352; clear HO356; clear HO361; clear BK349; clear BK364; clear HB; have HO352:=n0_; have HO356:=n1_; have HO361:=n2_; have BK349:=n3_; have BK364:=n4_; have HB:=n5_; clear n0_ n1_ n2_ n3_ n4_ n5_; (try clear hb); (try clear hb2); (try clear hk); (try clear hi); have hcz42_0 : w41.cell? ⟨gb364,0,none⟩ = some (.string (rdOf ByteArray.empty t350 0)):=(blk_cell BK364.out 0).trans rfl; have hcz42_1 : w41.cell? ⟨gb364,1,none⟩ = some (.int .i64 t358):=(blk_cell BK364.out 1).trans rfl; have hcz42_2 : w41.cell? ⟨gb364,2,none⟩ = some (.int .i64 t366):=(blk_cell BK364.out 2).trans rfl; have hcz42_3 : w41.cell? ⟨gb364,3,none⟩ = some (.int .i64 t363):=(blk_cell BK364.out 3).trans rfl; have hcz42_4 : w41.cell? ⟨gb364,4,none⟩ = some (.int .i64 t369):=(blk_cell BK364.out 4).trans rfl; have hfz42_0:=blk_frozen BK364.out 0; have hfz42_1:=blk_frozen BK364.out 1; have hfz42_2:=blk_frozen BK364.out 2; have hfz42_3:=blk_frozen BK364.out 3; have hfz42_4:=blk_frozen BK364.out 4; have hcz43_0 : w41.cell? ⟨gb349,0,none⟩ = some (.string (⟨#[]⟩ : ByteArray)):=(blk_cell BK349.out 0).trans rfl; have hcz43_1 : w41.cell? ⟨gb349,1,none⟩ = some (.int .i64 0):=(blk_cell BK349.out 1).trans rfl; have hcz43_2 : w41.cell? ⟨gb349,2,none⟩ = some (.int .i64 0):=(blk_cell BK349.out 2).trans rfl; have hcz43_3 : w41.cell? ⟨gb349,3,none⟩ = some (.int .i64 0):=(blk_cell BK349.out 3).trans rfl; have hcz43_4 : w41.cell? ⟨gb349,4,none⟩ = some (.int .i64 0):=(blk_cell BK349.out 4).trans rfl; have hfz43_0:=blk_frozen BK349.out 0; have hfz43_1:=blk_frozen BK349.out 1; have hfz43_2:=blk_frozen BK349.out 2; have hfz43_3:=blk_frozen BK349.out 3; have hfz43_4:=blk_frozen BK349.out 4))
         refine bodyPost_ret (results_ct rfl _ _ gb349 27 #[.string (rdOf ByteArray.empty t350 0),.int .i64 t358,.int .i64 t366,.int .i64 t363,.int .i64 t369] (0,0) _ rfl (by (with_reducible repeat (first|refine blk_drewN ?_ _|refine blk_drew ?_|refine blk_alloc ?_ _)); refine blk_put (cs:=#[.string (rdOf ByteArray.empty t350 0),.int .i64 t358,.int .i64 t366,.int .i64 t363,.int .i64 0]) ?_ 4 _ rfl; (with_reducible repeat (first|refine blk_drewN ?_ _|refine blk_drew ?_|refine blk_alloc ?_ _)); refine blk_put (cs:=#[.string (rdOf ByteArray.empty t350 0),.int .i64 t358,.int .i64 t366,.int .i64 0,.int .i64 0]) ?_ 3 _ rfl; (with_reducible repeat (first|refine blk_drewN ?_ _|refine blk_drew ?_|refine blk_alloc ?_ _)); refine blk_put (cs:=#[.string (rdOf ByteArray.empty t350 0),.int .i64 t358,.int .i64 0,.int .i64 0,.int .i64 0]) ?_ 2 _ rfl; (with_reducible repeat (first|refine blk_drewN ?_ _|refine blk_drew ?_|refine blk_alloc ?_ _)); refine blk_put (cs:=#[.string (rdOf ByteArray.empty t350 0),.int .i64 0,.int .i64 0,.int .i64 0,.int .i64 0]) ?_ 1 _ rfl; (with_reducible repeat (first|refine blk_drewN ?_ _|refine blk_drew ?_|refine blk_alloc ?_ _)); refine blk_put (cs:=#[.string (⟨#[]⟩ : ByteArray),.int .i64 0,.int .i64 0,.int .i64 0,.int .i64 0]) ?_ 0 _ rfl; (with_reducible repeat (first|refine blk_drewN ?_ _|refine blk_drew ?_|refine blk_alloc ?_ _)); exact BK349.out) Tryd.underlying27 rfl (by kernel_rfl)) rfl ?_
         exact ⟨by first|rfl|(simp [errW_none,errW_some] <;> rfl)|(simp [*,errW_none,errW_some] <;> rfl),by repeat (first|(with_reducible first|exact HB.out|apply below_alloc|apply pw_below_drewN|apply below_drew1|refine below_set ?_ GE349.out|refine below_set ?_ GE364.out)|exact HB.out)⟩
        ·rw [if_neg c18] at H
         have c18b0 : (t372.toList == a0.toList) = false:=beq_eq_false_iff_ne.mpr c18
         have c18b1 : (t372.toList != a0.toList) = true:=bne_iff_ne.mpr c18
         simp only [Option.some.injEq,Prod.mk.injEq] at H
         obtain ⟨rfl,rfl,rfl,rfl,rfl,rfl⟩:=H
         have hfs54:=blk_frozen BK364.out 0
         have hns54_0:=NB349_364.out
         have hms54_0:=NB364_349.out
         have hs30 : w28.cell? ⟨gb364,1,none⟩ = some (.int .i64 0):=(blk_cell BK364.out 1).trans rfl
         have hfs55:=blk_frozen BK364.out 1
         have hns55_0:=NB349_364.out
         have hms55_0:=NB364_349.out
         have hs31 : w28.cell? ⟨gb364,2,none⟩ = some (.int .i64 0):=(blk_cell BK364.out 2).trans rfl
         have hfs56:=blk_frozen BK364.out 2
         have hns56_0:=NB349_364.out
         have hms56_0:=NB364_349.out
         have hs32 : w28.cell? ⟨gb364,3,none⟩ = some (.int .i64 0):=(blk_cell BK364.out 3).trans rfl
         have hfs57:=blk_frozen BK364.out 3
         have hns57_0:=NB349_364.out
         have hms57_0:=NB364_349.out
         have hs33 : w28.cell? ⟨gb364,4,none⟩ = some (.int .i64 0):=(blk_cell BK364.out 4).trans rfl
         have hfs58:=blk_frozen BK364.out 4
         have hns58_0:=NB349_364.out
         have hms58_0:=NB364_349.out
         refine skip_ (w1:=?_) (by rfl) rfl ?_ ?_
         rotate_left
         ·go_simp
          rfl
         have hne0_:=Kd.own_blk (Kd.R_ne HO352.out BK364.out (by decide))
         refine hK.out _ _ ⟨?_,?_,?_⟩ (fun hHeld => ?_)
         ·(iterate 5 (refine (cell_far ?hh_ _).trans ?_; (case hh_ => exact hne0_))); exact hHeld.1
         ·(iterate 5 (refine (cell_far ?hh_ _).trans ?_; (case hh_ => exact hne0_))); exact hHeld.2.1
         ·(iterate 5 (refine (cell_far ?hh_ _).trans ?_; (case hh_ => exact hne0_))); exact hHeld.2.2
         clear hK K
         refine done_ (done_of HT_.out (by kernel_rfl)) ?_
         have p365 : 0 ≤ (2 : Int):=(by omega)
         have q365 : 2 < (t350.length : Int):=of_decide_eq_true (by first|(with_reducible assumption)|assumption)
         obtain ⟨ad365,e365,hx365_0⟩:=Kd.at_string (Kd.R_reads' HO352.out).2.2 2 p365 q365
         obtain rfl : ad353 = ad365:=(by injection e365)
         (try simp only [show (2 : Int).toNat = 2 from rfl,Nat.reduceMul,Nat.reduceEqDiff,Go.Addr.add,↓reduceIte] at hx365_0)
         have qi365 : (2 < t350.length) = True:=eq_true (by omega)
         (try rw [show ((2 : Int)).toNat = 2 from rfl] at hx365_0)
         have hn365_0 : ad353.block ≠ gb364:=Kd.own_blk (Kd.R_ne HO352.out BK364.out (by decide))
         have hn365_1 : ad353.block ≠ gb364:=Kd.own_blk (Kd.R_ne HO352.out BK364.out (by decide))
         have hn365_2 : ad353.block ≠ gb364:=Kd.own_blk (Kd.R_ne HO352.out BK364.out (by decide))
         have hn365_3 : ad353.block ≠ gb364:=Kd.own_blk (Kd.R_ne HO352.out BK364.out (by decide))
         have hn365_4 : ad353.block ≠ gb364:=Kd.own_blk (Kd.R_ne HO352.out BK364.out (by decide))
         replace hx365_0:=(cell_far (p:=⟨gb364,0,none⟩) (by first|(rw [add_block]; exact hn365_0)|(show (Addr.add _ _).block ≠ _; rw [add_block]; exact hn365_0)|exact hn365_0) (.string (rdOf ByteArray.empty t350 0))).trans hx365_0
         replace hx365_0:=(cell_far (p:=⟨gb364,1,none⟩) (by first|(rw [add_block]; exact hn365_1)|(show (Addr.add _ _).block ≠ _; rw [add_block]; exact hn365_1)|exact hn365_1) (.int .i64 t358)).trans hx365_0
         replace hx365_0:=(cell_far (p:=⟨gb364,2,none⟩) (by first|(rw [add_block]; exact hn365_2)|(show (Addr.add _ _).block ≠ _; rw [add_block]; exact hn365_2)|exact hn365_2) (.int .i64 0)).trans hx365_0
         replace hx365_0:=(cell_far (p:=⟨gb364,3,none⟩) (by first|(rw [add_block]; exact hn365_3)|(show (Addr.add _ _).block ≠ _; rw [add_block]; exact hn365_3)|exact hn365_3) (.int .i64 t363)).trans hx365_0
         replace hx365_0:=(cell_far (p:=⟨gb364,4,none⟩) (by first|(rw [add_block]; exact hn365_4)|(show (Addr.add _ _).block ≠ _; rw [add_block]; exact hn365_4)|exact hn365_4) (.int .i64 0)).trans hx365_0
         clear hn365_0
         clear hn365_1
         clear hn365_2
         clear hn365_3
         clear hn365_4
         replace p365:=eq_true p365
         replace q365:=eq_true q365
         try go_wp2_with (first|((with_reducible refine gate_callee (f:=54) rfl ?_); refine goesL_ (some 30) rfl rfl Tryd.func54 (by kernel_rfl) rfl #[.string (rdOf ByteArray.empty t350 2)] rfl (by (try simp only [List.map_toArray,List.map_cons,List.map_nil]); first|done|rfl|(simp only [List.length_drop,List.length_take]; rfl)) ?_; (with_reducible refine (impl_ParseInt.calls (rdOf ByteArray.empty t350 2) t366 t367 _ ?sideL A12.out).mono ?_); (case sideL => refine LaidA.to_LaidE ?_; first|(with_reducible exact HL.out)|(with_reducible exact LaidA.below HL.out HB.out)|(exact LaidA.below HL.out (by repeat (first|(with_reducible first|exact HB.out|apply below_alloc|apply pw_below_drewN|apply below_drew1|refine below_set ?_ GE349.out|refine below_set ?_ GE364.out)|exact HB.out)))|(repeat (first|exact HL.out|exact LaidA.below HL.out HB.out|(with_reducible refine LaidA.alloc ?_ _)|(with_reducible refine LaidA.drewN ?_ _)|(with_reducible refine LaidA.drew ?_)))); rintro e w34 ⟨rfl,hb⟩; refine ⟨_,rfl,?_⟩; have n0_:=Aside0.mk (Kd.R_below (by (with_reducible repeat (first|apply Kd.R_alloc|apply Kd.R_drewN|apply Kd.R_drew)); exact (Kd.R_mono (Kd.R_far (p:=⟨gb364,4,none⟩) (Kd.R_far (p:=⟨gb364,3,none⟩) (Kd.R_far (p:=⟨gb364,2,none⟩) (Kd.R_far (p:=⟨gb364,1,none⟩) (Kd.R_far (p:=⟨gb364,0,none⟩) (Kd.R_types HO352.out BK364.out (by decide)) (fun _ hk => hk.2) (.string (rdOf ByteArray.empty t350 0))) (fun _ hk => hk.2) (.int .i64 t358)) (fun _ hk => hk.2) (.int .i64 0)) (fun _ hk => hk.2) (.int .i64 t363)) (fun _ hk => hk.2) (.int .i64 0)) (fun _ h_ => h_.1))) hb); have n1_:=Aside0.mk (Kd.R_below (by (with_reducible repeat (first|apply Kd.R_alloc|apply Kd.R_drewN|apply Kd.R_drew)); exact (Kd.R_mono (Kd.R_far (p:=⟨gb364,4,none⟩) (Kd.R_far (p:=⟨gb364,3,none⟩) (Kd.R_far (p:=⟨gb364,2,none⟩) (Kd.R_far (p:=⟨gb364,1,none⟩) (Kd.R_far (p:=⟨gb364,0,none⟩) (Kd.R_types HO356.out BK364.out (by decide)) (fun _ hk => hk.2) (.string (rdOf ByteArray.empty t350 0))) (fun _ hk => hk.2) (.int .i64 t358)) (fun _ hk => hk.2) (.int .i64 0)) (fun _ hk => hk.2) (.int .i64 t363)) (fun _ hk => hk.2) (.int .i64 0)) (fun _ h_ => h_.1))) hb); have n2_:=Aside0.mk (Kd.R_below (by (with_reducible repeat (first|apply Kd.R_alloc|apply Kd.R_drewN|apply Kd.R_drew)); exact (Kd.R_mono (Kd.R_far (p:=⟨gb364,4,none⟩) (Kd.R_far (p:=⟨gb364,3,none⟩) (Kd.R_far (p:=⟨gb364,2,none⟩) (Kd.R_far (p:=⟨gb364,1,none⟩) (Kd.R_far (p:=⟨gb364,0,none⟩) (Kd.R_types HO361.out BK364.out (by decide)) (fun _ hk => hk.2) (.string (rdOf ByteArray.empty t350 0))) (fun _ hk => hk.2) (.int .i64 t358)) (fun _ hk => hk.2) (.int .i64 0)) (fun _ hk => hk.2) (.int .i64 t363)) (fun _ hk => hk.2) (.int .i64 0)) (fun _ h_ => h_.1))) hb); have n3_:=Aside0.mk (blk_below (g:=gb349) (o:=.cells #[.string (⟨#[]⟩ : ByteArray),.int .i64 0,.int .i64 0,.int .i64 0,.int .i64 0] 27 (0,0)) (by (with_reducible repeat (first|refine blk_drewN ?_ _|refine blk_drew ?_|refine blk_alloc ?_ _)); refine blk_far ?_ NB349_364.out _; (with_reducible repeat (first|refine blk_drewN ?_ _|refine blk_drew ?_|refine blk_alloc ?_ _)); refine blk_far ?_ NB349_364.out _; (with_reducible repeat (first|refine blk_drewN ?_ _|refine blk_drew ?_|refine blk_alloc ?_ _)); refine blk_far ?_ NB349_364.out _; (with_reducible repeat (first|refine blk_drewN ?_ _|refine blk_drew ?_|refine blk_alloc ?_ _)); refine blk_far ?_ NB349_364.out _; (with_reducible repeat (first|refine blk_drewN ?_ _|refine blk_drew ?_|refine blk_alloc ?_ _)); refine blk_far ?_ NB349_364.out _; (with_reducible repeat (first|refine blk_drewN ?_ _|refine blk_drew ?_|refine blk_alloc ?_ _)); exact BK349.out) hb); have n4_:=Aside0.mk (blk_below (g:=gb364) (o:=.cells #[.string (rdOf ByteArray.empty t350 0),.int .i64 t358,.int .i64 0,.int .i64 t363,.int .i64 0] 27 (0,0)) (by (with_reducible repeat (first|refine blk_drewN ?_ _|refine blk_drew ?_|refine blk_alloc ?_ _)); refine blk_put (cs:=#[.string (rdOf ByteArray.empty t350 0),.int .i64 t358,.int .i64 0,.int .i64 t363,.int .i64 0]) ?_ 4 _ rfl; (with_reducible repeat (first|refine blk_drewN ?_ _|refine blk_drew ?_|refine blk_alloc ?_ _)); refine blk_put (cs:=#[.string (rdOf ByteArray.empty t350 0),.int .i64 t358,.int .i64 0,.int .i64 0,.int .i64 0]) ?_ 3 _ rfl; (with_reducible repeat (first|refine blk_drewN ?_ _|refine blk_drew ?_|refine blk_alloc ?_ _)); refine blk_put (cs:=#[.string (rdOf ByteArray.empty t350 0),.int .i64 t358,.int .i64 0,.int .i64 0,.int .i64 0]) ?_ 2 _ rfl; (with_reducible repeat (first|refine blk_drewN ?_ _|refine blk_drew ?_|refine blk_alloc ?_ _)); refine blk_put (cs:=#[.string (rdOf ByteArray.empty t350 0),.int .i64 0,.int .i64 0,.int .i64 0,.int .i64 0]) ?_ 1 _ rfl; (with_reducible repeat (first|refine blk_drewN ?_ _|refine blk_drew ?_|refine blk_alloc ?_ _)); refine blk_put (cs:=#[.string (⟨#[]⟩ : ByteArray),.int .i64 0,.int .i64 0,.int .i64 0,.int .i64 0]) ?_ 0 _ rfl; (with_reducible repeat (first|refine blk_drewN ?_ _|refine blk_drew ?_|refine blk_alloc ?_ _)); exact BK364.out) hb); have n5_:=Aside0.mk (below_step (by repeat (first|(with_reducible first|exact HB.out|apply below_alloc|apply pw_below_drewN|apply below_drew1|refine below_set ?_ GE349.out|refine below_set ?_ GE364.out)|exact HB.out)) hb); clear HO352; clear HO356; clear HO361; clear BK349; clear BK364; clear HB; have HO352:=n0_; have HO356:=n1_; have HO361:=n2_; have BK349:=n3_; have BK364:=n4_; have HB:=n5_; clear n0_ n1_ n2_ n3_ n4_ n5_; (try clear hb); (try clear hb2); (try clear hk); (try clear hi); have hnb60:=NB364_349.out; have hnc60:=NB349_364.out; have hcz61_0 : w34.cell? ⟨gb364,0,none⟩ = some (.string (rdOf ByteArray.empty t350 0)):=(blk_cell BK364.out 0).trans rfl; have hcz61_1 : w34.cell? ⟨gb364,1,none⟩ = some (.int .i64 t358):=(blk_cell BK364.out 1).trans rfl; have hcz61_2 : w34.cell? ⟨gb364,2,none⟩ = some (.int .i64 0):=(blk_cell BK364.out 2).trans rfl; have hcz61_3 : w34.cell? ⟨gb364,3,none⟩ = some (.int .i64 t363):=(blk_cell BK364.out 3).trans rfl; have hcz61_4 : w34.cell? ⟨gb364,4,none⟩ = some (.int .i64 0):=(blk_cell BK364.out 4).trans rfl; have hfz61_0:=blk_frozen BK364.out 0; have hfz61_1:=blk_frozen BK364.out 1; have hfz61_2:=blk_frozen BK364.out 2; have hfz61_3:=blk_frozen BK364.out 3; have hfz61_4:=blk_frozen BK364.out 4; have p368 : 0 ≤ (4 : Int):=(by omega); have q368 : 4 < (t350.length : Int):=of_decide_eq_true (by first|(with_reducible assumption)|assumption); obtain ⟨ad368,e368,hx368_0⟩:=Kd.at_string (Kd.R_reads' HO352.out).2.2 4 p368 q368; obtain rfl : ad353 = ad368:=(by injection e368); (try simp only [show (4 : Int).toNat = 4 from rfl,Nat.reduceMul,Nat.reduceEqDiff,Go.Addr.add,↓reduceIte] at hx368_0); have qi368 : (4 < t350.length) = True:=eq_true (by omega); (try rw [show ((4 : Int)).toNat = 4 from rfl] at hx368_0); have hn368_0 : ad353.block ≠ gb364:=Kd.own_blk (Kd.R_ne HO352.out BK364.out (by decide)); replace hx368_0:=(cell_far (p:=⟨gb364,2,none⟩) (by first|(rw [add_block]; exact hn368_0)|(show (Addr.add _ _).block ≠ _; rw [add_block]; exact hn368_0)|exact hn368_0) (.int .i64 t366)).trans hx368_0; clear hn368_0; replace p368:=eq_true p368; replace q368:=eq_true q368)|((with_reducible refine gate_callee (f:=54) rfl ?_); refine goesL_ (some 38) rfl rfl Tryd.func54 (by kernel_rfl) rfl #[.string (rdOf ByteArray.empty t350 4)] rfl (by (try simp only [List.map_toArray,List.map_cons,List.map_nil]); first|done|rfl|(simp only [List.length_drop,List.length_take]; rfl)) ?_; (with_reducible refine (impl_ParseInt.calls (rdOf ByteArray.empty t350 4) t369 t370 _ ?sideL A14.out).mono ?_); (case sideL => refine LaidA.to_LaidE ?_; first|(with_reducible exact HL.out)|(with_reducible exact LaidA.below HL.out HB.out)|(exact LaidA.below HL.out (by repeat (first|(with_reducible first|exact HB.out|apply below_alloc|apply pw_below_drewN|apply below_drew1|refine below_set ?_ GE349.out|refine below_set ?_ GE364.out)|exact HB.out)))|(repeat (first|exact HL.out|exact LaidA.below HL.out HB.out|(with_reducible refine LaidA.alloc ?_ _)|(with_reducible refine LaidA.drewN ?_ _)|(with_reducible refine LaidA.drew ?_)))); rintro e w37 ⟨rfl,hb⟩; refine ⟨_,rfl,?_⟩; have n0_:=Aside0.mk (Kd.R_below (by (with_reducible repeat (first|apply Kd.R_alloc|apply Kd.R_drewN|apply Kd.R_drew)); exact (Kd.R_mono (Kd.R_far (p:=⟨gb364,2,none⟩) (Kd.R_types HO352.out BK364.out (by decide)) (fun _ hk => hk.2) (.int .i64 t366)) (fun _ h_ => h_.1))) hb); have n1_:=Aside0.mk (Kd.R_below (by (with_reducible repeat (first|apply Kd.R_alloc|apply Kd.R_drewN|apply Kd.R_drew)); exact (Kd.R_mono (Kd.R_far (p:=⟨gb364,2,none⟩) (Kd.R_types HO356.out BK364.out (by decide)) (fun _ hk => hk.2) (.int .i64 t366)) (fun _ h_ => h_.1))) hb); have n2_:=Aside0.mk (Kd.R_below (by (with_reducible repeat (first|apply Kd.R_alloc|apply Kd.R_drewN|apply Kd.R_drew)); exact (Kd.R_mono (Kd.R_far (p:=⟨gb364,2,none⟩) (Kd.R_types HO361.out BK364.out (by decide)) (fun _ hk => hk.2) (.int .i64 t366)) (fun _ h_ => h_.1))) hb); have n3_:=Aside0.mk (blk_below (g:=gb349) (o:=.cells #[.string (⟨#[]⟩ : ByteArray),.int .i64 0,.int .i64 0,.int .i64 0,.int .i64 0] 27 (0,0)) (by (with_reducible repeat (first|refine blk_drewN ?_ _|refine blk_drew ?_|refine blk_alloc ?_ _)); refine blk_far ?_ NB349_364.out _; (with_reducible repeat (first|refine blk_drewN ?_ _|refine blk_drew ?_|refine blk_alloc ?_ _)); exact BK349.out) hb); have n4_:=Aside0.mk (blk_below (g:=gb364) (o:=.cells #[.string (rdOf ByteArray.empty t350 0),.int .i64 t358,.int .i64 t366,.int .i64 t363,.int .i64 0] 27 (0,0)) (by (with_reducible repeat (first|refine blk_drewN ?_ _|refine blk_drew ?_|refine blk_alloc ?_ _)); refine blk_put (cs:=#[.string (rdOf ByteArray.empty t350 0),.int .i64 t358,.int .i64 0,.int .i64 t363,.int .i64 0]) ?_ 2 _ rfl; (with_reducible repeat (first|refine blk_drewN ?_ _|refine blk_drew ?_|refine blk_alloc ?_ _)); exact BK364.out) hb); have n5_:=Aside0.mk (below_step (by repeat (first|(with_reducible first|exact HB.out|apply below_alloc|apply pw_below_drewN|apply below_drew1|refine below_set ?_ GE349.out|refine below_set ?_ GE364.out)|exact HB.out)) hb); clear HO352; clear HO356; clear HO361; clear BK349; clear BK364; clear HB; have HO352:=n0_; have HO356:=n1_; have HO361:=n2_; have BK349:=n3_; have BK364:=n4_; have HB:=n5_; clear n0_ n1_ n2_ n3_ n4_ n5_; (try clear hb); (try clear hb2); (try clear hk); (try clear hi); have hcz63_0 : w37.cell? ⟨gb364,0,none⟩ = some (.string (rdOf ByteArray.empty t350 0)):=(blk_cell BK364.out 0).trans rfl; have hcz63_1 : w37.cell? ⟨gb364,1,none⟩ = some (.int .i64 t358):=(blk_cell BK364.out 1).trans rfl; have hcz63_2 : w37.cell? ⟨gb364,2,none⟩ = some (.int .i64 t366):=(blk_cell BK364.out 2).trans rfl; have hcz63_3 : w37.cell? ⟨gb364,3,none⟩ = some (.int .i64 t363):=(blk_cell BK364.out 3).trans rfl; have hcz63_4 : w37.cell? ⟨gb364,4,none⟩ = some (.int .i64 0):=(blk_cell BK364.out 4).trans rfl; have hfz63_0:=blk_frozen BK364.out 0; have hfz63_1:=blk_frozen BK364.out 1; have hfz63_2:=blk_frozen BK364.out 2; have hfz63_3:=blk_frozen BK364.out 3; have hfz63_4:=blk_frozen BK364.out 4)|((with_reducible refine gate_callee (f:=36) rfl ?_); refine goesL_ (some 43) rfl rfl Tryd.func36 (by kernel_rfl) rfl #[.agg #[.string (rdOf ByteArray.empty t350 0),.int .i64 t358,.int .i64 t366,.int .i64 t363,.int .i64 t369]] rfl (by (try simp only [List.map_toArray,List.map_cons,List.map_nil]); first|done|rfl|(simp only [List.length_drop,List.length_take]; rfl)) ?_; (with_reducible refine (impl_IsValidContainer.calls k (rdOf ByteArray.empty t350 0) t358 t366 t363 t369 true _ A15.out).mono ?_); rintro e w39 ⟨rfl,hb⟩; refine ⟨_,rfl,?_⟩; have n0_:=Aside0.mk (Kd.R_below (by (with_reducible repeat (first|apply Kd.R_alloc|apply Kd.R_drewN|apply Kd.R_drew)); exact (Kd.R_mono (Kd.R_far (p:=⟨gb364,4,none⟩) (Kd.R_types HO352.out BK364.out (by decide)) (fun _ hk => hk.2) (.int .i64 t369)) (fun _ h_ => h_.1))) hb); have n1_:=Aside0.mk (Kd.R_below (by (with_reducible repeat (first|apply Kd.R_alloc|apply Kd.R_drewN|apply Kd.R_drew)); exact (Kd.R_mono (Kd.R_far (p:=⟨gb364,4,none⟩) (Kd.R_types HO356.out BK364.out (by decide)) (fun _ hk => hk.2) (.int .i64 t369)) (fun _ h_ => h_.1))) hb); have n2_:=Aside0.mk (Kd.R_below (by (with_reducible repeat (first|apply Kd.R_alloc|apply Kd.R_drewN|apply Kd.R_drew)); exact (Kd.R_mono (Kd.R_far (p:=⟨gb364,4,none⟩) (Kd.R_types HO361.out BK364.out (by decide)) (fun _ hk => hk.2) (.int .i64 t369)) (fun _ h_ => h_.1))) hb); have n3_:=Aside0.mk (blk_below (g:=gb349) (o:=.cells #[.string (⟨#[]⟩ : ByteArray),.int .i64 0,.int .i64 0,.int .i64 0,.int .i64 0] 27 (0,0)) (by (with_reducible repeat (first|refine blk_drewN ?_ _|refine blk_drew ?_|refine blk_alloc ?_ _)); refine blk_far ?_ NB349_364.out _; (with_reducible repeat (first|refine blk_drewN ?_ _|refine blk_drew ?_|refine blk_alloc ?_ _)); exact BK349.out) hb); have n4_:=Aside0.mk (blk_below (g:=gb364) (o:=.cells #[.string (rdOf ByteArray.empty t350 0),.int .i64 t358,.int .i64 t366,.int .i64 t363,.int .i64 t369] 27 (0,0)) (by (with_reducible repeat (first|refine blk_drewN ?_ _|refine blk_drew ?_|refine blk_alloc ?_ _)); refine blk_put (cs:=#[.string (rdOf ByteArray.empty t350 0),.int .i64 t358,.int .i64 t366,.int .i64 t363,.int .i64 0]) ?_ 4 _ rfl; (with_reducible repeat (first|refine blk_drewN ?_ _|refine blk_drew ?_|refine blk_alloc ?_ _)); exact BK364.out) hb); have n5_:=Aside0.mk (below_step (by repeat (first|(with_reducible first|exact HB.out|apply below_alloc|apply pw_below_drewN|apply below_drew1|refine below_set ?_ GE349.out|refine below_set ?_ GE364.out)|exact HB.out)) hb); clear HO352; clear HO356; clear HO361; clear BK349; clear BK364; clear HB; have HO352:=n0_; have HO356:=n1_; have HO361:=n2_; have BK349:=n3_; have BK364:=n4_; have HB:=n5_; clear n0_ n1_ n2_ n3_ n4_ n5_; (try clear hb); (try clear hb2); (try clear hk); (try clear hi); have hcz65_0 : w39.cell? ⟨gb364,0,none⟩ = some (.string (rdOf ByteArray.empty t350 0)):=(blk_cell BK364.out 0).trans rfl; have hcz65_1 : w39.cell? ⟨gb364,1,none⟩ = some (.int .i64 t358):=(blk_cell BK364.out 1).trans rfl; have hcz65_2 : w39.cell? ⟨gb364,2,none⟩ = some (.int .i64 t366):=(blk_cell BK364.out 2).trans rfl; have hcz65_3 : w39.cell? ⟨gb364,3,none⟩ = some (.int .i64 t363):=(blk_cell BK364.out 3).trans rfl; have hcz65_4 : w39.cell? ⟨gb364,4,none⟩ = some (.int .i64 t369):=(blk_cell BK364.out 4).trans rfl; have hfz65_0:=blk_frozen BK364.out 0; have hfz65_1:=blk_frozen BK364.out 1; have hfz65_2:=blk_frozen BK364.out 2; have hfz65_3:=blk_frozen BK364.out 3; have hfz65_4:=blk_frozen BK364.out 4)|(go_at_call 37; (with_reducible refine (impl_containerText.calls (rdOf ByteArray.empty t350 0) t358 t366 t363 t369 t372 _ ?sideL A17.out).mono ?_); (case sideL => refine LaidA.to_Laid ?_; first|(with_reducible exact HL.out)|(with_reducible exact LaidA.below HL.out HB.out)|(exact LaidA.below HL.out (by repeat (first|(with_reducible first|exact HB.out|apply below_alloc|apply pw_below_drewN|apply below_drew1|refine below_set ?_ GE349.out|refine below_set ?_ GE364.out)|exact HB.out)))|(repeat (first|exact HL.out|exact LaidA.below HL.out HB.out|(with_reducible refine LaidA.alloc ?_ _)|(with_reducible refine LaidA.drewN ?_ _)|(with_reducible refine LaidA.drew ?_)))); rintro e w41 ⟨rfl,hb⟩; have n0_:=Aside0.mk (Kd.R_below (by (with_reducible repeat (first|apply Kd.R_alloc|apply Kd.R_drewN|apply Kd.R_drew)); exact HO352.out) hb); have n1_:=Aside0.mk (Kd.R_below (by (with_reducible repeat (first|apply Kd.R_alloc|apply Kd.R_drewN|apply Kd.R_drew)); exact HO356.out) hb); have n2_:=Aside0.mk (Kd.R_below (by (with_reducible repeat (first|apply Kd.R_alloc|apply Kd.R_drewN|apply Kd.R_drew)); exact HO361.out) hb); have n3_:=Aside0.mk (blk_below (g:=gb349) (o:=.cells #[.string (⟨#[]⟩ : ByteArray),.int .i64 0,.int .i64 0,.int .i64 0,.int .i64 0] 27 (0,0)) (by (with_reducible repeat (first|refine blk_drewN ?_ _|refine blk_drew ?_|refine blk_alloc ?_ _)); exact BK349.out) hb); have n4_:=Aside0.mk (blk_below (g:=gb364) (o:=.cells #[.string (rdOf ByteArray.empty t350 0),.int .i64 t358,.int .i64 t366,.int .i64 t363,.int .i64 t369] 27 (0,0)) (by (with_reducible repeat (first|refine blk_drewN ?_ _|refine blk_drew ?_|refine blk_alloc ?_ _)); exact BK364.out) hb); have n5_:=Aside0.mk (below_step (by repeat (first|(with_reducible first|exact HB.out|apply below_alloc|apply pw_below_drewN|apply below_drew1|refine below_set ?_ GE349.out|refine below_set ?_ GE364.out)|exact HB.out)) hb); clear HO352; clear HO356; clear HO361; clear BK349; clear BK364; clear HB; have HO352:=n0_; have HO356:=n1_; have HO361:=n2_; have BK349:=n3_; have BK364:=n4_; have HB:=n5_; clear n0_ n1_ n2_ n3_ n4_ n5_; (try clear hb); (try clear hb2); (try clear hk); (try clear hi); have hcz67_0 : w41.cell? ⟨gb349,0,none⟩ = some (.string (⟨#[]⟩ : ByteArray)):=(blk_cell BK349.out 0).trans rfl; have hcz67_1 : w41.cell? ⟨gb349,1,none⟩ = some (.int .i64 0):=(blk_cell BK349.out 1).trans rfl; have hcz67_2 : w41.cell? ⟨gb349,2,none⟩ = some (.int .i64 0):=(blk_cell BK349.out 2).trans rfl; have hcz67_3 : w41.cell? ⟨gb349,3,none⟩ = some (.int .i64 0):=(blk_cell BK349.out 3).trans rfl; have hcz67_4 : w41.cell? ⟨gb349,4,none⟩ = some (.int .i64 0):=(blk_cell BK349.out 4).trans rfl; have hfz67_0:=blk_frozen BK349.out 0; have hfz67_1:=blk_frozen BK349.out 1; have hfz67_2:=blk_frozen BK349.out 2; have hfz67_3:=blk_frozen BK349.out 3; have hfz67_4:=blk_frozen BK349.out 4))
         refine bodyPost_ret (results_ct rfl _ _ gb349 27 #[.string (⟨#[]⟩ : ByteArray),.int .i64 0,.int .i64 0,.int .i64 0,.int .i64 0] (0,0) _ rfl (by (with_reducible repeat (first|refine blk_drewN ?_ _|refine blk_drew ?_|refine blk_alloc ?_ _)); refine blk_put (cs:=#[.string (⟨#[]⟩ : ByteArray),.int .i64 0,.int .i64 0,.int .i64 0,.int .i64 0]) ?_ 4 _ rfl; (with_reducible repeat (first|refine blk_drewN ?_ _|refine blk_drew ?_|refine blk_alloc ?_ _)); refine blk_put (cs:=#[.string (⟨#[]⟩ : ByteArray),.int .i64 0,.int .i64 0,.int .i64 0,.int .i64 0]) ?_ 3 _ rfl; (with_reducible repeat (first|refine blk_drewN ?_ _|refine blk_drew ?_|refine blk_alloc ?_ _)); refine blk_put (cs:=#[.string (⟨#[]⟩ : ByteArray),.int .i64 0,.int .i64 0,.int .i64 0,.int .i64 0]) ?_ 2 _ rfl; (with_reducible repeat (first|refine blk_drewN ?_ _|refine blk_drew ?_|refine blk_alloc ?_ _)); refine blk_put (cs:=#[.string (⟨#[]⟩ : ByteArray),.int .i64 0,.int .i64 0,.int .i64 0,.int .i64 0]) ?_ 1 _ rfl; (with_reducible repeat (first|refine blk_drewN ?_ _|refine blk_drew ?_|refine blk_alloc ?_ _)); refine blk_put (cs:=#[.string (⟨#[]⟩ : ByteArray),.int .i64 0,.int .i64 0,.int .i64 0,.int .i64 0]) ?_ 0 _ rfl; (with_reducible repeat (first|refine blk_drewN ?_ _|refine blk_drew ?_|refine blk_alloc ?_ _)); exact BK349.out) Tryd.underlying27 rfl (by kernel_rfl)) rfl ?_
         exact ⟨by first|rfl|(simp [errW_none,errW_some] <;> rfl)|(simp [*,errW_none,errW_some] <;> rfl),by repeat (first|(with_reducible first|exact HB.out|apply below_alloc|apply pw_below_drewN|apply below_drew1|refine below_set ?_ GE349.out|refine below_set ?_ GE364.out)|exact HB.out)⟩
       ·replace c16:=Bool.eq_false_iff.mpr c16
        subst c16
        have H1 : (some ((⟨#[]⟩ : ByteArray),0,0,0,0,false)) = some (r1,r2,r3,r4,r5,r6):=by rw [if_neg (show ¬ (false = true) by decide)] at H; exact H
        clear H
        have H:=H1
        clear H1
        simp only [Option.some.injEq,Prod.mk.injEq] at H
        obtain ⟨rfl,rfl,rfl,rfl,rfl,rfl⟩:=H
        have hfs78:=blk_frozen BK364.out 0
        have hns78_0:=NB349_364.out
        have hms78_0:=NB364_349.out
        have hs30 : w28.cell? ⟨gb364,1,none⟩ = some (.int .i64 0):=(blk_cell BK364.out 1).trans rfl
        have hfs79:=blk_frozen BK364.out 1
        have hns79_0:=NB349_364.out
        have hms79_0:=NB364_349.out
        have hs31 : w28.cell? ⟨gb364,2,none⟩ = some (.int .i64 0):=(blk_cell BK364.out 2).trans rfl
        have hfs80:=blk_frozen BK364.out 2
        have hns80_0:=NB349_364.out
        have hms80_0:=NB364_349.out
        have hs32 : w28.cell? ⟨gb364,3,none⟩ = some (.int .i64 0):=(blk_cell BK364.out 3).trans rfl
        have hfs81:=blk_frozen BK364.out 3
        have hns81_0:=NB349_364.out
        have hms81_0:=NB364_349.out
        have hs33 : w28.cell? ⟨gb364,4,none⟩ = some (.int .i64 0):=(blk_cell BK364.out 4).trans rfl
        have hfs82:=blk_frozen BK364.out 4
        have hns82_0:=NB349_364.out
        have hms82_0:=NB364_349.out
        refine skip_ (w1:=?_) (by rfl) rfl ?_ ?_
        rotate_left
        ·go_simp
         rfl
        have hne0_:=Kd.own_blk (Kd.R_ne HO352.out BK364.out (by decide))
        refine hK.out _ _ ⟨?_,?_,?_⟩ (fun hHeld => ?_)
        ·(iterate 5 (refine (cell_far ?hh_ _).trans ?_; (case hh_ => exact hne0_))); exact hHeld.1
        ·(iterate 5 (refine (cell_far ?hh_ _).trans ?_; (case hh_ => exact hne0_))); exact hHeld.2.1
        ·(iterate 5 (refine (cell_far ?hh_ _).trans ?_; (case hh_ => exact hne0_))); exact hHeld.2.2
        clear hK K
        refine done_ (done_of HT_.out (by kernel_rfl)) ?_
        have p365 : 0 ≤ (2 : Int):=(by omega)
        have q365 : 2 < (t350.length : Int):=of_decide_eq_true (by first|(with_reducible assumption)|assumption)
        obtain ⟨ad365,e365,hx365_0⟩:=Kd.at_string (Kd.R_reads' HO352.out).2.2 2 p365 q365
        obtain rfl : ad353 = ad365:=(by injection e365)
        (try simp only [show (2 : Int).toNat = 2 from rfl,Nat.reduceMul,Nat.reduceEqDiff,Go.Addr.add,↓reduceIte] at hx365_0)
        have qi365 : (2 < t350.length) = True:=eq_true (by omega)
        (try rw [show ((2 : Int)).toNat = 2 from rfl] at hx365_0)
        have hn365_0 : ad353.block ≠ gb364:=Kd.own_blk (Kd.R_ne HO352.out BK364.out (by decide))
        have hn365_1 : ad353.block ≠ gb364:=Kd.own_blk (Kd.R_ne HO352.out BK364.out (by decide))
        have hn365_2 : ad353.block ≠ gb364:=Kd.own_blk (Kd.R_ne HO352.out BK364.out (by decide))
        have hn365_3 : ad353.block ≠ gb364:=Kd.own_blk (Kd.R_ne HO352.out BK364.out (by decide))
        have hn365_4 : ad353.block ≠ gb364:=Kd.own_blk (Kd.R_ne HO352.out BK364.out (by decide))
        replace hx365_0:=(cell_far (p:=⟨gb364,0,none⟩) (by first|(rw [add_block]; exact hn365_0)|(show (Addr.add _ _).block ≠ _; rw [add_block]; exact hn365_0)|exact hn365_0) (.string (rdOf ByteArray.empty t350 0))).trans hx365_0
        replace hx365_0:=(cell_far (p:=⟨gb364,1,none⟩) (by first|(rw [add_block]; exact hn365_1)|(show (Addr.add _ _).block ≠ _; rw [add_block]; exact hn365_1)|exact hn365_1) (.int .i64 t358)).trans hx365_0
        replace hx365_0:=(cell_far (p:=⟨gb364,2,none⟩) (by first|(rw [add_block]; exact hn365_2)|(show (Addr.add _ _).block ≠ _; rw [add_block]; exact hn365_2)|exact hn365_2) (.int .i64 0)).trans hx365_0
        replace hx365_0:=(cell_far (p:=⟨gb364,3,none⟩) (by first|(rw [add_block]; exact hn365_3)|(show (Addr.add _ _).block ≠ _; rw [add_block]; exact hn365_3)|exact hn365_3) (.int .i64 t363)).trans hx365_0
        replace hx365_0:=(cell_far (p:=⟨gb364,4,none⟩) (by first|(rw [add_block]; exact hn365_4)|(show (Addr.add _ _).block ≠ _; rw [add_block]; exact hn365_4)|exact hn365_4) (.int .i64 0)).trans hx365_0
        clear hn365_0
        clear hn365_1
        clear hn365_2
        clear hn365_3
        clear hn365_4
        replace p365:=eq_true p365
        replace q365:=eq_true q365
        try go_wp2_with (first|((with_reducible refine gate_callee (f:=54) rfl ?_); refine goesL_ (some 30) rfl rfl Tryd.func54 (by kernel_rfl) rfl #[.string (rdOf ByteArray.empty t350 2)] rfl (by (try simp only [List.map_toArray,List.map_cons,List.map_nil]); first|done|rfl|(simp only [List.length_drop,List.length_take]; rfl)) ?_; (with_reducible refine (impl_ParseInt.calls (rdOf ByteArray.empty t350 2) t366 t367 _ ?sideL A12.out).mono ?_); (case sideL => refine LaidA.to_LaidE ?_; first|(with_reducible exact HL.out)|(with_reducible exact LaidA.below HL.out HB.out)|(exact LaidA.below HL.out (by repeat (first|(with_reducible first|exact HB.out|apply below_alloc|apply pw_below_drewN|apply below_drew1|refine below_set ?_ GE349.out|refine below_set ?_ GE364.out)|exact HB.out)))|(repeat (first|exact HL.out|exact LaidA.below HL.out HB.out|(with_reducible refine LaidA.alloc ?_ _)|(with_reducible refine LaidA.drewN ?_ _)|(with_reducible refine LaidA.drew ?_)))); rintro e w34 ⟨rfl,hb⟩; refine ⟨_,rfl,?_⟩; have n0_:=Aside0.mk (Kd.R_below (by (with_reducible repeat (first|apply Kd.R_alloc|apply Kd.R_drewN|apply Kd.R_drew)); exact (Kd.R_mono (Kd.R_far (p:=⟨gb364,4,none⟩) (Kd.R_far (p:=⟨gb364,3,none⟩) (Kd.R_far (p:=⟨gb364,2,none⟩) (Kd.R_far (p:=⟨gb364,1,none⟩) (Kd.R_far (p:=⟨gb364,0,none⟩) (Kd.R_types HO352.out BK364.out (by decide)) (fun _ hk => hk.2) (.string (rdOf ByteArray.empty t350 0))) (fun _ hk => hk.2) (.int .i64 t358)) (fun _ hk => hk.2) (.int .i64 0)) (fun _ hk => hk.2) (.int .i64 t363)) (fun _ hk => hk.2) (.int .i64 0)) (fun _ h_ => h_.1))) hb); have n1_:=Aside0.mk (Kd.R_below (by (with_reducible repeat (first|apply Kd.R_alloc|apply Kd.R_drewN|apply Kd.R_drew)); exact (Kd.R_mono (Kd.R_far (p:=⟨gb364,4,none⟩) (Kd.R_far (p:=⟨gb364,3,none⟩) (Kd.R_far (p:=⟨gb364,2,none⟩) (Kd.R_far (p:=⟨gb364,1,none⟩) (Kd.R_far (p:=⟨gb364,0,none⟩) (Kd.R_types HO356.out BK364.out (by decide)) (fun _ hk => hk.2) (.string (rdOf ByteArray.empty t350 0))) (fun _ hk => hk.2) (.int .i64 t358)) (fun _ hk => hk.2) (.int .i64 0)) (fun _ hk => hk.2) (.int .i64 t363)) (fun _ hk => hk.2) (.int .i64 0)) (fun _ h_ => h_.1))) hb); have n2_:=Aside0.mk (Kd.R_below (by (with_reducible repeat (first|apply Kd.R_alloc|apply Kd.R_drewN|apply Kd.R_drew)); exact (Kd.R_mono (Kd.R_far (p:=⟨gb364,4,none⟩) (Kd.R_far (p:=⟨gb364,3,none⟩) (Kd.R_far (p:=⟨gb364,2,none⟩) (Kd.R_far (p:=⟨gb364,1,none⟩) (Kd.R_far (p:=⟨gb364,0,none⟩) (Kd.R_types HO361.out BK364.out (by decide)) (fun _ hk => hk.2) (.string (rdOf ByteArray.empty t350 0))) (fun _ hk => hk.2) (.int .i64 t358)) (fun _ hk => hk.2) (.int .i64 0)) (fun _ hk => hk.2) (.int .i64 t363)) (fun _ hk => hk.2) (.int .i64 0)) (fun _ h_ => h_.1))) hb); have n3_:=Aside0.mk (blk_below (g:=gb349) (o:=.cells #[.string (⟨#[]⟩ : ByteArray),.int .i64 0,.int .i64 0,.int .i64 0,.int .i64 0] 27 (0,0)) (by (with_reducible repeat (first|refine blk_drewN ?_ _|refine blk_drew ?_|refine blk_alloc ?_ _)); refine blk_far ?_ NB349_364.out _; (with_reducible repeat (first|refine blk_drewN ?_ _|refine blk_drew ?_|refine blk_alloc ?_ _)); refine blk_far ?_ NB349_364.out _; (with_reducible repeat (first|refine blk_drewN ?_ _|refine blk_drew ?_|refine blk_alloc ?_ _)); refine blk_far ?_ NB349_364.out _; (with_reducible repeat (first|refine blk_drewN ?_ _|refine blk_drew ?_|refine blk_alloc ?_ _)); refine blk_far ?_ NB349_364.out _; (with_reducible repeat (first|refine blk_drewN ?_ _|refine blk_drew ?_|refine blk_alloc ?_ _)); refine blk_far ?_ NB349_364.out _; (with_reducible repeat (first|refine blk_drewN ?_ _|refine blk_drew ?_|refine blk_alloc ?_ _)); exact BK349.out) hb); have n4_:=Aside0.mk (blk_below (g:=gb364) (o:=.cells #[.string (rdOf ByteArray.empty t350 0),.int .i64 t358,.int .i64 0,.int .i64 t363,.int .i64 0] 27 (0,0)) (by (with_reducible repeat (first|refine blk_drewN ?_ _|refine blk_drew ?_|refine blk_alloc ?_ _)); refine blk_put (cs:=#[.string (rdOf ByteArray.empty t350 0),.int .i64 t358,.int .i64 0,.int .i64 t363,.int .i64 0]) ?_ 4 _ rfl; (with_reducible repeat (first|refine blk_drewN ?_ _|refine blk_drew ?_|refine blk_alloc ?_ _)); refine blk_put (cs:=#[.string (rdOf ByteArray.empty t350 0),.int .i64 t358,.int .i64 0,.int .i64 0,.int .i64 0]) ?_ 3 _ rfl; (with_reducible repeat (first|refine blk_drewN ?_ _|refine blk_drew ?_|refine blk_alloc ?_ _)); refine blk_put (cs:=#[.string (rdOf ByteArray.empty t350 0),.int .i64 t358,.int .i64 0,.int .i64 0,.int .i64 0]) ?_ 2 _ rfl; (with_reducible repeat (first|refine blk_drewN ?_ _|refine blk_drew ?_|refine blk_alloc ?_ _)); refine blk_put (cs:=#[.string (rdOf ByteArray.empty t350 0),.int .i64 0,.int .i64 0,.int .i64 0,.int .i64 0]) ?_ 1 _ rfl; (with_reducible repeat (first|refine blk_drewN ?_ _|refine blk_drew ?_|refine blk_alloc ?_ _)); refine blk_put (cs:=#[.string (⟨#[]⟩ : ByteArray),.int .i64 0,.int .i64 0,.int .i64 0,.int .i64 0]) ?_ 0 _ rfl; (with_reducible repeat (first|refine blk_drewN ?_ _|refine blk_drew ?_|refine blk_alloc ?_ _)); exact BK364.out) hb); have n5_:=Aside0.mk (below_step (by repeat (first|(with_reducible first|exact HB.out|apply below_alloc|apply pw_below_drewN|apply below_drew1|refine below_set ?_ GE349.out|refine below_set ?_ GE364.out)|exact HB.out)) hb); clear HO352; clear HO356; clear HO361; clear BK349; clear BK364; clear HB; have HO352:=n0_; have HO356:=n1_; have HO361:=n2_; have BK349:=n3_; have BK364:=n4_; have HB:=n5_; clear n0_ n1_ n2_ n3_ n4_ n5_; (try clear hb); (try clear hb2); (try clear hk); (try clear hi); have hnb84:=NB364_349.out; have hnc84:=NB349_364.out; have hcz85_0 : w34.cell? ⟨gb364,0,none⟩ = some (.string (rdOf ByteArray.empty t350 0)):=(blk_cell BK364.out 0).trans rfl; have hcz85_1 : w34.cell? ⟨gb364,1,none⟩ = some (.int .i64 t358):=(blk_cell BK364.out 1).trans rfl; have hcz85_2 : w34.cell? ⟨gb364,2,none⟩ = some (.int .i64 0):=(blk_cell BK364.out 2).trans rfl; have hcz85_3 : w34.cell? ⟨gb364,3,none⟩ = some (.int .i64 t363):=(blk_cell BK364.out 3).trans rfl; have hcz85_4 : w34.cell? ⟨gb364,4,none⟩ = some (.int .i64 0):=(blk_cell BK364.out 4).trans rfl; have hfz85_0:=blk_frozen BK364.out 0; have hfz85_1:=blk_frozen BK364.out 1; have hfz85_2:=blk_frozen BK364.out 2; have hfz85_3:=blk_frozen BK364.out 3; have hfz85_4:=blk_frozen BK364.out 4; have p368 : 0 ≤ (4 : Int):=(by omega); have q368 : 4 < (t350.length : Int):=of_decide_eq_true (by first|(with_reducible assumption)|assumption); obtain ⟨ad368,e368,hx368_0⟩:=Kd.at_string (Kd.R_reads' HO352.out).2.2 4 p368 q368; obtain rfl : ad353 = ad368:=(by injection e368); (try simp only [show (4 : Int).toNat = 4 from rfl,Nat.reduceMul,Nat.reduceEqDiff,Go.Addr.add,↓reduceIte] at hx368_0); have qi368 : (4 < t350.length) = True:=eq_true (by omega); (try rw [show ((4 : Int)).toNat = 4 from rfl] at hx368_0); have hn368_0 : ad353.block ≠ gb364:=Kd.own_blk (Kd.R_ne HO352.out BK364.out (by decide)); replace hx368_0:=(cell_far (p:=⟨gb364,2,none⟩) (by first|(rw [add_block]; exact hn368_0)|(show (Addr.add _ _).block ≠ _; rw [add_block]; exact hn368_0)|exact hn368_0) (.int .i64 t366)).trans hx368_0; clear hn368_0; replace p368:=eq_true p368; replace q368:=eq_true q368)|((with_reducible refine gate_callee (f:=54) rfl ?_); refine goesL_ (some 38) rfl rfl Tryd.func54 (by kernel_rfl) rfl #[.string (rdOf ByteArray.empty t350 4)] rfl (by (try simp only [List.map_toArray,List.map_cons,List.map_nil]); first|done|rfl|(simp only [List.length_drop,List.length_take]; rfl)) ?_; (with_reducible refine (impl_ParseInt.calls (rdOf ByteArray.empty t350 4) t369 t370 _ ?sideL A14.out).mono ?_); (case sideL => refine LaidA.to_LaidE ?_; first|(with_reducible exact HL.out)|(with_reducible exact LaidA.below HL.out HB.out)|(exact LaidA.below HL.out (by repeat (first|(with_reducible first|exact HB.out|apply below_alloc|apply pw_below_drewN|apply below_drew1|refine below_set ?_ GE349.out|refine below_set ?_ GE364.out)|exact HB.out)))|(repeat (first|exact HL.out|exact LaidA.below HL.out HB.out|(with_reducible refine LaidA.alloc ?_ _)|(with_reducible refine LaidA.drewN ?_ _)|(with_reducible refine LaidA.drew ?_)))); rintro e w37 ⟨rfl,hb⟩; refine ⟨_,rfl,?_⟩; have n0_:=Aside0.mk (Kd.R_below (by (with_reducible repeat (first|apply Kd.R_alloc|apply Kd.R_drewN|apply Kd.R_drew)); exact (Kd.R_mono (Kd.R_far (p:=⟨gb364,2,none⟩) (Kd.R_types HO352.out BK364.out (by decide)) (fun _ hk => hk.2) (.int .i64 t366)) (fun _ h_ => h_.1))) hb); have n1_:=Aside0.mk (Kd.R_below (by (with_reducible repeat (first|apply Kd.R_alloc|apply Kd.R_drewN|apply Kd.R_drew)); exact (Kd.R_mono (Kd.R_far (p:=⟨gb364,2,none⟩) (Kd.R_types HO356.out BK364.out (by decide)) (fun _ hk => hk.2) (.int .i64 t366)) (fun _ h_ => h_.1))) hb); have n2_:=Aside0.mk (Kd.R_below (by (with_reducible repeat (first|apply Kd.R_alloc|apply Kd.R_drewN|apply Kd.R_drew)); exact (Kd.R_mono (Kd.R_far (p:=⟨gb364,2,none⟩) (Kd.R_types HO361.out BK364.out (by decide)) (fun _ hk => hk.2) (.int .i64 t366)) (fun _ h_ => h_.1))) hb); have n3_:=Aside0.mk (blk_below (g:=gb349) (o:=.cells #[.string (⟨#[]⟩ : ByteArray),.int .i64 0,.int .i64 0,.int .i64 0,.int .i64 0] 27 (0,0)) (by (with_reducible repeat (first|refine blk_drewN ?_ _|refine blk_drew ?_|refine blk_alloc ?_ _)); refine blk_far ?_ NB349_364.out _; (with_reducible repeat (first|refine blk_drewN ?_ _|refine blk_drew ?_|refine blk_alloc ?_ _)); exact BK349.out) hb); have n4_:=Aside0.mk (blk_below (g:=gb364) (o:=.cells #[.string (rdOf ByteArray.empty t350 0),.int .i64 t358,.int .i64 t366,.int .i64 t363,.int .i64 0] 27 (0,0)) (by (with_reducible repeat (first|refine blk_drewN ?_ _|refine blk_drew ?_|refine blk_alloc ?_ _)); refine blk_put (cs:=#[.string (rdOf ByteArray.empty t350 0),.int .i64 t358,.int .i64 0,.int .i64 t363,.int .i64 0]) ?_ 2 _ rfl; (with_reducible repeat (first|refine blk_drewN ?_ _|refine blk_drew ?_|refine blk_alloc ?_ _)); exact BK364.out) hb); have n5_:=Aside0.mk (below_step (by repeat (first|(with_reducible first|exact HB.out|apply below_alloc|apply pw_below_drewN|apply below_drew1|refine below_set ?_ GE349.out|refine below_set ?_ GE364.out)|exact HB.out)) hb); clear HO352; clear HO356; clear HO361; clear BK349; clear BK364; clear HB; have HO352:=n0_; have HO356:=n1_; have HO361:=n2_; have BK349:=n3_; have BK364:=n4_; have HB:=n5_; clear n0_ n1_ n2_ n3_ n4_ n5_; (try clear hb); (try clear hb2); (try clear hk); (try clear hi); have hcz87_0 : w37.cell? ⟨gb364,0,none⟩ = some (.string (rdOf ByteArray.empty t350 0)):=(blk_cell BK364.out 0).trans rfl; have hcz87_1 : w37.cell? ⟨gb364,1,none⟩ = some (.int .i64 t358):=(blk_cell BK364.out 1).trans rfl; have hcz87_2 : w37.cell? ⟨gb364,2,none⟩ = some (.int .i64 t366):=(blk_cell BK364.out 2).trans rfl; have hcz87_3 : w37.cell? ⟨gb364,3,none⟩ = some (.int .i64 t363):=(blk_cell BK364.out 3).trans rfl; have hcz87_4 : w37.cell? ⟨gb364,4,none⟩ = some (.int .i64 0):=(blk_cell BK364.out 4).trans rfl; have hfz87_0:=blk_frozen BK364.out 0; have hfz87_1:=blk_frozen BK364.out 1; have hfz87_2:=blk_frozen BK364.out 2; have hfz87_3:=blk_frozen BK364.out 3; have hfz87_4:=blk_frozen BK364.out 4)|((with_reducible refine gate_callee (f:=36) rfl ?_); refine goesL_ (some 43) rfl rfl Tryd.func36 (by kernel_rfl) rfl #[.agg #[.string (rdOf ByteArray.empty t350 0),.int .i64 t358,.int .i64 t366,.int .i64 t363,.int .i64 t369]] rfl (by (try simp only [List.map_toArray,List.map_cons,List.map_nil]); first|done|rfl|(simp only [List.length_drop,List.length_take]; rfl)) ?_; (with_reducible refine (impl_IsValidContainer.calls k (rdOf ByteArray.empty t350 0) t358 t366 t363 t369 false _ A15.out).mono ?_); rintro e w39 ⟨rfl,hb⟩; refine ⟨_,rfl,?_⟩; have n0_:=Aside0.mk (Kd.R_below (by (with_reducible repeat (first|apply Kd.R_alloc|apply Kd.R_drewN|apply Kd.R_drew)); exact (Kd.R_mono (Kd.R_far (p:=⟨gb364,4,none⟩) (Kd.R_types HO352.out BK364.out (by decide)) (fun _ hk => hk.2) (.int .i64 t369)) (fun _ h_ => h_.1))) hb); have n1_:=Aside0.mk (Kd.R_below (by (with_reducible repeat (first|apply Kd.R_alloc|apply Kd.R_drewN|apply Kd.R_drew)); exact (Kd.R_mono (Kd.R_far (p:=⟨gb364,4,none⟩) (Kd.R_types HO356.out BK364.out (by decide)) (fun _ hk => hk.2) (.int .i64 t369)) (fun _ h_ => h_.1))) hb); have n2_:=Aside0.mk (Kd.R_below (by (with_reducible repeat (first|apply Kd.R_alloc|apply Kd.R_drewN|apply Kd.R_drew)); exact (Kd.R_mono (Kd.R_far (p:=⟨gb364,4,none⟩) (Kd.R_types HO361.out BK364.out (by decide)) (fun _ hk => hk.2) (.int .i64 t369)) (fun _ h_ => h_.1))) hb); have n3_:=Aside0.mk (blk_below (g:=gb349) (o:=.cells #[.string (⟨#[]⟩ : ByteArray),.int .i64 0,.int .i64 0,.int .i64 0,.int .i64 0] 27 (0,0)) (by (with_reducible repeat (first|refine blk_drewN ?_ _|refine blk_drew ?_|refine blk_alloc ?_ _)); refine blk_far ?_ NB349_364.out _; (with_reducible repeat (first|refine blk_drewN ?_ _|refine blk_drew ?_|refine blk_alloc ?_ _)); exact BK349.out) hb); have n4_:=Aside0.mk (blk_below (g:=gb364) (o:=.cells #[.string (rdOf ByteArray.empty t350 0),.int .i64 t358,.int .i64 t366,.int .i64 t363,.int .i64 t369] 27 (0,0)) (by (with_reducible repeat (first|refine blk_drewN ?_ _|refine blk_drew ?_|refine blk_alloc ?_ _)); refine blk_put (cs:=#[.string (rdOf ByteArray.empty t350 0),.int .i64 t358,.int .i64 t366,.int .i64 t363,.int .i64 0]) ?_ 4 _ rfl; (with_reducible repeat (first|refine blk_drewN ?_ _|refine blk_drew ?_|refine blk_alloc ?_ _)); exact BK364.out) hb); have n5_:=Aside0.mk (below_step (by repeat (first|(with_reducible first|exact HB.out|apply below_alloc|apply pw_below_drewN|apply below_drew1|refine below_set ?_ GE349.out|refine below_set ?_ GE364.out)|exact HB.out)) hb); clear HO352; clear HO356; clear HO361; clear BK349; clear BK364; clear HB; have HO352:=n0_; have HO356:=n1_; have HO361:=n2_; have BK349:=n3_; have BK364:=n4_; have HB:=n5_; clear n0_ n1_ n2_ n3_ n4_ n5_; (try clear hb); (try clear hb2); (try clear hk); (try clear hi); have hcz89_0 : w39.cell? ⟨gb349,0,none⟩ = some (.string (⟨#[]⟩ : ByteArray)):=(blk_cell BK349.out 0).trans rfl; have hcz89_1 : w39.cell? ⟨gb349,1,none⟩ = some (.int .i64 0):=(blk_cell BK349.out 1).trans rfl; have hcz89_2 : w39.cell? ⟨gb349,2,none⟩ = some (.int .i64 0):=(blk_cell BK349.out 2).trans rfl; have hcz89_3 : w39.cell? ⟨gb349,3,none⟩ = some (.int .i64 0):=(blk_cell BK349.out 3).trans rfl; have hcz89_4 : w39.cell? ⟨gb349,4,none⟩ = some (.int .i64 0):=(blk_cell BK349.out 4).trans rfl; have hfz89_0:=blk_frozen BK349.out 0; have hfz89_1:=blk_frozen BK349.out 1; have hfz89_2:=blk_frozen BK349.out 2; have hfz89_3:=blk_frozen BK349.out 3; have hfz89_4:=blk_frozen BK349.out 4))
        refine bodyPost_ret (results_ct rfl _ _ gb349 27 #[.string (⟨#[]⟩ : ByteArray),.int .i64 0,.int .i64 0,.int .i64 0,.int .i64 0] (0,0) _ rfl (by (with_reducible repeat (first|refine blk_drewN ?_ _|refine blk_drew ?_|refine blk_alloc ?_ _)); refine blk_put (cs:=#[.string (⟨#[]⟩ : ByteArray),.int .i64 0,.int .i64 0,.int .i64 0,.int .i64 0]) ?_ 4 _ rfl; (with_reducible repeat (first|refine blk_drewN ?_ _|refine blk_drew ?_|refine blk_alloc ?_ _)); refine blk_put (cs:=#[.string (⟨#[]⟩ : ByteArray),.int .i64 0,.int .i64 0,.int .i64 0,.int .i64 0]) ?_ 3 _ rfl; (with_reducible repeat (first|refine blk_drewN ?_ _|refine blk_drew ?_|refine blk_alloc ?_ _)); refine blk_put (cs:=#[.string (⟨#[]⟩ : ByteArray),.int .i64 0,.int .i64 0,.int .i64 0,.int .i64 0]) ?_ 2 _ rfl; (with_reducible repeat (first|refine blk_drewN ?_ _|refine blk_drew ?_|refine blk_alloc ?_ _)); refine blk_put (cs:=#[.string (⟨#[]⟩ : ByteArray),.int .i64 0,.int .i64 0,.int .i64 0,.int .i64 0]) ?_ 1 _ rfl; (with_reducible repeat (first|refine blk_drewN ?_ _|refine blk_drew ?_|refine blk_alloc ?_ _)); refine blk_put (cs:=#[.string (⟨#[]⟩ : ByteArray),.int .i64 0,.int .i64 0,.int .i64 0,.int .i64 0]) ?_ 0 _ rfl; (with_reducible repeat (first|refine blk_drewN ?_ _|refine blk_drew ?_|refine blk_alloc ?_ _)); exact BK349.out) Tryd.underlying27 rfl (by kernel_rfl)) rfl ?_
        exact ⟨by first|rfl|(simp [errW_none,errW_some] <;> rfl)|(simp [*,errW_none,errW_some] <;> rfl),by repeat (first|(with_reducible first|exact HB.out|apply below_alloc|apply pw_below_drewN|apply below_drew1|refine below_set ?_ GE349.out|refine below_set ?_ GE364.out)|exact HB.out)⟩
      ·rw [if_neg c13] at H
       exact absurd H (by simp)
     ·rw [if_neg c11] at H
      exact absurd H (by simp)
    ·rw [if_neg c9] at H
     exact absurd H (by simp)
   ·rw [if_neg c6] at H
    exact absurd H (by simp)
  ·rw [if_neg c4] at H
   exact absurd H (by simp)
 ·rw [if_neg c3] at H
  have c3b0 : ((t350.length : Int) == 5) = false:=beq_eq_false_iff_ne.mpr c3
  have c3b1 : ((t350.length : Int) != 5) = true:=bne_iff_ne.mpr c3
  simp only [Option.some.injEq,Prod.mk.injEq] at H
  obtain ⟨rfl,rfl,rfl,rfl,rfl,rfl⟩:=H
  go_enter Tryd.func24,Tryd.ntmps24
  go_wp2_with (first|((with_reducible refine gate_dst (N:=2) rfl ?_); refine box_event ?hg (N:=2) ?hd (cs:=#[.string (⟨#[]⟩ : ByteArray),.int .i64 0,.int .i64 0,.int .i64 0,.int .i64 0]) (t:=27) ?hr ?_; (case hd => rfl); (case hg => rfl); (case hr => first|(go_simp; done)|(go_simp; rfl)); intro gb349 hg w90 hbox hb; have n0_:=Aside0.mk (below_step (by repeat (first|(with_reducible first|exact HB.out|apply below_alloc|apply pw_below_drewN|apply below_drew1)|exact HB.out)) hb); have n1_:=Aside0.mk (hbox); have n2_:=Aside0.mk ((by rw [hg]; exact (below_size (by repeat (first|(with_reducible first|exact HB.out|apply below_alloc|apply pw_below_drewN|apply below_drew1)|exact HB.out))) : w.heap.size ≤ gb349)); have n3_:=Aside0.mk ((by rw [hg]; exact (below_size (by repeat (first|(with_reducible first|exact HB.out|apply below_alloc|apply pw_below_drewN|apply below_drew1)|exact HB.out))) : w.heap.size ≤ gb349)); clear HB; have HB:=n0_; have BK349:=n1_; have GW349:=n2_; have GE349:=n3_; clear n0_ n1_ n2_ n3_; clear hb hbox hg)|((with_reducible refine gate_callee (f:=50) rfl ?_); refine goesL_ (some 7) rfl rfl Tryd.func50 (by kernel_rfl) rfl #[.string a0,.string (⟨#[32]⟩ : ByteArray)] rfl (by (try simp only [List.map_toArray,List.map_cons,List.map_nil]); first|done|rfl|(simp only [List.length_drop,List.length_take]; rfl)) ?_; (with_reducible refine (strings_Split.calls a0 (⟨#[32]⟩ : ByteArray) t350 _ ?sideL A2.out).mono ?_); (case sideL => refine LaidA.to_LaidM ?_; first|(with_reducible exact HL.out)|(with_reducible exact LaidA.below HL.out HB.out)|(exact LaidA.below HL.out (by repeat (first|(with_reducible first|exact HB.out|apply below_alloc|apply pw_below_drewN|apply below_drew1|refine below_set ?_ GE349.out|refine below_set ?_ GE364.out)|exact HB.out)))|(repeat (first|exact HL.out|exact LaidA.below HL.out HB.out|(with_reducible refine LaidA.alloc ?_ _)|(with_reducible refine LaidA.drewN ?_ _)|(with_reducible refine LaidA.drew ?_)))); rintro e w91 ⟨v351,rfl,ho0,hb⟩; refine ⟨_,rfl,?_⟩; have n0_:=Aside0.mk (Kd.R_lower ho0 (below_size (by repeat (first|(with_reducible first|exact HB.out|apply below_alloc|apply pw_below_drewN|apply below_drew1|refine below_set ?_ GE349.out)|exact HB.out)))); have n1_:=Aside0.mk (blk_below (g:=gb349) (o:=.cells #[.string (⟨#[]⟩ : ByteArray),.int .i64 0,.int .i64 0,.int .i64 0,.int .i64 0] 27 (0,0)) (by (with_reducible repeat (first|refine blk_drewN ?_ _|refine blk_drew ?_|refine blk_alloc ?_ _)); exact BK349.out) hb); have n2_:=Aside0.mk (below_step (by repeat (first|(with_reducible first|exact HB.out|apply below_alloc|apply pw_below_drewN|apply below_drew1|refine below_set ?_ GE349.out)|exact HB.out)) hb); clear BK349; clear HB; have HO352:=n0_; have BK349:=n1_; have HB:=n2_; clear n0_ n1_ n2_; (try clear hb); (try clear hb2); (try clear hk); (try clear hi); (try clear ho0); obtain ⟨Ao92,co92,eo92⟩:=Kd.R_slice HO352.out; subst eo92; have hcz93_0 : w91.cell? ⟨gb349,0,none⟩ = some (.string (⟨#[]⟩ : ByteArray)):=(blk_cell BK349.out 0).trans rfl; have hcz93_1 : w91.cell? ⟨gb349,1,none⟩ = some (.int .i64 0):=(blk_cell BK349.out 1).trans rfl; have hcz93_2 : w91.cell? ⟨gb349,2,none⟩ = some (.int .i64 0):=(blk_cell BK349.out 2).trans rfl; have hcz93_3 : w91.cell? ⟨gb349,3,none⟩ = some (.int .i64 0):=(blk_cell BK349.out 3).trans rfl; have hcz93_4 : w91.cell? ⟨gb349,4,none⟩ = some (.int .i64 0):=(blk_cell BK349.out 4).trans rfl; have hfz93_0:=blk_frozen BK349.out 0; have hfz93_1:=blk_frozen BK349.out 1; have hfz93_2:=blk_frozen BK349.out 2; have hfz93_3:=blk_frozen BK349.out 3; have hfz93_4:=blk_frozen BK349.out 4))
  refine bodyPost_ret (results_ct rfl _ _ gb349 27 #[.string (⟨#[]⟩ : ByteArray),.int .i64 0,.int .i64 0,.int .i64 0,.int .i64 0] (0,0) _ rfl (by (with_reducible repeat (first|refine blk_drewN ?_ _|refine blk_drew ?_|refine blk_alloc ?_ _)); refine blk_put (cs:=#[.string (⟨#[]⟩ : ByteArray),.int .i64 0,.int .i64 0,.int .i64 0,.int .i64 0]) ?_ 4 _ rfl; (with_reducible repeat (first|refine blk_drewN ?_ _|refine blk_drew ?_|refine blk_alloc ?_ _)); refine blk_put (cs:=#[.string (⟨#[]⟩ : ByteArray),.int .i64 0,.int .i64 0,.int .i64 0,.int .i64 0]) ?_ 3 _ rfl; (with_reducible repeat (first|refine blk_drewN ?_ _|refine blk_drew ?_|refine blk_alloc ?_ _)); refine blk_put (cs:=#[.string (⟨#[]⟩ : ByteArray),.int .i64 0,.int .i64 0,.int .i64 0,.int .i64 0]) ?_ 2 _ rfl; (with_reducible repeat (first|refine blk_drewN ?_ _|refine blk_drew ?_|refine blk_alloc ?_ _)); refine blk_put (cs:=#[.string (⟨#[]⟩ : ByteArray),.int .i64 0,.int .i64 0,.int .i64 0,.int .i64 0]) ?_ 1 _ rfl; (with_reducible repeat (first|refine blk_drewN ?_ _|refine blk_drew ?_|refine blk_alloc ?_ _)); refine blk_put (cs:=#[.string (⟨#[]⟩ : ByteArray),.int .i64 0,.int .i64 0,.int .i64 0,.int .i64 0]) ?_ 0 _ rfl; (with_reducible repeat (first|refine blk_drewN ?_ _|refine blk_drew ?_|refine blk_alloc ?_ _)); exact BK349.out) Tryd.underlying27 rfl (by kernel_rfl)) rfl ?_
  exact ⟨by first|rfl|(simp [errW_none,errW_some] <;> rfl)|(simp [*,errW_none,errW_some] <;> rfl),by repeat (first|(with_reducible first|exact HB.out|apply below_alloc|apply pw_below_drewN|apply below_drew1|refine below_set ?_ GE349.out)|exact HB.out)⟩

end Go.Proofs.YtfindomajbjacaaDoor.X
