-- Written by a program of ours (wip/bin/xprint.py,over the kit's print.py) out of the translation. Not trusted: Lean checks it.
import Derived.Test.YtfindomajbjacaaGreatDoorX0
import Derived.Test.YtfindomajbjacaaGreatDoorLaidA
import Derived.Test.YtfindomajbjacaaGreatDoorFbCText
import Derived.Test.YtfindomajbjacaaGreatDoorFbGoodA
import Derived.Test.YtfindomajbjacaaGreatDoorFbIdx
import Derived.Test.YtfindomajbjacaaGreatDoorGParseInt
import Derived.Test.YtfindomajbjacaaGreatDoorGSplit
namespace Go.Proofs.YtfindomajbjacaaGreatDoor.X
open Go.RowKit Go.Proofs.YtfindomajbjacaaGreatDoorW.PrintWords Go.Proofs.YtfindomajbjacaaGreatDoorW.PrintLast Go.Proofs.YtfindomajbjacaaGreatDoorW.PrintMore
def lb081 : Nat → Nat → List Bool
 | 0,_ => []
 | n+1,m => (m%2==1) :: lb081 n (m/2)
def b081 (n m : Nat) : Array Bool := ⟨lb081 n m⟩
attribute [local go_sem] max2_int min2_int max_two min_two max_three min_three max_four min_four   -- for this text's walks alone
set_option linter.unusedVariables false
set_option linter.unusedSimpArgs false

/-! ### impl_ParseContainer: function 28 -/
def impl_ParseContainer.f (k : Nat) (a0 : ByteArray) : Option (ByteArray × Int × Int × Int × Int × Bool):=(strings_Split.f a0 (⟨#[32]⟩ : ByteArray)).bind fun t804 => (if (t804.length : Int) = 5 then (if 0 < (t804.length : Int) then ((impl_sizeWords.f).bind fun t808 => (if 1 < (t804.length : Int) then ((slices_Index_string_string.f k t808 (rdOf ByteArray.empty t804 1)).bind fun t812 => ((impl_cargoWords.f).bind fun t813 => (if 3 < (t804.length : Int) then ((slices_Index_string_string.f k t813 (rdOf ByteArray.empty t804 3)).bind fun t817 => (if 2 < (t804.length : Int) then ((impl_ParseInt.f (rdOf ByteArray.empty t804 2)).bind fun bt820 => (if 4 < (t804.length : Int) then ((impl_ParseInt.f (rdOf ByteArray.empty t804 4)).bind fun bt823 => ((impl_IsValidContainer.f k (rdOf ByteArray.empty t804 0) t812 bt820.1 t817 bt823.1).bind fun t825 => (if t825 = true then ((impl_containerText.f (rdOf ByteArray.empty t804 0) t812 bt820.1 t817 bt823.1).bind fun t826 => (if t826.toList = a0.toList then (some (rdOf ByteArray.empty t804 0,t812,bt820.1,t817,bt823.1,true)) else (some ((⟨#[]⟩ : ByteArray),0,0,0,0,false)))) else (some ((⟨#[]⟩ : ByteArray),0,0,0,0,false))))) else (none))) else (none))) else (none)))) else (none))) else (none)) else (some ((⟨#[]⟩ : ByteArray),0,0,0,0,false)))
theorem impl_ParseContainer.mono : ∀ a0 k,LeO (impl_ParseContainer.f k a0) (impl_ParseContainer.f (k + 1) a0):=by
 intro a0 k
 unfold impl_ParseContainer.f
 repeat' first
   | (with_reducible exact impl_IsValidContainer.mono _ _ _ _ _ _)
   | (with_reducible exact slices_Index_string_string.mono _ _ _)
   | (with_reducible exact LeO.refl _)
   | (with_reducible exact LeO.none _)
   | (with_reducible refine LeO.ite ?_ ?_)
   | (with_reducible refine LeO.bind ?_ (fun _ => ?_))
   | exact impl_IsValidContainer.mono _ _ _ _ _ _
   | exact slices_Index_string_string.mono _ _ _
   | exact LeO.none _
   | refine LeO.ite ?_ ?_
   | refine LeO.bind ?_ (fun _ => ?_)
def impl_ParseContainer.T4 : Bool × List (List Nat × List Nat):=(true,[([],[]),([0],[0]),([1],[1]),([],[]),([],[]),([4],[4]),([5],[5]),([3,6,3],[3,6]),([7],[]),([],[]),([9],[9]),([10],[10]),([8,11,8],[8,11]),([2,7,12],[2,7,12]),([],[]),([14,13,12,0,1,2,3,4,5,6,7,8,9,10,11,12,13,14],[13,14])])
def impl_ParseContainer.B4 : List Nat:=[0,1,3,0,0,16,48,120,248,0,512,1536,4088,8191,0,32767]
theorem impl_ParseContainer.tab4 : rtab .any (opsOf Tryz.f28 4) = impl_ParseContainer.T4:=by kernel_rfl
theorem impl_ParseContainer.bits4 : waitsOk impl_ParseContainer.T4.2 impl_ParseContainer.B4 = true:=by kernel_rfl
set_option maxHeartbeats 8000000 in
set_option maxRecDepth 100000 in
theorem impl_ParseContainer.calls (k : Nat) (a0 : ByteArray) (r1 : ByteArray) (r2 : Int) (r3 : Int) (r4 : Int) (r5 : Int) (r6 : Bool) (w : World) (hL : LaidA w) (h : impl_ParseContainer.f k a0 = some (r1,r2,r3,r4,r5,r6)) :
  Calls Tryz.prog 28 #[.string a0] w fun e w' => e = .returned (.tuple #[.agg #[.string r1,.int .i64 r2,.int .i64 r3,.int .i64 r4,.int .i64 r5],.bool r6]) ∧ Below w.heap.size w w':=by
 have HL:=Aside0.mk hL
 clear hL
 have hu50:=Tryz.underlying50
 have HB:=Aside0.mk (Below.refl w.heap.size w)
 have H : ((strings_Split.f a0 (⟨#[32]⟩ : ByteArray)).bind fun t804 => (if (t804.length : Int) = 5 then (if 0 < (t804.length : Int) then ((impl_sizeWords.f).bind fun t808 => (if 1 < (t804.length : Int) then ((slices_Index_string_string.f k t808 (rdOf ByteArray.empty t804 1)).bind fun t812 => ((impl_cargoWords.f).bind fun t813 => (if 3 < (t804.length : Int) then ((slices_Index_string_string.f k t813 (rdOf ByteArray.empty t804 3)).bind fun t817 => (if 2 < (t804.length : Int) then ((impl_ParseInt.f (rdOf ByteArray.empty t804 2)).bind fun bt820 => (if 4 < (t804.length : Int) then ((impl_ParseInt.f (rdOf ByteArray.empty t804 4)).bind fun bt823 => ((impl_IsValidContainer.f k (rdOf ByteArray.empty t804 0) t812 bt820.1 t817 bt823.1).bind fun t825 => (if t825 = true then ((impl_containerText.f (rdOf ByteArray.empty t804 0) t812 bt820.1 t817 bt823.1).bind fun t826 => (if t826.toList = a0.toList then (some (rdOf ByteArray.empty t804 0,t812,bt820.1,t817,bt823.1,true)) else (some ((⟨#[]⟩ : ByteArray),0,0,0,0,false)))) else (some ((⟨#[]⟩ : ByteArray),0,0,0,0,false))))) else (none))) else (none))) else (none)))) else (none))) else (none)) else (some ((⟨#[]⟩ : ByteArray),0,0,0,0,false)))) = some (r1,r2,r3,r4,r5,r6):=h
 clear h
 replace H:=Option.bind_eq_some_iff.mp H
 obtain ⟨t804,A20,H⟩:=H
 replace H : (if (t804.length : Int) = 5 then (if 0 < (t804.length : Int) then ((impl_sizeWords.f).bind fun t808 => (if 1 < (t804.length : Int) then ((slices_Index_string_string.f k t808 (rdOf ByteArray.empty t804 1)).bind fun t812 => ((impl_cargoWords.f).bind fun t813 => (if 3 < (t804.length : Int) then ((slices_Index_string_string.f k t813 (rdOf ByteArray.empty t804 3)).bind fun t817 => (if 2 < (t804.length : Int) then ((impl_ParseInt.f (rdOf ByteArray.empty t804 2)).bind fun bt820 => (if 4 < (t804.length : Int) then ((impl_ParseInt.f (rdOf ByteArray.empty t804 4)).bind fun bt823 => ((impl_IsValidContainer.f k (rdOf ByteArray.empty t804 0) t812 bt820.1 t817 bt823.1).bind fun t825 => (if t825 = true then ((impl_containerText.f (rdOf ByteArray.empty t804 0) t812 bt820.1 t817 bt823.1).bind fun t826 => (if t826.toList = a0.toList then (some (rdOf ByteArray.empty t804 0,t812,bt820.1,t817,bt823.1,true)) else (some ((⟨#[]⟩ : ByteArray),0,0,0,0,false)))) else (some ((⟨#[]⟩ : ByteArray),0,0,0,0,false))))) else (none))) else (none))) else (none)))) else (none))) else (none)) else (some ((⟨#[]⟩ : ByteArray),0,0,0,0,false))) = some (r1,r2,r3,r4,r5,r6):=H
 have A2:=Aside0.mk A20
 clear A20
 by_cases c3 : (t804.length : Int) = 5
 ·rw [if_pos c3] at H
  have c3b0 : ((t804.length : Int) == 5) = true:=beq_iff_eq.mpr c3
  have c3b1 : ((t804.length : Int) != 5) = false:=bne_eq_false_iff_eq.mpr c3
  clear c3
  by_cases c4 : 0 < (t804.length : Int)
  ·rw [if_pos c4] at H
   have c4b0 : decide (0 < (t804.length : Int)) = true:=decide_eq_true c4
   have c4b1 : decide (0 < t804.length) = true:=decide_eq_true (by omega)
   clear c4
   replace H:=Option.bind_eq_some_iff.mp H
   obtain ⟨t808,A50,H⟩:=H
   replace H : (if 1 < (t804.length : Int) then ((slices_Index_string_string.f k t808 (rdOf ByteArray.empty t804 1)).bind fun t812 => ((impl_cargoWords.f).bind fun t813 => (if 3 < (t804.length : Int) then ((slices_Index_string_string.f k t813 (rdOf ByteArray.empty t804 3)).bind fun t817 => (if 2 < (t804.length : Int) then ((impl_ParseInt.f (rdOf ByteArray.empty t804 2)).bind fun bt820 => (if 4 < (t804.length : Int) then ((impl_ParseInt.f (rdOf ByteArray.empty t804 4)).bind fun bt823 => ((impl_IsValidContainer.f k (rdOf ByteArray.empty t804 0) t812 bt820.1 t817 bt823.1).bind fun t825 => (if t825 = true then ((impl_containerText.f (rdOf ByteArray.empty t804 0) t812 bt820.1 t817 bt823.1).bind fun t826 => (if t826.toList = a0.toList then (some (rdOf ByteArray.empty t804 0,t812,bt820.1,t817,bt823.1,true)) else (some ((⟨#[]⟩ : ByteArray),0,0,0,0,false)))) else (some ((⟨#[]⟩ : ByteArray),0,0,0,0,false))))) else (none))) else (none))) else (none)))) else (none)) = some (r1,r2,r3,r4,r5,r6):=H
   have A5:=Aside0.mk A50
   clear A50
   by_cases c6 : 1 < (t804.length : Int)
   ·rw [if_pos c6] at H
    have c6b0 : decide (1 < (t804.length : Int)) = true:=decide_eq_true c6
    have c6b1 : decide (1 < t804.length) = true:=decide_eq_true (by omega)
    clear c6
    replace H:=Option.bind_eq_some_iff.mp H
    obtain ⟨t812,A70,H⟩:=H
    replace H : ((impl_cargoWords.f).bind fun t813 => (if 3 < (t804.length : Int) then ((slices_Index_string_string.f k t813 (rdOf ByteArray.empty t804 3)).bind fun t817 => (if 2 < (t804.length : Int) then ((impl_ParseInt.f (rdOf ByteArray.empty t804 2)).bind fun bt820 => (if 4 < (t804.length : Int) then ((impl_ParseInt.f (rdOf ByteArray.empty t804 4)).bind fun bt823 => ((impl_IsValidContainer.f k (rdOf ByteArray.empty t804 0) t812 bt820.1 t817 bt823.1).bind fun t825 => (if t825 = true then ((impl_containerText.f (rdOf ByteArray.empty t804 0) t812 bt820.1 t817 bt823.1).bind fun t826 => (if t826.toList = a0.toList then (some (rdOf ByteArray.empty t804 0,t812,bt820.1,t817,bt823.1,true)) else (some ((⟨#[]⟩ : ByteArray),0,0,0,0,false)))) else (some ((⟨#[]⟩ : ByteArray),0,0,0,0,false))))) else (none))) else (none))) else (none))) = some (r1,r2,r3,r4,r5,r6):=H
    have A7:=Aside0.mk A70
    clear A70
    replace H:=Option.bind_eq_some_iff.mp H
    obtain ⟨t813,A80,H⟩:=H
    replace H : (if 3 < (t804.length : Int) then ((slices_Index_string_string.f k t813 (rdOf ByteArray.empty t804 3)).bind fun t817 => (if 2 < (t804.length : Int) then ((impl_ParseInt.f (rdOf ByteArray.empty t804 2)).bind fun bt820 => (if 4 < (t804.length : Int) then ((impl_ParseInt.f (rdOf ByteArray.empty t804 4)).bind fun bt823 => ((impl_IsValidContainer.f k (rdOf ByteArray.empty t804 0) t812 bt820.1 t817 bt823.1).bind fun t825 => (if t825 = true then ((impl_containerText.f (rdOf ByteArray.empty t804 0) t812 bt820.1 t817 bt823.1).bind fun t826 => (if t826.toList = a0.toList then (some (rdOf ByteArray.empty t804 0,t812,bt820.1,t817,bt823.1,true)) else (some ((⟨#[]⟩ : ByteArray),0,0,0,0,false)))) else (some ((⟨#[]⟩ : ByteArray),0,0,0,0,false))))) else (none))) else (none))) else (none)) = some (r1,r2,r3,r4,r5,r6):=H
    have A8:=Aside0.mk A80
    clear A80
    by_cases c9 : 3 < (t804.length : Int)
    ·rw [if_pos c9] at H
     have c9b0 : decide (3 < (t804.length : Int)) = true:=decide_eq_true c9
     have c9b1 : decide (3 < t804.length) = true:=decide_eq_true (by omega)
     clear c9
     replace H:=Option.bind_eq_some_iff.mp H
     obtain ⟨t817,A100,H⟩:=H
     replace H : (if 2 < (t804.length : Int) then ((impl_ParseInt.f (rdOf ByteArray.empty t804 2)).bind fun bt820 => (if 4 < (t804.length : Int) then ((impl_ParseInt.f (rdOf ByteArray.empty t804 4)).bind fun bt823 => ((impl_IsValidContainer.f k (rdOf ByteArray.empty t804 0) t812 bt820.1 t817 bt823.1).bind fun t825 => (if t825 = true then ((impl_containerText.f (rdOf ByteArray.empty t804 0) t812 bt820.1 t817 bt823.1).bind fun t826 => (if t826.toList = a0.toList then (some (rdOf ByteArray.empty t804 0,t812,bt820.1,t817,bt823.1,true)) else (some ((⟨#[]⟩ : ByteArray),0,0,0,0,false)))) else (some ((⟨#[]⟩ : ByteArray),0,0,0,0,false))))) else (none))) else (none)) = some (r1,r2,r3,r4,r5,r6):=H
     have A10:=Aside0.mk A100
     clear A100
     by_cases c11 : 2 < (t804.length : Int)
     ·rw [if_pos c11] at H
      have c11b0 : decide (2 < (t804.length : Int)) = true:=decide_eq_true c11
      have c11b1 : decide (2 < t804.length) = true:=decide_eq_true (by omega)
      clear c11
      replace H:=Option.bind_eq_some_iff.mp H
      obtain ⟨⟨t820,t821⟩,A120,H⟩:=H
      replace H : (if 4 < (t804.length : Int) then ((impl_ParseInt.f (rdOf ByteArray.empty t804 4)).bind fun bt823 => ((impl_IsValidContainer.f k (rdOf ByteArray.empty t804 0) t812 t820 t817 bt823.1).bind fun t825 => (if t825 = true then ((impl_containerText.f (rdOf ByteArray.empty t804 0) t812 t820 t817 bt823.1).bind fun t826 => (if t826.toList = a0.toList then (some (rdOf ByteArray.empty t804 0,t812,t820,t817,bt823.1,true)) else (some ((⟨#[]⟩ : ByteArray),0,0,0,0,false)))) else (some ((⟨#[]⟩ : ByteArray),0,0,0,0,false))))) else (none)) = some (r1,r2,r3,r4,r5,r6):=H
      have A12:=Aside0.mk A120
      clear A120
      by_cases c13 : 4 < (t804.length : Int)
      ·rw [if_pos c13] at H
       have c13b0 : decide (4 < (t804.length : Int)) = true:=decide_eq_true c13
       have c13b1 : decide (4 < t804.length) = true:=decide_eq_true (by omega)
       clear c13
       replace H:=Option.bind_eq_some_iff.mp H
       obtain ⟨⟨t823,t824⟩,A140,H⟩:=H
       replace H : ((impl_IsValidContainer.f k (rdOf ByteArray.empty t804 0) t812 t820 t817 t823).bind fun t825 => (if t825 = true then ((impl_containerText.f (rdOf ByteArray.empty t804 0) t812 t820 t817 t823).bind fun t826 => (if t826.toList = a0.toList then (some (rdOf ByteArray.empty t804 0,t812,t820,t817,t823,true)) else (some ((⟨#[]⟩ : ByteArray),0,0,0,0,false)))) else (some ((⟨#[]⟩ : ByteArray),0,0,0,0,false)))) = some (r1,r2,r3,r4,r5,r6):=H
       have A14:=Aside0.mk A140
       clear A140
       replace H:=Option.bind_eq_some_iff.mp H
       obtain ⟨t825,A150,H⟩:=H
       replace H : (if t825 = true then ((impl_containerText.f (rdOf ByteArray.empty t804 0) t812 t820 t817 t823).bind fun t826 => (if t826.toList = a0.toList then (some (rdOf ByteArray.empty t804 0,t812,t820,t817,t823,true)) else (some ((⟨#[]⟩ : ByteArray),0,0,0,0,false)))) else (some ((⟨#[]⟩ : ByteArray),0,0,0,0,false))) = some (r1,r2,r3,r4,r5,r6):=H
       have A15:=Aside0.mk A150
       clear A150
       have HF_:=Aside0.mk H
       clear H
       go_enter Tryz.func28,Tryz.ntmps28
       try go_wp2_with (first|((with_reducible refine gate_dst (N:=2) rfl ?_); refine box_event ?hg (N:=2) ?hd (cs:=#[.string (⟨#[]⟩ : ByteArray),.int .i64 0,.int .i64 0,.int .i64 0,.int .i64 0]) (t:=50) ?hr ?_; (case hd => rfl); (case hg => rfl); (case hr => (go_simp; done)); intro gb803 hg w19 hbox hb; have n0_:=Aside0.mk (below_step (by repeat (((with_reducible (exact HB.out))))) hb); have n1_:=Aside0.mk (hbox); have n2_:=Aside0.mk ((by rw [hg]; exact (below_size (by repeat (((with_reducible (exact HB.out)))))) : w.heap.size ≤ gb803)); have n3_:=Aside0.mk ((by rw [hg]; exact (below_size (by repeat (((with_reducible (exact HB.out)))))) : w.heap.size ≤ gb803)); clear HB; have HB:=n0_; have BK803:=n1_; have GW803:=n2_; have GE803:=n3_; clear n0_ n1_ n2_ n3_; clear hb hbox hg)|((with_reducible refine gate_callee (f:=36) rfl ?_); refine goesL_ (some 7) rfl rfl Tryz.func36 (by kernel_rfl) rfl #[.string a0,.string (⟨#[32]⟩ : ByteArray)] rfl (by (try simp only [List.map_toArray,List.map_cons,List.map_nil]); (rfl)) ?_; (with_reducible refine (strings_Split.calls a0 (⟨#[32]⟩ : ByteArray) t804 _ ?sideL A2.out).mono ?_); (case sideL => refine LaidA.to_LaidM ?_; (with_reducible exact LaidA.below HL.out HB.out)); rintro e w20 ⟨v805,rfl,ho0,hb⟩; refine ⟨_,rfl,?_⟩; have n0_:=Aside0.mk (Kd.R_lower ho0 (below_size (by repeat (((with_reducible (exact HB.out))))))); have n1_:=Aside0.mk (blk_below (g:=gb803) (o:=.cells #[.string (⟨#[]⟩ : ByteArray),.int .i64 0,.int .i64 0,.int .i64 0,.int .i64 0] 50 (0,0)) (by exact BK803.out) hb); have n2_:=Aside0.mk (below_step (by repeat (((with_reducible (exact HB.out))))) hb); clear BK803; clear HB; have HO806:=n0_; have BK803:=n1_; have HB:=n2_; clear n0_ n1_ n2_; (try clear hb); (try clear hb2); (try clear hk); (try clear hi); (try clear ho0); obtain ⟨Ao21,co21,eo21⟩:=Kd.R_slice HO806.out; subst eo21))
       have n0_:=Aside0.mk (Kd.R_drew HO806.out)
       have n1_:=Aside0.mk (blk_drew BK803.out)
       have n2_:=Aside0.mk (below_drew1 HB.out)
       clear HO806
       clear BK803
       clear HB
       have HO806:=n0_
       have BK803:=n1_
       have HB:=n2_
       clear n0_ n1_ n2_
       have p807 : 0 ≤ (0 : Int):=(by omega)
       have q807 : 0 < (t804.length : Int):=of_decide_eq_true (by (with_reducible assumption))
       obtain ⟨ad807,e807,hx807_0⟩:=Kd.at_string (Kd.R_reads' HO806.out).2.2 0 p807 q807
       cases e807
       have qi807 : (0 < t804.length) = True:=eq_true (by omega)
       (try rw [show (0 : Int).toNat = 0 from rfl] at hx807_0)
       (try rw [Addr.add_zero'] at hx807_0)
       replace p807:=eq_true p807
       replace q807:=eq_true q807
       have p811 : 0 ≤ (1 : Int):=(by omega)
       have q811 : 1 < (t804.length : Int):=of_decide_eq_true (by (with_reducible assumption))
       obtain ⟨ad811,e811,hx811_0⟩:=Kd.at_string (Kd.R_reads' HO806.out).2.2 1 p811 q811
       obtain rfl : ad807 = ad811:=(by injection e811)
       (try simp only [show (1 : Int).toNat = 1 from rfl,Nat.reduceMul,Nat.reduceEqDiff,Go.Addr.add,↓reduceIte] at hx811_0)
       have qi811 : (1 < t804.length) = True:=eq_true (by omega)
       (try rw [show (1 : Int).toNat = 1 from rfl] at hx811_0)
       replace p811:=eq_true p811
       replace q811:=eq_true q811
       have p816 : 0 ≤ (3 : Int):=(by omega)
       have q816 : 3 < (t804.length : Int):=of_decide_eq_true (by (with_reducible assumption))
       obtain ⟨ad816,e816,hx816_0⟩:=Kd.at_string (Kd.R_reads' HO806.out).2.2 3 p816 q816
       obtain rfl : ad807 = ad816:=(by injection e816)
       (try simp only [show (3 : Int).toNat = 3 from rfl,Nat.reduceMul,Nat.reduceEqDiff,Go.Addr.add,↓reduceIte] at hx816_0)
       have qi816 : (3 < t804.length) = True:=eq_true (by omega)
       (try rw [show (3 : Int).toNat = 3 from rfl] at hx816_0)
       replace p816:=eq_true p816
       replace q816:=eq_true q816
       refine start_ (n:=16) (S:=fun w' => w'.cell? ad807 = some (.string (rdOf ByteArray.empty t804 0)) ∧ w'.cell? ⟨ad807.block,ad807.off + 1,none⟩ = some (.string (rdOf ByteArray.empty t804 1)) ∧ w'.cell? ⟨ad807.block,ad807.off + 3,none⟩ = some (.string (rdOf ByteArray.empty t804 3))) (ds:=[]) (b081 16 0) (by kernel_rfl) rfl rfl ⟨hx807_0,hx811_0,hx816_0⟩ (fun hHeld => ?_); refine with_tabW impl_ParseContainer.tab4 impl_ParseContainer.bits4 (fun HT_ HW_ => ?_)
       generalize w20.drew = w22 at HO806 BK803 HB hx807_0 hx811_0 hx816_0 hHeld ⊢
       refine pure_ (i:=0) (N:=some 12) (v:=?_) (a':=?_) (b081 16 1) rfl rfl (any_of HT_.out (by kernel_rfl)) (fun _ _ _ h => h) (Or.inl ⟨by rfl,?_⟩) ?_ ?_
       rotate_left
       ·intro w'
        go_simp
        with_reducible rfl
       rotate_left
       ·simp only [Act.put,List.setIfInBounds_toArray,List.set_cons_zero,List.set_cons_succ,i64_w,i32_w]
        rfl
       refine pure_ (i:=1) (N:=some 13) (v:=?_) (a':=?_) (b081 16 3) rfl rfl (any_of HT_.out (by kernel_rfl)) (fun _ _ _ h => h) (Or.inl ⟨by rfl,?_⟩) ?_ ?_
       rotate_left
       ·intro w'
        go_simp
        with_reducible rfl
       rotate_left
       ·simp only [Act.put,List.setIfInBounds_toArray,List.set_cons_zero,List.set_cons_succ,i64_w,i32_w]
        rfl
       refine pure_ (i:=4) (N:=some 16) (v:=?_) (a':=?_) (b081 16 19) rfl rfl (any_of HT_.out (by kernel_rfl)) (fun _ _ _ h => h) (Or.inl ⟨by rfl,?_⟩) ?_ ?_
       rotate_left
       ·intro w'
        go_simp
        with_reducible rfl
       rotate_left
       ·simp only [Act.put,List.setIfInBounds_toArray,List.set_cons_zero,List.set_cons_succ,i64_w,i32_w]
        rfl
       refine pure_ (i:=5) (N:=some 17) (v:=?_) (a':=?_) (b081 16 51) rfl rfl (any_of HT_.out (by kernel_rfl)) (fun _ _ _ h => h) (Or.inl ⟨by rfl,?_⟩) ?_ ?_
       rotate_left
       ·intro w'
        go_simp
        with_reducible rfl
       rotate_left
       ·simp only [Act.put,List.setIfInBounds_toArray,List.set_cons_zero,List.set_cons_succ,i64_w,i32_w]
        rfl
       refine pure_ (i:=9) (N:=some 21) (v:=?_) (a':=?_) (b081 16 563) rfl rfl (any_of HT_.out (by kernel_rfl)) (fun _ _ _ h => h) (Or.inl ⟨by rfl,?_⟩) ?_ ?_
       rotate_left
       ·intro w'
        go_simp
        with_reducible rfl
       rotate_left
       ·simp only [Act.put,List.setIfInBounds_toArray,List.set_cons_zero,List.set_cons_succ,i64_w,i32_w]
        rfl
       refine pure_ (i:=10) (N:=some 22) (v:=?_) (a':=?_) (b081 16 1587) rfl rfl (any_of HT_.out (by kernel_rfl)) (fun _ _ _ h => h) (Or.inl ⟨by rfl,?_⟩) ?_ ?_
       rotate_left
       ·intro w'
        go_simp
        with_reducible rfl
       rotate_left
       ·simp only [Act.put,List.setIfInBounds_toArray,List.set_cons_zero,List.set_cons_succ,i64_w,i32_w]
        rfl
       refine take_ (i:=2) (N:=some 14) (v:=?_) (a':=?_) (b081 16 1591) rfl rfl (take_ofW HT_.out HW_.out (by kernel_rfl)) (fun _ _ _ h => h) (Or.inl ⟨by rfl,?_⟩) hHeld ?_ ?_
       rotate_left
       ·rintro w' ⟨s0,s1,s2⟩
        go_simp
        with_reducible rfl
       rotate_left
       ·simp only [Act.put,List.setIfInBounds_toArray,List.set_cons_zero,List.set_cons_succ,i64_w,i32_w]
        rfl
       refine take_ (i:=6) (N:=some 18) (v:=?_) (a':=?_) (b081 16 1655) rfl rfl (take_ofW HT_.out HW_.out (by kernel_rfl)) (fun _ _ _ h => h) (Or.inl ⟨by rfl,?_⟩) hHeld ?_ ?_
       rotate_left
       ·rintro w' ⟨s0,s1,s2⟩
        go_simp
        with_reducible rfl
       rotate_left
       ·simp only [Act.put,List.setIfInBounds_toArray,List.set_cons_zero,List.set_cons_succ,i64_w,i32_w]
        rfl
       refine take_ (i:=11) (N:=some 23) (v:=?_) (a':=?_) (b081 16 3703) rfl rfl (take_ofW HT_.out HW_.out (by kernel_rfl)) (fun _ _ _ h => h) (Or.inl ⟨by rfl,?_⟩) hHeld ?_ ?_
       rotate_left
       ·rintro w' ⟨s0,s1,s2⟩
        go_simp
        with_reducible rfl
       rotate_left
       ·simp only [Act.put,List.setIfInBounds_toArray,List.set_cons_zero,List.set_cons_succ,i64_w,i32_w]
        rfl
       refine join_ (σ:=Value × Value × Nat) 1 (b081 16 32767) (fun s_ => [(15,s_.1),(19,.int .i64 t812),(20,s_.2.1),(24,.int .i64 t817),(5,.pointer (some ⟨s_.2.2,0,none⟩)),(25,.agg #[.string (rdOf ByteArray.empty t804 0),.int .i64 t812,.int .i64 0,.int .i64 t817,.int .i64 0])]) (fun s_ w' => (w'.cell? ad807 = some (.string (rdOf ByteArray.empty t804 0)) ∧ w'.cell? ⟨ad807.block,ad807.off + 1,none⟩ = some (.string (rdOf ByteArray.empty t804 1)) ∧ w'.cell? ⟨ad807.block,ad807.off + 3,none⟩ = some (.string (rdOf ByteArray.empty t804 3))) ∧ (Kd.R Kd.string 9 w' w.heap.size (fun k_ => some k_ ≠ (s_.1 : Value).ownBlock ∧ some k_ ≠ (s_.2.1 : Value).ownBlock) (.slice (some ad807) t804.length co21) t804) ∧ (Kd.R Kd.string 9 w' w.heap.size (fun k_ => some k_ ≠ (.slice (some ad807) t804.length co21 : Value).ownBlock ∧ some k_ ≠ (s_.2.1 : Value).ownBlock) s_.1 t808) ∧ (Kd.R Kd.string 9 w' w.heap.size (fun k_ => some k_ ≠ (.slice (some ad807) t804.length co21 : Value).ownBlock ∧ some k_ ≠ (s_.1 : Value).ownBlock) s_.2.1 t813) ∧ (w'.heap[gb803]? = some (.cells #[.string (⟨#[]⟩ : ByteArray),.int .i64 0,.int .i64 0,.int .i64 0,.int .i64 0] 50 (0,0))) ∧ (w'.heap[s_.2.2]? = some (.cells #[.string (⟨#[]⟩ : ByteArray),.int .i64 0,.int .i64 0,.int .i64 0,.int .i64 0] 50 (0,0))) ∧ (w.heap.size ≤ s_.2.2) ∧ (w.heap.size ≤ s_.2.2) ∧ (gb803 ≠ s_.2.2) ∧ (s_.2.2 ≠ gb803) ∧ (Below w.heap.size w w')) ?_ ?_
       rotate_left
       ·intro hJ3_7_8_12_14
        refine join_ (σ:=Value × Value) 2 (b081 16 16383) (fun s_ => [(15,s_.1),(19,.int .i64 t812),(20,s_.2),(24,.int .i64 t817),(25,.agg #[.string (rdOf ByteArray.empty t804 0),.int .i64 t812,.int .i64 0,.int .i64 t817,.int .i64 0])]) (fun s_ w' => (w'.cell? ad807 = some (.string (rdOf ByteArray.empty t804 0)) ∧ w'.cell? ⟨ad807.block,ad807.off + 1,none⟩ = some (.string (rdOf ByteArray.empty t804 1)) ∧ w'.cell? ⟨ad807.block,ad807.off + 3,none⟩ = some (.string (rdOf ByteArray.empty t804 3))) ∧ (Kd.R Kd.string 9 w' w.heap.size (fun k_ => some k_ ≠ (s_.1 : Value).ownBlock ∧ some k_ ≠ (s_.2 : Value).ownBlock) (.slice (some ad807) t804.length co21) t804) ∧ (Kd.R Kd.string 9 w' w.heap.size (fun k_ => some k_ ≠ (.slice (some ad807) t804.length co21 : Value).ownBlock ∧ some k_ ≠ (s_.2 : Value).ownBlock) s_.1 t808) ∧ (Kd.R Kd.string 9 w' w.heap.size (fun k_ => some k_ ≠ (.slice (some ad807) t804.length co21 : Value).ownBlock ∧ some k_ ≠ (s_.1 : Value).ownBlock) s_.2 t813) ∧ (w'.heap[gb803]? = some (.cells #[.string (⟨#[]⟩ : ByteArray),.int .i64 0,.int .i64 0,.int .i64 0,.int .i64 0] 50 (0,0))) ∧ (Below w.heap.size w w')) ?_ ?_
        rotate_left
        ·intro hJ3_7_8_12
         refine join_ (σ:=Value × Value × Nat) 3 (b081 16 20479) (fun s_ => [(15,s_.1),(19,.int .i64 t812),(20,s_.2.1),(5,.pointer (some ⟨s_.2.2,0,none⟩))]) (fun s_ w' => (w'.cell? ad807 = some (.string (rdOf ByteArray.empty t804 0)) ∧ w'.cell? ⟨ad807.block,ad807.off + 1,none⟩ = some (.string (rdOf ByteArray.empty t804 1)) ∧ w'.cell? ⟨ad807.block,ad807.off + 3,none⟩ = some (.string (rdOf ByteArray.empty t804 3))) ∧ (Kd.R Kd.string 9 w' w.heap.size (fun k_ => some k_ ≠ (s_.1 : Value).ownBlock ∧ some k_ ≠ (s_.2.1 : Value).ownBlock) (.slice (some ad807) t804.length co21) t804) ∧ (Kd.R Kd.string 9 w' w.heap.size (fun k_ => some k_ ≠ (.slice (some ad807) t804.length co21 : Value).ownBlock ∧ some k_ ≠ (s_.2.1 : Value).ownBlock) s_.1 t808) ∧ (Kd.R Kd.string 9 w' w.heap.size (fun k_ => some k_ ≠ (.slice (some ad807) t804.length co21 : Value).ownBlock ∧ some k_ ≠ (s_.1 : Value).ownBlock) s_.2.1 t813) ∧ (w'.heap[gb803]? = some (.cells #[.string (⟨#[]⟩ : ByteArray),.int .i64 0,.int .i64 0,.int .i64 0,.int .i64 0] 50 (0,0))) ∧ (w'.heap[s_.2.2]? = some (.cells #[.string (⟨#[]⟩ : ByteArray),.int .i64 0,.int .i64 0,.int .i64 0,.int .i64 0] 50 (0,0))) ∧ (w.heap.size ≤ s_.2.2) ∧ (w.heap.size ≤ s_.2.2) ∧ (gb803 ≠ s_.2.2) ∧ (s_.2.2 ≠ gb803) ∧ (Below w.heap.size w w')) ?_ ?_
         rotate_left
         ·intro hJ3_7_8_14
          refine join_ (σ:=Value × Value) 4 (b081 16 4095) (fun s_ => [(15,s_.1),(19,.int .i64 t812),(20,s_.2)]) (fun s_ w' => (w'.cell? ad807 = some (.string (rdOf ByteArray.empty t804 0)) ∧ w'.cell? ⟨ad807.block,ad807.off + 1,none⟩ = some (.string (rdOf ByteArray.empty t804 1)) ∧ w'.cell? ⟨ad807.block,ad807.off + 3,none⟩ = some (.string (rdOf ByteArray.empty t804 3))) ∧ (Kd.R Kd.string 9 w' w.heap.size (fun k_ => some k_ ≠ (s_.1 : Value).ownBlock ∧ some k_ ≠ (s_.2 : Value).ownBlock) (.slice (some ad807) t804.length co21) t804) ∧ (Kd.R Kd.string 9 w' w.heap.size (fun k_ => some k_ ≠ (.slice (some ad807) t804.length co21 : Value).ownBlock ∧ some k_ ≠ (s_.2 : Value).ownBlock) s_.1 t808) ∧ (Kd.R Kd.string 9 w' w.heap.size (fun k_ => some k_ ≠ (.slice (some ad807) t804.length co21 : Value).ownBlock ∧ some k_ ≠ (s_.1 : Value).ownBlock) s_.2 t813) ∧ (w'.heap[gb803]? = some (.cells #[.string (⟨#[]⟩ : ByteArray),.int .i64 0,.int .i64 0,.int .i64 0,.int .i64 0] 50 (0,0))) ∧ (Below w.heap.size w w')) ?_ ?_
          rotate_left
          ·intro hJ3_7_8
           refine join_ (σ:=Value × Nat) 4 (b081 16 20223) (fun s_ => [(15,s_.1),(19,.int .i64 t812),(5,.pointer (some ⟨s_.2,0,none⟩))]) (fun s_ w' => (w'.cell? ad807 = some (.string (rdOf ByteArray.empty t804 0)) ∧ w'.cell? ⟨ad807.block,ad807.off + 1,none⟩ = some (.string (rdOf ByteArray.empty t804 1)) ∧ w'.cell? ⟨ad807.block,ad807.off + 3,none⟩ = some (.string (rdOf ByteArray.empty t804 3))) ∧ (Kd.R Kd.string 9 w' w.heap.size (fun k_ => some k_ ≠ (s_.1 : Value).ownBlock) (.slice (some ad807) t804.length co21) t804) ∧ (Kd.R Kd.string 9 w' w.heap.size (fun k_ => some k_ ≠ (.slice (some ad807) t804.length co21 : Value).ownBlock) s_.1 t808) ∧ (w'.heap[gb803]? = some (.cells #[.string (⟨#[]⟩ : ByteArray),.int .i64 0,.int .i64 0,.int .i64 0,.int .i64 0] 50 (0,0))) ∧ (w'.heap[s_.2]? = some (.cells #[.string (⟨#[]⟩ : ByteArray),.int .i64 0,.int .i64 0,.int .i64 0,.int .i64 0] 50 (0,0))) ∧ (w.heap.size ≤ s_.2) ∧ (w.heap.size ≤ s_.2) ∧ (gb803 ≠ s_.2) ∧ (s_.2 ≠ gb803) ∧ (Below w.heap.size w w')) ?_ ?_
           rotate_left
           ·intro hJ3_7_14
            refine join_ (σ:=Value) 5 (b081 16 3839) (fun s_ => [(15,s_),(19,.int .i64 t812)]) (fun s_ w' => (w'.cell? ad807 = some (.string (rdOf ByteArray.empty t804 0)) ∧ w'.cell? ⟨ad807.block,ad807.off + 1,none⟩ = some (.string (rdOf ByteArray.empty t804 1)) ∧ w'.cell? ⟨ad807.block,ad807.off + 3,none⟩ = some (.string (rdOf ByteArray.empty t804 3))) ∧ (Kd.R Kd.string 9 w' w.heap.size (fun k_ => some k_ ≠ (s_ : Value).ownBlock) (.slice (some ad807) t804.length co21) t804) ∧ (Kd.R Kd.string 9 w' w.heap.size (fun k_ => some k_ ≠ (.slice (some ad807) t804.length co21 : Value).ownBlock) s_ t808) ∧ (w'.heap[gb803]? = some (.cells #[.string (⟨#[]⟩ : ByteArray),.int .i64 0,.int .i64 0,.int .i64 0,.int .i64 0] 50 (0,0))) ∧ (Below w.heap.size w w')) ?_ ?_
            rotate_left
            ·intro hJ3_7
             refine join_ (σ:=Value × Nat) 5 (b081 16 20095) (fun s_ => [(15,s_.1),(5,.pointer (some ⟨s_.2,0,none⟩))]) (fun s_ w' => (w'.cell? ad807 = some (.string (rdOf ByteArray.empty t804 0)) ∧ w'.cell? ⟨ad807.block,ad807.off + 1,none⟩ = some (.string (rdOf ByteArray.empty t804 1)) ∧ w'.cell? ⟨ad807.block,ad807.off + 3,none⟩ = some (.string (rdOf ByteArray.empty t804 3))) ∧ (Kd.R Kd.string 9 w' w.heap.size (fun k_ => some k_ ≠ (s_.1 : Value).ownBlock) (.slice (some ad807) t804.length co21) t804) ∧ (Kd.R Kd.string 9 w' w.heap.size (fun k_ => some k_ ≠ (.slice (some ad807) t804.length co21 : Value).ownBlock) s_.1 t808) ∧ (w'.heap[gb803]? = some (.cells #[.string (⟨#[]⟩ : ByteArray),.int .i64 0,.int .i64 0,.int .i64 0,.int .i64 0] 50 (0,0))) ∧ (w'.heap[s_.2]? = some (.cells #[.string (⟨#[]⟩ : ByteArray),.int .i64 0,.int .i64 0,.int .i64 0,.int .i64 0] 50 (0,0))) ∧ (w.heap.size ≤ s_.2) ∧ (w.heap.size ≤ s_.2) ∧ (gb803 ≠ s_.2) ∧ (s_.2 ≠ gb803) ∧ (Below w.heap.size w w')) ?_ ?_
             rotate_left
             ·intro hJ3_14
              refine join_ (σ:=Value) 6 (b081 16 3711) (fun s_ => [(15,s_)]) (fun s_ w' => (w'.cell? ad807 = some (.string (rdOf ByteArray.empty t804 0)) ∧ w'.cell? ⟨ad807.block,ad807.off + 1,none⟩ = some (.string (rdOf ByteArray.empty t804 1)) ∧ w'.cell? ⟨ad807.block,ad807.off + 3,none⟩ = some (.string (rdOf ByteArray.empty t804 3))) ∧ (Kd.R Kd.string 9 w' w.heap.size (fun k_ => some k_ ≠ (s_ : Value).ownBlock) (.slice (some ad807) t804.length co21) t804) ∧ (Kd.R Kd.string 9 w' w.heap.size (fun k_ => some k_ ≠ (.slice (some ad807) t804.length co21 : Value).ownBlock) s_ t808) ∧ (w'.heap[gb803]? = some (.cells #[.string (⟨#[]⟩ : ByteArray),.int .i64 0,.int .i64 0,.int .i64 0,.int .i64 0] 50 (0,0))) ∧ (Below w.heap.size w w')) ?_ ?_
              rotate_left
              ·intro hJ3
               refine join_ (σ:=Nat) 6 (b081 16 20087) (fun s_ => [(5,.pointer (some ⟨s_,0,none⟩))]) (fun s_ w' => (w'.cell? ad807 = some (.string (rdOf ByteArray.empty t804 0)) ∧ w'.cell? ⟨ad807.block,ad807.off + 1,none⟩ = some (.string (rdOf ByteArray.empty t804 1)) ∧ w'.cell? ⟨ad807.block,ad807.off + 3,none⟩ = some (.string (rdOf ByteArray.empty t804 3))) ∧ (Kd.R Kd.string 9 w' w.heap.size (fun _ => True) (.slice (some ad807) t804.length co21) t804) ∧ (w'.heap[gb803]? = some (.cells #[.string (⟨#[]⟩ : ByteArray),.int .i64 0,.int .i64 0,.int .i64 0,.int .i64 0] 50 (0,0))) ∧ (w'.heap[s_]? = some (.cells #[.string (⟨#[]⟩ : ByteArray),.int .i64 0,.int .i64 0,.int .i64 0,.int .i64 0] 50 (0,0))) ∧ (w.heap.size ≤ s_) ∧ (w.heap.size ≤ s_) ∧ (gb803 ≠ s_) ∧ (s_ ≠ gb803) ∧ (Below w.heap.size w w')) ?_ ?_
               rotate_left
               ·intro hJ14
                refine two_ (i:=3) (j:=14) (Ni:=some 15) (Nj:=some 5) (b081 16 3711) (b081 16 20087) rfl rfl rfl rfl (two_of HT_.out (by kernel_rfl)) (by decide) (by decide) (fun K hK => ?_) (fun K hK => ?_)
                ·skip
                 refine goes_ Tryz.func63 (by kernel_rfl) rfl #[] (by rfl) rfl rfl (by (try simp only [List.map_toArray,List.map_cons,List.map_nil]); (done)) ?_
                 with_reducible refine (impl_sizeWords.calls  t808 _ A5.out).mono ?_
                 rintro e w23 ⟨v809,rfl,ho0,hb⟩
                 have HS0_:=(hb.cell (World.block_lt_of_cell? _ _ (hHeld.1))).trans (hHeld.1)
                 have HS1_:=(hb.cell (World.block_lt_of_cell? _ _ (hHeld.2.1))).trans (hHeld.2.1)
                 have HS2_:=(hb.cell (World.block_lt_of_cell? _ _ (hHeld.2.2))).trans (hHeld.2.2)
                 refine ⟨_,rfl,?_⟩
                 have n0_:=Aside0.mk (Kd.R_elder' (by exact HO806.out) (Kd.R_base ho0) hb)
                 have n1_:=Aside0.mk (Kd.R_lower (Kd.R_new' ho0 (Kd.R_lt (by exact HO806.out))) (below_size (by repeat (((with_reducible (exact HB.out)))))))
                 have n2_:=Aside0.mk (blk_below (g:=gb803) (o:=.cells #[.string (⟨#[]⟩ : ByteArray),.int .i64 0,.int .i64 0,.int .i64 0,.int .i64 0] 50 (0,0)) (by exact BK803.out) hb)
                 have n3_:=Aside0.mk (below_step (by repeat (((with_reducible (exact HB.out))))) hb)
                 clear HO806
                 clear BK803
                 clear HB
                 have HO806:=n0_
                 have HO810:=n1_
                 have BK803:=n2_
                 have HB:=n3_
                 clear n0_ n1_ n2_ n3_
                 (try clear hb)
                 (try clear hb2)
                 (try clear hk)
                 (try clear hi)
                 (try clear ho0)
                 refine hK.out _ _ ⟨HS0_,HS1_,HS2_⟩ (fun hHeld => ?_)
                 clear hK K
                 refine norm_ (a':=?_) ?_ ?_
                 rotate_left
                 ·show Act.put _ (some 15) _ = _
                  simp only [Act.put,List.setIfInBounds_toArray,List.set_cons_zero,List.set_cons_succ,i64_w,i32_w]
                  rfl
                 exact norm_ (by (simp only [putAll,Act.put,List.setIfInBounds_toArray,List.set_cons_zero,List.set_cons_succ]; done)) (hJ3 (v809) _ ⟨hHeld,(by exact Kd.R_mono HO806.out (fun _ hk => hk.2)),(by exact Kd.R_mono HO810.out (fun _ hk => hk.2)),(by exact BK803.out),(by repeat (((with_reducible (exact HB.out)))))⟩)
                ·skip
                 refine box_step ?hg (N:=5) ?hd (cs:=#[.string (⟨#[]⟩ : ByteArray),.int .i64 0,.int .i64 0,.int .i64 0,.int .i64 0]) (t:=50) ?hr ?_; (case hd => rfl); (case hg => rfl); (case hr => (go_simp; done))
                 intro gb818 hg w23 hbox hb
                 have HS0_:=(hb.cell (World.block_lt_of_cell? _ _ (hHeld.1))).trans (hHeld.1)
                 have HS1_:=(hb.cell (World.block_lt_of_cell? _ _ (hHeld.2.1))).trans (hHeld.2.1)
                 have HS2_:=(hb.cell (World.block_lt_of_cell? _ _ (hHeld.2.2))).trans (hHeld.2.2)
                 have n0_:=Aside0.mk (Kd.R_below (by exact HO806.out) hb)
                 have n1_:=Aside0.mk (blk_below (g:=gb803) (o:=.cells #[.string (⟨#[]⟩ : ByteArray),.int .i64 0,.int .i64 0,.int .i64 0,.int .i64 0] 50 (0,0)) (by exact BK803.out) hb)
                 have n2_:=Aside0.mk (below_step (by repeat (((with_reducible (exact HB.out))))) hb)
                 have n3_:=Aside0.mk (hbox)
                 have n4_:=Aside0.mk ((by rw [hg]; exact (below_size (by repeat (((with_reducible (exact HB.out)))))) : w.heap.size ≤ gb818))
                 have n5_:=Aside0.mk ((by rw [hg]; exact (below_size (by repeat (((with_reducible (exact HB.out)))))) : w.heap.size ≤ gb818))
                 have n6_:=Aside0.mk ((by rw [hg]; exact Nat.ne_of_lt (blk_lt (g:=gb803) (o:=.cells #[.string (⟨#[]⟩ : ByteArray),.int .i64 0,.int .i64 0,.int .i64 0,.int .i64 0] 50 (0,0)) (by exact BK803.out)) : gb803 ≠ gb818))
                 have n7_:=Aside0.mk ((by rw [hg]; exact Nat.ne_of_gt (blk_lt (g:=gb803) (o:=.cells #[.string (⟨#[]⟩ : ByteArray),.int .i64 0,.int .i64 0,.int .i64 0,.int .i64 0] 50 (0,0)) (by exact BK803.out)) : gb818 ≠ gb803))
                 clear HO806
                 clear BK803
                 clear HB
                 have HO806:=n0_
                 have BK803:=n1_
                 have HB:=n2_
                 have BK818:=n3_
                 have GW818:=n4_
                 have GE818:=n5_
                 have NB803_818:=n6_
                 have NB818_803:=n7_
                 clear n0_ n1_ n2_ n3_ n4_ n5_ n6_ n7_
                 clear hb hbox hg
                 refine hK.out _ _ ⟨HS0_,HS1_,HS2_⟩ (fun hHeld => ?_)
                 clear hK K
                 refine norm_ (a':=?_) ?_ ?_
                 rotate_left
                 ·show Act.put _ (some 5) _ = _
                  simp only [Act.put,List.setIfInBounds_toArray,List.set_cons_zero,List.set_cons_succ,i64_w,i32_w]
                  rfl
                 exact norm_ (by (simp only [putAll,Act.put,List.setIfInBounds_toArray,List.set_cons_zero,List.set_cons_succ]; done)) (hJ14 (gb818) _ ⟨hHeld,(by exact HO806.out),(by exact BK803.out),(by exact BK818.out),GW818.out,GE818.out,NB803_818.out,NB818_803.out,(by repeat (((with_reducible (exact HB.out)))))⟩)
               ·skip
                rintro gb818 w24 ⟨hS_,h0_,h1_,h2_,h3_,h4_,h5_,h6_,h7_⟩
                have n0_ : Aside0 (Kd.R Kd.string 9 w24 w.heap.size (fun _ => True) (.slice (some ad807) t804.length co21) t804):=⟨h0_⟩
                have n1_ : Aside0 (w24.heap[gb803]? = some (.cells #[.string (⟨#[]⟩ : ByteArray),.int .i64 0,.int .i64 0,.int .i64 0,.int .i64 0] 50 (0,0))):=⟨h1_⟩
                have n2_ : Aside0 (w24.heap[gb818]? = some (.cells #[.string (⟨#[]⟩ : ByteArray),.int .i64 0,.int .i64 0,.int .i64 0,.int .i64 0] 50 (0,0))):=⟨h2_⟩
                have n3_ : Aside0 (w.heap.size ≤ gb818):=⟨h3_⟩
                have n4_ : Aside0 (w.heap.size ≤ gb818):=⟨h4_⟩
                have n5_ : Aside0 (gb803 ≠ gb818):=⟨h5_⟩
                have n6_ : Aside0 (gb818 ≠ gb803):=⟨h6_⟩
                have n7_ : Aside0 (Below w.heap.size w w24):=⟨h7_⟩
                clear HO806
                clear BK803
                clear HB
                clear h0_ h1_ h2_ h3_ h4_ h5_ h6_ h7_
                have HO806:=n0_
                have BK803:=n1_
                have BK818:=n2_
                have GW818:=n3_
                have GE818:=n4_
                have NB803_818:=n5_
                have NB818_803:=n6_
                have HB:=n7_
                clear n0_ n1_ n2_ n3_ n4_ n5_ n6_ n7_
                have hHeld : w24.cell? ad807 = some (.string (rdOf ByteArray.empty t804 0)) ∧ w24.cell? ⟨ad807.block,ad807.off + 1,none⟩ = some (.string (rdOf ByteArray.empty t804 1)) ∧ w24.cell? ⟨ad807.block,ad807.off + 3,none⟩ = some (.string (rdOf ByteArray.empty t804 3)):=hS_
                refine norm_ (a':=?_) ?_ ?_
                rotate_left
                ·simp only [putAll,Act.put,List.setIfInBounds_toArray,List.set_cons_zero,List.set_cons_succ]
                 rfl
                refine one_ (i:=3) (N:=some 15) (b081 16 20095) rfl rfl (one_of HT_.out (by kernel_rfl)) (by decide) (fun K hK => ?_)
                refine goes_ Tryz.func63 (by kernel_rfl) rfl #[] (by rfl) rfl rfl (by (try simp only [List.map_toArray,List.map_cons,List.map_nil]); (done)) ?_
                with_reducible refine (impl_sizeWords.calls  t808 _ A5.out).mono ?_
                rintro e w25 ⟨v809,rfl,ho0,hb⟩
                have HS0_:=(hb.cell (World.block_lt_of_cell? _ _ (hHeld.1))).trans (hHeld.1)
                have HS1_:=(hb.cell (World.block_lt_of_cell? _ _ (hHeld.2.1))).trans (hHeld.2.1)
                have HS2_:=(hb.cell (World.block_lt_of_cell? _ _ (hHeld.2.2))).trans (hHeld.2.2)
                refine ⟨_,rfl,?_⟩
                have n0_:=Aside0.mk (Kd.R_elder' (by exact HO806.out) (Kd.R_base ho0) hb)
                have n1_:=Aside0.mk (Kd.R_lower (Kd.R_new' ho0 (Kd.R_lt (by exact HO806.out))) (below_size (by repeat (((with_reducible (exact HB.out)))))))
                have n2_:=Aside0.mk (blk_below (g:=gb803) (o:=.cells #[.string (⟨#[]⟩ : ByteArray),.int .i64 0,.int .i64 0,.int .i64 0,.int .i64 0] 50 (0,0)) (by exact BK803.out) hb)
                have n3_:=Aside0.mk (blk_below (g:=gb818) (o:=.cells #[.string (⟨#[]⟩ : ByteArray),.int .i64 0,.int .i64 0,.int .i64 0,.int .i64 0] 50 (0,0)) (by exact BK818.out) hb)
                have n4_:=Aside0.mk (below_step (by repeat (((with_reducible (exact HB.out))))) hb)
                clear HO806
                clear BK803
                clear BK818
                clear HB
                have HO806:=n0_
                have HO810:=n1_
                have BK803:=n2_
                have BK818:=n3_
                have HB:=n4_
                clear n0_ n1_ n2_ n3_ n4_
                (try clear hb)
                (try clear hb2)
                (try clear hk)
                (try clear hi)
                (try clear ho0)
                refine hK.out _ _ ⟨HS0_,HS1_,HS2_⟩ (fun hHeld => ?_)
                clear hK K
                refine norm_ (a':=?_) ?_ ?_
                rotate_left
                ·show Act.put _ (some 15) _ = _
                 simp only [Act.put,List.setIfInBounds_toArray,List.set_cons_zero,List.set_cons_succ,i64_w,i32_w]
                 rfl
                exact norm_ (by (simp only [putAll,Act.put,List.setIfInBounds_toArray,List.set_cons_zero,List.set_cons_succ]; done)) (hJ3_14 (v809,gb818) _ ⟨hHeld,(by exact Kd.R_mono HO806.out (fun _ hk => hk.2)),(by exact Kd.R_mono HO810.out (fun _ hk => hk.2)),(by exact BK803.out),(by exact BK818.out),GW818.out,GE818.out,NB803_818.out,NB818_803.out,(by repeat (((with_reducible (exact HB.out)))))⟩)
              ·skip
               rintro v809 w24 ⟨hS_,h0_,h1_,h2_,h3_⟩
               have n0_ : Aside0 (Kd.R Kd.string 9 w24 w.heap.size (fun k_ => some k_ ≠ (v809 : Value).ownBlock) (.slice (some ad807) t804.length co21) t804):=⟨h0_⟩
               have n1_ : Aside0 (Kd.R Kd.string 9 w24 w.heap.size (fun k_ => some k_ ≠ (.slice (some ad807) t804.length co21 : Value).ownBlock) v809 t808):=⟨h1_⟩
               have n2_ : Aside0 (w24.heap[gb803]? = some (.cells #[.string (⟨#[]⟩ : ByteArray),.int .i64 0,.int .i64 0,.int .i64 0,.int .i64 0] 50 (0,0))):=⟨h2_⟩
               have n3_ : Aside0 (Below w.heap.size w w24):=⟨h3_⟩
               clear HO806
               clear BK803
               clear HB
               clear h0_ h1_ h2_ h3_
               have HO806:=n0_
               have HO810:=n1_
               have BK803:=n2_
               have HB:=n3_
               clear n0_ n1_ n2_ n3_
               have hHeld : w24.cell? ad807 = some (.string (rdOf ByteArray.empty t804 0)) ∧ w24.cell? ⟨ad807.block,ad807.off + 1,none⟩ = some (.string (rdOf ByteArray.empty t804 1)) ∧ w24.cell? ⟨ad807.block,ad807.off + 3,none⟩ = some (.string (rdOf ByteArray.empty t804 3)):=hS_
               obtain ⟨Ao25,co25,eo25⟩:=Kd.R_slice HO810.out
               (subst eo25)
               let v809 : Value:=.slice Ao25 t808.length co25
               refine norm_ (a':=?_) ?_ ?_
               rotate_left
               ·simp only [putAll,Act.put,List.setIfInBounds_toArray,List.set_cons_zero,List.set_cons_succ]
                rfl
               refine two_ (i:=7) (j:=14) (Ni:=some 19) (Nj:=some 5) (b081 16 3839) (b081 16 20095) rfl rfl rfl rfl (two_of HT_.out (by kernel_rfl)) (by decide) (by decide) (fun K hK => ?_) (fun K hK => ?_)
               ·skip
                refine goes_ Tryz.func62 (by kernel_rfl) rfl #[.slice Ao25 t808.length co25,.string (rdOf ByteArray.empty t804 1)] (by rfl) rfl rfl (by (try simp only [List.map_toArray,List.map_cons,List.map_nil]); (rfl)) ?_
                with_reducible refine (slices_Index_string_string.calls k _ _ t808 (rdOf ByteArray.empty t804 1) t812 _ ?side1 ?side2 A7.out).mono ?_
                (case side1 => repeat ((exact (Kd.R_reads' HO810.out).2.2)))
                (case side2 => exact (Kd.R_reads' HO810.out).2.1)
                rintro e w' ⟨rfl,⟨nd,rfl⟩⟩
                refine ⟨_,rfl,?_⟩
                refine hK.out _ _ ⟨hHeld.1,hHeld.2.1,hHeld.2.2⟩ (fun hHeld => ?_)
                clear hK K
                refine norm_ (a':=?_) ?_ ?_
                rotate_left
                ·show Act.put _ (some 19) _ = _
                 simp only [Act.put,List.setIfInBounds_toArray,List.set_cons_zero,List.set_cons_succ,i64_w,i32_w]
                 rfl
                exact norm_ (by (simp only [putAll,Act.put,List.setIfInBounds_toArray,List.set_cons_zero,List.set_cons_succ]; done)) (hJ3_7 (.slice Ao25 t808.length co25) _ ⟨hHeld,(by (with_reducible repeat (apply Kd.R_drewN)); exact HO806.out),(by (with_reducible repeat (apply Kd.R_drewN)); exact HO810.out),(by (with_reducible repeat (refine blk_drewN ?_ _)); exact BK803.out),(by repeat (with_reducible first|exact HB.out|apply pw_below_drewN))⟩)
               ·skip
                refine box_step ?hg (N:=5) ?hd (cs:=#[.string (⟨#[]⟩ : ByteArray),.int .i64 0,.int .i64 0,.int .i64 0,.int .i64 0]) (t:=50) ?hr ?_; (case hd => rfl); (case hg => rfl); (case hr => (go_simp; done))
                intro gb818 hg w25 hbox hb
                have HS0_:=(hb.cell (World.block_lt_of_cell? _ _ (hHeld.1))).trans (hHeld.1)
                have HS1_:=(hb.cell (World.block_lt_of_cell? _ _ (hHeld.2.1))).trans (hHeld.2.1)
                have HS2_:=(hb.cell (World.block_lt_of_cell? _ _ (hHeld.2.2))).trans (hHeld.2.2)
                have n0_:=Aside0.mk (Kd.R_below (by exact HO806.out) hb)
                have n1_:=Aside0.mk (Kd.R_below (by exact HO810.out) hb)
                have n2_:=Aside0.mk (blk_below (g:=gb803) (o:=.cells #[.string (⟨#[]⟩ : ByteArray),.int .i64 0,.int .i64 0,.int .i64 0,.int .i64 0] 50 (0,0)) (by exact BK803.out) hb)
                have n3_:=Aside0.mk (below_step (by repeat (((with_reducible (exact HB.out))))) hb)
                have n4_:=Aside0.mk (hbox)
                have n5_:=Aside0.mk ((by rw [hg]; exact (below_size (by repeat (((with_reducible (exact HB.out)))))) : w.heap.size ≤ gb818))
                have n6_:=Aside0.mk ((by rw [hg]; exact (below_size (by repeat (((with_reducible (exact HB.out)))))) : w.heap.size ≤ gb818))
                have n7_:=Aside0.mk ((by rw [hg]; exact Nat.ne_of_lt (blk_lt (g:=gb803) (o:=.cells #[.string (⟨#[]⟩ : ByteArray),.int .i64 0,.int .i64 0,.int .i64 0,.int .i64 0] 50 (0,0)) (by exact BK803.out)) : gb803 ≠ gb818))
                have n8_:=Aside0.mk ((by rw [hg]; exact Nat.ne_of_gt (blk_lt (g:=gb803) (o:=.cells #[.string (⟨#[]⟩ : ByteArray),.int .i64 0,.int .i64 0,.int .i64 0,.int .i64 0] 50 (0,0)) (by exact BK803.out)) : gb818 ≠ gb803))
                clear HO806
                clear HO810
                clear BK803
                clear HB
                have HO806:=n0_
                have HO810:=n1_
                have BK803:=n2_
                have HB:=n3_
                have BK818:=n4_
                have GW818:=n5_
                have GE818:=n6_
                have NB803_818:=n7_
                have NB818_803:=n8_
                clear n0_ n1_ n2_ n3_ n4_ n5_ n6_ n7_ n8_
                clear hb hbox hg
                refine hK.out _ _ ⟨HS0_,HS1_,HS2_⟩ (fun hHeld => ?_)
                clear hK K
                refine norm_ (a':=?_) ?_ ?_
                rotate_left
                ·show Act.put _ (some 5) _ = _
                 simp only [Act.put,List.setIfInBounds_toArray,List.set_cons_zero,List.set_cons_succ,i64_w,i32_w]
                 rfl
                exact norm_ (by (simp only [putAll,Act.put,List.setIfInBounds_toArray,List.set_cons_zero,List.set_cons_succ]; rfl)) (hJ3_14 (v809,gb818) _ ⟨hHeld,(by exact HO806.out),(by exact HO810.out),(by exact BK803.out),(by exact BK818.out),GW818.out,GE818.out,NB803_818.out,NB818_803.out,(by repeat (((with_reducible (exact HB.out)))))⟩)
             ·skip
              rintro ⟨v809,gb818⟩ w25 ⟨hS_,h0_,h1_,h2_,h3_,h4_,h5_,h6_,h7_,h8_⟩
              have n0_ : Aside0 (Kd.R Kd.string 9 w25 w.heap.size (fun k_ => some k_ ≠ (v809 : Value).ownBlock) (.slice (some ad807) t804.length co21) t804):=⟨h0_⟩
              have n1_ : Aside0 (Kd.R Kd.string 9 w25 w.heap.size (fun k_ => some k_ ≠ (.slice (some ad807) t804.length co21 : Value).ownBlock) v809 t808):=⟨h1_⟩
              have n2_ : Aside0 (w25.heap[gb803]? = some (.cells #[.string (⟨#[]⟩ : ByteArray),.int .i64 0,.int .i64 0,.int .i64 0,.int .i64 0] 50 (0,0))):=⟨h2_⟩
              have n3_ : Aside0 (w25.heap[gb818]? = some (.cells #[.string (⟨#[]⟩ : ByteArray),.int .i64 0,.int .i64 0,.int .i64 0,.int .i64 0] 50 (0,0))):=⟨h3_⟩
              have n4_ : Aside0 (w.heap.size ≤ gb818):=⟨h4_⟩
              have n5_ : Aside0 (w.heap.size ≤ gb818):=⟨h5_⟩
              have n6_ : Aside0 (gb803 ≠ gb818):=⟨h6_⟩
              have n7_ : Aside0 (gb818 ≠ gb803):=⟨h7_⟩
              have n8_ : Aside0 (Below w.heap.size w w25):=⟨h8_⟩
              clear HO806
              clear BK803
              clear HB
              clear h0_ h1_ h2_ h3_ h4_ h5_ h6_ h7_ h8_
              have HO806:=n0_
              have HO810:=n1_
              have BK803:=n2_
              have BK818:=n3_
              have GW818:=n4_
              have GE818:=n5_
              have NB803_818:=n6_
              have NB818_803:=n7_
              have HB:=n8_
              clear n0_ n1_ n2_ n3_ n4_ n5_ n6_ n7_ n8_
              have hHeld : w25.cell? ad807 = some (.string (rdOf ByteArray.empty t804 0)) ∧ w25.cell? ⟨ad807.block,ad807.off + 1,none⟩ = some (.string (rdOf ByteArray.empty t804 1)) ∧ w25.cell? ⟨ad807.block,ad807.off + 3,none⟩ = some (.string (rdOf ByteArray.empty t804 3)):=hS_
              obtain ⟨Ao26,co26,eo26⟩:=Kd.R_slice HO810.out
              (subst eo26)
              refine norm_ (a':=?_) ?_ ?_
              rotate_left
              ·simp only [putAll,Act.put,List.setIfInBounds_toArray,List.set_cons_zero,List.set_cons_succ]
               rfl
              refine one_ (i:=7) (N:=some 19) (b081 16 20223) rfl rfl (one_of HT_.out (by kernel_rfl)) (by decide) (fun K hK => ?_)
              refine goes_ Tryz.func62 (by kernel_rfl) rfl #[.slice Ao26 t808.length co26,.string (rdOf ByteArray.empty t804 1)] (by rfl) rfl rfl (by (try simp only [List.map_toArray,List.map_cons,List.map_nil]); (rfl)) ?_
              with_reducible refine (slices_Index_string_string.calls k _ _ t808 (rdOf ByteArray.empty t804 1) t812 _ ?side1 ?side2 A7.out).mono ?_
              (case side1 => repeat ((exact (Kd.R_reads' HO810.out).2.2)))
              (case side2 => exact (Kd.R_reads' HO810.out).2.1)
              rintro e w' ⟨rfl,⟨nd,rfl⟩⟩
              refine ⟨_,rfl,?_⟩
              refine hK.out _ _ ⟨hHeld.1,hHeld.2.1,hHeld.2.2⟩ (fun hHeld => ?_)
              clear hK K
              refine norm_ (a':=?_) ?_ ?_
              rotate_left
              ·show Act.put _ (some 19) _ = _
               simp only [Act.put,List.setIfInBounds_toArray,List.set_cons_zero,List.set_cons_succ,i64_w,i32_w]
               rfl
              exact norm_ (by (simp only [putAll,Act.put,List.setIfInBounds_toArray,List.set_cons_zero,List.set_cons_succ]; done)) (hJ3_7_14 (.slice Ao26 t808.length co26,gb818) _ ⟨hHeld,(by (with_reducible repeat (apply Kd.R_drewN)); exact HO806.out),(by (with_reducible repeat (apply Kd.R_drewN)); exact HO810.out),(by (with_reducible repeat (refine blk_drewN ?_ _)); exact BK803.out),(by (with_reducible repeat (refine blk_drewN ?_ _)); exact BK818.out),GW818.out,GE818.out,NB803_818.out,NB818_803.out,(by repeat (with_reducible first|exact HB.out|apply pw_below_drewN))⟩)
            ·skip
             rintro v809 w25 ⟨hS_,h0_,h1_,h2_,h3_⟩
             have n0_ : Aside0 (Kd.R Kd.string 9 w25 w.heap.size (fun k_ => some k_ ≠ (v809 : Value).ownBlock) (.slice (some ad807) t804.length co21) t804):=⟨h0_⟩
             have n1_ : Aside0 (Kd.R Kd.string 9 w25 w.heap.size (fun k_ => some k_ ≠ (.slice (some ad807) t804.length co21 : Value).ownBlock) v809 t808):=⟨h1_⟩
             have n2_ : Aside0 (w25.heap[gb803]? = some (.cells #[.string (⟨#[]⟩ : ByteArray),.int .i64 0,.int .i64 0,.int .i64 0,.int .i64 0] 50 (0,0))):=⟨h2_⟩
             have n3_ : Aside0 (Below w.heap.size w w25):=⟨h3_⟩
             clear HO806
             clear BK803
             clear HB
             clear h0_ h1_ h2_ h3_
             have HO806:=n0_
             have HO810:=n1_
             have BK803:=n2_
             have HB:=n3_
             clear n0_ n1_ n2_ n3_
             have hHeld : w25.cell? ad807 = some (.string (rdOf ByteArray.empty t804 0)) ∧ w25.cell? ⟨ad807.block,ad807.off + 1,none⟩ = some (.string (rdOf ByteArray.empty t804 1)) ∧ w25.cell? ⟨ad807.block,ad807.off + 3,none⟩ = some (.string (rdOf ByteArray.empty t804 3)):=hS_
             refine norm_ (a':=?_) ?_ ?_
             rotate_left
             ·simp only [putAll,Act.put,List.setIfInBounds_toArray,List.set_cons_zero,List.set_cons_succ]
              rfl
             refine two_ (i:=8) (j:=14) (Ni:=some 20) (Nj:=some 5) (b081 16 4095) (b081 16 20223) rfl rfl rfl rfl (two_of HT_.out (by kernel_rfl)) (by decide) (by decide) (fun K hK => ?_) (fun K hK => ?_)
             ·skip
              refine goes_ Tryz.func64 (by kernel_rfl) rfl #[] (by rfl) rfl rfl (by (try simp only [List.map_toArray,List.map_cons,List.map_nil]); (done)) ?_
              with_reducible refine (impl_cargoWords.calls  t813 _ A8.out).mono ?_
              rintro e w26 ⟨v814,rfl,ho0,hb⟩
              have HS0_:=(hb.cell (World.block_lt_of_cell? _ _ (hHeld.1))).trans (hHeld.1)
              have HS1_:=(hb.cell (World.block_lt_of_cell? _ _ (hHeld.2.1))).trans (hHeld.2.1)
              have HS2_:=(hb.cell (World.block_lt_of_cell? _ _ (hHeld.2.2))).trans (hHeld.2.2)
              refine ⟨_,rfl,?_⟩
              have n0_:=Aside0.mk (Kd.R_elder' (by exact HO806.out) (Kd.R_base ho0) hb)
              have n1_:=Aside0.mk (Kd.R_elder' (by exact HO810.out) (Kd.R_base ho0) hb)
              have n2_:=Aside0.mk (Kd.R_lower (Kd.R_new' (Kd.R_new' ho0 (Kd.R_lt (by exact HO806.out))) (Kd.R_lt (by exact HO810.out))) (below_size (by repeat (((with_reducible (exact HB.out)))))))
              have n3_:=Aside0.mk (blk_below (g:=gb803) (o:=.cells #[.string (⟨#[]⟩ : ByteArray),.int .i64 0,.int .i64 0,.int .i64 0,.int .i64 0] 50 (0,0)) (by exact BK803.out) hb)
              have n4_:=Aside0.mk (below_step (by repeat (((with_reducible (exact HB.out))))) hb)
              clear HO806
              clear HO810
              clear BK803
              clear HB
              have HO806:=n0_
              have HO810:=n1_
              have HO815:=n2_
              have BK803:=n3_
              have HB:=n4_
              clear n0_ n1_ n2_ n3_ n4_
              (try clear hb)
              (try clear hb2)
              (try clear hk)
              (try clear hi)
              (try clear ho0)
              refine hK.out _ _ ⟨HS0_,HS1_,HS2_⟩ (fun hHeld => ?_)
              clear hK K
              refine norm_ (a':=?_) ?_ ?_
              rotate_left
              ·show Act.put _ (some 20) _ = _
               simp only [Act.put,List.setIfInBounds_toArray,List.set_cons_zero,List.set_cons_succ,i64_w,i32_w]
               rfl
              exact norm_ (by (simp only [putAll,Act.put,List.setIfInBounds_toArray,List.set_cons_zero,List.set_cons_succ]; done)) (hJ3_7_8 (v809,v814) _ ⟨hHeld,(by exact HO806.out),(by exact HO810.out),(by exact Kd.R_mono HO815.out (fun _ hk => ⟨hk.1.2,hk.2⟩)),(by exact BK803.out),(by repeat (((with_reducible (exact HB.out)))))⟩)
             ·skip
              refine box_step ?hg (N:=5) ?hd (cs:=#[.string (⟨#[]⟩ : ByteArray),.int .i64 0,.int .i64 0,.int .i64 0,.int .i64 0]) (t:=50) ?hr ?_; (case hd => rfl); (case hg => rfl); (case hr => (go_simp; done))
              intro gb818 hg w26 hbox hb
              have HS0_:=(hb.cell (World.block_lt_of_cell? _ _ (hHeld.1))).trans (hHeld.1)
              have HS1_:=(hb.cell (World.block_lt_of_cell? _ _ (hHeld.2.1))).trans (hHeld.2.1)
              have HS2_:=(hb.cell (World.block_lt_of_cell? _ _ (hHeld.2.2))).trans (hHeld.2.2)
              have n0_:=Aside0.mk (Kd.R_below (by exact HO806.out) hb)
              have n1_:=Aside0.mk (Kd.R_below (by exact HO810.out) hb)
              have n2_:=Aside0.mk (blk_below (g:=gb803) (o:=.cells #[.string (⟨#[]⟩ : ByteArray),.int .i64 0,.int .i64 0,.int .i64 0,.int .i64 0] 50 (0,0)) (by exact BK803.out) hb)
              have n3_:=Aside0.mk (below_step (by repeat (((with_reducible (exact HB.out))))) hb)
              have n4_:=Aside0.mk (hbox)
              have n5_:=Aside0.mk ((by rw [hg]; exact (below_size (by repeat (((with_reducible (exact HB.out)))))) : w.heap.size ≤ gb818))
              have n6_:=Aside0.mk ((by rw [hg]; exact (below_size (by repeat (((with_reducible (exact HB.out)))))) : w.heap.size ≤ gb818))
              have n7_:=Aside0.mk ((by rw [hg]; exact Nat.ne_of_lt (blk_lt (g:=gb803) (o:=.cells #[.string (⟨#[]⟩ : ByteArray),.int .i64 0,.int .i64 0,.int .i64 0,.int .i64 0] 50 (0,0)) (by exact BK803.out)) : gb803 ≠ gb818))
              have n8_:=Aside0.mk ((by rw [hg]; exact Nat.ne_of_gt (blk_lt (g:=gb803) (o:=.cells #[.string (⟨#[]⟩ : ByteArray),.int .i64 0,.int .i64 0,.int .i64 0,.int .i64 0] 50 (0,0)) (by exact BK803.out)) : gb818 ≠ gb803))
              clear HO806
              clear HO810
              clear BK803
              clear HB
              have HO806:=n0_
              have HO810:=n1_
              have BK803:=n2_
              have HB:=n3_
              have BK818:=n4_
              have GW818:=n5_
              have GE818:=n6_
              have NB803_818:=n7_
              have NB818_803:=n8_
              clear n0_ n1_ n2_ n3_ n4_ n5_ n6_ n7_ n8_
              clear hb hbox hg
              refine hK.out _ _ ⟨HS0_,HS1_,HS2_⟩ (fun hHeld => ?_)
              clear hK K
              refine norm_ (a':=?_) ?_ ?_
              rotate_left
              ·show Act.put _ (some 5) _ = _
               simp only [Act.put,List.setIfInBounds_toArray,List.set_cons_zero,List.set_cons_succ,i64_w,i32_w]
               rfl
              exact norm_ (by (simp only [putAll,Act.put,List.setIfInBounds_toArray,List.set_cons_zero,List.set_cons_succ]; done)) (hJ3_7_14 (v809,gb818) _ ⟨hHeld,(by exact HO806.out),(by exact HO810.out),(by exact BK803.out),(by exact BK818.out),GW818.out,GE818.out,NB803_818.out,NB818_803.out,(by repeat (((with_reducible (exact HB.out)))))⟩)
           ·skip
            rintro ⟨v809,gb818⟩ w26 ⟨hS_,h0_,h1_,h2_,h3_,h4_,h5_,h6_,h7_,h8_⟩
            have n0_ : Aside0 (Kd.R Kd.string 9 w26 w.heap.size (fun k_ => some k_ ≠ (v809 : Value).ownBlock) (.slice (some ad807) t804.length co21) t804):=⟨h0_⟩
            have n1_ : Aside0 (Kd.R Kd.string 9 w26 w.heap.size (fun k_ => some k_ ≠ (.slice (some ad807) t804.length co21 : Value).ownBlock) v809 t808):=⟨h1_⟩
            have n2_ : Aside0 (w26.heap[gb803]? = some (.cells #[.string (⟨#[]⟩ : ByteArray),.int .i64 0,.int .i64 0,.int .i64 0,.int .i64 0] 50 (0,0))):=⟨h2_⟩
            have n3_ : Aside0 (w26.heap[gb818]? = some (.cells #[.string (⟨#[]⟩ : ByteArray),.int .i64 0,.int .i64 0,.int .i64 0,.int .i64 0] 50 (0,0))):=⟨h3_⟩
            have n4_ : Aside0 (w.heap.size ≤ gb818):=⟨h4_⟩
            have n5_ : Aside0 (w.heap.size ≤ gb818):=⟨h5_⟩
            have n6_ : Aside0 (gb803 ≠ gb818):=⟨h6_⟩
            have n7_ : Aside0 (gb818 ≠ gb803):=⟨h7_⟩
            have n8_ : Aside0 (Below w.heap.size w w26):=⟨h8_⟩
            clear HO806
            clear BK803
            clear HB
            clear h0_ h1_ h2_ h3_ h4_ h5_ h6_ h7_ h8_
            have HO806:=n0_
            have HO810:=n1_
            have BK803:=n2_
            have BK818:=n3_
            have GW818:=n4_
            have GE818:=n5_
            have NB803_818:=n6_
            have NB818_803:=n7_
            have HB:=n8_
            clear n0_ n1_ n2_ n3_ n4_ n5_ n6_ n7_ n8_
            have hHeld : w26.cell? ad807 = some (.string (rdOf ByteArray.empty t804 0)) ∧ w26.cell? ⟨ad807.block,ad807.off + 1,none⟩ = some (.string (rdOf ByteArray.empty t804 1)) ∧ w26.cell? ⟨ad807.block,ad807.off + 3,none⟩ = some (.string (rdOf ByteArray.empty t804 3)):=hS_
            refine norm_ (a':=?_) ?_ ?_
            rotate_left
            ·simp only [putAll,Act.put,List.setIfInBounds_toArray,List.set_cons_zero,List.set_cons_succ]
             rfl
            refine one_ (i:=8) (N:=some 20) (b081 16 20479) rfl rfl (one_of HT_.out (by kernel_rfl)) (by decide) (fun K hK => ?_)
            refine goes_ Tryz.func64 (by kernel_rfl) rfl #[] (by rfl) rfl rfl (by (try simp only [List.map_toArray,List.map_cons,List.map_nil]); (done)) ?_
            with_reducible refine (impl_cargoWords.calls  t813 _ A8.out).mono ?_
            rintro e w27 ⟨v814,rfl,ho0,hb⟩
            have HS0_:=(hb.cell (World.block_lt_of_cell? _ _ (hHeld.1))).trans (hHeld.1)
            have HS1_:=(hb.cell (World.block_lt_of_cell? _ _ (hHeld.2.1))).trans (hHeld.2.1)
            have HS2_:=(hb.cell (World.block_lt_of_cell? _ _ (hHeld.2.2))).trans (hHeld.2.2)
            refine ⟨_,rfl,?_⟩
            have n0_:=Aside0.mk (Kd.R_elder' (by exact HO806.out) (Kd.R_base ho0) hb)
            have n1_:=Aside0.mk (Kd.R_elder' (by exact HO810.out) (Kd.R_base ho0) hb)
            have n2_:=Aside0.mk (Kd.R_lower (Kd.R_new' (Kd.R_new' ho0 (Kd.R_lt (by exact HO806.out))) (Kd.R_lt (by exact HO810.out))) (below_size (by repeat (((with_reducible (exact HB.out)))))))
            have n3_:=Aside0.mk (blk_below (g:=gb803) (o:=.cells #[.string (⟨#[]⟩ : ByteArray),.int .i64 0,.int .i64 0,.int .i64 0,.int .i64 0] 50 (0,0)) (by exact BK803.out) hb)
            have n4_:=Aside0.mk (blk_below (g:=gb818) (o:=.cells #[.string (⟨#[]⟩ : ByteArray),.int .i64 0,.int .i64 0,.int .i64 0,.int .i64 0] 50 (0,0)) (by exact BK818.out) hb)
            have n5_:=Aside0.mk (below_step (by repeat (((with_reducible (exact HB.out))))) hb)
            clear HO806
            clear HO810
            clear BK803
            clear BK818
            clear HB
            have HO806:=n0_
            have HO810:=n1_
            have HO815:=n2_
            have BK803:=n3_
            have BK818:=n4_
            have HB:=n5_
            clear n0_ n1_ n2_ n3_ n4_ n5_
            (try clear hb)
            (try clear hb2)
            (try clear hk)
            (try clear hi)
            (try clear ho0)
            refine hK.out _ _ ⟨HS0_,HS1_,HS2_⟩ (fun hHeld => ?_)
            clear hK K
            refine norm_ (a':=?_) ?_ ?_
            rotate_left
            ·show Act.put _ (some 20) _ = _
             simp only [Act.put,List.setIfInBounds_toArray,List.set_cons_zero,List.set_cons_succ,i64_w,i32_w]
             rfl
            exact norm_ (by (simp only [putAll,Act.put,List.setIfInBounds_toArray,List.set_cons_zero,List.set_cons_succ]; done)) (hJ3_7_8_14 (v809,v814,gb818) _ ⟨hHeld,(by exact HO806.out),(by exact HO810.out),(by exact Kd.R_mono HO815.out (fun _ hk => ⟨hk.1.2,hk.2⟩)),(by exact BK803.out),(by exact BK818.out),GW818.out,GE818.out,NB803_818.out,NB818_803.out,(by repeat (((with_reducible (exact HB.out)))))⟩)
          ·skip
           rintro ⟨v809,v814⟩ w26 ⟨hS_,h0_,h1_,h2_,h3_,h4_⟩
           have n0_ : Aside0 (Kd.R Kd.string 9 w26 w.heap.size (fun k_ => some k_ ≠ (v809 : Value).ownBlock ∧ some k_ ≠ (v814 : Value).ownBlock) (.slice (some ad807) t804.length co21) t804):=⟨h0_⟩
           have n1_ : Aside0 (Kd.R Kd.string 9 w26 w.heap.size (fun k_ => some k_ ≠ (.slice (some ad807) t804.length co21 : Value).ownBlock ∧ some k_ ≠ (v814 : Value).ownBlock) v809 t808):=⟨h1_⟩
           have n2_ : Aside0 (Kd.R Kd.string 9 w26 w.heap.size (fun k_ => some k_ ≠ (.slice (some ad807) t804.length co21 : Value).ownBlock ∧ some k_ ≠ (v809 : Value).ownBlock) v814 t813):=⟨h2_⟩
           have n3_ : Aside0 (w26.heap[gb803]? = some (.cells #[.string (⟨#[]⟩ : ByteArray),.int .i64 0,.int .i64 0,.int .i64 0,.int .i64 0] 50 (0,0))):=⟨h3_⟩
           have n4_ : Aside0 (Below w.heap.size w w26):=⟨h4_⟩
           clear HO806
           clear BK803
           clear HB
           clear h0_ h1_ h2_ h3_ h4_
           have HO806:=n0_
           have HO810:=n1_
           have HO815:=n2_
           have BK803:=n3_
           have HB:=n4_
           clear n0_ n1_ n2_ n3_ n4_
           have hHeld : w26.cell? ad807 = some (.string (rdOf ByteArray.empty t804 0)) ∧ w26.cell? ⟨ad807.block,ad807.off + 1,none⟩ = some (.string (rdOf ByteArray.empty t804 1)) ∧ w26.cell? ⟨ad807.block,ad807.off + 3,none⟩ = some (.string (rdOf ByteArray.empty t804 3)):=hS_
           obtain ⟨Ao27,co27,eo27⟩:=Kd.R_slice HO815.out
           (subst eo27)
           let v814 : Value:=.slice Ao27 t813.length co27
           refine norm_ (a':=?_) ?_ ?_
           rotate_left
           ·simp only [putAll,Act.put,List.setIfInBounds_toArray,List.set_cons_zero,List.set_cons_succ]
            rfl
           refine two_ (i:=12) (j:=14) (Ni:=some 24) (Nj:=some 5) (b081 16 8191) (b081 16 20479) rfl rfl rfl rfl (two_of HT_.out (by kernel_rfl)) (by decide) (by decide) (fun K hK => ?_) (fun K hK => ?_)
           ·skip
            refine goes_ Tryz.func62 (by kernel_rfl) rfl #[.slice Ao27 t813.length co27,.string (rdOf ByteArray.empty t804 3)] (by rfl) rfl rfl (by (try simp only [List.map_toArray,List.map_cons,List.map_nil]); (rfl)) ?_
            with_reducible refine (slices_Index_string_string.calls k _ _ t813 (rdOf ByteArray.empty t804 3) t817 _ ?side1 ?side2 A10.out).mono ?_
            (case side1 => repeat ((exact (Kd.R_reads' HO815.out).2.2)))
            (case side2 => exact (Kd.R_reads' HO815.out).2.1)
            rintro e w' ⟨rfl,⟨nd,rfl⟩⟩
            refine ⟨_,rfl,?_⟩
            refine hK.out _ _ ⟨hHeld.1,hHeld.2.1,hHeld.2.2⟩ (fun hHeld => ?_)
            clear hK K
            refine norm_ (a':=?_) ?_ ?_
            rotate_left
            ·show Act.put _ (some 24) _ = _
             simp only [Act.put,List.setIfInBounds_toArray,List.set_cons_zero,List.set_cons_succ,i64_w,i32_w]
             rfl
            refine pure_ (i:=13) (N:=some 25) (v:=?_) (a':=?_) (b081 16 16383) rfl rfl (any_of HT_.out (by kernel_rfl)) (fun _ _ _ h => h) (Or.inl ⟨by rfl,?_⟩) ?_ ?_
            rotate_left
            ·intro w'
             go_simp
             with_reducible rfl
            rotate_left
            ·simp only [Act.put,List.setIfInBounds_toArray,List.set_cons_zero,List.set_cons_succ,i64_w,i32_w]
             rfl
            exact norm_ (by (simp only [putAll,Act.put,List.setIfInBounds_toArray,List.set_cons_zero,List.set_cons_succ]; done)) (hJ3_7_8_12 (v809,.slice Ao27 t813.length co27) _ ⟨hHeld,(by (with_reducible repeat (apply Kd.R_drewN)); exact HO806.out),(by (with_reducible repeat (apply Kd.R_drewN)); exact HO810.out),(by (with_reducible repeat (apply Kd.R_drewN)); exact HO815.out),(by (with_reducible repeat (refine blk_drewN ?_ _)); exact BK803.out),(by repeat (with_reducible first|exact HB.out|apply pw_below_drewN))⟩)
           ·skip
            refine box_step ?hg (N:=5) ?hd (cs:=#[.string (⟨#[]⟩ : ByteArray),.int .i64 0,.int .i64 0,.int .i64 0,.int .i64 0]) (t:=50) ?hr ?_; (case hd => rfl); (case hg => rfl); (case hr => (go_simp; done))
            intro gb818 hg w27 hbox hb
            have HS0_:=(hb.cell (World.block_lt_of_cell? _ _ (hHeld.1))).trans (hHeld.1)
            have HS1_:=(hb.cell (World.block_lt_of_cell? _ _ (hHeld.2.1))).trans (hHeld.2.1)
            have HS2_:=(hb.cell (World.block_lt_of_cell? _ _ (hHeld.2.2))).trans (hHeld.2.2)
            have n0_:=Aside0.mk (Kd.R_below (by exact HO806.out) hb)
            have n1_:=Aside0.mk (Kd.R_below (by exact HO810.out) hb)
            have n2_:=Aside0.mk (Kd.R_below (by exact HO815.out) hb)
            have n3_:=Aside0.mk (blk_below (g:=gb803) (o:=.cells #[.string (⟨#[]⟩ : ByteArray),.int .i64 0,.int .i64 0,.int .i64 0,.int .i64 0] 50 (0,0)) (by exact BK803.out) hb)
            have n4_:=Aside0.mk (below_step (by repeat (((with_reducible (exact HB.out))))) hb)
            have n5_:=Aside0.mk (hbox)
            have n6_:=Aside0.mk ((by rw [hg]; exact (below_size (by repeat (((with_reducible (exact HB.out)))))) : w.heap.size ≤ gb818))
            have n7_:=Aside0.mk ((by rw [hg]; exact (below_size (by repeat (((with_reducible (exact HB.out)))))) : w.heap.size ≤ gb818))
            have n8_:=Aside0.mk ((by rw [hg]; exact Nat.ne_of_lt (blk_lt (g:=gb803) (o:=.cells #[.string (⟨#[]⟩ : ByteArray),.int .i64 0,.int .i64 0,.int .i64 0,.int .i64 0] 50 (0,0)) (by exact BK803.out)) : gb803 ≠ gb818))
            have n9_:=Aside0.mk ((by rw [hg]; exact Nat.ne_of_gt (blk_lt (g:=gb803) (o:=.cells #[.string (⟨#[]⟩ : ByteArray),.int .i64 0,.int .i64 0,.int .i64 0,.int .i64 0] 50 (0,0)) (by exact BK803.out)) : gb818 ≠ gb803))
            clear HO806
            clear HO810
            clear HO815
            clear BK803
            clear HB
            have HO806:=n0_
            have HO810:=n1_
            have HO815:=n2_
            have BK803:=n3_
            have HB:=n4_
            have BK818:=n5_
            have GW818:=n6_
            have GE818:=n7_
            have NB803_818:=n8_
            have NB818_803:=n9_
            clear n0_ n1_ n2_ n3_ n4_ n5_ n6_ n7_ n8_ n9_
            clear hb hbox hg
            refine hK.out _ _ ⟨HS0_,HS1_,HS2_⟩ (fun hHeld => ?_)
            clear hK K
            refine norm_ (a':=?_) ?_ ?_
            rotate_left
            ·show Act.put _ (some 5) _ = _
             simp only [Act.put,List.setIfInBounds_toArray,List.set_cons_zero,List.set_cons_succ,i64_w,i32_w]
             rfl
            exact norm_ (by (simp only [putAll,Act.put,List.setIfInBounds_toArray,List.set_cons_zero,List.set_cons_succ]; rfl)) (hJ3_7_8_14 (v809,v814,gb818) _ ⟨hHeld,(by exact HO806.out),(by exact HO810.out),(by exact HO815.out),(by exact BK803.out),(by exact BK818.out),GW818.out,GE818.out,NB803_818.out,NB818_803.out,(by repeat (((with_reducible (exact HB.out)))))⟩)
         ·skip
          rintro ⟨v809,v814,gb818⟩ w27 ⟨hS_,h0_,h1_,h2_,h3_,h4_,h5_,h6_,h7_,h8_,h9_⟩
          have n0_ : Aside0 (Kd.R Kd.string 9 w27 w.heap.size (fun k_ => some k_ ≠ (v809 : Value).ownBlock ∧ some k_ ≠ (v814 : Value).ownBlock) (.slice (some ad807) t804.length co21) t804):=⟨h0_⟩
          have n1_ : Aside0 (Kd.R Kd.string 9 w27 w.heap.size (fun k_ => some k_ ≠ (.slice (some ad807) t804.length co21 : Value).ownBlock ∧ some k_ ≠ (v814 : Value).ownBlock) v809 t808):=⟨h1_⟩
          have n2_ : Aside0 (Kd.R Kd.string 9 w27 w.heap.size (fun k_ => some k_ ≠ (.slice (some ad807) t804.length co21 : Value).ownBlock ∧ some k_ ≠ (v809 : Value).ownBlock) v814 t813):=⟨h2_⟩
          have n3_ : Aside0 (w27.heap[gb803]? = some (.cells #[.string (⟨#[]⟩ : ByteArray),.int .i64 0,.int .i64 0,.int .i64 0,.int .i64 0] 50 (0,0))):=⟨h3_⟩
          have n4_ : Aside0 (w27.heap[gb818]? = some (.cells #[.string (⟨#[]⟩ : ByteArray),.int .i64 0,.int .i64 0,.int .i64 0,.int .i64 0] 50 (0,0))):=⟨h4_⟩
          have n5_ : Aside0 (w.heap.size ≤ gb818):=⟨h5_⟩
          have n6_ : Aside0 (w.heap.size ≤ gb818):=⟨h6_⟩
          have n7_ : Aside0 (gb803 ≠ gb818):=⟨h7_⟩
          have n8_ : Aside0 (gb818 ≠ gb803):=⟨h8_⟩
          have n9_ : Aside0 (Below w.heap.size w w27):=⟨h9_⟩
          clear HO806
          clear BK803
          clear HB
          clear h0_ h1_ h2_ h3_ h4_ h5_ h6_ h7_ h8_ h9_
          have HO806:=n0_
          have HO810:=n1_
          have HO815:=n2_
          have BK803:=n3_
          have BK818:=n4_
          have GW818:=n5_
          have GE818:=n6_
          have NB803_818:=n7_
          have NB818_803:=n8_
          have HB:=n9_
          clear n0_ n1_ n2_ n3_ n4_ n5_ n6_ n7_ n8_ n9_
          have hHeld : w27.cell? ad807 = some (.string (rdOf ByteArray.empty t804 0)) ∧ w27.cell? ⟨ad807.block,ad807.off + 1,none⟩ = some (.string (rdOf ByteArray.empty t804 1)) ∧ w27.cell? ⟨ad807.block,ad807.off + 3,none⟩ = some (.string (rdOf ByteArray.empty t804 3)):=hS_
          obtain ⟨Ao28,co28,eo28⟩:=Kd.R_slice HO815.out
          (subst eo28)
          refine norm_ (a':=?_) ?_ ?_
          rotate_left
          ·simp only [putAll,Act.put,List.setIfInBounds_toArray,List.set_cons_zero,List.set_cons_succ]
           rfl
          refine one_ (i:=12) (N:=some 24) (b081 16 24575) rfl rfl (one_of HT_.out (by kernel_rfl)) (by decide) (fun K hK => ?_)
          refine goes_ Tryz.func62 (by kernel_rfl) rfl #[.slice Ao28 t813.length co28,.string (rdOf ByteArray.empty t804 3)] (by rfl) rfl rfl (by (try simp only [List.map_toArray,List.map_cons,List.map_nil]); (rfl)) ?_
          with_reducible refine (slices_Index_string_string.calls k _ _ t813 (rdOf ByteArray.empty t804 3) t817 _ ?side1 ?side2 A10.out).mono ?_
          (case side1 => repeat ((exact (Kd.R_reads' HO815.out).2.2)))
          (case side2 => exact (Kd.R_reads' HO815.out).2.1)
          rintro e w' ⟨rfl,⟨nd,rfl⟩⟩
          refine ⟨_,rfl,?_⟩
          refine hK.out _ _ ⟨hHeld.1,hHeld.2.1,hHeld.2.2⟩ (fun hHeld => ?_)
          clear hK K
          refine norm_ (a':=?_) ?_ ?_
          rotate_left
          ·show Act.put _ (some 24) _ = _
           simp only [Act.put,List.setIfInBounds_toArray,List.set_cons_zero,List.set_cons_succ,i64_w,i32_w]
           rfl
          refine pure_ (i:=13) (N:=some 25) (v:=?_) (a':=?_) (b081 16 32767) rfl rfl (any_of HT_.out (by kernel_rfl)) (fun _ _ _ h => h) (Or.inl ⟨by rfl,?_⟩) ?_ ?_
          rotate_left
          ·intro w'
           go_simp
           with_reducible rfl
          rotate_left
          ·simp only [Act.put,List.setIfInBounds_toArray,List.set_cons_zero,List.set_cons_succ,i64_w,i32_w]
           rfl
          exact norm_ (by (simp only [putAll,Act.put,List.setIfInBounds_toArray,List.set_cons_zero,List.set_cons_succ]; done)) (hJ3_7_8_12_14 (v809,.slice Ao28 t813.length co28,gb818) _ ⟨hHeld,(by (with_reducible repeat (apply Kd.R_drewN)); exact HO806.out),(by (with_reducible repeat (apply Kd.R_drewN)); exact HO810.out),(by (with_reducible repeat (apply Kd.R_drewN)); exact HO815.out),(by (with_reducible repeat (refine blk_drewN ?_ _)); exact BK803.out),(by (with_reducible repeat (refine blk_drewN ?_ _)); exact BK818.out),GW818.out,GE818.out,NB803_818.out,NB818_803.out,(by repeat (with_reducible first|exact HB.out|apply pw_below_drewN))⟩)
        ·skip
         rintro ⟨v809,v814⟩ w27 ⟨hS_,h0_,h1_,h2_,h3_,h4_⟩
         have n0_ : Aside0 (Kd.R Kd.string 9 w27 w.heap.size (fun k_ => some k_ ≠ (v809 : Value).ownBlock ∧ some k_ ≠ (v814 : Value).ownBlock) (.slice (some ad807) t804.length co21) t804):=⟨h0_⟩
         have n1_ : Aside0 (Kd.R Kd.string 9 w27 w.heap.size (fun k_ => some k_ ≠ (.slice (some ad807) t804.length co21 : Value).ownBlock ∧ some k_ ≠ (v814 : Value).ownBlock) v809 t808):=⟨h1_⟩
         have n2_ : Aside0 (Kd.R Kd.string 9 w27 w.heap.size (fun k_ => some k_ ≠ (.slice (some ad807) t804.length co21 : Value).ownBlock ∧ some k_ ≠ (v809 : Value).ownBlock) v814 t813):=⟨h2_⟩
         have n3_ : Aside0 (w27.heap[gb803]? = some (.cells #[.string (⟨#[]⟩ : ByteArray),.int .i64 0,.int .i64 0,.int .i64 0,.int .i64 0] 50 (0,0))):=⟨h3_⟩
         have n4_ : Aside0 (Below w.heap.size w w27):=⟨h4_⟩
         clear HO806
         clear BK803
         clear HB
         clear h0_ h1_ h2_ h3_ h4_
         have HO806:=n0_
         have HO810:=n1_
         have HO815:=n2_
         have BK803:=n3_
         have HB:=n4_
         clear n0_ n1_ n2_ n3_ n4_
         have hHeld : w27.cell? ad807 = some (.string (rdOf ByteArray.empty t804 0)) ∧ w27.cell? ⟨ad807.block,ad807.off + 1,none⟩ = some (.string (rdOf ByteArray.empty t804 1)) ∧ w27.cell? ⟨ad807.block,ad807.off + 3,none⟩ = some (.string (rdOf ByteArray.empty t804 3)):=hS_
         refine norm_ (a':=?_) ?_ ?_
         rotate_left
         ·simp only [putAll,Act.put,List.setIfInBounds_toArray,List.set_cons_zero,List.set_cons_succ]
          rfl
         refine one_ (i:=14) (N:=some 5) (b081 16 32767) rfl rfl (one_of HT_.out (by kernel_rfl)) (by decide) (fun K hK => ?_)
         refine box_step ?hg (N:=5) ?hd (cs:=#[.string (⟨#[]⟩ : ByteArray),.int .i64 0,.int .i64 0,.int .i64 0,.int .i64 0]) (t:=50) ?hr ?_; (case hd => rfl); (case hg => rfl); (case hr => (go_simp; done))
         intro gb818 hg w28 hbox hb
         have HS0_:=(hb.cell (World.block_lt_of_cell? _ _ (hHeld.1))).trans (hHeld.1)
         have HS1_:=(hb.cell (World.block_lt_of_cell? _ _ (hHeld.2.1))).trans (hHeld.2.1)
         have HS2_:=(hb.cell (World.block_lt_of_cell? _ _ (hHeld.2.2))).trans (hHeld.2.2)
         have n0_:=Aside0.mk (Kd.R_below (by exact HO806.out) hb)
         have n1_:=Aside0.mk (Kd.R_below (by exact HO810.out) hb)
         have n2_:=Aside0.mk (Kd.R_below (by exact HO815.out) hb)
         have n3_:=Aside0.mk (blk_below (g:=gb803) (o:=.cells #[.string (⟨#[]⟩ : ByteArray),.int .i64 0,.int .i64 0,.int .i64 0,.int .i64 0] 50 (0,0)) (by exact BK803.out) hb)
         have n4_:=Aside0.mk (below_step (by repeat (((with_reducible (exact HB.out))))) hb)
         have n5_:=Aside0.mk (hbox)
         have n6_:=Aside0.mk ((by rw [hg]; exact (below_size (by repeat (((with_reducible (exact HB.out)))))) : w.heap.size ≤ gb818))
         have n7_:=Aside0.mk ((by rw [hg]; exact (below_size (by repeat (((with_reducible (exact HB.out)))))) : w.heap.size ≤ gb818))
         have n8_:=Aside0.mk ((by rw [hg]; exact Nat.ne_of_lt (blk_lt (g:=gb803) (o:=.cells #[.string (⟨#[]⟩ : ByteArray),.int .i64 0,.int .i64 0,.int .i64 0,.int .i64 0] 50 (0,0)) (by exact BK803.out)) : gb803 ≠ gb818))
         have n9_:=Aside0.mk ((by rw [hg]; exact Nat.ne_of_gt (blk_lt (g:=gb803) (o:=.cells #[.string (⟨#[]⟩ : ByteArray),.int .i64 0,.int .i64 0,.int .i64 0,.int .i64 0] 50 (0,0)) (by exact BK803.out)) : gb818 ≠ gb803))
         clear HO806
         clear HO810
         clear HO815
         clear BK803
         clear HB
         have HO806:=n0_
         have HO810:=n1_
         have HO815:=n2_
         have BK803:=n3_
         have HB:=n4_
         have BK818:=n5_
         have GW818:=n6_
         have GE818:=n7_
         have NB803_818:=n8_
         have NB818_803:=n9_
         clear n0_ n1_ n2_ n3_ n4_ n5_ n6_ n7_ n8_ n9_
         clear hb hbox hg
         refine hK.out _ _ ⟨HS0_,HS1_,HS2_⟩ (fun hHeld => ?_)
         clear hK K
         refine norm_ (a':=?_) ?_ ?_
         rotate_left
         ·show Act.put _ (some 5) _ = _
          simp only [Act.put,List.setIfInBounds_toArray,List.set_cons_zero,List.set_cons_succ,i64_w,i32_w]
          rfl
         exact norm_ (by (simp only [putAll,Act.put,List.setIfInBounds_toArray,List.set_cons_zero,List.set_cons_succ]; done)) (hJ3_7_8_12_14 (v809,v814,gb818) _ ⟨hHeld,(by exact HO806.out),(by exact HO810.out),(by exact HO815.out),(by exact BK803.out),(by exact BK818.out),GW818.out,GE818.out,NB803_818.out,NB818_803.out,(by repeat (((with_reducible (exact HB.out)))))⟩)
       rintro ⟨v809,v814,gb818⟩ w28 ⟨hS_,h0_,h1_,h2_,h3_,h4_,h5_,h6_,h7_,h8_,h9_⟩
       have n0_ : Aside0 (Kd.R Kd.string 9 w28 w.heap.size (fun k_ => some k_ ≠ (v809 : Value).ownBlock ∧ some k_ ≠ (v814 : Value).ownBlock) (.slice (some ad807) t804.length co21) t804):=⟨h0_⟩
       have n1_ : Aside0 (Kd.R Kd.string 9 w28 w.heap.size (fun k_ => some k_ ≠ (.slice (some ad807) t804.length co21 : Value).ownBlock ∧ some k_ ≠ (v814 : Value).ownBlock) v809 t808):=⟨h1_⟩
       have n2_ : Aside0 (Kd.R Kd.string 9 w28 w.heap.size (fun k_ => some k_ ≠ (.slice (some ad807) t804.length co21 : Value).ownBlock ∧ some k_ ≠ (v809 : Value).ownBlock) v814 t813):=⟨h2_⟩
       have n3_ : Aside0 (w28.heap[gb803]? = some (.cells #[.string (⟨#[]⟩ : ByteArray),.int .i64 0,.int .i64 0,.int .i64 0,.int .i64 0] 50 (0,0))):=⟨h3_⟩
       have n4_ : Aside0 (w28.heap[gb818]? = some (.cells #[.string (⟨#[]⟩ : ByteArray),.int .i64 0,.int .i64 0,.int .i64 0,.int .i64 0] 50 (0,0))):=⟨h4_⟩
       have n5_ : Aside0 (w.heap.size ≤ gb818):=⟨h5_⟩
       have n6_ : Aside0 (w.heap.size ≤ gb818):=⟨h6_⟩
       have n7_ : Aside0 (gb803 ≠ gb818):=⟨h7_⟩
       have n8_ : Aside0 (gb818 ≠ gb803):=⟨h8_⟩
       have n9_ : Aside0 (Below w.heap.size w w28):=⟨h9_⟩
       clear HO806
       clear BK803
       clear HB
       clear h0_ h1_ h2_ h3_ h4_ h5_ h6_ h7_ h8_ h9_
       have HO806:=n0_
       have HO810:=n1_
       have HO815:=n2_
       have BK803:=n3_
       have BK818:=n4_
       have GW818:=n5_
       have GE818:=n6_
       have NB803_818:=n7_
       have NB818_803:=n8_
       have HB:=n9_
       clear n0_ n1_ n2_ n3_ n4_ n5_ n6_ n7_ n8_ n9_
       have hHeld : w28.cell? ad807 = some (.string (rdOf ByteArray.empty t804 0)) ∧ w28.cell? ⟨ad807.block,ad807.off + 1,none⟩ = some (.string (rdOf ByteArray.empty t804 1)) ∧ w28.cell? ⟨ad807.block,ad807.off + 3,none⟩ = some (.string (rdOf ByteArray.empty t804 3)):=hS_
       refine norm_ (a':=?_) ?_ ?_
       rotate_left
       ·simp only [putAll,Act.put,List.setIfInBounds_toArray,List.set_cons_zero,List.set_cons_succ]
        rfl
       refine one_ (i:=15) (N:=none) (b081 16 65535) rfl rfl (one_of HT_.out (by kernel_rfl)) (by decide) (fun K hK => ?_)
       have hs29 : w28.cell? ⟨gb818,0,none⟩ = some (.string (⟨#[]⟩ : ByteArray)):=(blk_cell BK818.out 0).trans rfl
       have H:=HF_.out
       clear HF_
       by_cases c16 : t825 = true
       ·subst c16
        have H1 : ((impl_containerText.f (rdOf ByteArray.empty t804 0) t812 t820 t817 t823).bind fun t826 => (if t826.toList = a0.toList then (some (rdOf ByteArray.empty t804 0,t812,t820,t817,t823,true)) else (some ((⟨#[]⟩ : ByteArray),0,0,0,0,false)))) = some (r1,r2,r3,r4,r5,r6):=by rw [if_pos rfl] at H; exact H
        clear H
        have H:=H1
        clear H1
        replace H:=Option.bind_eq_some_iff.mp H
        obtain ⟨t826,A170,H⟩:=H
        replace H : (if t826.toList = a0.toList then (some (rdOf ByteArray.empty t804 0,t812,t820,t817,t823,true)) else (some ((⟨#[]⟩ : ByteArray),0,0,0,0,false))) = some (r1,r2,r3,r4,r5,r6):=H
        have A17:=Aside0.mk A170
        clear A170
        by_cases c18 : t826.toList = a0.toList
        ·rw [if_pos c18] at H
         have c18b0 : (t826.toList == a0.toList) = true:=beq_iff_eq.mpr c18
         have c18b1 : (t826.toList != a0.toList) = false:=bne_eq_false_iff_eq.mpr c18
         clear c18
         simp only [Option.some.injEq,Prod.mk.injEq] at H
         obtain ⟨rfl,rfl,rfl,rfl,rfl,rfl⟩:=H
         have hfs29:=blk_frozen BK818.out 0
         have hns29_0:=NB803_818.out
         have hms29_0:=NB818_803.out
         have hs30 : w28.cell? ⟨gb818,1,none⟩ = some (.int .i64 0):=(blk_cell BK818.out 1).trans rfl
         have hfs30:=blk_frozen BK818.out 1
         have hns30_0:=NB803_818.out
         have hms30_0:=NB818_803.out
         have hs31 : w28.cell? ⟨gb818,2,none⟩ = some (.int .i64 0):=(blk_cell BK818.out 2).trans rfl
         have hfs31:=blk_frozen BK818.out 2
         have hns31_0:=NB803_818.out
         have hms31_0:=NB818_803.out
         have hs32 : w28.cell? ⟨gb818,3,none⟩ = some (.int .i64 0):=(blk_cell BK818.out 3).trans rfl
         have hfs32:=blk_frozen BK818.out 3
         have hns32_0:=NB803_818.out
         have hms32_0:=NB818_803.out
         have hs33 : w28.cell? ⟨gb818,4,none⟩ = some (.int .i64 0):=(blk_cell BK818.out 4).trans rfl
         have hfs33:=blk_frozen BK818.out 4
         have hns33_0:=NB803_818.out
         have hms33_0:=NB818_803.out
         refine skip_ (w1:=?_) (by rfl) rfl ?_ ?_
         rotate_left
         ·go_simp
          rfl
         have hne0_:=Kd.own_blk (Kd.R_ne HO806.out BK818.out (by decide))
         refine hK.out _ _ ⟨?_,?_,?_⟩ (fun hHeld => ?_)
         ·(iterate 5 (refine (cell_far ?hh_ _).trans ?_; (case hh_ => exact hne0_))); exact hHeld.1
         ·(iterate 5 (refine (cell_far ?hh_ _).trans ?_; (case hh_ => exact hne0_))); exact hHeld.2.1
         ·(iterate 5 (refine (cell_far ?hh_ _).trans ?_; (case hh_ => exact hne0_))); exact hHeld.2.2
         clear hK K
         refine done_ (done_of HT_.out (by kernel_rfl)) ?_
         have p819 : 0 ≤ (2 : Int):=(by omega)
         have q819 : 2 < (t804.length : Int):=of_decide_eq_true (by (with_reducible assumption))
         obtain ⟨ad819,e819,hx819_0⟩:=Kd.at_string (Kd.R_reads' HO806.out).2.2 2 p819 q819
         obtain rfl : ad807 = ad819:=(by injection e819)
         (try simp only [show (2 : Int).toNat = 2 from rfl,Nat.reduceMul,Nat.reduceEqDiff,Go.Addr.add,↓reduceIte] at hx819_0)
         have qi819 : (2 < t804.length) = True:=eq_true (by omega)
         (try rw [show (2 : Int).toNat = 2 from rfl] at hx819_0)
         have hn819_0 : ad807.block ≠ gb818:=Kd.own_blk (Kd.R_ne HO806.out BK818.out (by decide))
         have hn819_1 : ad807.block ≠ gb818:=Kd.own_blk (Kd.R_ne HO806.out BK818.out (by decide))
         have hn819_2 : ad807.block ≠ gb818:=Kd.own_blk (Kd.R_ne HO806.out BK818.out (by decide))
         have hn819_3 : ad807.block ≠ gb818:=Kd.own_blk (Kd.R_ne HO806.out BK818.out (by decide))
         have hn819_4 : ad807.block ≠ gb818:=Kd.own_blk (Kd.R_ne HO806.out BK818.out (by decide))
         replace hx819_0:=(cell_far (p:=⟨gb818,0,none⟩) (by (exact hn819_0)) (.string (rdOf ByteArray.empty t804 0))).trans hx819_0
         replace hx819_0:=(cell_far (p:=⟨gb818,1,none⟩) (by (exact hn819_1)) (.int .i64 t812)).trans hx819_0
         replace hx819_0:=(cell_far (p:=⟨gb818,2,none⟩) (by (exact hn819_2)) (.int .i64 0)).trans hx819_0
         replace hx819_0:=(cell_far (p:=⟨gb818,3,none⟩) (by (exact hn819_3)) (.int .i64 t817)).trans hx819_0
         replace hx819_0:=(cell_far (p:=⟨gb818,4,none⟩) (by (exact hn819_4)) (.int .i64 0)).trans hx819_0
         clear hn819_0
         clear hn819_1
         clear hn819_2
         clear hn819_3
         clear hn819_4
         replace p819:=eq_true p819
         replace q819:=eq_true q819
         try go_wp2_with (first|((with_reducible refine gate_callee (f:=38) rfl ?_); refine goesL_ (some 30) rfl rfl Tryz.func38 (by kernel_rfl) rfl #[.string (rdOf ByteArray.empty t804 2)] rfl (by (try simp only [List.map_toArray,List.map_cons,List.map_nil]); (rfl)) ?_; (with_reducible refine (impl_ParseInt.calls (rdOf ByteArray.empty t804 2) t820 t821 _ ?sideL A12.out).mono ?_); (case sideL => refine LaidA.to_LaidE ?_; ((exact LaidA.below HL.out (by repeat (with_reducible first|exact HB.out|refine below_set ?_ GE818.out))))); rintro e w34 ⟨rfl,hb⟩; refine ⟨_,rfl,?_⟩; have n0_:=Aside0.mk (Kd.R_below (by exact (Kd.R_mono (Kd.R_far (p:=⟨gb818,4,none⟩) (Kd.R_far (p:=⟨gb818,3,none⟩) (Kd.R_far (p:=⟨gb818,2,none⟩) (Kd.R_far (p:=⟨gb818,1,none⟩) (Kd.R_far (p:=⟨gb818,0,none⟩) (Kd.R_types HO806.out BK818.out (by decide)) (fun _ hk => hk.2) (.string (rdOf ByteArray.empty t804 0))) (fun _ hk => hk.2) (.int .i64 t812)) (fun _ hk => hk.2) (.int .i64 0)) (fun _ hk => hk.2) (.int .i64 t817)) (fun _ hk => hk.2) (.int .i64 0)) (fun _ h_ => h_.1))) hb); have n1_:=Aside0.mk (Kd.R_below (by exact (Kd.R_mono (Kd.R_far (p:=⟨gb818,4,none⟩) (Kd.R_far (p:=⟨gb818,3,none⟩) (Kd.R_far (p:=⟨gb818,2,none⟩) (Kd.R_far (p:=⟨gb818,1,none⟩) (Kd.R_far (p:=⟨gb818,0,none⟩) (Kd.R_types HO810.out BK818.out (by decide)) (fun _ hk => hk.2) (.string (rdOf ByteArray.empty t804 0))) (fun _ hk => hk.2) (.int .i64 t812)) (fun _ hk => hk.2) (.int .i64 0)) (fun _ hk => hk.2) (.int .i64 t817)) (fun _ hk => hk.2) (.int .i64 0)) (fun _ h_ => h_.1))) hb); have n2_:=Aside0.mk (Kd.R_below (by exact (Kd.R_mono (Kd.R_far (p:=⟨gb818,4,none⟩) (Kd.R_far (p:=⟨gb818,3,none⟩) (Kd.R_far (p:=⟨gb818,2,none⟩) (Kd.R_far (p:=⟨gb818,1,none⟩) (Kd.R_far (p:=⟨gb818,0,none⟩) (Kd.R_types HO815.out BK818.out (by decide)) (fun _ hk => hk.2) (.string (rdOf ByteArray.empty t804 0))) (fun _ hk => hk.2) (.int .i64 t812)) (fun _ hk => hk.2) (.int .i64 0)) (fun _ hk => hk.2) (.int .i64 t817)) (fun _ hk => hk.2) (.int .i64 0)) (fun _ h_ => h_.1))) hb); have n3_:=Aside0.mk (blk_below (g:=gb803) (o:=.cells #[.string (⟨#[]⟩ : ByteArray),.int .i64 0,.int .i64 0,.int .i64 0,.int .i64 0] 50 (0,0)) (by refine blk_far ?_ NB803_818.out _; refine blk_far ?_ NB803_818.out _; refine blk_far ?_ NB803_818.out _; refine blk_far ?_ NB803_818.out _; refine blk_far ?_ NB803_818.out _; exact BK803.out) hb); have n4_:=Aside0.mk (blk_below (g:=gb818) (o:=.cells #[.string (rdOf ByteArray.empty t804 0),.int .i64 t812,.int .i64 0,.int .i64 t817,.int .i64 0] 50 (0,0)) (by refine blk_put (cs:=#[.string (rdOf ByteArray.empty t804 0),.int .i64 t812,.int .i64 0,.int .i64 t817,.int .i64 0]) ?_ 4 _ rfl; refine blk_put (cs:=#[.string (rdOf ByteArray.empty t804 0),.int .i64 t812,.int .i64 0,.int .i64 0,.int .i64 0]) ?_ 3 _ rfl; refine blk_put (cs:=#[.string (rdOf ByteArray.empty t804 0),.int .i64 t812,.int .i64 0,.int .i64 0,.int .i64 0]) ?_ 2 _ rfl; refine blk_put (cs:=#[.string (rdOf ByteArray.empty t804 0),.int .i64 0,.int .i64 0,.int .i64 0,.int .i64 0]) ?_ 1 _ rfl; refine blk_put (cs:=#[.string (⟨#[]⟩ : ByteArray),.int .i64 0,.int .i64 0,.int .i64 0,.int .i64 0]) ?_ 0 _ rfl; exact BK818.out) hb); have n5_:=Aside0.mk (below_step (by repeat (with_reducible first|exact HB.out|refine below_set ?_ GE818.out)) hb); clear HO806; clear HO810; clear HO815; clear BK803; clear BK818; clear HB; have HO806:=n0_; have HO810:=n1_; have HO815:=n2_; have BK803:=n3_; have BK818:=n4_; have HB:=n5_; clear n0_ n1_ n2_ n3_ n4_ n5_; (try clear hb); (try clear hb2); (try clear hk); (try clear hi); have hnb35:=NB818_803.out; have hnc35:=NB803_818.out; have hcz36_0 : w34.cell? ⟨gb818,0,none⟩ = some (.string (rdOf ByteArray.empty t804 0)):=(blk_cell BK818.out 0).trans rfl; have hcz36_1 : w34.cell? ⟨gb818,1,none⟩ = some (.int .i64 t812):=(blk_cell BK818.out 1).trans rfl; have hcz36_2 : w34.cell? ⟨gb818,2,none⟩ = some (.int .i64 0):=(blk_cell BK818.out 2).trans rfl; have hcz36_3 : w34.cell? ⟨gb818,3,none⟩ = some (.int .i64 t817):=(blk_cell BK818.out 3).trans rfl; have hcz36_4 : w34.cell? ⟨gb818,4,none⟩ = some (.int .i64 0):=(blk_cell BK818.out 4).trans rfl; have hfz36_0:=blk_frozen BK818.out 0; have hfz36_1:=blk_frozen BK818.out 1; have hfz36_2:=blk_frozen BK818.out 2; have hfz36_3:=blk_frozen BK818.out 3; have hfz36_4:=blk_frozen BK818.out 4; have p822 : 0 ≤ (4 : Int):=(by omega); have q822 : 4 < (t804.length : Int):=of_decide_eq_true (by (with_reducible assumption)); obtain ⟨ad822,e822,hx822_0⟩:=Kd.at_string (Kd.R_reads' HO806.out).2.2 4 p822 q822; obtain rfl : ad807 = ad822:=(by injection e822); (try simp only [show (4 : Int).toNat = 4 from rfl,Nat.reduceMul,Nat.reduceEqDiff,Go.Addr.add,↓reduceIte] at hx822_0); have qi822 : (4 < t804.length) = True:=eq_true (by omega); (try rw [show (4 : Int).toNat = 4 from rfl] at hx822_0); have hn822_0 : ad807.block ≠ gb818:=Kd.own_blk (Kd.R_ne HO806.out BK818.out (by decide)); replace hx822_0:=(cell_far (p:=⟨gb818,2,none⟩) (by (exact hn822_0)) (.int .i64 t820)).trans hx822_0; clear hn822_0; replace p822:=eq_true p822; replace q822:=eq_true q822)|((with_reducible refine gate_callee (f:=38) rfl ?_); refine goesL_ (some 38) rfl rfl Tryz.func38 (by kernel_rfl) rfl #[.string (rdOf ByteArray.empty t804 4)] rfl (by (try simp only [List.map_toArray,List.map_cons,List.map_nil]); (rfl)) ?_; (with_reducible refine (impl_ParseInt.calls (rdOf ByteArray.empty t804 4) t823 t824 _ ?sideL A14.out).mono ?_); (case sideL => refine LaidA.to_LaidE ?_; ((exact LaidA.below HL.out (by repeat (with_reducible first|exact HB.out|refine below_set ?_ GE818.out))))); rintro e w37 ⟨rfl,hb⟩; refine ⟨_,rfl,?_⟩; have n0_:=Aside0.mk (Kd.R_below (by exact (Kd.R_mono (Kd.R_far (p:=⟨gb818,2,none⟩) (Kd.R_types HO806.out BK818.out (by decide)) (fun _ hk => hk.2) (.int .i64 t820)) (fun _ h_ => h_.1))) hb); have n1_:=Aside0.mk (Kd.R_below (by exact (Kd.R_mono (Kd.R_far (p:=⟨gb818,2,none⟩) (Kd.R_types HO810.out BK818.out (by decide)) (fun _ hk => hk.2) (.int .i64 t820)) (fun _ h_ => h_.1))) hb); have n2_:=Aside0.mk (Kd.R_below (by exact (Kd.R_mono (Kd.R_far (p:=⟨gb818,2,none⟩) (Kd.R_types HO815.out BK818.out (by decide)) (fun _ hk => hk.2) (.int .i64 t820)) (fun _ h_ => h_.1))) hb); have n3_:=Aside0.mk (blk_below (g:=gb803) (o:=.cells #[.string (⟨#[]⟩ : ByteArray),.int .i64 0,.int .i64 0,.int .i64 0,.int .i64 0] 50 (0,0)) (by refine blk_far ?_ NB803_818.out _; exact BK803.out) hb); have n4_:=Aside0.mk (blk_below (g:=gb818) (o:=.cells #[.string (rdOf ByteArray.empty t804 0),.int .i64 t812,.int .i64 t820,.int .i64 t817,.int .i64 0] 50 (0,0)) (by refine blk_put (cs:=#[.string (rdOf ByteArray.empty t804 0),.int .i64 t812,.int .i64 0,.int .i64 t817,.int .i64 0]) ?_ 2 _ rfl; exact BK818.out) hb); have n5_:=Aside0.mk (below_step (by repeat (with_reducible first|exact HB.out|refine below_set ?_ GE818.out)) hb); clear HO806; clear HO810; clear HO815; clear BK803; clear BK818; clear HB; have HO806:=n0_; have HO810:=n1_; have HO815:=n2_; have BK803:=n3_; have BK818:=n4_; have HB:=n5_; clear n0_ n1_ n2_ n3_ n4_ n5_; (try clear hb); (try clear hb2); (try clear hk); (try clear hi); have hcz38_0 : w37.cell? ⟨gb818,0,none⟩ = some (.string (rdOf ByteArray.empty t804 0)):=(blk_cell BK818.out 0).trans rfl; have hcz38_1 : w37.cell? ⟨gb818,1,none⟩ = some (.int .i64 t812):=(blk_cell BK818.out 1).trans rfl; have hcz38_2 : w37.cell? ⟨gb818,2,none⟩ = some (.int .i64 t820):=(blk_cell BK818.out 2).trans rfl; have hcz38_3 : w37.cell? ⟨gb818,3,none⟩ = some (.int .i64 t817):=(blk_cell BK818.out 3).trans rfl; have hcz38_4 : w37.cell? ⟨gb818,4,none⟩ = some (.int .i64 0):=(blk_cell BK818.out 4).trans rfl; have hfz38_0:=blk_frozen BK818.out 0; have hfz38_1:=blk_frozen BK818.out 1; have hfz38_2:=blk_frozen BK818.out 2; have hfz38_3:=blk_frozen BK818.out 3; have hfz38_4:=blk_frozen BK818.out 4)|((with_reducible refine gate_callee (f:=65) rfl ?_); refine goesL_ (some 43) rfl rfl Tryz.func65 (by kernel_rfl) rfl #[.agg #[.string (rdOf ByteArray.empty t804 0),.int .i64 t812,.int .i64 t820,.int .i64 t817,.int .i64 t823]] rfl (by (try simp only [List.map_toArray,List.map_cons,List.map_nil]); (rfl)) ?_; (with_reducible refine (impl_IsValidContainer.calls k (rdOf ByteArray.empty t804 0) t812 t820 t817 t823 true _ A15.out).mono ?_); rintro e w39 ⟨rfl,hb⟩; refine ⟨_,rfl,?_⟩; have n0_:=Aside0.mk (Kd.R_below (by exact (Kd.R_mono (Kd.R_far (p:=⟨gb818,4,none⟩) (Kd.R_types HO806.out BK818.out (by decide)) (fun _ hk => hk.2) (.int .i64 t823)) (fun _ h_ => h_.1))) hb); have n1_:=Aside0.mk (Kd.R_below (by exact (Kd.R_mono (Kd.R_far (p:=⟨gb818,4,none⟩) (Kd.R_types HO810.out BK818.out (by decide)) (fun _ hk => hk.2) (.int .i64 t823)) (fun _ h_ => h_.1))) hb); have n2_:=Aside0.mk (Kd.R_below (by exact (Kd.R_mono (Kd.R_far (p:=⟨gb818,4,none⟩) (Kd.R_types HO815.out BK818.out (by decide)) (fun _ hk => hk.2) (.int .i64 t823)) (fun _ h_ => h_.1))) hb); have n3_:=Aside0.mk (blk_below (g:=gb803) (o:=.cells #[.string (⟨#[]⟩ : ByteArray),.int .i64 0,.int .i64 0,.int .i64 0,.int .i64 0] 50 (0,0)) (by refine blk_far ?_ NB803_818.out _; exact BK803.out) hb); have n4_:=Aside0.mk (blk_below (g:=gb818) (o:=.cells #[.string (rdOf ByteArray.empty t804 0),.int .i64 t812,.int .i64 t820,.int .i64 t817,.int .i64 t823] 50 (0,0)) (by refine blk_put (cs:=#[.string (rdOf ByteArray.empty t804 0),.int .i64 t812,.int .i64 t820,.int .i64 t817,.int .i64 0]) ?_ 4 _ rfl; exact BK818.out) hb); have n5_:=Aside0.mk (below_step (by repeat (with_reducible first|exact HB.out|refine below_set ?_ GE818.out)) hb); clear HO806; clear HO810; clear HO815; clear BK803; clear BK818; clear HB; have HO806:=n0_; have HO810:=n1_; have HO815:=n2_; have BK803:=n3_; have BK818:=n4_; have HB:=n5_; clear n0_ n1_ n2_ n3_ n4_ n5_; (try clear hb); (try clear hb2); (try clear hk); (try clear hi); have hcz40_0 : w39.cell? ⟨gb818,0,none⟩ = some (.string (rdOf ByteArray.empty t804 0)):=(blk_cell BK818.out 0).trans rfl; have hcz40_1 : w39.cell? ⟨gb818,1,none⟩ = some (.int .i64 t812):=(blk_cell BK818.out 1).trans rfl; have hcz40_2 : w39.cell? ⟨gb818,2,none⟩ = some (.int .i64 t820):=(blk_cell BK818.out 2).trans rfl; have hcz40_3 : w39.cell? ⟨gb818,3,none⟩ = some (.int .i64 t817):=(blk_cell BK818.out 3).trans rfl; have hcz40_4 : w39.cell? ⟨gb818,4,none⟩ = some (.int .i64 t823):=(blk_cell BK818.out 4).trans rfl; have hfz40_0:=blk_frozen BK818.out 0; have hfz40_1:=blk_frozen BK818.out 1; have hfz40_2:=blk_frozen BK818.out 2; have hfz40_3:=blk_frozen BK818.out 3; have hfz40_4:=blk_frozen BK818.out 4)|(go_at_call 66; (with_reducible refine (impl_containerText.calls (rdOf ByteArray.empty t804 0) t812 t820 t817 t823 t826 _ ?sideL A17.out).mono ?_); (case sideL => refine LaidA.to_Laid ?_; (with_reducible exact LaidA.below HL.out HB.out)); rintro e w41 ⟨rfl,hb⟩; have n0_:=Aside0.mk (Kd.R_below (by exact HO806.out) hb); have n1_:=Aside0.mk (Kd.R_below (by exact HO810.out) hb); have n2_:=Aside0.mk (Kd.R_below (by exact HO815.out) hb); have n3_:=Aside0.mk (blk_below (g:=gb803) (o:=.cells #[.string (⟨#[]⟩ : ByteArray),.int .i64 0,.int .i64 0,.int .i64 0,.int .i64 0] 50 (0,0)) (by exact BK803.out) hb); have n4_:=Aside0.mk (blk_below (g:=gb818) (o:=.cells #[.string (rdOf ByteArray.empty t804 0),.int .i64 t812,.int .i64 t820,.int .i64 t817,.int .i64 t823] 50 (0,0)) (by exact BK818.out) hb); have n5_:=Aside0.mk (below_step (by repeat (((with_reducible (exact HB.out))))) hb); clear HO806; clear HO810; clear HO815; clear BK803; clear BK818; clear HB; have HO806:=n0_; have HO810:=n1_; have HO815:=n2_; have BK803:=n3_; have BK818:=n4_; have HB:=n5_; clear n0_ n1_ n2_ n3_ n4_ n5_; (try clear hb); (try clear hb2); (try clear hk); (try clear hi); have hcz42_0 : w41.cell? ⟨gb818,0,none⟩ = some (.string (rdOf ByteArray.empty t804 0)):=(blk_cell BK818.out 0).trans rfl; have hcz42_1 : w41.cell? ⟨gb818,1,none⟩ = some (.int .i64 t812):=(blk_cell BK818.out 1).trans rfl; have hcz42_2 : w41.cell? ⟨gb818,2,none⟩ = some (.int .i64 t820):=(blk_cell BK818.out 2).trans rfl; have hcz42_3 : w41.cell? ⟨gb818,3,none⟩ = some (.int .i64 t817):=(blk_cell BK818.out 3).trans rfl; have hcz42_4 : w41.cell? ⟨gb818,4,none⟩ = some (.int .i64 t823):=(blk_cell BK818.out 4).trans rfl; have hfz42_0:=blk_frozen BK818.out 0; have hfz42_1:=blk_frozen BK818.out 1; have hfz42_2:=blk_frozen BK818.out 2; have hfz42_3:=blk_frozen BK818.out 3; have hfz42_4:=blk_frozen BK818.out 4; have hcz43_0 : w41.cell? ⟨gb803,0,none⟩ = some (.string (⟨#[]⟩ : ByteArray)):=(blk_cell BK803.out 0).trans rfl; have hcz43_1 : w41.cell? ⟨gb803,1,none⟩ = some (.int .i64 0):=(blk_cell BK803.out 1).trans rfl; have hcz43_2 : w41.cell? ⟨gb803,2,none⟩ = some (.int .i64 0):=(blk_cell BK803.out 2).trans rfl; have hcz43_3 : w41.cell? ⟨gb803,3,none⟩ = some (.int .i64 0):=(blk_cell BK803.out 3).trans rfl; have hcz43_4 : w41.cell? ⟨gb803,4,none⟩ = some (.int .i64 0):=(blk_cell BK803.out 4).trans rfl; have hfz43_0:=blk_frozen BK803.out 0; have hfz43_1:=blk_frozen BK803.out 1; have hfz43_2:=blk_frozen BK803.out 2; have hfz43_3:=blk_frozen BK803.out 3; have hfz43_4:=blk_frozen BK803.out 4))
         refine bodyPost_ret (results_ct rfl _ _ gb803 50 #[.string (rdOf ByteArray.empty t804 0),.int .i64 t812,.int .i64 t820,.int .i64 t817,.int .i64 t823] (0,0) _ rfl (by refine blk_put (cs:=#[.string (rdOf ByteArray.empty t804 0),.int .i64 t812,.int .i64 t820,.int .i64 t817,.int .i64 0]) ?_ 4 _ rfl; refine blk_put (cs:=#[.string (rdOf ByteArray.empty t804 0),.int .i64 t812,.int .i64 t820,.int .i64 0,.int .i64 0]) ?_ 3 _ rfl; refine blk_put (cs:=#[.string (rdOf ByteArray.empty t804 0),.int .i64 t812,.int .i64 0,.int .i64 0,.int .i64 0]) ?_ 2 _ rfl; refine blk_put (cs:=#[.string (rdOf ByteArray.empty t804 0),.int .i64 0,.int .i64 0,.int .i64 0,.int .i64 0]) ?_ 1 _ rfl; refine blk_put (cs:=#[.string (⟨#[]⟩ : ByteArray),.int .i64 0,.int .i64 0,.int .i64 0,.int .i64 0]) ?_ 0 _ rfl; exact BK803.out) Tryz.underlying50 rfl (by kernel_rfl)) rfl ?_
         exact ⟨by (rfl),by repeat (with_reducible first|exact HB.out|refine below_set ?_ GE803.out)⟩
        ·rw [if_neg c18] at H
         have c18b0 : (t826.toList == a0.toList) = false:=beq_eq_false_iff_ne.mpr c18
         have c18b1 : (t826.toList != a0.toList) = true:=bne_iff_ne.mpr c18
         simp only [Option.some.injEq,Prod.mk.injEq] at H
         obtain ⟨rfl,rfl,rfl,rfl,rfl,rfl⟩:=H
         have hfs54:=blk_frozen BK818.out 0
         have hns54_0:=NB803_818.out
         have hms54_0:=NB818_803.out
         have hs30 : w28.cell? ⟨gb818,1,none⟩ = some (.int .i64 0):=(blk_cell BK818.out 1).trans rfl
         have hfs55:=blk_frozen BK818.out 1
         have hns55_0:=NB803_818.out
         have hms55_0:=NB818_803.out
         have hs31 : w28.cell? ⟨gb818,2,none⟩ = some (.int .i64 0):=(blk_cell BK818.out 2).trans rfl
         have hfs56:=blk_frozen BK818.out 2
         have hns56_0:=NB803_818.out
         have hms56_0:=NB818_803.out
         have hs32 : w28.cell? ⟨gb818,3,none⟩ = some (.int .i64 0):=(blk_cell BK818.out 3).trans rfl
         have hfs57:=blk_frozen BK818.out 3
         have hns57_0:=NB803_818.out
         have hms57_0:=NB818_803.out
         have hs33 : w28.cell? ⟨gb818,4,none⟩ = some (.int .i64 0):=(blk_cell BK818.out 4).trans rfl
         have hfs58:=blk_frozen BK818.out 4
         have hns58_0:=NB803_818.out
         have hms58_0:=NB818_803.out
         refine skip_ (w1:=?_) (by rfl) rfl ?_ ?_
         rotate_left
         ·go_simp
          rfl
         have hne0_:=Kd.own_blk (Kd.R_ne HO806.out BK818.out (by decide))
         refine hK.out _ _ ⟨?_,?_,?_⟩ (fun hHeld => ?_)
         ·(iterate 5 (refine (cell_far ?hh_ _).trans ?_; (case hh_ => exact hne0_))); exact hHeld.1
         ·(iterate 5 (refine (cell_far ?hh_ _).trans ?_; (case hh_ => exact hne0_))); exact hHeld.2.1
         ·(iterate 5 (refine (cell_far ?hh_ _).trans ?_; (case hh_ => exact hne0_))); exact hHeld.2.2
         clear hK K
         refine done_ (done_of HT_.out (by kernel_rfl)) ?_
         have p819 : 0 ≤ (2 : Int):=(by omega)
         have q819 : 2 < (t804.length : Int):=of_decide_eq_true (by (with_reducible assumption))
         obtain ⟨ad819,e819,hx819_0⟩:=Kd.at_string (Kd.R_reads' HO806.out).2.2 2 p819 q819
         obtain rfl : ad807 = ad819:=(by injection e819)
         (try simp only [show (2 : Int).toNat = 2 from rfl,Nat.reduceMul,Nat.reduceEqDiff,Go.Addr.add,↓reduceIte] at hx819_0)
         have qi819 : (2 < t804.length) = True:=eq_true (by omega)
         (try rw [show (2 : Int).toNat = 2 from rfl] at hx819_0)
         have hn819_0 : ad807.block ≠ gb818:=Kd.own_blk (Kd.R_ne HO806.out BK818.out (by decide))
         have hn819_1 : ad807.block ≠ gb818:=Kd.own_blk (Kd.R_ne HO806.out BK818.out (by decide))
         have hn819_2 : ad807.block ≠ gb818:=Kd.own_blk (Kd.R_ne HO806.out BK818.out (by decide))
         have hn819_3 : ad807.block ≠ gb818:=Kd.own_blk (Kd.R_ne HO806.out BK818.out (by decide))
         have hn819_4 : ad807.block ≠ gb818:=Kd.own_blk (Kd.R_ne HO806.out BK818.out (by decide))
         replace hx819_0:=(cell_far (p:=⟨gb818,0,none⟩) (by (exact hn819_0)) (.string (rdOf ByteArray.empty t804 0))).trans hx819_0
         replace hx819_0:=(cell_far (p:=⟨gb818,1,none⟩) (by (exact hn819_1)) (.int .i64 t812)).trans hx819_0
         replace hx819_0:=(cell_far (p:=⟨gb818,2,none⟩) (by (exact hn819_2)) (.int .i64 0)).trans hx819_0
         replace hx819_0:=(cell_far (p:=⟨gb818,3,none⟩) (by (exact hn819_3)) (.int .i64 t817)).trans hx819_0
         replace hx819_0:=(cell_far (p:=⟨gb818,4,none⟩) (by (exact hn819_4)) (.int .i64 0)).trans hx819_0
         clear hn819_0
         clear hn819_1
         clear hn819_2
         clear hn819_3
         clear hn819_4
         replace p819:=eq_true p819
         replace q819:=eq_true q819
         try go_wp2_with (first|((with_reducible refine gate_callee (f:=38) rfl ?_); refine goesL_ (some 30) rfl rfl Tryz.func38 (by kernel_rfl) rfl #[.string (rdOf ByteArray.empty t804 2)] rfl (by (try simp only [List.map_toArray,List.map_cons,List.map_nil]); (rfl)) ?_; (with_reducible refine (impl_ParseInt.calls (rdOf ByteArray.empty t804 2) t820 t821 _ ?sideL A12.out).mono ?_); (case sideL => refine LaidA.to_LaidE ?_; ((exact LaidA.below HL.out (by repeat (with_reducible first|exact HB.out|refine below_set ?_ GE818.out))))); rintro e w34 ⟨rfl,hb⟩; refine ⟨_,rfl,?_⟩; have n0_:=Aside0.mk (Kd.R_below (by exact (Kd.R_mono (Kd.R_far (p:=⟨gb818,4,none⟩) (Kd.R_far (p:=⟨gb818,3,none⟩) (Kd.R_far (p:=⟨gb818,2,none⟩) (Kd.R_far (p:=⟨gb818,1,none⟩) (Kd.R_far (p:=⟨gb818,0,none⟩) (Kd.R_types HO806.out BK818.out (by decide)) (fun _ hk => hk.2) (.string (rdOf ByteArray.empty t804 0))) (fun _ hk => hk.2) (.int .i64 t812)) (fun _ hk => hk.2) (.int .i64 0)) (fun _ hk => hk.2) (.int .i64 t817)) (fun _ hk => hk.2) (.int .i64 0)) (fun _ h_ => h_.1))) hb); have n1_:=Aside0.mk (Kd.R_below (by exact (Kd.R_mono (Kd.R_far (p:=⟨gb818,4,none⟩) (Kd.R_far (p:=⟨gb818,3,none⟩) (Kd.R_far (p:=⟨gb818,2,none⟩) (Kd.R_far (p:=⟨gb818,1,none⟩) (Kd.R_far (p:=⟨gb818,0,none⟩) (Kd.R_types HO810.out BK818.out (by decide)) (fun _ hk => hk.2) (.string (rdOf ByteArray.empty t804 0))) (fun _ hk => hk.2) (.int .i64 t812)) (fun _ hk => hk.2) (.int .i64 0)) (fun _ hk => hk.2) (.int .i64 t817)) (fun _ hk => hk.2) (.int .i64 0)) (fun _ h_ => h_.1))) hb); have n2_:=Aside0.mk (Kd.R_below (by exact (Kd.R_mono (Kd.R_far (p:=⟨gb818,4,none⟩) (Kd.R_far (p:=⟨gb818,3,none⟩) (Kd.R_far (p:=⟨gb818,2,none⟩) (Kd.R_far (p:=⟨gb818,1,none⟩) (Kd.R_far (p:=⟨gb818,0,none⟩) (Kd.R_types HO815.out BK818.out (by decide)) (fun _ hk => hk.2) (.string (rdOf ByteArray.empty t804 0))) (fun _ hk => hk.2) (.int .i64 t812)) (fun _ hk => hk.2) (.int .i64 0)) (fun _ hk => hk.2) (.int .i64 t817)) (fun _ hk => hk.2) (.int .i64 0)) (fun _ h_ => h_.1))) hb); have n3_:=Aside0.mk (blk_below (g:=gb803) (o:=.cells #[.string (⟨#[]⟩ : ByteArray),.int .i64 0,.int .i64 0,.int .i64 0,.int .i64 0] 50 (0,0)) (by refine blk_far ?_ NB803_818.out _; refine blk_far ?_ NB803_818.out _; refine blk_far ?_ NB803_818.out _; refine blk_far ?_ NB803_818.out _; refine blk_far ?_ NB803_818.out _; exact BK803.out) hb); have n4_:=Aside0.mk (blk_below (g:=gb818) (o:=.cells #[.string (rdOf ByteArray.empty t804 0),.int .i64 t812,.int .i64 0,.int .i64 t817,.int .i64 0] 50 (0,0)) (by refine blk_put (cs:=#[.string (rdOf ByteArray.empty t804 0),.int .i64 t812,.int .i64 0,.int .i64 t817,.int .i64 0]) ?_ 4 _ rfl; refine blk_put (cs:=#[.string (rdOf ByteArray.empty t804 0),.int .i64 t812,.int .i64 0,.int .i64 0,.int .i64 0]) ?_ 3 _ rfl; refine blk_put (cs:=#[.string (rdOf ByteArray.empty t804 0),.int .i64 t812,.int .i64 0,.int .i64 0,.int .i64 0]) ?_ 2 _ rfl; refine blk_put (cs:=#[.string (rdOf ByteArray.empty t804 0),.int .i64 0,.int .i64 0,.int .i64 0,.int .i64 0]) ?_ 1 _ rfl; refine blk_put (cs:=#[.string (⟨#[]⟩ : ByteArray),.int .i64 0,.int .i64 0,.int .i64 0,.int .i64 0]) ?_ 0 _ rfl; exact BK818.out) hb); have n5_:=Aside0.mk (below_step (by repeat (with_reducible first|exact HB.out|refine below_set ?_ GE818.out)) hb); clear HO806; clear HO810; clear HO815; clear BK803; clear BK818; clear HB; have HO806:=n0_; have HO810:=n1_; have HO815:=n2_; have BK803:=n3_; have BK818:=n4_; have HB:=n5_; clear n0_ n1_ n2_ n3_ n4_ n5_; (try clear hb); (try clear hb2); (try clear hk); (try clear hi); have hnb60:=NB818_803.out; have hnc60:=NB803_818.out; have hcz61_0 : w34.cell? ⟨gb818,0,none⟩ = some (.string (rdOf ByteArray.empty t804 0)):=(blk_cell BK818.out 0).trans rfl; have hcz61_1 : w34.cell? ⟨gb818,1,none⟩ = some (.int .i64 t812):=(blk_cell BK818.out 1).trans rfl; have hcz61_2 : w34.cell? ⟨gb818,2,none⟩ = some (.int .i64 0):=(blk_cell BK818.out 2).trans rfl; have hcz61_3 : w34.cell? ⟨gb818,3,none⟩ = some (.int .i64 t817):=(blk_cell BK818.out 3).trans rfl; have hcz61_4 : w34.cell? ⟨gb818,4,none⟩ = some (.int .i64 0):=(blk_cell BK818.out 4).trans rfl; have hfz61_0:=blk_frozen BK818.out 0; have hfz61_1:=blk_frozen BK818.out 1; have hfz61_2:=blk_frozen BK818.out 2; have hfz61_3:=blk_frozen BK818.out 3; have hfz61_4:=blk_frozen BK818.out 4; have p822 : 0 ≤ (4 : Int):=(by omega); have q822 : 4 < (t804.length : Int):=of_decide_eq_true (by (with_reducible assumption)); obtain ⟨ad822,e822,hx822_0⟩:=Kd.at_string (Kd.R_reads' HO806.out).2.2 4 p822 q822; obtain rfl : ad807 = ad822:=(by injection e822); (try simp only [show (4 : Int).toNat = 4 from rfl,Nat.reduceMul,Nat.reduceEqDiff,Go.Addr.add,↓reduceIte] at hx822_0); have qi822 : (4 < t804.length) = True:=eq_true (by omega); (try rw [show (4 : Int).toNat = 4 from rfl] at hx822_0); have hn822_0 : ad807.block ≠ gb818:=Kd.own_blk (Kd.R_ne HO806.out BK818.out (by decide)); replace hx822_0:=(cell_far (p:=⟨gb818,2,none⟩) (by (exact hn822_0)) (.int .i64 t820)).trans hx822_0; clear hn822_0; replace p822:=eq_true p822; replace q822:=eq_true q822)|((with_reducible refine gate_callee (f:=38) rfl ?_); refine goesL_ (some 38) rfl rfl Tryz.func38 (by kernel_rfl) rfl #[.string (rdOf ByteArray.empty t804 4)] rfl (by (try simp only [List.map_toArray,List.map_cons,List.map_nil]); (rfl)) ?_; (with_reducible refine (impl_ParseInt.calls (rdOf ByteArray.empty t804 4) t823 t824 _ ?sideL A14.out).mono ?_); (case sideL => refine LaidA.to_LaidE ?_; ((exact LaidA.below HL.out (by repeat (with_reducible first|exact HB.out|refine below_set ?_ GE818.out))))); rintro e w37 ⟨rfl,hb⟩; refine ⟨_,rfl,?_⟩; have n0_:=Aside0.mk (Kd.R_below (by exact (Kd.R_mono (Kd.R_far (p:=⟨gb818,2,none⟩) (Kd.R_types HO806.out BK818.out (by decide)) (fun _ hk => hk.2) (.int .i64 t820)) (fun _ h_ => h_.1))) hb); have n1_:=Aside0.mk (Kd.R_below (by exact (Kd.R_mono (Kd.R_far (p:=⟨gb818,2,none⟩) (Kd.R_types HO810.out BK818.out (by decide)) (fun _ hk => hk.2) (.int .i64 t820)) (fun _ h_ => h_.1))) hb); have n2_:=Aside0.mk (Kd.R_below (by exact (Kd.R_mono (Kd.R_far (p:=⟨gb818,2,none⟩) (Kd.R_types HO815.out BK818.out (by decide)) (fun _ hk => hk.2) (.int .i64 t820)) (fun _ h_ => h_.1))) hb); have n3_:=Aside0.mk (blk_below (g:=gb803) (o:=.cells #[.string (⟨#[]⟩ : ByteArray),.int .i64 0,.int .i64 0,.int .i64 0,.int .i64 0] 50 (0,0)) (by refine blk_far ?_ NB803_818.out _; exact BK803.out) hb); have n4_:=Aside0.mk (blk_below (g:=gb818) (o:=.cells #[.string (rdOf ByteArray.empty t804 0),.int .i64 t812,.int .i64 t820,.int .i64 t817,.int .i64 0] 50 (0,0)) (by refine blk_put (cs:=#[.string (rdOf ByteArray.empty t804 0),.int .i64 t812,.int .i64 0,.int .i64 t817,.int .i64 0]) ?_ 2 _ rfl; exact BK818.out) hb); have n5_:=Aside0.mk (below_step (by repeat (with_reducible first|exact HB.out|refine below_set ?_ GE818.out)) hb); clear HO806; clear HO810; clear HO815; clear BK803; clear BK818; clear HB; have HO806:=n0_; have HO810:=n1_; have HO815:=n2_; have BK803:=n3_; have BK818:=n4_; have HB:=n5_; clear n0_ n1_ n2_ n3_ n4_ n5_; (try clear hb); (try clear hb2); (try clear hk); (try clear hi); have hcz63_0 : w37.cell? ⟨gb818,0,none⟩ = some (.string (rdOf ByteArray.empty t804 0)):=(blk_cell BK818.out 0).trans rfl; have hcz63_1 : w37.cell? ⟨gb818,1,none⟩ = some (.int .i64 t812):=(blk_cell BK818.out 1).trans rfl; have hcz63_2 : w37.cell? ⟨gb818,2,none⟩ = some (.int .i64 t820):=(blk_cell BK818.out 2).trans rfl; have hcz63_3 : w37.cell? ⟨gb818,3,none⟩ = some (.int .i64 t817):=(blk_cell BK818.out 3).trans rfl; have hcz63_4 : w37.cell? ⟨gb818,4,none⟩ = some (.int .i64 0):=(blk_cell BK818.out 4).trans rfl; have hfz63_0:=blk_frozen BK818.out 0; have hfz63_1:=blk_frozen BK818.out 1; have hfz63_2:=blk_frozen BK818.out 2; have hfz63_3:=blk_frozen BK818.out 3; have hfz63_4:=blk_frozen BK818.out 4)|((with_reducible refine gate_callee (f:=65) rfl ?_); refine goesL_ (some 43) rfl rfl Tryz.func65 (by kernel_rfl) rfl #[.agg #[.string (rdOf ByteArray.empty t804 0),.int .i64 t812,.int .i64 t820,.int .i64 t817,.int .i64 t823]] rfl (by (try simp only [List.map_toArray,List.map_cons,List.map_nil]); (rfl)) ?_; (with_reducible refine (impl_IsValidContainer.calls k (rdOf ByteArray.empty t804 0) t812 t820 t817 t823 true _ A15.out).mono ?_); rintro e w39 ⟨rfl,hb⟩; refine ⟨_,rfl,?_⟩; have n0_:=Aside0.mk (Kd.R_below (by exact (Kd.R_mono (Kd.R_far (p:=⟨gb818,4,none⟩) (Kd.R_types HO806.out BK818.out (by decide)) (fun _ hk => hk.2) (.int .i64 t823)) (fun _ h_ => h_.1))) hb); have n1_:=Aside0.mk (Kd.R_below (by exact (Kd.R_mono (Kd.R_far (p:=⟨gb818,4,none⟩) (Kd.R_types HO810.out BK818.out (by decide)) (fun _ hk => hk.2) (.int .i64 t823)) (fun _ h_ => h_.1))) hb); have n2_:=Aside0.mk (Kd.R_below (by exact (Kd.R_mono (Kd.R_far (p:=⟨gb818,4,none⟩) (Kd.R_types HO815.out BK818.out (by decide)) (fun _ hk => hk.2) (.int .i64 t823)) (fun _ h_ => h_.1))) hb); have n3_:=Aside0.mk (blk_below (g:=gb803) (o:=.cells #[.string (⟨#[]⟩ : ByteArray),.int .i64 0,.int .i64 0,.int .i64 0,.int .i64 0] 50 (0,0)) (by refine blk_far ?_ NB803_818.out _; exact BK803.out) hb); have n4_:=Aside0.mk (blk_below (g:=gb818) (o:=.cells #[.string (rdOf ByteArray.empty t804 0),.int .i64 t812,.int .i64 t820,.int .i64 t817,.int .i64 t823] 50 (0,0)) (by refine blk_put (cs:=#[.string (rdOf ByteArray.empty t804 0),.int .i64 t812,.int .i64 t820,.int .i64 t817,.int .i64 0]) ?_ 4 _ rfl; exact BK818.out) hb); have n5_:=Aside0.mk (below_step (by repeat (with_reducible first|exact HB.out|refine below_set ?_ GE818.out)) hb); clear HO806; clear HO810; clear HO815; clear BK803; clear BK818; clear HB; have HO806:=n0_; have HO810:=n1_; have HO815:=n2_; have BK803:=n3_; have BK818:=n4_; have HB:=n5_; clear n0_ n1_ n2_ n3_ n4_ n5_; (try clear hb); (try clear hb2); (try clear hk); (try clear hi); have hcz65_0 : w39.cell? ⟨gb818,0,none⟩ = some (.string (rdOf ByteArray.empty t804 0)):=(blk_cell BK818.out 0).trans rfl; have hcz65_1 : w39.cell? ⟨gb818,1,none⟩ = some (.int .i64 t812):=(blk_cell BK818.out 1).trans rfl; have hcz65_2 : w39.cell? ⟨gb818,2,none⟩ = some (.int .i64 t820):=(blk_cell BK818.out 2).trans rfl; have hcz65_3 : w39.cell? ⟨gb818,3,none⟩ = some (.int .i64 t817):=(blk_cell BK818.out 3).trans rfl; have hcz65_4 : w39.cell? ⟨gb818,4,none⟩ = some (.int .i64 t823):=(blk_cell BK818.out 4).trans rfl; have hfz65_0:=blk_frozen BK818.out 0; have hfz65_1:=blk_frozen BK818.out 1; have hfz65_2:=blk_frozen BK818.out 2; have hfz65_3:=blk_frozen BK818.out 3; have hfz65_4:=blk_frozen BK818.out 4)|(go_at_call 66; (with_reducible refine (impl_containerText.calls (rdOf ByteArray.empty t804 0) t812 t820 t817 t823 t826 _ ?sideL A17.out).mono ?_); (case sideL => refine LaidA.to_Laid ?_; (with_reducible exact LaidA.below HL.out HB.out)); rintro e w41 ⟨rfl,hb⟩; have n0_:=Aside0.mk (Kd.R_below (by exact HO806.out) hb); have n1_:=Aside0.mk (Kd.R_below (by exact HO810.out) hb); have n2_:=Aside0.mk (Kd.R_below (by exact HO815.out) hb); have n3_:=Aside0.mk (blk_below (g:=gb803) (o:=.cells #[.string (⟨#[]⟩ : ByteArray),.int .i64 0,.int .i64 0,.int .i64 0,.int .i64 0] 50 (0,0)) (by exact BK803.out) hb); have n4_:=Aside0.mk (blk_below (g:=gb818) (o:=.cells #[.string (rdOf ByteArray.empty t804 0),.int .i64 t812,.int .i64 t820,.int .i64 t817,.int .i64 t823] 50 (0,0)) (by exact BK818.out) hb); have n5_:=Aside0.mk (below_step (by repeat (((with_reducible (exact HB.out))))) hb); clear HO806; clear HO810; clear HO815; clear BK803; clear BK818; clear HB; have HO806:=n0_; have HO810:=n1_; have HO815:=n2_; have BK803:=n3_; have BK818:=n4_; have HB:=n5_; clear n0_ n1_ n2_ n3_ n4_ n5_; (try clear hb); (try clear hb2); (try clear hk); (try clear hi); have hcz67_0 : w41.cell? ⟨gb803,0,none⟩ = some (.string (⟨#[]⟩ : ByteArray)):=(blk_cell BK803.out 0).trans rfl; have hcz67_1 : w41.cell? ⟨gb803,1,none⟩ = some (.int .i64 0):=(blk_cell BK803.out 1).trans rfl; have hcz67_2 : w41.cell? ⟨gb803,2,none⟩ = some (.int .i64 0):=(blk_cell BK803.out 2).trans rfl; have hcz67_3 : w41.cell? ⟨gb803,3,none⟩ = some (.int .i64 0):=(blk_cell BK803.out 3).trans rfl; have hcz67_4 : w41.cell? ⟨gb803,4,none⟩ = some (.int .i64 0):=(blk_cell BK803.out 4).trans rfl; have hfz67_0:=blk_frozen BK803.out 0; have hfz67_1:=blk_frozen BK803.out 1; have hfz67_2:=blk_frozen BK803.out 2; have hfz67_3:=blk_frozen BK803.out 3; have hfz67_4:=blk_frozen BK803.out 4))
         refine bodyPost_ret (results_ct rfl _ _ gb803 50 #[.string (⟨#[]⟩ : ByteArray),.int .i64 0,.int .i64 0,.int .i64 0,.int .i64 0] (0,0) _ rfl (by refine blk_put (cs:=#[.string (⟨#[]⟩ : ByteArray),.int .i64 0,.int .i64 0,.int .i64 0,.int .i64 0]) ?_ 4 _ rfl; refine blk_put (cs:=#[.string (⟨#[]⟩ : ByteArray),.int .i64 0,.int .i64 0,.int .i64 0,.int .i64 0]) ?_ 3 _ rfl; refine blk_put (cs:=#[.string (⟨#[]⟩ : ByteArray),.int .i64 0,.int .i64 0,.int .i64 0,.int .i64 0]) ?_ 2 _ rfl; refine blk_put (cs:=#[.string (⟨#[]⟩ : ByteArray),.int .i64 0,.int .i64 0,.int .i64 0,.int .i64 0]) ?_ 1 _ rfl; refine blk_put (cs:=#[.string (⟨#[]⟩ : ByteArray),.int .i64 0,.int .i64 0,.int .i64 0,.int .i64 0]) ?_ 0 _ rfl; exact BK803.out) Tryz.underlying50 rfl (by kernel_rfl)) rfl ?_
         exact ⟨by (rfl),by repeat (with_reducible first|exact HB.out|refine below_set ?_ GE803.out)⟩
       ·replace c16:=Bool.eq_false_iff.mpr c16
        subst c16
        have H1 : (some ((⟨#[]⟩ : ByteArray),0,0,0,0,false)) = some (r1,r2,r3,r4,r5,r6):=by rw [if_neg (show ¬ (false = true) by decide)] at H; exact H
        clear H
        have H:=H1
        clear H1
        simp only [Option.some.injEq,Prod.mk.injEq] at H
        obtain ⟨rfl,rfl,rfl,rfl,rfl,rfl⟩:=H
        have hfs78:=blk_frozen BK818.out 0
        have hns78_0:=NB803_818.out
        have hms78_0:=NB818_803.out
        have hs30 : w28.cell? ⟨gb818,1,none⟩ = some (.int .i64 0):=(blk_cell BK818.out 1).trans rfl
        have hfs79:=blk_frozen BK818.out 1
        have hns79_0:=NB803_818.out
        have hms79_0:=NB818_803.out
        have hs31 : w28.cell? ⟨gb818,2,none⟩ = some (.int .i64 0):=(blk_cell BK818.out 2).trans rfl
        have hfs80:=blk_frozen BK818.out 2
        have hns80_0:=NB803_818.out
        have hms80_0:=NB818_803.out
        have hs32 : w28.cell? ⟨gb818,3,none⟩ = some (.int .i64 0):=(blk_cell BK818.out 3).trans rfl
        have hfs81:=blk_frozen BK818.out 3
        have hns81_0:=NB803_818.out
        have hms81_0:=NB818_803.out
        have hs33 : w28.cell? ⟨gb818,4,none⟩ = some (.int .i64 0):=(blk_cell BK818.out 4).trans rfl
        have hfs82:=blk_frozen BK818.out 4
        have hns82_0:=NB803_818.out
        have hms82_0:=NB818_803.out
        refine skip_ (w1:=?_) (by rfl) rfl ?_ ?_
        rotate_left
        ·go_simp
         rfl
        have hne0_:=Kd.own_blk (Kd.R_ne HO806.out BK818.out (by decide))
        refine hK.out _ _ ⟨?_,?_,?_⟩ (fun hHeld => ?_)
        ·(iterate 5 (refine (cell_far ?hh_ _).trans ?_; (case hh_ => exact hne0_))); exact hHeld.1
        ·(iterate 5 (refine (cell_far ?hh_ _).trans ?_; (case hh_ => exact hne0_))); exact hHeld.2.1
        ·(iterate 5 (refine (cell_far ?hh_ _).trans ?_; (case hh_ => exact hne0_))); exact hHeld.2.2
        clear hK K
        refine done_ (done_of HT_.out (by kernel_rfl)) ?_
        have p819 : 0 ≤ (2 : Int):=(by omega)
        have q819 : 2 < (t804.length : Int):=of_decide_eq_true (by (with_reducible assumption))
        obtain ⟨ad819,e819,hx819_0⟩:=Kd.at_string (Kd.R_reads' HO806.out).2.2 2 p819 q819
        obtain rfl : ad807 = ad819:=(by injection e819)
        (try simp only [show (2 : Int).toNat = 2 from rfl,Nat.reduceMul,Nat.reduceEqDiff,Go.Addr.add,↓reduceIte] at hx819_0)
        have qi819 : (2 < t804.length) = True:=eq_true (by omega)
        (try rw [show (2 : Int).toNat = 2 from rfl] at hx819_0)
        have hn819_0 : ad807.block ≠ gb818:=Kd.own_blk (Kd.R_ne HO806.out BK818.out (by decide))
        have hn819_1 : ad807.block ≠ gb818:=Kd.own_blk (Kd.R_ne HO806.out BK818.out (by decide))
        have hn819_2 : ad807.block ≠ gb818:=Kd.own_blk (Kd.R_ne HO806.out BK818.out (by decide))
        have hn819_3 : ad807.block ≠ gb818:=Kd.own_blk (Kd.R_ne HO806.out BK818.out (by decide))
        have hn819_4 : ad807.block ≠ gb818:=Kd.own_blk (Kd.R_ne HO806.out BK818.out (by decide))
        replace hx819_0:=(cell_far (p:=⟨gb818,0,none⟩) (by (exact hn819_0)) (.string (rdOf ByteArray.empty t804 0))).trans hx819_0
        replace hx819_0:=(cell_far (p:=⟨gb818,1,none⟩) (by (exact hn819_1)) (.int .i64 t812)).trans hx819_0
        replace hx819_0:=(cell_far (p:=⟨gb818,2,none⟩) (by (exact hn819_2)) (.int .i64 0)).trans hx819_0
        replace hx819_0:=(cell_far (p:=⟨gb818,3,none⟩) (by (exact hn819_3)) (.int .i64 t817)).trans hx819_0
        replace hx819_0:=(cell_far (p:=⟨gb818,4,none⟩) (by (exact hn819_4)) (.int .i64 0)).trans hx819_0
        clear hn819_0
        clear hn819_1
        clear hn819_2
        clear hn819_3
        clear hn819_4
        replace p819:=eq_true p819
        replace q819:=eq_true q819
        try go_wp2_with (first|((with_reducible refine gate_callee (f:=38) rfl ?_); refine goesL_ (some 30) rfl rfl Tryz.func38 (by kernel_rfl) rfl #[.string (rdOf ByteArray.empty t804 2)] rfl (by (try simp only [List.map_toArray,List.map_cons,List.map_nil]); (rfl)) ?_; (with_reducible refine (impl_ParseInt.calls (rdOf ByteArray.empty t804 2) t820 t821 _ ?sideL A12.out).mono ?_); (case sideL => refine LaidA.to_LaidE ?_; ((exact LaidA.below HL.out (by repeat (with_reducible first|exact HB.out|refine below_set ?_ GE818.out))))); rintro e w34 ⟨rfl,hb⟩; refine ⟨_,rfl,?_⟩; have n0_:=Aside0.mk (Kd.R_below (by exact (Kd.R_mono (Kd.R_far (p:=⟨gb818,4,none⟩) (Kd.R_far (p:=⟨gb818,3,none⟩) (Kd.R_far (p:=⟨gb818,2,none⟩) (Kd.R_far (p:=⟨gb818,1,none⟩) (Kd.R_far (p:=⟨gb818,0,none⟩) (Kd.R_types HO806.out BK818.out (by decide)) (fun _ hk => hk.2) (.string (rdOf ByteArray.empty t804 0))) (fun _ hk => hk.2) (.int .i64 t812)) (fun _ hk => hk.2) (.int .i64 0)) (fun _ hk => hk.2) (.int .i64 t817)) (fun _ hk => hk.2) (.int .i64 0)) (fun _ h_ => h_.1))) hb); have n1_:=Aside0.mk (Kd.R_below (by exact (Kd.R_mono (Kd.R_far (p:=⟨gb818,4,none⟩) (Kd.R_far (p:=⟨gb818,3,none⟩) (Kd.R_far (p:=⟨gb818,2,none⟩) (Kd.R_far (p:=⟨gb818,1,none⟩) (Kd.R_far (p:=⟨gb818,0,none⟩) (Kd.R_types HO810.out BK818.out (by decide)) (fun _ hk => hk.2) (.string (rdOf ByteArray.empty t804 0))) (fun _ hk => hk.2) (.int .i64 t812)) (fun _ hk => hk.2) (.int .i64 0)) (fun _ hk => hk.2) (.int .i64 t817)) (fun _ hk => hk.2) (.int .i64 0)) (fun _ h_ => h_.1))) hb); have n2_:=Aside0.mk (Kd.R_below (by exact (Kd.R_mono (Kd.R_far (p:=⟨gb818,4,none⟩) (Kd.R_far (p:=⟨gb818,3,none⟩) (Kd.R_far (p:=⟨gb818,2,none⟩) (Kd.R_far (p:=⟨gb818,1,none⟩) (Kd.R_far (p:=⟨gb818,0,none⟩) (Kd.R_types HO815.out BK818.out (by decide)) (fun _ hk => hk.2) (.string (rdOf ByteArray.empty t804 0))) (fun _ hk => hk.2) (.int .i64 t812)) (fun _ hk => hk.2) (.int .i64 0)) (fun _ hk => hk.2) (.int .i64 t817)) (fun _ hk => hk.2) (.int .i64 0)) (fun _ h_ => h_.1))) hb); have n3_:=Aside0.mk (blk_below (g:=gb803) (o:=.cells #[.string (⟨#[]⟩ : ByteArray),.int .i64 0,.int .i64 0,.int .i64 0,.int .i64 0] 50 (0,0)) (by refine blk_far ?_ NB803_818.out _; refine blk_far ?_ NB803_818.out _; refine blk_far ?_ NB803_818.out _; refine blk_far ?_ NB803_818.out _; refine blk_far ?_ NB803_818.out _; exact BK803.out) hb); have n4_:=Aside0.mk (blk_below (g:=gb818) (o:=.cells #[.string (rdOf ByteArray.empty t804 0),.int .i64 t812,.int .i64 0,.int .i64 t817,.int .i64 0] 50 (0,0)) (by refine blk_put (cs:=#[.string (rdOf ByteArray.empty t804 0),.int .i64 t812,.int .i64 0,.int .i64 t817,.int .i64 0]) ?_ 4 _ rfl; refine blk_put (cs:=#[.string (rdOf ByteArray.empty t804 0),.int .i64 t812,.int .i64 0,.int .i64 0,.int .i64 0]) ?_ 3 _ rfl; refine blk_put (cs:=#[.string (rdOf ByteArray.empty t804 0),.int .i64 t812,.int .i64 0,.int .i64 0,.int .i64 0]) ?_ 2 _ rfl; refine blk_put (cs:=#[.string (rdOf ByteArray.empty t804 0),.int .i64 0,.int .i64 0,.int .i64 0,.int .i64 0]) ?_ 1 _ rfl; refine blk_put (cs:=#[.string (⟨#[]⟩ : ByteArray),.int .i64 0,.int .i64 0,.int .i64 0,.int .i64 0]) ?_ 0 _ rfl; exact BK818.out) hb); have n5_:=Aside0.mk (below_step (by repeat (with_reducible first|exact HB.out|refine below_set ?_ GE818.out)) hb); clear HO806; clear HO810; clear HO815; clear BK803; clear BK818; clear HB; have HO806:=n0_; have HO810:=n1_; have HO815:=n2_; have BK803:=n3_; have BK818:=n4_; have HB:=n5_; clear n0_ n1_ n2_ n3_ n4_ n5_; (try clear hb); (try clear hb2); (try clear hk); (try clear hi); have hnb84:=NB818_803.out; have hnc84:=NB803_818.out; have hcz85_0 : w34.cell? ⟨gb818,0,none⟩ = some (.string (rdOf ByteArray.empty t804 0)):=(blk_cell BK818.out 0).trans rfl; have hcz85_1 : w34.cell? ⟨gb818,1,none⟩ = some (.int .i64 t812):=(blk_cell BK818.out 1).trans rfl; have hcz85_2 : w34.cell? ⟨gb818,2,none⟩ = some (.int .i64 0):=(blk_cell BK818.out 2).trans rfl; have hcz85_3 : w34.cell? ⟨gb818,3,none⟩ = some (.int .i64 t817):=(blk_cell BK818.out 3).trans rfl; have hcz85_4 : w34.cell? ⟨gb818,4,none⟩ = some (.int .i64 0):=(blk_cell BK818.out 4).trans rfl; have hfz85_0:=blk_frozen BK818.out 0; have hfz85_1:=blk_frozen BK818.out 1; have hfz85_2:=blk_frozen BK818.out 2; have hfz85_3:=blk_frozen BK818.out 3; have hfz85_4:=blk_frozen BK818.out 4; have p822 : 0 ≤ (4 : Int):=(by omega); have q822 : 4 < (t804.length : Int):=of_decide_eq_true (by (with_reducible assumption)); obtain ⟨ad822,e822,hx822_0⟩:=Kd.at_string (Kd.R_reads' HO806.out).2.2 4 p822 q822; obtain rfl : ad807 = ad822:=(by injection e822); (try simp only [show (4 : Int).toNat = 4 from rfl,Nat.reduceMul,Nat.reduceEqDiff,Go.Addr.add,↓reduceIte] at hx822_0); have qi822 : (4 < t804.length) = True:=eq_true (by omega); (try rw [show (4 : Int).toNat = 4 from rfl] at hx822_0); have hn822_0 : ad807.block ≠ gb818:=Kd.own_blk (Kd.R_ne HO806.out BK818.out (by decide)); replace hx822_0:=(cell_far (p:=⟨gb818,2,none⟩) (by (exact hn822_0)) (.int .i64 t820)).trans hx822_0; clear hn822_0; replace p822:=eq_true p822; replace q822:=eq_true q822)|((with_reducible refine gate_callee (f:=38) rfl ?_); refine goesL_ (some 38) rfl rfl Tryz.func38 (by kernel_rfl) rfl #[.string (rdOf ByteArray.empty t804 4)] rfl (by (try simp only [List.map_toArray,List.map_cons,List.map_nil]); (rfl)) ?_; (with_reducible refine (impl_ParseInt.calls (rdOf ByteArray.empty t804 4) t823 t824 _ ?sideL A14.out).mono ?_); (case sideL => refine LaidA.to_LaidE ?_; ((exact LaidA.below HL.out (by repeat (with_reducible first|exact HB.out|refine below_set ?_ GE818.out))))); rintro e w37 ⟨rfl,hb⟩; refine ⟨_,rfl,?_⟩; have n0_:=Aside0.mk (Kd.R_below (by exact (Kd.R_mono (Kd.R_far (p:=⟨gb818,2,none⟩) (Kd.R_types HO806.out BK818.out (by decide)) (fun _ hk => hk.2) (.int .i64 t820)) (fun _ h_ => h_.1))) hb); have n1_:=Aside0.mk (Kd.R_below (by exact (Kd.R_mono (Kd.R_far (p:=⟨gb818,2,none⟩) (Kd.R_types HO810.out BK818.out (by decide)) (fun _ hk => hk.2) (.int .i64 t820)) (fun _ h_ => h_.1))) hb); have n2_:=Aside0.mk (Kd.R_below (by exact (Kd.R_mono (Kd.R_far (p:=⟨gb818,2,none⟩) (Kd.R_types HO815.out BK818.out (by decide)) (fun _ hk => hk.2) (.int .i64 t820)) (fun _ h_ => h_.1))) hb); have n3_:=Aside0.mk (blk_below (g:=gb803) (o:=.cells #[.string (⟨#[]⟩ : ByteArray),.int .i64 0,.int .i64 0,.int .i64 0,.int .i64 0] 50 (0,0)) (by refine blk_far ?_ NB803_818.out _; exact BK803.out) hb); have n4_:=Aside0.mk (blk_below (g:=gb818) (o:=.cells #[.string (rdOf ByteArray.empty t804 0),.int .i64 t812,.int .i64 t820,.int .i64 t817,.int .i64 0] 50 (0,0)) (by refine blk_put (cs:=#[.string (rdOf ByteArray.empty t804 0),.int .i64 t812,.int .i64 0,.int .i64 t817,.int .i64 0]) ?_ 2 _ rfl; exact BK818.out) hb); have n5_:=Aside0.mk (below_step (by repeat (with_reducible first|exact HB.out|refine below_set ?_ GE818.out)) hb); clear HO806; clear HO810; clear HO815; clear BK803; clear BK818; clear HB; have HO806:=n0_; have HO810:=n1_; have HO815:=n2_; have BK803:=n3_; have BK818:=n4_; have HB:=n5_; clear n0_ n1_ n2_ n3_ n4_ n5_; (try clear hb); (try clear hb2); (try clear hk); (try clear hi); have hcz87_0 : w37.cell? ⟨gb818,0,none⟩ = some (.string (rdOf ByteArray.empty t804 0)):=(blk_cell BK818.out 0).trans rfl; have hcz87_1 : w37.cell? ⟨gb818,1,none⟩ = some (.int .i64 t812):=(blk_cell BK818.out 1).trans rfl; have hcz87_2 : w37.cell? ⟨gb818,2,none⟩ = some (.int .i64 t820):=(blk_cell BK818.out 2).trans rfl; have hcz87_3 : w37.cell? ⟨gb818,3,none⟩ = some (.int .i64 t817):=(blk_cell BK818.out 3).trans rfl; have hcz87_4 : w37.cell? ⟨gb818,4,none⟩ = some (.int .i64 0):=(blk_cell BK818.out 4).trans rfl; have hfz87_0:=blk_frozen BK818.out 0; have hfz87_1:=blk_frozen BK818.out 1; have hfz87_2:=blk_frozen BK818.out 2; have hfz87_3:=blk_frozen BK818.out 3; have hfz87_4:=blk_frozen BK818.out 4)|((with_reducible refine gate_callee (f:=65) rfl ?_); refine goesL_ (some 43) rfl rfl Tryz.func65 (by kernel_rfl) rfl #[.agg #[.string (rdOf ByteArray.empty t804 0),.int .i64 t812,.int .i64 t820,.int .i64 t817,.int .i64 t823]] rfl (by (try simp only [List.map_toArray,List.map_cons,List.map_nil]); (rfl)) ?_; (with_reducible refine (impl_IsValidContainer.calls k (rdOf ByteArray.empty t804 0) t812 t820 t817 t823 false _ A15.out).mono ?_); rintro e w39 ⟨rfl,hb⟩; refine ⟨_,rfl,?_⟩; have n0_:=Aside0.mk (Kd.R_below (by exact (Kd.R_mono (Kd.R_far (p:=⟨gb818,4,none⟩) (Kd.R_types HO806.out BK818.out (by decide)) (fun _ hk => hk.2) (.int .i64 t823)) (fun _ h_ => h_.1))) hb); have n1_:=Aside0.mk (Kd.R_below (by exact (Kd.R_mono (Kd.R_far (p:=⟨gb818,4,none⟩) (Kd.R_types HO810.out BK818.out (by decide)) (fun _ hk => hk.2) (.int .i64 t823)) (fun _ h_ => h_.1))) hb); have n2_:=Aside0.mk (Kd.R_below (by exact (Kd.R_mono (Kd.R_far (p:=⟨gb818,4,none⟩) (Kd.R_types HO815.out BK818.out (by decide)) (fun _ hk => hk.2) (.int .i64 t823)) (fun _ h_ => h_.1))) hb); have n3_:=Aside0.mk (blk_below (g:=gb803) (o:=.cells #[.string (⟨#[]⟩ : ByteArray),.int .i64 0,.int .i64 0,.int .i64 0,.int .i64 0] 50 (0,0)) (by refine blk_far ?_ NB803_818.out _; exact BK803.out) hb); have n4_:=Aside0.mk (blk_below (g:=gb818) (o:=.cells #[.string (rdOf ByteArray.empty t804 0),.int .i64 t812,.int .i64 t820,.int .i64 t817,.int .i64 t823] 50 (0,0)) (by refine blk_put (cs:=#[.string (rdOf ByteArray.empty t804 0),.int .i64 t812,.int .i64 t820,.int .i64 t817,.int .i64 0]) ?_ 4 _ rfl; exact BK818.out) hb); have n5_:=Aside0.mk (below_step (by repeat (with_reducible first|exact HB.out|refine below_set ?_ GE818.out)) hb); clear HO806; clear HO810; clear HO815; clear BK803; clear BK818; clear HB; have HO806:=n0_; have HO810:=n1_; have HO815:=n2_; have BK803:=n3_; have BK818:=n4_; have HB:=n5_; clear n0_ n1_ n2_ n3_ n4_ n5_; (try clear hb); (try clear hb2); (try clear hk); (try clear hi); have hcz89_0 : w39.cell? ⟨gb803,0,none⟩ = some (.string (⟨#[]⟩ : ByteArray)):=(blk_cell BK803.out 0).trans rfl; have hcz89_1 : w39.cell? ⟨gb803,1,none⟩ = some (.int .i64 0):=(blk_cell BK803.out 1).trans rfl; have hcz89_2 : w39.cell? ⟨gb803,2,none⟩ = some (.int .i64 0):=(blk_cell BK803.out 2).trans rfl; have hcz89_3 : w39.cell? ⟨gb803,3,none⟩ = some (.int .i64 0):=(blk_cell BK803.out 3).trans rfl; have hcz89_4 : w39.cell? ⟨gb803,4,none⟩ = some (.int .i64 0):=(blk_cell BK803.out 4).trans rfl; have hfz89_0:=blk_frozen BK803.out 0; have hfz89_1:=blk_frozen BK803.out 1; have hfz89_2:=blk_frozen BK803.out 2; have hfz89_3:=blk_frozen BK803.out 3; have hfz89_4:=blk_frozen BK803.out 4))
        refine bodyPost_ret (results_ct rfl _ _ gb803 50 #[.string (⟨#[]⟩ : ByteArray),.int .i64 0,.int .i64 0,.int .i64 0,.int .i64 0] (0,0) _ rfl (by refine blk_put (cs:=#[.string (⟨#[]⟩ : ByteArray),.int .i64 0,.int .i64 0,.int .i64 0,.int .i64 0]) ?_ 4 _ rfl; refine blk_put (cs:=#[.string (⟨#[]⟩ : ByteArray),.int .i64 0,.int .i64 0,.int .i64 0,.int .i64 0]) ?_ 3 _ rfl; refine blk_put (cs:=#[.string (⟨#[]⟩ : ByteArray),.int .i64 0,.int .i64 0,.int .i64 0,.int .i64 0]) ?_ 2 _ rfl; refine blk_put (cs:=#[.string (⟨#[]⟩ : ByteArray),.int .i64 0,.int .i64 0,.int .i64 0,.int .i64 0]) ?_ 1 _ rfl; refine blk_put (cs:=#[.string (⟨#[]⟩ : ByteArray),.int .i64 0,.int .i64 0,.int .i64 0,.int .i64 0]) ?_ 0 _ rfl; exact BK803.out) Tryz.underlying50 rfl (by kernel_rfl)) rfl ?_
        exact ⟨by (rfl),by repeat (with_reducible first|exact HB.out|refine below_set ?_ GE803.out)⟩
      ·rw [if_neg c13] at H
       exact absurd H (by simp)
     ·rw [if_neg c11] at H
      exact absurd H (by simp)
    ·rw [if_neg c9] at H
     exact absurd H (by simp)
   ·rw [if_neg c6] at H
    exact absurd H (by simp)
  ·rw [if_neg c4] at H
   exact absurd H (by simp)
 ·rw [if_neg c3] at H
  have c3b0 : ((t804.length : Int) == 5) = false:=beq_eq_false_iff_ne.mpr c3
  have c3b1 : ((t804.length : Int) != 5) = true:=bne_iff_ne.mpr c3
  simp only [Option.some.injEq,Prod.mk.injEq] at H
  obtain ⟨rfl,rfl,rfl,rfl,rfl,rfl⟩:=H
  go_enter Tryz.func28,Tryz.ntmps28
  go_wp2_with (first|((with_reducible refine gate_dst (N:=2) rfl ?_); refine box_event ?hg (N:=2) ?hd (cs:=#[.string (⟨#[]⟩ : ByteArray),.int .i64 0,.int .i64 0,.int .i64 0,.int .i64 0]) (t:=50) ?hr ?_; (case hd => rfl); (case hg => rfl); (case hr => (go_simp; done)); intro gb803 hg w90 hbox hb; have n0_:=Aside0.mk (below_step (by repeat (((with_reducible (exact HB.out))))) hb); have n1_:=Aside0.mk (hbox); have n2_:=Aside0.mk ((by rw [hg]; exact (below_size (by repeat (((with_reducible (exact HB.out)))))) : w.heap.size ≤ gb803)); have n3_:=Aside0.mk ((by rw [hg]; exact (below_size (by repeat (((with_reducible (exact HB.out)))))) : w.heap.size ≤ gb803)); clear HB; have HB:=n0_; have BK803:=n1_; have GW803:=n2_; have GE803:=n3_; clear n0_ n1_ n2_ n3_; clear hb hbox hg)|((with_reducible refine gate_callee (f:=36) rfl ?_); refine goesL_ (some 7) rfl rfl Tryz.func36 (by kernel_rfl) rfl #[.string a0,.string (⟨#[32]⟩ : ByteArray)] rfl (by (try simp only [List.map_toArray,List.map_cons,List.map_nil]); (rfl)) ?_; (with_reducible refine (strings_Split.calls a0 (⟨#[32]⟩ : ByteArray) t804 _ ?sideL A2.out).mono ?_); (case sideL => refine LaidA.to_LaidM ?_; (with_reducible exact LaidA.below HL.out HB.out)); rintro e w91 ⟨v805,rfl,ho0,hb⟩; refine ⟨_,rfl,?_⟩; have n0_:=Aside0.mk (Kd.R_lower ho0 (below_size (by repeat (((with_reducible (exact HB.out))))))); have n1_:=Aside0.mk (blk_below (g:=gb803) (o:=.cells #[.string (⟨#[]⟩ : ByteArray),.int .i64 0,.int .i64 0,.int .i64 0,.int .i64 0] 50 (0,0)) (by exact BK803.out) hb); have n2_:=Aside0.mk (below_step (by repeat (((with_reducible (exact HB.out))))) hb); clear BK803; clear HB; have HO806:=n0_; have BK803:=n1_; have HB:=n2_; clear n0_ n1_ n2_; (try clear hb); (try clear hb2); (try clear hk); (try clear hi); (try clear ho0); obtain ⟨Ao92,co92,eo92⟩:=Kd.R_slice HO806.out; subst eo92; have hcz93_0 : w91.cell? ⟨gb803,0,none⟩ = some (.string (⟨#[]⟩ : ByteArray)):=(blk_cell BK803.out 0).trans rfl; have hcz93_1 : w91.cell? ⟨gb803,1,none⟩ = some (.int .i64 0):=(blk_cell BK803.out 1).trans rfl; have hcz93_2 : w91.cell? ⟨gb803,2,none⟩ = some (.int .i64 0):=(blk_cell BK803.out 2).trans rfl; have hcz93_3 : w91.cell? ⟨gb803,3,none⟩ = some (.int .i64 0):=(blk_cell BK803.out 3).trans rfl; have hcz93_4 : w91.cell? ⟨gb803,4,none⟩ = some (.int .i64 0):=(blk_cell BK803.out 4).trans rfl; have hfz93_0:=blk_frozen BK803.out 0; have hfz93_1:=blk_frozen BK803.out 1; have hfz93_2:=blk_frozen BK803.out 2; have hfz93_3:=blk_frozen BK803.out 3; have hfz93_4:=blk_frozen BK803.out 4))
  refine bodyPost_ret (results_ct rfl _ _ gb803 50 #[.string (⟨#[]⟩ : ByteArray),.int .i64 0,.int .i64 0,.int .i64 0,.int .i64 0] (0,0) _ rfl (by refine blk_put (cs:=#[.string (⟨#[]⟩ : ByteArray),.int .i64 0,.int .i64 0,.int .i64 0,.int .i64 0]) ?_ 4 _ rfl; refine blk_put (cs:=#[.string (⟨#[]⟩ : ByteArray),.int .i64 0,.int .i64 0,.int .i64 0,.int .i64 0]) ?_ 3 _ rfl; refine blk_put (cs:=#[.string (⟨#[]⟩ : ByteArray),.int .i64 0,.int .i64 0,.int .i64 0,.int .i64 0]) ?_ 2 _ rfl; refine blk_put (cs:=#[.string (⟨#[]⟩ : ByteArray),.int .i64 0,.int .i64 0,.int .i64 0,.int .i64 0]) ?_ 1 _ rfl; refine blk_put (cs:=#[.string (⟨#[]⟩ : ByteArray),.int .i64 0,.int .i64 0,.int .i64 0,.int .i64 0]) ?_ 0 _ rfl; exact BK803.out) Tryz.underlying50 rfl (by kernel_rfl)) rfl ?_
  exact ⟨by (rfl),by repeat (with_reducible first|exact HB.out|refine below_set ?_ GE803.out)⟩

end Go.Proofs.YtfindomajbjacaaGreatDoor.X
