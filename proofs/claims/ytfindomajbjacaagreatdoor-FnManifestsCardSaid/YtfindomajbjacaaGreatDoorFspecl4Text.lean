-- Written by a program of ours (wip/bin/xprint.py,over the kit's print.py) out of the translation. Not trusted: Lean checks it.
import Derived.Test.YtfindomajbjacaaGreatDoorX0
import Derived.Test.YtfindomajbjacaaGreatDoorFspecl1Num
namespace Go.Proofs.YtfindomajbjacaaGreatDoor.X
open Go.RowKit Go.Proofs.YtfindomajbjacaaGreatDoorW.PrintWords Go.Proofs.YtfindomajbjacaaGreatDoorW.PrintLast Go.Proofs.YtfindomajbjacaaGreatDoorW.PrintMore
def lb91e : Nat → Nat → List Bool
 | 0,_ => []
 | n+1,m => (m%2==1) :: lb91e n (m/2)
def b91e (n m : Nat) : Array Bool := ⟨lb91e n m⟩
attribute [local go_sem] max2_int min2_int max_two min_two max_three min_three max_four min_four   -- for this text's walks alone
set_option linter.unusedVariables false
set_option linter.unusedSimpArgs false

/-! ### spec_l4Text: function 60 -/
def spec_l4Text.f (k : Nat) (a0_0 : ByteArray) (a0_1 : Int) (a0_2 : Int) (a0_3 : Int) (a0_4 : Int) : Option (ByteArray):=(some (([(⟨#[]⟩ : ByteArray),(⟨#[115,109,97,108,108]⟩ : ByteArray),(⟨#[108,97,114,103,101]⟩ : ByteArray)] : List ByteArray) : List ByteArray)).bind fun y859 => (if 0 ≤ a0_1 then (if a0_1 < (y859.length : Int) then ((some (([(⟨#[]⟩ : ByteArray),(⟨#[112,108,97,105,110]⟩ : ByteArray),(⟨#[114,101,101,102,101,114]⟩ : ByteArray),(⟨#[100,97,110,103,101,114]⟩ : ByteArray)] : List ByteArray) : List ByteArray)).bind fun y863 => (if 0 ≤ a0_3 then (if a0_3 < (y863.length : Int) then (if a0_0.size + 1 ≤ 9223372036854775807 then (if (a0_0 ++ (⟨#[32]⟩ : ByteArray)).size + (rdOf ByteArray.empty y859 a0_1).size ≤ 9223372036854775807 then (if ((a0_0 ++ (⟨#[32]⟩ : ByteArray)) ++ (rdOf ByteArray.empty y859 a0_1)).size + 1 ≤ 9223372036854775807 then ((spec_l1Num.f k a0_2).bind fun t867 => (if (((a0_0 ++ (⟨#[32]⟩ : ByteArray)) ++ (rdOf ByteArray.empty y859 a0_1)) ++ (⟨#[32]⟩ : ByteArray)).size + t867.size ≤ 9223372036854775807 then (if ((((a0_0 ++ (⟨#[32]⟩ : ByteArray)) ++ (rdOf ByteArray.empty y859 a0_1)) ++ (⟨#[32]⟩ : ByteArray)) ++ t867).size + 1 ≤ 9223372036854775807 then (if (((((a0_0 ++ (⟨#[32]⟩ : ByteArray)) ++ (rdOf ByteArray.empty y859 a0_1)) ++ (⟨#[32]⟩ : ByteArray)) ++ t867) ++ (⟨#[32]⟩ : ByteArray)).size + (rdOf ByteArray.empty y863 a0_3).size ≤ 9223372036854775807 then (if ((((((a0_0 ++ (⟨#[32]⟩ : ByteArray)) ++ (rdOf ByteArray.empty y859 a0_1)) ++ (⟨#[32]⟩ : ByteArray)) ++ t867) ++ (⟨#[32]⟩ : ByteArray)) ++ (rdOf ByteArray.empty y863 a0_3)).size + 1 ≤ 9223372036854775807 then ((spec_l1Num.f k a0_4).bind fun t868 => (if (((((((a0_0 ++ (⟨#[32]⟩ : ByteArray)) ++ (rdOf ByteArray.empty y859 a0_1)) ++ (⟨#[32]⟩ : ByteArray)) ++ t867) ++ (⟨#[32]⟩ : ByteArray)) ++ (rdOf ByteArray.empty y863 a0_3)) ++ (⟨#[32]⟩ : ByteArray)).size + t868.size ≤ 9223372036854775807 then (some ((((((((a0_0 ++ (⟨#[32]⟩ : ByteArray)) ++ (rdOf ByteArray.empty y859 a0_1)) ++ (⟨#[32]⟩ : ByteArray)) ++ t867) ++ (⟨#[32]⟩ : ByteArray)) ++ (rdOf ByteArray.empty y863 a0_3)) ++ (⟨#[32]⟩ : ByteArray)) ++ t868)) else (none))) else (none)) else (none)) else (none)) else (none))) else (none)) else (none)) else (none)) else (none)) else (none))) else (none)) else (none))
theorem spec_l4Text.mono : ∀ a0 a1 a2 a3 a4 k,LeO (spec_l4Text.f k a0 a1 a2 a3 a4) (spec_l4Text.f (k + 1) a0 a1 a2 a3 a4):=by
 intro a0 a1 a2 a3 a4 k
 unfold spec_l4Text.f
 repeat' first
   | (with_reducible exact spec_l1Num.mono _ _)
   | (with_reducible exact LeO.refl _)
   | (with_reducible exact LeO.none _)
   | (with_reducible refine LeO.ite ?_ ?_)
   | (with_reducible refine LeO.bind ?_ (fun _ => ?_))
   | exact spec_l1Num.mono _ _
   | exact LeO.none _
   | refine LeO.ite ?_ ?_
   | refine LeO.bind ?_ (fun _ => ?_)
def spec_l4Text.T3 : Bool × List (List Nat × List Nat):=(true,[([],[]),([0],[0]),([1],[1]),([],[]),([2,3],[2,3]),([4],[4]),([],[]),([6],[6]),([7],[7]),([5,8],[5,8]),([9],[9]),([],[]),([10,11],[10,11]),([12],[12]),([],[]),([14],[14]),([15,8],[15]),([13,16],[13,16]),([17,16,0,1,2,3,4,5,6,7,8,9,10,11,12,13,14,15,16,17],[17])])
def spec_l4Text.B3 : List Nat:=[0,1,3,0,15,31,0,64,192,511,1023,0,4095,8191,0,16384,49600,131071,262143]
theorem spec_l4Text.tab3 : rtab .any (opsOf Tryz.f60 3) = spec_l4Text.T3:=by kernel_rfl
theorem spec_l4Text.bits3 : waitsOk spec_l4Text.T3.2 spec_l4Text.B3 = true:=by kernel_rfl
set_option maxHeartbeats 8000000 in
set_option maxRecDepth 100000 in
theorem spec_l4Text.calls (k : Nat) (a0_0 : ByteArray) (a0_1 : Int) (a0_2 : Int) (a0_3 : Int) (a0_4 : Int) (r : ByteArray) (w : World) (h : spec_l4Text.f k a0_0 a0_1 a0_2 a0_3 a0_4 = some r) :
  Calls Tryz.prog 60 #[.agg #[.string a0_0,.int .i64 a0_1,.int .i64 a0_2,.int .i64 a0_3,.int .i64 a0_4]] w fun e w' => e = .returned (.string r) ∧ Below w.heap.size w w':=by
 have hu50:=Tryz.underlying50
 have HB:=Aside0.mk (Below.refl w.heap.size w)
 have H : ((some (([(⟨#[]⟩ : ByteArray),(⟨#[115,109,97,108,108]⟩ : ByteArray),(⟨#[108,97,114,103,101]⟩ : ByteArray)] : List ByteArray) : List ByteArray)).bind fun y859 => (if 0 ≤ a0_1 then (if a0_1 < (y859.length : Int) then ((some (([(⟨#[]⟩ : ByteArray),(⟨#[112,108,97,105,110]⟩ : ByteArray),(⟨#[114,101,101,102,101,114]⟩ : ByteArray),(⟨#[100,97,110,103,101,114]⟩ : ByteArray)] : List ByteArray) : List ByteArray)).bind fun y863 => (if 0 ≤ a0_3 then (if a0_3 < (y863.length : Int) then (if a0_0.size + 1 ≤ 9223372036854775807 then (if (a0_0 ++ (⟨#[32]⟩ : ByteArray)).size + (rdOf ByteArray.empty y859 a0_1).size ≤ 9223372036854775807 then (if ((a0_0 ++ (⟨#[32]⟩ : ByteArray)) ++ (rdOf ByteArray.empty y859 a0_1)).size + 1 ≤ 9223372036854775807 then ((spec_l1Num.f k a0_2).bind fun t867 => (if (((a0_0 ++ (⟨#[32]⟩ : ByteArray)) ++ (rdOf ByteArray.empty y859 a0_1)) ++ (⟨#[32]⟩ : ByteArray)).size + t867.size ≤ 9223372036854775807 then (if ((((a0_0 ++ (⟨#[32]⟩ : ByteArray)) ++ (rdOf ByteArray.empty y859 a0_1)) ++ (⟨#[32]⟩ : ByteArray)) ++ t867).size + 1 ≤ 9223372036854775807 then (if (((((a0_0 ++ (⟨#[32]⟩ : ByteArray)) ++ (rdOf ByteArray.empty y859 a0_1)) ++ (⟨#[32]⟩ : ByteArray)) ++ t867) ++ (⟨#[32]⟩ : ByteArray)).size + (rdOf ByteArray.empty y863 a0_3).size ≤ 9223372036854775807 then (if ((((((a0_0 ++ (⟨#[32]⟩ : ByteArray)) ++ (rdOf ByteArray.empty y859 a0_1)) ++ (⟨#[32]⟩ : ByteArray)) ++ t867) ++ (⟨#[32]⟩ : ByteArray)) ++ (rdOf ByteArray.empty y863 a0_3)).size + 1 ≤ 9223372036854775807 then ((spec_l1Num.f k a0_4).bind fun t868 => (if (((((((a0_0 ++ (⟨#[32]⟩ : ByteArray)) ++ (rdOf ByteArray.empty y859 a0_1)) ++ (⟨#[32]⟩ : ByteArray)) ++ t867) ++ (⟨#[32]⟩ : ByteArray)) ++ (rdOf ByteArray.empty y863 a0_3)) ++ (⟨#[32]⟩ : ByteArray)).size + t868.size ≤ 9223372036854775807 then (some ((((((((a0_0 ++ (⟨#[32]⟩ : ByteArray)) ++ (rdOf ByteArray.empty y859 a0_1)) ++ (⟨#[32]⟩ : ByteArray)) ++ t867) ++ (⟨#[32]⟩ : ByteArray)) ++ (rdOf ByteArray.empty y863 a0_3)) ++ (⟨#[32]⟩ : ByteArray)) ++ t868)) else (none))) else (none)) else (none)) else (none)) else (none))) else (none)) else (none)) else (none)) else (none)) else (none))) else (none)) else (none))) = some r:=h
 clear h
 obtain ⟨y859,hy859⟩ : ∃ y_ : List ByteArray,y_ = (([(⟨#[]⟩ : ByteArray),(⟨#[115,109,97,108,108]⟩ : ByteArray),(⟨#[108,97,114,103,101]⟩ : ByteArray)] : List ByteArray)):=⟨_,rfl⟩
 replace H : (if 0 ≤ a0_1 then (if a0_1 < (y859.length : Int) then ((some (([(⟨#[]⟩ : ByteArray),(⟨#[112,108,97,105,110]⟩ : ByteArray),(⟨#[114,101,101,102,101,114]⟩ : ByteArray),(⟨#[100,97,110,103,101,114]⟩ : ByteArray)] : List ByteArray) : List ByteArray)).bind fun y863 => (if 0 ≤ a0_3 then (if a0_3 < (y863.length : Int) then (if a0_0.size + 1 ≤ 9223372036854775807 then (if (a0_0 ++ (⟨#[32]⟩ : ByteArray)).size + (rdOf ByteArray.empty y859 a0_1).size ≤ 9223372036854775807 then (if ((a0_0 ++ (⟨#[32]⟩ : ByteArray)) ++ (rdOf ByteArray.empty y859 a0_1)).size + 1 ≤ 9223372036854775807 then ((spec_l1Num.f k a0_2).bind fun t867 => (if (((a0_0 ++ (⟨#[32]⟩ : ByteArray)) ++ (rdOf ByteArray.empty y859 a0_1)) ++ (⟨#[32]⟩ : ByteArray)).size + t867.size ≤ 9223372036854775807 then (if ((((a0_0 ++ (⟨#[32]⟩ : ByteArray)) ++ (rdOf ByteArray.empty y859 a0_1)) ++ (⟨#[32]⟩ : ByteArray)) ++ t867).size + 1 ≤ 9223372036854775807 then (if (((((a0_0 ++ (⟨#[32]⟩ : ByteArray)) ++ (rdOf ByteArray.empty y859 a0_1)) ++ (⟨#[32]⟩ : ByteArray)) ++ t867) ++ (⟨#[32]⟩ : ByteArray)).size + (rdOf ByteArray.empty y863 a0_3).size ≤ 9223372036854775807 then (if ((((((a0_0 ++ (⟨#[32]⟩ : ByteArray)) ++ (rdOf ByteArray.empty y859 a0_1)) ++ (⟨#[32]⟩ : ByteArray)) ++ t867) ++ (⟨#[32]⟩ : ByteArray)) ++ (rdOf ByteArray.empty y863 a0_3)).size + 1 ≤ 9223372036854775807 then ((spec_l1Num.f k a0_4).bind fun t868 => (if (((((((a0_0 ++ (⟨#[32]⟩ : ByteArray)) ++ (rdOf ByteArray.empty y859 a0_1)) ++ (⟨#[32]⟩ : ByteArray)) ++ t867) ++ (⟨#[32]⟩ : ByteArray)) ++ (rdOf ByteArray.empty y863 a0_3)) ++ (⟨#[32]⟩ : ByteArray)).size + t868.size ≤ 9223372036854775807 then (some ((((((((a0_0 ++ (⟨#[32]⟩ : ByteArray)) ++ (rdOf ByteArray.empty y859 a0_1)) ++ (⟨#[32]⟩ : ByteArray)) ++ t867) ++ (⟨#[32]⟩ : ByteArray)) ++ (rdOf ByteArray.empty y863 a0_3)) ++ (⟨#[32]⟩ : ByteArray)) ++ t868)) else (none))) else (none)) else (none)) else (none)) else (none))) else (none)) else (none)) else (none)) else (none)) else (none))) else (none)) else (none)) = some r:=by ((have H2_:=(Option.bind_some _ _).symm.trans H; rw [hy859]; with_reducible exact H2_))
 have Ny859:=Aside0.mk hy859
 clear hy859
 by_cases c2 : 0 ≤ a0_1
 ·rw [if_pos c2] at H
  have c2b0 : decide (0 ≤ a0_1) = true:=decide_eq_true c2
  clear c2
  by_cases c3 : a0_1 < (y859.length : Int)
  ·rw [if_pos c3] at H
   have c3b0 : decide (a0_1 < (y859.length : Int)) = true:=decide_eq_true c3
   clear c3
   obtain ⟨y863,hy863⟩ : ∃ y_ : List ByteArray,y_ = (([(⟨#[]⟩ : ByteArray),(⟨#[112,108,97,105,110]⟩ : ByteArray),(⟨#[114,101,101,102,101,114]⟩ : ByteArray),(⟨#[100,97,110,103,101,114]⟩ : ByteArray)] : List ByteArray)):=⟨_,rfl⟩
   replace H : (if 0 ≤ a0_3 then (if a0_3 < (y863.length : Int) then (if a0_0.size + 1 ≤ 9223372036854775807 then (if (a0_0 ++ (⟨#[32]⟩ : ByteArray)).size + (rdOf ByteArray.empty y859 a0_1).size ≤ 9223372036854775807 then (if ((a0_0 ++ (⟨#[32]⟩ : ByteArray)) ++ (rdOf ByteArray.empty y859 a0_1)).size + 1 ≤ 9223372036854775807 then ((spec_l1Num.f k a0_2).bind fun t867 => (if (((a0_0 ++ (⟨#[32]⟩ : ByteArray)) ++ (rdOf ByteArray.empty y859 a0_1)) ++ (⟨#[32]⟩ : ByteArray)).size + t867.size ≤ 9223372036854775807 then (if ((((a0_0 ++ (⟨#[32]⟩ : ByteArray)) ++ (rdOf ByteArray.empty y859 a0_1)) ++ (⟨#[32]⟩ : ByteArray)) ++ t867).size + 1 ≤ 9223372036854775807 then (if (((((a0_0 ++ (⟨#[32]⟩ : ByteArray)) ++ (rdOf ByteArray.empty y859 a0_1)) ++ (⟨#[32]⟩ : ByteArray)) ++ t867) ++ (⟨#[32]⟩ : ByteArray)).size + (rdOf ByteArray.empty y863 a0_3).size ≤ 9223372036854775807 then (if ((((((a0_0 ++ (⟨#[32]⟩ : ByteArray)) ++ (rdOf ByteArray.empty y859 a0_1)) ++ (⟨#[32]⟩ : ByteArray)) ++ t867) ++ (⟨#[32]⟩ : ByteArray)) ++ (rdOf ByteArray.empty y863 a0_3)).size + 1 ≤ 9223372036854775807 then ((spec_l1Num.f k a0_4).bind fun t868 => (if (((((((a0_0 ++ (⟨#[32]⟩ : ByteArray)) ++ (rdOf ByteArray.empty y859 a0_1)) ++ (⟨#[32]⟩ : ByteArray)) ++ t867) ++ (⟨#[32]⟩ : ByteArray)) ++ (rdOf ByteArray.empty y863 a0_3)) ++ (⟨#[32]⟩ : ByteArray)).size + t868.size ≤ 9223372036854775807 then (some ((((((((a0_0 ++ (⟨#[32]⟩ : ByteArray)) ++ (rdOf ByteArray.empty y859 a0_1)) ++ (⟨#[32]⟩ : ByteArray)) ++ t867) ++ (⟨#[32]⟩ : ByteArray)) ++ (rdOf ByteArray.empty y863 a0_3)) ++ (⟨#[32]⟩ : ByteArray)) ++ t868)) else (none))) else (none)) else (none)) else (none)) else (none))) else (none)) else (none)) else (none)) else (none)) else (none)) = some r:=by ((have H2_:=(Option.bind_some _ _).symm.trans H; rw [hy863]; with_reducible exact H2_))
   have Ny863:=Aside0.mk hy863
   clear hy863
   by_cases c4 : 0 ≤ a0_3
   ·rw [if_pos c4] at H
    have c4b0 : decide (0 ≤ a0_3) = true:=decide_eq_true c4
    clear c4
    by_cases c5 : a0_3 < (y863.length : Int)
    ·rw [if_pos c5] at H
     have c5b0 : decide (a0_3 < (y863.length : Int)) = true:=decide_eq_true c5
     clear c5
     by_cases c6 : a0_0.size + 1 ≤ 9223372036854775807
     ·rw [if_pos c6] at H
      have c6b0:=eq_true c6
      have c6b1 : decide (a0_0.size + 1 ≤ 9223372036854775807) = true:=decide_eq_true c6
      try have c6b2 : (9223372036854775807 < a0_0.size + 1) = False:=eq_false (Nat.not_lt.2 c6)
      by_cases c7 : (a0_0 ++ (⟨#[32]⟩ : ByteArray)).size + (rdOf ByteArray.empty y859 a0_1).size ≤ 9223372036854775807
      ·rw [if_pos c7] at H
       have c7b0:=eq_true c7
       have c7b1 : decide ((a0_0 ++ (⟨#[32]⟩ : ByteArray)).size + (rdOf ByteArray.empty y859 a0_1).size ≤ 9223372036854775807) = true:=decide_eq_true c7
       try have c7b2 : (9223372036854775807 < (a0_0 ++ (⟨#[32]⟩ : ByteArray)).size + (rdOf ByteArray.empty y859 a0_1).size) = False:=eq_false (Nat.not_lt.2 c7)
       try have c7b9 : (9223372036854775807 < a0_0.size + 1 + (rdOf ByteArray.empty y859 a0_1).size) = False:=eq_false (by have h_:=c7; simp only [ByteArray.size_append] at h_; exact Nat.not_lt.2 h_)
       by_cases c8 : ((a0_0 ++ (⟨#[32]⟩ : ByteArray)) ++ (rdOf ByteArray.empty y859 a0_1)).size + 1 ≤ 9223372036854775807
       ·rw [if_pos c8] at H
        have c8b0:=eq_true c8
        have c8b1 : decide (((a0_0 ++ (⟨#[32]⟩ : ByteArray)) ++ (rdOf ByteArray.empty y859 a0_1)).size + 1 ≤ 9223372036854775807) = true:=decide_eq_true c8
        try have c8b2 : (9223372036854775807 < ((a0_0 ++ (⟨#[32]⟩ : ByteArray)) ++ (rdOf ByteArray.empty y859 a0_1)).size + 1) = False:=eq_false (Nat.not_lt.2 c8)
        try have c8b9 : (9223372036854775807 < a0_0.size + 1 + (rdOf ByteArray.empty y859 a0_1).size + 1) = False:=eq_false (by have h_:=c8; simp only [ByteArray.size_append] at h_; exact Nat.not_lt.2 h_)
        replace H:=Option.bind_eq_some_iff.mp H
        obtain ⟨t867,A90,H⟩:=H
        replace H : (if (((a0_0 ++ (⟨#[32]⟩ : ByteArray)) ++ (rdOf ByteArray.empty y859 a0_1)) ++ (⟨#[32]⟩ : ByteArray)).size + t867.size ≤ 9223372036854775807 then (if ((((a0_0 ++ (⟨#[32]⟩ : ByteArray)) ++ (rdOf ByteArray.empty y859 a0_1)) ++ (⟨#[32]⟩ : ByteArray)) ++ t867).size + 1 ≤ 9223372036854775807 then (if (((((a0_0 ++ (⟨#[32]⟩ : ByteArray)) ++ (rdOf ByteArray.empty y859 a0_1)) ++ (⟨#[32]⟩ : ByteArray)) ++ t867) ++ (⟨#[32]⟩ : ByteArray)).size + (rdOf ByteArray.empty y863 a0_3).size ≤ 9223372036854775807 then (if ((((((a0_0 ++ (⟨#[32]⟩ : ByteArray)) ++ (rdOf ByteArray.empty y859 a0_1)) ++ (⟨#[32]⟩ : ByteArray)) ++ t867) ++ (⟨#[32]⟩ : ByteArray)) ++ (rdOf ByteArray.empty y863 a0_3)).size + 1 ≤ 9223372036854775807 then ((spec_l1Num.f k a0_4).bind fun t868 => (if (((((((a0_0 ++ (⟨#[32]⟩ : ByteArray)) ++ (rdOf ByteArray.empty y859 a0_1)) ++ (⟨#[32]⟩ : ByteArray)) ++ t867) ++ (⟨#[32]⟩ : ByteArray)) ++ (rdOf ByteArray.empty y863 a0_3)) ++ (⟨#[32]⟩ : ByteArray)).size + t868.size ≤ 9223372036854775807 then (some ((((((((a0_0 ++ (⟨#[32]⟩ : ByteArray)) ++ (rdOf ByteArray.empty y859 a0_1)) ++ (⟨#[32]⟩ : ByteArray)) ++ t867) ++ (⟨#[32]⟩ : ByteArray)) ++ (rdOf ByteArray.empty y863 a0_3)) ++ (⟨#[32]⟩ : ByteArray)) ++ t868)) else (none))) else (none)) else (none)) else (none)) else (none)) = some r:=H
        have A9:=Aside0.mk A90
        clear A90
        by_cases c10 : (((a0_0 ++ (⟨#[32]⟩ : ByteArray)) ++ (rdOf ByteArray.empty y859 a0_1)) ++ (⟨#[32]⟩ : ByteArray)).size + t867.size ≤ 9223372036854775807
        ·rw [if_pos c10] at H
         have c10b0:=eq_true c10
         have c10b1 : decide ((((a0_0 ++ (⟨#[32]⟩ : ByteArray)) ++ (rdOf ByteArray.empty y859 a0_1)) ++ (⟨#[32]⟩ : ByteArray)).size + t867.size ≤ 9223372036854775807) = true:=decide_eq_true c10
         try have c10b2 : (9223372036854775807 < (((a0_0 ++ (⟨#[32]⟩ : ByteArray)) ++ (rdOf ByteArray.empty y859 a0_1)) ++ (⟨#[32]⟩ : ByteArray)).size + t867.size) = False:=eq_false (Nat.not_lt.2 c10)
         try have c10b9 : (9223372036854775807 < a0_0.size + 1 + (rdOf ByteArray.empty y859 a0_1).size + 1 + t867.size) = False:=eq_false (by have h_:=c10; simp only [ByteArray.size_append] at h_; exact Nat.not_lt.2 h_)
         by_cases c11 : ((((a0_0 ++ (⟨#[32]⟩ : ByteArray)) ++ (rdOf ByteArray.empty y859 a0_1)) ++ (⟨#[32]⟩ : ByteArray)) ++ t867).size + 1 ≤ 9223372036854775807
         ·rw [if_pos c11] at H
          have c11b0:=eq_true c11
          have c11b1 : decide (((((a0_0 ++ (⟨#[32]⟩ : ByteArray)) ++ (rdOf ByteArray.empty y859 a0_1)) ++ (⟨#[32]⟩ : ByteArray)) ++ t867).size + 1 ≤ 9223372036854775807) = true:=decide_eq_true c11
          try have c11b2 : (9223372036854775807 < ((((a0_0 ++ (⟨#[32]⟩ : ByteArray)) ++ (rdOf ByteArray.empty y859 a0_1)) ++ (⟨#[32]⟩ : ByteArray)) ++ t867).size + 1) = False:=eq_false (Nat.not_lt.2 c11)
          try have c11b9 : (9223372036854775807 < a0_0.size + 1 + (rdOf ByteArray.empty y859 a0_1).size + 1 + t867.size + 1) = False:=eq_false (by have h_:=c11; simp only [ByteArray.size_append] at h_; exact Nat.not_lt.2 h_)
          by_cases c12 : (((((a0_0 ++ (⟨#[32]⟩ : ByteArray)) ++ (rdOf ByteArray.empty y859 a0_1)) ++ (⟨#[32]⟩ : ByteArray)) ++ t867) ++ (⟨#[32]⟩ : ByteArray)).size + (rdOf ByteArray.empty y863 a0_3).size ≤ 9223372036854775807
          ·rw [if_pos c12] at H
           have c12b0:=eq_true c12
           have c12b1 : decide ((((((a0_0 ++ (⟨#[32]⟩ : ByteArray)) ++ (rdOf ByteArray.empty y859 a0_1)) ++ (⟨#[32]⟩ : ByteArray)) ++ t867) ++ (⟨#[32]⟩ : ByteArray)).size + (rdOf ByteArray.empty y863 a0_3).size ≤ 9223372036854775807) = true:=decide_eq_true c12
           try have c12b2 : (9223372036854775807 < (((((a0_0 ++ (⟨#[32]⟩ : ByteArray)) ++ (rdOf ByteArray.empty y859 a0_1)) ++ (⟨#[32]⟩ : ByteArray)) ++ t867) ++ (⟨#[32]⟩ : ByteArray)).size + (rdOf ByteArray.empty y863 a0_3).size) = False:=eq_false (Nat.not_lt.2 c12)
           try have c12b9 : (9223372036854775807 < a0_0.size + 1 + (rdOf ByteArray.empty y859 a0_1).size + 1 + t867.size + 1 + (rdOf ByteArray.empty y863 a0_3).size) = False:=eq_false (by have h_:=c12; simp only [ByteArray.size_append] at h_; exact Nat.not_lt.2 h_)
           by_cases c13 : ((((((a0_0 ++ (⟨#[32]⟩ : ByteArray)) ++ (rdOf ByteArray.empty y859 a0_1)) ++ (⟨#[32]⟩ : ByteArray)) ++ t867) ++ (⟨#[32]⟩ : ByteArray)) ++ (rdOf ByteArray.empty y863 a0_3)).size + 1 ≤ 9223372036854775807
           ·rw [if_pos c13] at H
            have c13b0:=eq_true c13
            have c13b1 : decide (((((((a0_0 ++ (⟨#[32]⟩ : ByteArray)) ++ (rdOf ByteArray.empty y859 a0_1)) ++ (⟨#[32]⟩ : ByteArray)) ++ t867) ++ (⟨#[32]⟩ : ByteArray)) ++ (rdOf ByteArray.empty y863 a0_3)).size + 1 ≤ 9223372036854775807) = true:=decide_eq_true c13
            try have c13b2 : (9223372036854775807 < ((((((a0_0 ++ (⟨#[32]⟩ : ByteArray)) ++ (rdOf ByteArray.empty y859 a0_1)) ++ (⟨#[32]⟩ : ByteArray)) ++ t867) ++ (⟨#[32]⟩ : ByteArray)) ++ (rdOf ByteArray.empty y863 a0_3)).size + 1) = False:=eq_false (Nat.not_lt.2 c13)
            try have c13b9 : (9223372036854775807 < a0_0.size + 1 + (rdOf ByteArray.empty y859 a0_1).size + 1 + t867.size + 1 + (rdOf ByteArray.empty y863 a0_3).size + 1) = False:=eq_false (by have h_:=c13; simp only [ByteArray.size_append] at h_; exact Nat.not_lt.2 h_)
            replace H:=Option.bind_eq_some_iff.mp H
            obtain ⟨t868,A140,H⟩:=H
            replace H : (if (((((((a0_0 ++ (⟨#[32]⟩ : ByteArray)) ++ (rdOf ByteArray.empty y859 a0_1)) ++ (⟨#[32]⟩ : ByteArray)) ++ t867) ++ (⟨#[32]⟩ : ByteArray)) ++ (rdOf ByteArray.empty y863 a0_3)) ++ (⟨#[32]⟩ : ByteArray)).size + t868.size ≤ 9223372036854775807 then (some ((((((((a0_0 ++ (⟨#[32]⟩ : ByteArray)) ++ (rdOf ByteArray.empty y859 a0_1)) ++ (⟨#[32]⟩ : ByteArray)) ++ t867) ++ (⟨#[32]⟩ : ByteArray)) ++ (rdOf ByteArray.empty y863 a0_3)) ++ (⟨#[32]⟩ : ByteArray)) ++ t868)) else (none)) = some r:=H
            have A14:=Aside0.mk A140
            clear A140
            by_cases c15 : (((((((a0_0 ++ (⟨#[32]⟩ : ByteArray)) ++ (rdOf ByteArray.empty y859 a0_1)) ++ (⟨#[32]⟩ : ByteArray)) ++ t867) ++ (⟨#[32]⟩ : ByteArray)) ++ (rdOf ByteArray.empty y863 a0_3)) ++ (⟨#[32]⟩ : ByteArray)).size + t868.size ≤ 9223372036854775807
            ·rw [if_pos c15] at H
             have c15b0:=eq_true c15
             have c15b1 : decide ((((((((a0_0 ++ (⟨#[32]⟩ : ByteArray)) ++ (rdOf ByteArray.empty y859 a0_1)) ++ (⟨#[32]⟩ : ByteArray)) ++ t867) ++ (⟨#[32]⟩ : ByteArray)) ++ (rdOf ByteArray.empty y863 a0_3)) ++ (⟨#[32]⟩ : ByteArray)).size + t868.size ≤ 9223372036854775807) = true:=decide_eq_true c15
             try have c15b2 : (9223372036854775807 < (((((((a0_0 ++ (⟨#[32]⟩ : ByteArray)) ++ (rdOf ByteArray.empty y859 a0_1)) ++ (⟨#[32]⟩ : ByteArray)) ++ t867) ++ (⟨#[32]⟩ : ByteArray)) ++ (rdOf ByteArray.empty y863 a0_3)) ++ (⟨#[32]⟩ : ByteArray)).size + t868.size) = False:=eq_false (Nat.not_lt.2 c15)
             try have c15b9 : (9223372036854775807 < a0_0.size + 1 + (rdOf ByteArray.empty y859 a0_1).size + 1 + t867.size + 1 + (rdOf ByteArray.empty y863 a0_3).size + 1 + t868.size) = False:=eq_false (by have h_:=c15; simp only [ByteArray.size_append] at h_; exact Nat.not_lt.2 h_)
             obtain rfl:=Option.some.inj H
             go_enter Tryz.func60,Tryz.ntmps60
             try go_wp2_with (first|((with_reducible refine gate_dst (N:=1) rfl ?_); refine box_event ?hg (N:=1) ?hd (cs:=#[.string a0_0,.int .i64 a0_1,.int .i64 a0_2,.int .i64 a0_3,.int .i64 a0_4]) (t:=50) ?hr ?_; (case hd => rfl); (case hg => rfl); (case hr => (go_simp; done)); intro gb858 hg w16 hbox hb; have n0_:=Aside0.mk (below_step (by repeat (((with_reducible (exact HB.out))))) hb); have n1_:=Aside0.mk (hbox); have n2_:=Aside0.mk ((by rw [hg]; exact (below_size (by repeat (((with_reducible (exact HB.out)))))) : w.heap.size ≤ gb858)); have n3_:=Aside0.mk ((by rw [hg]; exact (below_size (by repeat (((with_reducible (exact HB.out)))))) : w.heap.size ≤ gb858)); clear HB; have HB:=n0_; have BK858:=n1_; have GW858:=n2_; have GE858:=n3_; clear n0_ n1_ n2_ n3_; clear hb hbox hg)|((with_reducible refine gate_dst (N:=5) rfl ?_); refine Kd.R_lit Kd.string _ 9 ?hg (N:=5) ?hd (xs:=([(⟨#[]⟩ : ByteArray),(⟨#[115,109,97,108,108]⟩ : ByteArray),(⟨#[108,97,114,103,101]⟩ : ByteArray)] : List ByteArray)) (inner:=[.string (⟨#[]⟩ : ByteArray),.string (⟨#[115,109,97,108,108]⟩ : ByteArray),.string (⟨#[108,97,114,103,101]⟩ : ByteArray)]) (ok:=fun _ => True) (okp:=fun _ => True) ?hr ?hp (fun _ hk => hk) trivial (Below.refl _ _) (Nat.le_refl _) (by simp) ?_; (case hd => rfl); (case hg => rfl); (case hr => (go_simp; done)); (case hp => exact (Reps.one (show Kd.M Kd.string _ _ _ (⟨#[]⟩ : ByteArray) [.string (⟨#[]⟩ : ByteArray)] from rfl) (Reps.one (show Kd.M Kd.string _ _ _ (⟨#[115,109,97,108,108]⟩ : ByteArray) [.string (⟨#[115,109,97,108,108]⟩ : ByteArray)] from rfl) (Reps.one (show Kd.M Kd.string _ _ _ (⟨#[108,97,114,103,101]⟩ : ByteArray) [.string (⟨#[108,97,114,103,101]⟩ : ByteArray)] from rfl) (Reps.none _ _))))); intro v860 w17 ho18 hb hg_ hnew_; clear hg_ hnew_; (rw [← Ny859.out] at ho18); have n0_:=Aside0.mk (Kd.R_lower ho18 (below_size (by repeat (((with_reducible (exact HB.out))))))); have n1_:=Aside0.mk (blk_below (g:=gb858) (o:=.cells #[.string a0_0,.int .i64 a0_1,.int .i64 a0_2,.int .i64 a0_3,.int .i64 a0_4] 50 (0,0)) (by exact BK858.out) hb); have n2_:=Aside0.mk (below_step (by repeat (((with_reducible (exact HB.out))))) hb); clear BK858; clear HB; have HO861:=n0_; have BK858:=n1_; have HB:=n2_; clear n0_ n1_ n2_; clear hb ho18; have hcz19_0 : w17.cell? ⟨gb858,0,none⟩ = some (.string a0_0):=(blk_cell BK858.out 0).trans rfl; have hcz19_1 : w17.cell? ⟨gb858,1,none⟩ = some (.int .i64 a0_1):=(blk_cell BK858.out 1).trans rfl; have hcz19_2 : w17.cell? ⟨gb858,2,none⟩ = some (.int .i64 a0_2):=(blk_cell BK858.out 2).trans rfl; have hcz19_3 : w17.cell? ⟨gb858,3,none⟩ = some (.int .i64 a0_3):=(blk_cell BK858.out 3).trans rfl; have hcz19_4 : w17.cell? ⟨gb858,4,none⟩ = some (.int .i64 a0_4):=(blk_cell BK858.out 4).trans rfl; have hfz19_0:=blk_frozen BK858.out 0; have hfz19_1:=blk_frozen BK858.out 1; have hfz19_2:=blk_frozen BK858.out 2; have hfz19_3:=blk_frozen BK858.out 3; have hfz19_4:=blk_frozen BK858.out 4; obtain ⟨Ao20,co20,eo20⟩:=Kd.R_slice HO861.out; subst eo20; have p862 : 0 ≤ (a0_1 : Int):=of_decide_eq_true (by (with_reducible assumption)); have q862 : a0_1 < (y859.length : Int):=of_decide_eq_true (by (with_reducible assumption)); obtain ⟨ad862,e862,hx862_0⟩:=Kd.at_string (Kd.R_reads' HO861.out).2.2 a0_1 p862 q862; cases e862; replace p862:=eq_true p862; replace q862:=eq_true q862)|((with_reducible refine gate_dst (N:=10) rfl ?_); refine Kd.R_lit Kd.string _ 9 ?hg (N:=10) ?hd (xs:=([(⟨#[]⟩ : ByteArray),(⟨#[112,108,97,105,110]⟩ : ByteArray),(⟨#[114,101,101,102,101,114]⟩ : ByteArray),(⟨#[100,97,110,103,101,114]⟩ : ByteArray)] : List ByteArray)) (inner:=[.string (⟨#[]⟩ : ByteArray),.string (⟨#[112,108,97,105,110]⟩ : ByteArray),.string (⟨#[114,101,101,102,101,114]⟩ : ByteArray),.string (⟨#[100,97,110,103,101,114]⟩ : ByteArray)]) (ok:=fun _ => True) (okp:=fun _ => True) ?hr ?hp (fun _ hk => hk) trivial (Below.refl _ _) (Nat.le_refl _) (by simp) ?_; (case hd => rfl); (case hg => rfl); (case hr => (go_simp; done)); (case hp => exact (Reps.one (show Kd.M Kd.string _ _ _ (⟨#[]⟩ : ByteArray) [.string (⟨#[]⟩ : ByteArray)] from rfl) (Reps.one (show Kd.M Kd.string _ _ _ (⟨#[112,108,97,105,110]⟩ : ByteArray) [.string (⟨#[112,108,97,105,110]⟩ : ByteArray)] from rfl) (Reps.one (show Kd.M Kd.string _ _ _ (⟨#[114,101,101,102,101,114]⟩ : ByteArray) [.string (⟨#[114,101,101,102,101,114]⟩ : ByteArray)] from rfl) (Reps.one (show Kd.M Kd.string _ _ _ (⟨#[100,97,110,103,101,114]⟩ : ByteArray) [.string (⟨#[100,97,110,103,101,114]⟩ : ByteArray)] from rfl) (Reps.none _ _)))))); intro v864 w21 ho22 hb hg_ hnew_; clear hg_ hnew_; (rw [← Ny863.out] at ho22); have n0_:=Aside0.mk (Kd.R_elder' (by exact HO861.out) (Kd.R_base ho22) hb); have n1_:=Aside0.mk (Kd.R_lower (Kd.R_new' ho22 (Kd.R_lt (by exact HO861.out))) (below_size (by repeat (((with_reducible (exact HB.out))))))); have n2_:=Aside0.mk (blk_below (g:=gb858) (o:=.cells #[.string a0_0,.int .i64 a0_1,.int .i64 a0_2,.int .i64 a0_3,.int .i64 a0_4] 50 (0,0)) (by exact BK858.out) hb); have n3_:=Aside0.mk (below_step (by repeat (((with_reducible (exact HB.out))))) hb); clear HO861; clear BK858; clear HB; have HO861:=n0_; have HO865:=n1_; have BK858:=n2_; have HB:=n3_; clear n0_ n1_ n2_ n3_; clear hb ho22; have hcz23_0 : w21.cell? ⟨gb858,0,none⟩ = some (.string a0_0):=(blk_cell BK858.out 0).trans rfl; have hcz23_1 : w21.cell? ⟨gb858,1,none⟩ = some (.int .i64 a0_1):=(blk_cell BK858.out 1).trans rfl; have hcz23_2 : w21.cell? ⟨gb858,2,none⟩ = some (.int .i64 a0_2):=(blk_cell BK858.out 2).trans rfl; have hcz23_3 : w21.cell? ⟨gb858,3,none⟩ = some (.int .i64 a0_3):=(blk_cell BK858.out 3).trans rfl; have hcz23_4 : w21.cell? ⟨gb858,4,none⟩ = some (.int .i64 a0_4):=(blk_cell BK858.out 4).trans rfl; have hfz23_0:=blk_frozen BK858.out 0; have hfz23_1:=blk_frozen BK858.out 1; have hfz23_2:=blk_frozen BK858.out 2; have hfz23_3:=blk_frozen BK858.out 3; have hfz23_4:=blk_frozen BK858.out 4; obtain ⟨Ao24,co24,eo24⟩:=Kd.R_slice HO865.out; subst eo24; have p866 : 0 ≤ (a0_3 : Int):=of_decide_eq_true (by (with_reducible assumption)); have q866 : a0_3 < (y863.length : Int):=of_decide_eq_true (by (with_reducible assumption)); obtain ⟨ad866,e866,hx866_0⟩:=Kd.at_string (Kd.R_reads' HO865.out).2.2 a0_3 p866 q866; cases e866; replace p866:=eq_true p866; replace q866:=eq_true q866))
             have n0_:=Aside0.mk (Kd.R_drew HO861.out)
             have n1_:=Aside0.mk (Kd.R_drew HO865.out)
             have n2_:=Aside0.mk (blk_drew BK858.out)
             have n3_:=Aside0.mk (below_drew1 HB.out)
             clear HO861
             clear HO865
             clear BK858
             clear HB
             have HO861:=n0_
             have HO865:=n1_
             have BK858:=n2_
             have HB:=n3_
             clear n0_ n1_ n2_ n3_
             refine start_ (n:=19) (S:=fun w' => w'.cell? ⟨gb858,0,none⟩ = some (.string a0_0) ∧ w'.cell? ⟨gb858,1,none⟩ = some (.int .i64 a0_1) ∧ w'.cell? ⟨gb858,2,none⟩ = some (.int .i64 a0_2) ∧ w'.cell? ⟨gb858,3,none⟩ = some (.int .i64 a0_3) ∧ w'.cell? ⟨gb858,4,none⟩ = some (.int .i64 a0_4)) (ds:=[]) (b91e 19 0) (by kernel_rfl) rfl rfl ⟨(blk_cell BK858.out 0).trans rfl,(blk_cell BK858.out 1).trans rfl,(blk_cell BK858.out 2).trans rfl,(blk_cell BK858.out 3).trans rfl,(blk_cell BK858.out 4).trans rfl⟩ (fun hHeld => ?_); refine with_tabW spec_l4Text.tab3 spec_l4Text.bits3 (fun HT_ HW_ => ?_)
             generalize w21.drew = w25 at HO861 HO865 BK858 HB hHeld ⊢
             refine pure_ (i:=0) (N:=some 15) (v:=?_) (a':=?_) (b91e 19 1) rfl rfl (any_of HT_.out (by kernel_rfl)) (fun _ _ _ h => h) (Or.inl ⟨by rfl,?_⟩) ?_ ?_
             rotate_left
             ·intro w'
              go_simp
              with_reducible rfl
             rotate_left
             ·simp only [Act.put,List.setIfInBounds_toArray,List.set_cons_zero,List.set_cons_succ,i64_w,i32_w]
              rfl
             refine pure_ (i:=3) (N:=some 18) (v:=?_) (a':=?_) (b91e 19 9) rfl rfl (any_of HT_.out (by kernel_rfl)) (fun _ _ _ h => h) (Or.inl ⟨by rfl,?_⟩) ?_ ?_
             rotate_left
             ·intro w'
              go_simp
              with_reducible rfl
             rotate_left
             ·simp only [Act.put,List.setIfInBounds_toArray,List.set_cons_zero,List.set_cons_succ,i64_w,i32_w]
              rfl
             refine pure_ (i:=6) (N:=some 21) (v:=?_) (a':=?_) (b91e 19 73) rfl rfl (any_of HT_.out (by kernel_rfl)) (fun _ _ _ h => h) (Or.inl ⟨by rfl,?_⟩) ?_ ?_
             rotate_left
             ·intro w'
              go_simp
              with_reducible rfl
             rotate_left
             ·simp only [Act.put,List.setIfInBounds_toArray,List.set_cons_zero,List.set_cons_succ,i64_w,i32_w]
              rfl
             refine pure_ (i:=11) (N:=some 26) (v:=?_) (a':=?_) (b91e 19 2121) rfl rfl (any_of HT_.out (by kernel_rfl)) (fun _ _ _ h => h) (Or.inl ⟨by rfl,?_⟩) ?_ ?_
             rotate_left
             ·intro w'
              go_simp
              with_reducible rfl
             rotate_left
             ·simp only [Act.put,List.setIfInBounds_toArray,List.set_cons_zero,List.set_cons_succ,i64_w,i32_w]
              rfl
             refine pure_ (i:=14) (N:=some 29) (v:=?_) (a':=?_) (b91e 19 18505) rfl rfl (any_of HT_.out (by kernel_rfl)) (fun _ _ _ h => h) (Or.inl ⟨by rfl,?_⟩) ?_ ?_
             rotate_left
             ·intro w'
              go_simp
              with_reducible rfl
             rotate_left
             ·simp only [Act.put,List.setIfInBounds_toArray,List.set_cons_zero,List.set_cons_succ,i64_w,i32_w]
              rfl
             refine take_ (i:=1) (N:=some 16) (v:=?_) (a':=?_) (b91e 19 18507) rfl rfl (take_ofW HT_.out HW_.out (by kernel_rfl)) (fun _ _ _ h => h) (Or.inl ⟨by rfl,?_⟩) hHeld ?_ ?_
             rotate_left
             ·rintro w' ⟨s0,s1,s2,s3,s4⟩
              go_simp
              with_reducible rfl
             rotate_left
             ·simp only [Act.put,List.setIfInBounds_toArray,List.set_cons_zero,List.set_cons_succ,i64_w,i32_w]
              rfl
             refine pure_ (i:=2) (N:=some 17) (v:=?_) (a':=?_) (b91e 19 18511) rfl rfl (any_of HT_.out (by kernel_rfl)) (fun _ _ _ h => h) (Or.inl ⟨by rfl,?_⟩) ?_ ?_
             rotate_left
             ·intro w'
              go_simp
              with_reducible rfl
             rotate_left
             ·simp only [Act.put,List.setIfInBounds_toArray,List.set_cons_zero,List.set_cons_succ,i64_w,i32_w]
              rfl
             refine pure_ (i:=4) (N:=some 19) (v:=?_) (a':=?_) (b91e 19 18527) rfl rfl (any_of HT_.out (by kernel_rfl)) (fun _ _ _ h => h) (Or.inl ⟨by rfl,?_⟩) ?_ ?_
             rotate_left
             ·intro w'
              go_simp
              with_reducible rfl
             rotate_left
             ·simp only [Act.put,List.setIfInBounds_toArray,List.set_cons_zero,List.set_cons_succ,i64_w,i32_w]
              rfl
             refine pure_ (i:=5) (N:=some 20) (v:=?_) (a':=?_) (b91e 19 18559) rfl rfl (any_of HT_.out (by kernel_rfl)) (fun _ _ _ h => h) (Or.inl ⟨by rfl,?_⟩) ?_ ?_
             rotate_left
             ·intro w'
              go_simp
              with_reducible rfl
             rotate_left
             ·simp only [Act.put,List.setIfInBounds_toArray,List.set_cons_zero,List.set_cons_succ,i64_w,i32_w]
              rfl
             refine take_ (i:=7) (N:=some 22) (v:=?_) (a':=?_) (b91e 19 18687) rfl rfl (take_ofW HT_.out HW_.out (by kernel_rfl)) (fun _ _ _ h => h) (Or.inl ⟨by rfl,?_⟩) hHeld ?_ ?_
             rotate_left
             ·rintro w' ⟨s0,s1,s2,s3,s4⟩
              go_simp
              with_reducible rfl
             rotate_left
             ·simp only [Act.put,List.setIfInBounds_toArray,List.set_cons_zero,List.set_cons_succ,i64_w,i32_w]
              rfl
             refine take_ (i:=15) (N:=some 30) (v:=?_) (a':=?_) (b91e 19 51455) rfl rfl (take_ofW HT_.out HW_.out (by kernel_rfl)) (fun _ _ _ h => h) (Or.inl ⟨by rfl,?_⟩) hHeld ?_ ?_
             rotate_left
             ·rintro w' ⟨s0,s1,s2,s3,s4⟩
              go_simp
              with_reducible rfl
             rotate_left
             ·simp only [Act.put,List.setIfInBounds_toArray,List.set_cons_zero,List.set_cons_succ,i64_w,i32_w]
              rfl
             refine one_ (i:=8) (N:=some 23) (b91e 19 51711) rfl rfl (one_of HT_.out (by kernel_rfl)) (by decide) (fun K hK => ?_)
             refine goes_ Tryz.func34 (by kernel_rfl) rfl #[.int .i64 a0_2] (by rfl) rfl rfl (by (try simp only [List.map_toArray,List.map_cons,List.map_nil]); (rfl)) ?_
             with_reducible refine (spec_l1Num.calls k a0_2 t867 _ A9.out).mono ?_
             rintro e w26 ⟨rfl,hb⟩
             refine ⟨_,rfl,?_⟩
             have n0_:=Aside0.mk (Kd.R_below (by exact HO861.out) hb)
             have n1_:=Aside0.mk (Kd.R_below (by exact HO865.out) hb)
             have n2_:=Aside0.mk (blk_below (g:=gb858) (o:=.cells #[.string a0_0,.int .i64 a0_1,.int .i64 a0_2,.int .i64 a0_3,.int .i64 a0_4] 50 (0,0)) (by exact BK858.out) hb)
             have n3_:=Aside0.mk (below_step (by repeat (((with_reducible (exact HB.out))))) hb)
             clear HO861
             clear HO865
             clear BK858
             clear HB
             have HO861:=n0_
             have HO865:=n1_
             have BK858:=n2_
             have HB:=n3_
             clear n0_ n1_ n2_ n3_
             (try clear hb)
             (try clear hb2)
             (try clear hk)
             (try clear hi)
             refine hK.out _ _ ⟨(blk_cell BK858.out 0).trans rfl,(blk_cell BK858.out 1).trans rfl,(blk_cell BK858.out 2).trans rfl,(blk_cell BK858.out 3).trans rfl,(blk_cell BK858.out 4).trans rfl⟩ (fun hHeld => ?_)
             clear hK K
             refine norm_ (a':=?_) ?_ ?_
             rotate_left
             ·show Act.put _ (some 23) _ = _
              simp only [Act.put,List.setIfInBounds_toArray,List.set_cons_zero,List.set_cons_succ,i64_w,i32_w]
              rfl
             refine pure_ (i:=9) (N:=some 24) (v:=?_) (a':=?_) (b91e 19 52223) rfl rfl (any_of HT_.out (by kernel_rfl)) (fun _ _ _ h => h) (Or.inl ⟨by rfl,?_⟩) ?_ ?_
             rotate_left
             ·intro w'
              go_simp
              with_reducible rfl
             rotate_left
             ·simp only [Act.put,List.setIfInBounds_toArray,List.set_cons_zero,List.set_cons_succ,i64_w,i32_w]
              rfl
             refine pure_ (i:=10) (N:=some 25) (v:=?_) (a':=?_) (b91e 19 53247) rfl rfl (any_of HT_.out (by kernel_rfl)) (fun _ _ _ h => h) (Or.inl ⟨by rfl,?_⟩) ?_ ?_
             rotate_left
             ·intro w'
              go_simp
              with_reducible rfl
             rotate_left
             ·simp only [Act.put,List.setIfInBounds_toArray,List.set_cons_zero,List.set_cons_succ,i64_w,i32_w]
              rfl
             refine pure_ (i:=12) (N:=some 27) (v:=?_) (a':=?_) (b91e 19 57343) rfl rfl (any_of HT_.out (by kernel_rfl)) (fun _ _ _ h => h) (Or.inl ⟨by rfl,?_⟩) ?_ ?_
             rotate_left
             ·intro w'
              go_simp
              with_reducible rfl
             rotate_left
             ·simp only [Act.put,List.setIfInBounds_toArray,List.set_cons_zero,List.set_cons_succ,i64_w,i32_w]
              rfl
             refine pure_ (i:=13) (N:=some 28) (v:=?_) (a':=?_) (b91e 19 65535) rfl rfl (any_of HT_.out (by kernel_rfl)) (fun _ _ _ h => h) (Or.inl ⟨by rfl,?_⟩) ?_ ?_
             rotate_left
             ·intro w'
              go_simp
              with_reducible rfl
             rotate_left
             ·simp only [Act.put,List.setIfInBounds_toArray,List.set_cons_zero,List.set_cons_succ,i64_w,i32_w]
              rfl
             refine one_ (i:=16) (N:=some 31) (b91e 19 131071) rfl rfl (one_of HT_.out (by kernel_rfl)) (by decide) (fun K hK => ?_)
             refine goes_ Tryz.func34 (by kernel_rfl) rfl #[.int .i64 a0_4] (by rfl) rfl rfl (by (try simp only [List.map_toArray,List.map_cons,List.map_nil]); (rfl)) ?_
             with_reducible refine (spec_l1Num.calls k a0_4 t868 _ A14.out).mono ?_
             rintro e w27 ⟨rfl,hb⟩
             refine ⟨_,rfl,?_⟩
             have n0_:=Aside0.mk (Kd.R_below (by exact HO861.out) hb)
             have n1_:=Aside0.mk (Kd.R_below (by exact HO865.out) hb)
             have n2_:=Aside0.mk (blk_below (g:=gb858) (o:=.cells #[.string a0_0,.int .i64 a0_1,.int .i64 a0_2,.int .i64 a0_3,.int .i64 a0_4] 50 (0,0)) (by exact BK858.out) hb)
             have n3_:=Aside0.mk (below_step (by repeat (((with_reducible (exact HB.out))))) hb)
             clear HO861
             clear HO865
             clear BK858
             clear HB
             have HO861:=n0_
             have HO865:=n1_
             have BK858:=n2_
             have HB:=n3_
             clear n0_ n1_ n2_ n3_
             (try clear hb)
             (try clear hb2)
             (try clear hk)
             (try clear hi)
             refine hK.out _ _ ⟨(blk_cell BK858.out 0).trans rfl,(blk_cell BK858.out 1).trans rfl,(blk_cell BK858.out 2).trans rfl,(blk_cell BK858.out 3).trans rfl,(blk_cell BK858.out 4).trans rfl⟩ (fun hHeld => ?_)
             clear hK K
             refine norm_ (a':=?_) ?_ ?_
             rotate_left
             ·show Act.put _ (some 31) _ = _
              simp only [Act.put,List.setIfInBounds_toArray,List.set_cons_zero,List.set_cons_succ,i64_w,i32_w]
              rfl
             refine pure_ (i:=17) (N:=some 32) (v:=?_) (a':=?_) (b91e 19 262143) rfl rfl (any_of HT_.out (by kernel_rfl)) (fun _ _ _ h => h) (Or.inl ⟨by rfl,?_⟩) ?_ ?_
             rotate_left
             ·intro w'
              go_simp
              with_reducible rfl
             rotate_left
             ·simp only [Act.put,List.setIfInBounds_toArray,List.set_cons_zero,List.set_cons_succ,i64_w,i32_w]
              rfl
             refine pure_ (i:=18) (N:=some 2) (v:=?_) (a':=?_) (b91e 19 524287) rfl rfl (any_of HT_.out (by kernel_rfl)) (fun _ _ _ h => h) (Or.inl ⟨by rfl,?_⟩) ?_ ?_
             rotate_left
             ·intro w'
              go_simp
              with_reducible rfl
             rotate_left
             ·simp only [Act.put,List.setIfInBounds_toArray,List.set_cons_zero,List.set_cons_succ,i64_w,i32_w]
              rfl
             refine done_ (done_of HT_.out (by kernel_rfl)) ?_
             try go_wp2
             go_ret
             exact ⟨by (rfl),by repeat (((with_reducible (exact HB.out))))⟩
            ·rw [if_neg c15] at H
             exact absurd H (by simp)
           ·rw [if_neg c13] at H
            exact absurd H (by simp)
          ·rw [if_neg c12] at H
           exact absurd H (by simp)
         ·rw [if_neg c11] at H
          exact absurd H (by simp)
        ·rw [if_neg c10] at H
         exact absurd H (by simp)
       ·rw [if_neg c8] at H
        exact absurd H (by simp)
      ·rw [if_neg c7] at H
       exact absurd H (by simp)
     ·rw [if_neg c6] at H
      exact absurd H (by simp)
    ·rw [if_neg c5] at H
     exact absurd H (by simp)
   ·rw [if_neg c4] at H
    exact absurd H (by simp)
  ·rw [if_neg c3] at H
   exact absurd H (by simp)
 ·rw [if_neg c2] at H
  exact absurd H (by simp)

end Go.Proofs.YtfindomajbjacaaGreatDoor.X
