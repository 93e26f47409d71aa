-- Written by a program of ours (wip/bin/xprint.py,over the kit's print.py) out of the translation. Not trusted: Lean checks it.
import Derived.Test.YtfindomajbjacaaGreatDoorX0
import Derived.Test.YtfindomajbjacaaGreatDoorFbCur
import Derived.Test.YtfindomajbjacaaGreatDoorFspecl1Curcontainer
import Derived.Test.YtfindomajbjacaaGreatDoorFspecl4Text
import Derived.Test.YtfindomajbjacaaGreatDoorGspoilt
namespace Go.Proofs.YtfindomajbjacaaGreatDoor.X
open Go.RowKit Go.Proofs.YtfindomajbjacaaGreatDoorW.PrintWords Go.Proofs.YtfindomajbjacaaGreatDoorW.PrintLast Go.Proofs.YtfindomajbjacaaGreatDoorW.PrintMore
attribute [local go_sem] max2_int min2_int max_two min_two max_three min_three max_four min_four   -- for this text's walks alone
set_option linter.unusedVariables false
set_option linter.unusedSimpArgs false

/-! ### spec_DrawParseManifest: function 26 -/
def spec_DrawParseManifest.l0 : Nat → ByteArray → Int → List Int → Int → Int → Option (ByteArray)
 | 0,_,_,_,_,_ => none
 | k + 1,x4,x5,x876000,x876001,x876002 => if x5 > 0 then ((spec_l1Cur_container.f k x876000 x876001 x876002).bind fun bt879 => ((spec_l4Text.f k bt879.1 bt879.2.1 bt879.2.2.1 bt879.2.2.2.1 bt879.2.2.2.2.1).bind fun t886 => (if x4.size + t886.size ≤ 9223372036854775807 then (if (x4 ++ t886).size + 1 ≤ 9223372036854775807 then (spec_DrawParseManifest.l0 k ((x4 ++ t886) ++ (⟨#[10]⟩ : ByteArray)) (wrap64 (x5 - 1)) x876000 bt879.2.2.2.2.2.1 bt879.2.2.2.2.2.2) else (none)) else (none)))) else ((spec_l1Cur_one.f x876000 x876001 x876002 5).bind fun bt887 => (if bt887.1 = true then ((spec_l1Cur_spoilt.f x876000 bt887.2.1 bt887.2.2 x4 (⟨#[49,32,65,10]⟩ : ByteArray)).bind fun bt890 => (some bt890.1)) else (some x4)))
def spec_DrawParseManifest.f (k : Nat) (l0 : List Int) : Option (ByteArray):=(spec_l1Cur_pick.f l0 0 0 4).bind fun bt876 => (spec_DrawParseManifest.l0 k (⟨#[]⟩ : ByteArray) bt876.1 l0 bt876.2.1 bt876.2.2)
theorem spec_DrawParseManifest.mono_l : ∀ k,(∀ y0 y1 y2 y3 y4,LeO (spec_DrawParseManifest.l0 k y0 y1 y2 y3 y4) (spec_DrawParseManifest.l0 (k + 1) y0 y1 y2 y3 y4))
 | 0 => fun _ _ _ _ _ r h => by simp [spec_DrawParseManifest.l0] at h
 | k + 1 => by
  have ih0:=spec_DrawParseManifest.mono_l k
  ·intro y0 y1 y2 y3 y4
   unfold spec_DrawParseManifest.l0
   repeat' first
   | (with_reducible exact ih0 _ _ _ _ _)
   | (with_reducible exact spec_l1Cur_container.mono _ _ _ _)
   | (with_reducible exact spec_l4Text.mono _ _ _ _ _ _)
   | (with_reducible exact LeO.refl _)
   | (with_reducible exact LeO.none _)
   | (with_reducible refine LeO.ite ?_ ?_)
   | (with_reducible refine LeO.bind ?_ (fun _ => ?_))
   | exact ih0 _ _ _ _ _
   | exact spec_l1Cur_container.mono _ _ _ _
   | exact spec_l4Text.mono _ _ _ _ _ _
   | exact LeO.none _
   | refine LeO.ite ?_ ?_
   | refine LeO.bind ?_ (fun _ => ?_)
theorem spec_DrawParseManifest.mono : ∀ a0 k,LeO (spec_DrawParseManifest.f k a0) (spec_DrawParseManifest.f (k + 1) a0):=by
 intro a0 k
 have ih0:=spec_DrawParseManifest.mono_l k
 unfold spec_DrawParseManifest.f
 repeat' first
   | (with_reducible exact ih0 _ _ _ _ _)
   | (with_reducible exact spec_l1Cur_container.mono _ _ _ _)
   | (with_reducible exact spec_l4Text.mono _ _ _ _ _ _)
   | (with_reducible exact LeO.refl _)
   | (with_reducible exact LeO.none _)
   | (with_reducible refine LeO.ite ?_ ?_)
   | (with_reducible refine LeO.bind ?_ (fun _ => ?_))
   | exact ih0 _ _ _ _ _
   | exact spec_l1Cur_container.mono _ _ _ _
   | exact spec_l4Text.mono _ _ _ _ _ _
   | exact LeO.none _
   | refine LeO.ite ?_ ?_
   | refine LeO.bind ?_ (fun _ => ?_)
set_option maxHeartbeats 8000000 in
set_option maxRecDepth 100000 in
theorem spec_DrawParseManifest.calls (k : Nat) (A0 : Option Addr) (c0 : Nat) (l0 : List Int) (r : ByteArray) (w : World) (hr0 : Kd.C (Kd.int .u8) w A0 l0.length l0) (hc0 : l0.length ≤ c0) (h : spec_DrawParseManifest.f k l0 = some r) :
  Calls Tryz.prog 26 #[.slice A0 l0.length c0] w fun e w' => e = .returned (.string r) ∧ Below w.heap.size w w':=by
 have hu69:=Tryz.underlying69
 have HR0:=Aside0.mk hr0
 have HC0:=Aside0.mk hc0
 clear hr0 hc0
 have HB:=Aside0.mk (Below.refl w.heap.size w)
 have H : ((spec_l1Cur_pick.f l0 0 0 4).bind fun bt876 => (spec_DrawParseManifest.l0 k (⟨#[]⟩ : ByteArray) bt876.1 l0 bt876.2.1 bt876.2.2)) = some r:=h
 clear h
 replace H:=Option.bind_eq_some_iff.mp H
 obtain ⟨⟨t876,t877,t878⟩,A20,H⟩:=H
 replace H : (spec_DrawParseManifest.l0 k (⟨#[]⟩ : ByteArray) t876 l0 t877 t878) = some r:=H
 have A2:=Aside0.mk A20
 clear A20
 have H':=Aside0.mk H
 clear H
 go_enter Tryz.func26,Tryz.ntmps26
 go_wp2_with (first|((with_reducible refine gate_dst (N:=8) rfl ?_); refine box_event ?hg (N:=8) ?hd (cs:=#[.slice A0 l0.length c0,.int .i64 0,.int .u64 0]) (t:=69) ?hr ?_; (case hd => rfl); (case hg => rfl); (case hr => (go_simp; done)); intro gb875 hg w3 hbox hb; have n0_:=Aside0.mk (below_step (by repeat (((with_reducible (exact HB.out))))) hb); have n1_:=Aside0.mk ((show IsS69 w w3 gb875 l0 0 0 from ⟨_,_,hbox,(by rw [hg]; exact (below_size (by repeat (((with_reducible (exact HB.out))))))),HR0.out⟩)); clear HB; have HB:=n0_; have HI875:=n1_; clear n0_ n1_; clear hb hbox hg)|((with_reducible refine gate_callee (f:=47) rfl ?_); refine goesL_ (some 10) rfl rfl Tryz.func47 (by kernel_rfl) rfl #[.pointer (some ⟨gb875,0,none⟩),.int .i64 4] rfl (by (try simp only [List.map_toArray,List.map_cons,List.map_nil]); (rfl)) ?_; (with_reducible refine (spec_l1Cur_pick.calls gb875 l0 0 0 4 t876 t877 t878 w _ ?side1 ?side2 A2.out).mono ?_); (case side1 => repeat (((with_reducible (exact HI875.out))))); (case side2 => repeat (((with_reducible (exact HB.out))))); rintro e w4 ⟨rfl,hi,hb,hk⟩; refine ⟨_,rfl,?_⟩; have n0_:=Aside0.mk (hb); have n1_:=Aside0.mk (hi); clear HB; clear HI875; have HB:=n0_; have HI875:=n1_; clear n0_ n1_; (try clear hb); (try clear hb2); (try clear hk); (try clear hi)))
 go_loopg [4,5] k (fun kq v4 v5 w' => ∃ (x4_1 : ByteArray) (x5_1 : Int) (x876001_1 : Int) (x876002_1 : Int),v4 = .string x4_1 ∧ v5 = .int .i64 x5_1 ∧ Aside0 (spec_DrawParseManifest.l0 kq x4_1 x5_1 l0 x876001_1 x876002_1 = some r) ∧ Aside0 (kq ≤ k) ∧ Aside0 (IsS69 w w' gb875 l0 x876001_1 x876002_1) ∧ Aside0 (Below w.heap.size w w'))
 case atStart => exact ⟨(⟨#[]⟩ : ByteArray),(t876),(t877),(t878),(by (rfl)),(by (rfl)),H',⟨Nat.le_refl _⟩,⟨by repeat (((with_reducible (exact HI875.out))))⟩,⟨by repeat (((with_reducible (exact HB.out))))⟩⟩
 case round =>
  clear H'
  try clear c2
  try clear p2
  try clear c4
  obtain ⟨x4_1,x5_1,x876001_1,x876002_1,rfl,rfl,HA,HK1,HI875,HB⟩:=hrel
  cases gk with
  | zero => exact absurd HA.out (by simp [spec_DrawParseManifest.l0])
  | succ k1 =>
   have H:=HA.out
   clear HA
   simp only [spec_DrawParseManifest.l0] at H
   by_cases c5 : x5_1 > 0
   ·rw [if_pos c5] at H
    have c5b0 : decide (0 < x5_1) = true:=decide_eq_true c5
    clear c5
    replace H:=Option.bind_eq_some_iff.mp H
    obtain ⟨⟨t879,t880,t881,t882,t883,t884,t885⟩,A60,H⟩:=H
    replace H : ((spec_l4Text.f k1 t879 t880 t881 t882 t883).bind fun t886 => (if x4_1.size + t886.size ≤ 9223372036854775807 then (if (x4_1 ++ t886).size + 1 ≤ 9223372036854775807 then (spec_DrawParseManifest.l0 k1 ((x4_1 ++ t886) ++ (⟨#[10]⟩ : ByteArray)) (wrap64 (x5_1 - 1)) l0 t884 t885) else (none)) else (none))) = some r:=H
    have A6:=Aside0.mk A60
    clear A60
    replace H:=Option.bind_eq_some_iff.mp H
    obtain ⟨t886,A70,H⟩:=H
    replace H : (if x4_1.size + t886.size ≤ 9223372036854775807 then (if (x4_1 ++ t886).size + 1 ≤ 9223372036854775807 then (spec_DrawParseManifest.l0 k1 ((x4_1 ++ t886) ++ (⟨#[10]⟩ : ByteArray)) (wrap64 (x5_1 - 1)) l0 t884 t885) else (none)) else (none)) = some r:=H
    have A7:=Aside0.mk A70
    clear A70
    by_cases c8 : x4_1.size + t886.size ≤ 9223372036854775807
    ·rw [if_pos c8] at H
     have c8b0:=eq_true c8
     have c8b1 : decide (x4_1.size + t886.size ≤ 9223372036854775807) = true:=decide_eq_true c8
     try have c8b2 : (9223372036854775807 < x4_1.size + t886.size) = False:=eq_false (Nat.not_lt.2 c8)
     by_cases c9 : (x4_1 ++ t886).size + 1 ≤ 9223372036854775807
     ·rw [if_pos c9] at H
      have c9b0:=eq_true c9
      have c9b1 : decide ((x4_1 ++ t886).size + 1 ≤ 9223372036854775807) = true:=decide_eq_true c9
      try have c9b2 : (9223372036854775807 < (x4_1 ++ t886).size + 1) = False:=eq_false (Nat.not_lt.2 c9)
      try have c9b9 : (9223372036854775807 < x4_1.size + t886.size + 1) = False:=eq_false (by have h_:=c9; simp only [ByteArray.size_append] at h_; exact Nat.not_lt.2 h_)
      try (have c9b7:=c9b2; simp only [ByteArray.size_append] at c9b7)
      have H':=Aside0.mk H
      clear H
      go_wp2_with (first|((with_reducible refine gate_callee (f:=61) rfl ?_); refine goesL_ (some 17) rfl rfl Tryz.func61 (by kernel_rfl) rfl #[.pointer (some ⟨gb875,0,none⟩)] rfl (by (try simp only [List.map_toArray,List.map_cons,List.map_nil]); (rfl)) ?_; (with_reducible refine (spec_l1Cur_container.calls k1 gb875 l0 x876001_1 x876002_1 t879 t880 t881 t882 t883 t884 t885 w _ ?side1 ?side2 A6.out).mono ?_); (case side1 => repeat (((with_reducible (exact HI875.out))))); (case side2 => repeat (((with_reducible (exact HB.out))))); rintro e w10 ⟨rfl,hi,hb,hk⟩; refine ⟨_,rfl,?_⟩; have n0_:=Aside0.mk (hb); have n1_:=Aside0.mk (hi); clear HB; clear HI875; have HB:=n0_; have HI875:=n1_; clear n0_ n1_; (try clear hb); (try clear hb2); (try clear hk); (try clear hi))|((with_reducible refine gate_callee (f:=60) rfl ?_); refine goesL_ (some 18) rfl rfl Tryz.func60 (by kernel_rfl) rfl #[.agg #[.string t879,.int .i64 t880,.int .i64 t881,.int .i64 t882,.int .i64 t883]] rfl (by (try simp only [List.map_toArray,List.map_cons,List.map_nil]); (rfl)) ?_; (with_reducible refine (spec_l4Text.calls k1 t879 t880 t881 t882 t883 t886 _ A7.out).mono ?_); rintro e w11 ⟨rfl,hb⟩; refine ⟨_,rfl,?_⟩; have n0_:=Aside0.mk (IsS69.below (by repeat (((with_reducible (exact HI875.out))))) hb); have n1_:=Aside0.mk (below_step (by repeat (((with_reducible (exact HB.out))))) hb); clear HI875; clear HB; have HI875:=n0_; have HB:=n1_; clear n0_ n1_; (try clear hb); (try clear hb2); (try clear hk); (try clear hi)))
      go_roundg k1
      case measure => have:=HK1.out; omega
      case rel => exact ⟨((x4_1 ++ t886) ++ (⟨#[10]⟩ : ByteArray)),(wrap64 (x5_1 - 1)),(t884),(t885),(by (rfl)),(by (rfl)),H',⟨by have:=HK1.out; omega⟩,⟨by repeat (((with_reducible (exact HI875.out))))⟩,⟨by repeat (((with_reducible (exact HB.out))))⟩⟩
     ·rw [if_neg c9] at H
      exact absurd H (by simp)
    ·rw [if_neg c8] at H
     exact absurd H (by simp)
   ·rw [if_neg c5] at H
    have c5b0 : decide (0 < x5_1) = false:=decide_eq_false c5
    clear c5
    replace H:=Option.bind_eq_some_iff.mp H
    obtain ⟨⟨t887,t888,t889⟩,A120,H⟩:=H
    replace H : (if t887 = true then ((spec_l1Cur_spoilt.f l0 t888 t889 x4_1 (⟨#[49,32,65,10]⟩ : ByteArray)).bind fun bt890 => (some bt890.1)) else (some x4_1)) = some r:=H
    have A12:=Aside0.mk A120
    clear A120
    by_cases c13 : t887 = true
    ·subst c13
     have H1 : ((spec_l1Cur_spoilt.f l0 t888 t889 x4_1 (⟨#[49,32,65,10]⟩ : ByteArray)).bind fun bt890 => (some bt890.1)) = some r:=by rw [if_pos rfl] at H; exact H
     clear H
     have H:=H1
     clear H1
     replace H:=Option.bind_eq_some_iff.mp H
     obtain ⟨⟨t890,t891,t892⟩,A140,H⟩:=H
     replace H : (some t890) = some r:=H
     have A14:=Aside0.mk A140
     clear A140
     obtain rfl:=Option.some.inj H
     go_wp2_with (first|((with_reducible refine gate_callee (f:=46) rfl ?_); refine goesL_ (some 22) rfl rfl Tryz.func46 (by kernel_rfl) rfl #[.pointer (some ⟨gb875,0,none⟩),.int .i64 5] rfl (by (try simp only [List.map_toArray,List.map_cons,List.map_nil]); (rfl)) ?_; (with_reducible refine (spec_l1Cur_one.calls gb875 l0 x876001_1 x876002_1 5 true t888 t889 w _ ?side1 ?side2 A12.out).mono ?_); (case side1 => repeat (((with_reducible (exact HI875.out))))); (case side2 => repeat (((with_reducible (exact HB.out))))); rintro e w15 ⟨rfl,hi,hb,hk⟩; refine ⟨_,rfl,?_⟩; have n0_:=Aside0.mk (hb); have n1_:=Aside0.mk (hi); clear HB; clear HI875; have HB:=n0_; have HI875:=n1_; clear n0_ n1_; (try clear hb); (try clear hb2); (try clear hk); (try clear hi))|((with_reducible refine gate_callee (f:=51) rfl ?_); refine goesL_ (some 25) rfl rfl Tryz.func51 (by kernel_rfl) rfl #[.pointer (some ⟨gb875,0,none⟩),.string x4_1,.string (⟨#[49,32,65,10]⟩ : ByteArray)] rfl (by (try simp only [List.map_toArray,List.map_cons,List.map_nil]); (rfl)) ?_; (with_reducible refine (spec_l1Cur_spoilt.calls gb875 l0 t888 t889 x4_1 (⟨#[49,32,65,10]⟩ : ByteArray) t890 t891 t892 w _ ?side1 ?side2 A14.out).mono ?_); (case side1 => repeat (((with_reducible (exact HI875.out))))); (case side2 => repeat (((with_reducible (exact HB.out))))); rintro e w16 ⟨rfl,hi,hb,hk⟩; refine ⟨_,rfl,?_⟩; have n0_:=Aside0.mk (hb); have n1_:=Aside0.mk (hi); clear HB; clear HI875; have HB:=n0_; have HI875:=n1_; clear n0_ n1_; (try clear hb); (try clear hb2); (try clear hk); (try clear hi)))
     go_ret
     exact ⟨by (rfl),by repeat (((with_reducible (exact HB.out))))⟩
    ·replace c13:=Bool.eq_false_iff.mpr c13
     subst c13
     have H1 : (some x4_1) = some r:=by rw [if_neg (show ¬ (false = true) by decide)] at H; exact H
     clear H
     have H:=H1
     clear H1
     obtain rfl:=Option.some.inj H
     go_wp2_with ((((with_reducible refine gate_callee (f:=46) rfl ?_); refine goesL_ (some 22) rfl rfl Tryz.func46 (by kernel_rfl) rfl #[.pointer (some ⟨gb875,0,none⟩),.int .i64 5] rfl (by (try simp only [List.map_toArray,List.map_cons,List.map_nil]); (rfl)) ?_; (with_reducible refine (spec_l1Cur_one.calls gb875 l0 x876001_1 x876002_1 5 false t888 t889 w _ ?side1 ?side2 A12.out).mono ?_); (case side1 => repeat (((with_reducible (exact HI875.out))))); (case side2 => repeat (((with_reducible (exact HB.out))))); rintro e w17 ⟨rfl,hi,hb,hk⟩; refine ⟨_,rfl,?_⟩; have n0_:=Aside0.mk (hb); have n1_:=Aside0.mk (hi); clear HB; clear HI875; have HB:=n0_; have HI875:=n1_; clear n0_ n1_; (try clear hb); (try clear hb2); (try clear hk); (try clear hi))))
     go_ret
     exact ⟨by (rfl),by repeat (((with_reducible (exact HB.out))))⟩

end Go.Proofs.YtfindomajbjacaaGreatDoor.X
