-- Written by a program of ours (wip/bin/xprint.py,over the kit's print.py) out of the translation. Not trusted: Lean checks it.
import Derived.Test.YtlldonokjgoajaaX0
import Derived.Test.YtlldonokjgoajaaFbIds
namespace Go.Proofs.Ytlldonokjgoajaa.X
open Go.RowKit Go.Proofs.YtlldonokjgoajaaW.PrintWords Go.Proofs.YtlldonokjgoajaaW.PrintLast Go.Proofs.YtlldonokjgoajaaW.PrintMore
attribute [local go_sem] max2_int min2_int max_two min_two max_three min_three max_four min_four   -- for this text's walks alone
set_option linter.unusedVariables false
set_option linter.unusedSimpArgs false

/-! ### spec_l2Number: function 182 -/
def spec_l2Number.l0 : Nat → Int → ByteArray → Int → Option (ByteArray)
 | 0,_,_,_ => none
 | k + 1,x1,x5,x6 => if x6 > 0 then (if x6 = 0 then (none) else (if 0 ≤ (Int.tmod (wrap64 (Int.tdiv x1 x6)) 10) then (if (Int.tmod (wrap64 (Int.tdiv x1 x6)) 10) ≤ (wrap64 ((Int.tmod (wrap64 (Int.tdiv x1 x6)) 10) + 1)) then (if (wrap64 ((Int.tmod (wrap64 (Int.tdiv x1 x6)) 10) + 1)) ≤ 10 then (if x5.size + ((⟨#[48,49,50,51,52,53,54,55,56,57]⟩ : ByteArray).extract ((Int.tmod (wrap64 (Int.tdiv x1 x6)) 10) : Int).toNat ((wrap64 ((Int.tmod (wrap64 (Int.tdiv x1 x6)) 10) + 1)) : Int).toNat).size ≤ 9223372036854775807 then (spec_l2Number.l0 k x1 (x5 ++ ((⟨#[48,49,50,51,52,53,54,55,56,57]⟩ : ByteArray).extract ((Int.tmod (wrap64 (Int.tdiv x1 x6)) 10) : Int).toNat ((wrap64 ((Int.tmod (wrap64 (Int.tdiv x1 x6)) 10) + 1)) : Int).toNat)) (wrap64 (Int.tdiv x6 10))) else (none)) else (none)) else (none)) else (none))) else ((spec_l2Check.f k x5).bind fun t1142 => ((some (([t1142] : List Int) : List Int)).bind fun y1143 => (if x5.size + (strOfNums y1143).size ≤ 9223372036854775807 then (some (x5 ++ (strOfNums y1143))) else (none))))
def spec_l2Number.f (k : Nat) (a0 : ByteArray) (a1 : Int) : Option (ByteArray):=spec_l2Number.l0 k a1 a0 1000
theorem spec_l2Number.mono_l : ∀ k,(∀ y0 y1 y2,LeO (spec_l2Number.l0 k y0 y1 y2) (spec_l2Number.l0 (k + 1) y0 y1 y2))
 | 0 => fun _ _ _ r h => by simp [spec_l2Number.l0] at h
 | k + 1 => by
  have ih0:=spec_l2Number.mono_l k
  ·intro y0 y1 y2
   unfold spec_l2Number.l0
   repeat' first
   | (with_reducible exact ih0 _ _ _)
   | (with_reducible exact spec_l2Check.mono _ _)
   | (with_reducible exact LeO.refl _)
   | (with_reducible exact LeO.none _)
   | (with_reducible refine LeO.ite ?_ ?_)
   | (with_reducible refine LeO.bind ?_ (fun _ => ?_))
   | exact ih0 _ _ _
   | exact spec_l2Check.mono _ _
   | exact LeO.none _
   | refine LeO.ite ?_ ?_
   | refine LeO.bind ?_ (fun _ => ?_)
theorem spec_l2Number.mono : ∀ a0 a1 k,LeO (spec_l2Number.f k a0 a1) (spec_l2Number.f (k + 1) a0 a1):=by
 intro a0 a1 k
 have ih0:=spec_l2Number.mono_l k
 unfold spec_l2Number.f
 repeat' first
   | (with_reducible exact ih0 _ _ _)
   | (with_reducible exact spec_l2Check.mono _ _)
   | (with_reducible exact LeO.refl _)
   | (with_reducible exact LeO.none _)
   | (with_reducible refine LeO.ite ?_ ?_)
   | (with_reducible refine LeO.bind ?_ (fun _ => ?_))
   | exact ih0 _ _ _
   | exact spec_l2Check.mono _ _
   | exact LeO.none _
   | refine LeO.ite ?_ ?_
   | refine LeO.bind ?_ (fun _ => ?_)
set_option maxHeartbeats 8000000 in
set_option maxRecDepth 100000 in
theorem spec_l2Number.calls (k : Nat) (a0 : ByteArray) (a1 : Int) (r : ByteArray) (w : World) (h : spec_l2Number.f k a0 a1 = some r) :
  Calls Try.prog 182 #[.string a0,.int .i64 a1] w fun e w' => e = .returned (.string r) ∧ Below w.heap.size w w':=by
 have HB:=Aside0.mk (Below.refl w.heap.size w)
 have H : (spec_l2Number.l0 k a1 a0 1000) = some r:=h
 clear h
 have H':=Aside0.mk H
 clear H
 go_enter Try.func182,Try.ntmps182
 go_wp2
 repeat (go_quiet (fail); try go_wp2)
 go_loopg [5,6] k (fun kq v5 v6 w' => ∃ (x5_1 : ByteArray) (x6_1 : Int),v5 = .string x5_1 ∧ v6 = .int .i64 x6_1 ∧ Aside0 (spec_l2Number.l0 kq a1 x5_1 x6_1 = some r) ∧ Aside0 (kq ≤ k) ∧ Aside0 (Below w.heap.size w w'))
 case atStart => exact ⟨(a0),(1000),(by first|rfl|(simp; done)|(simp [*]; done)),(by first|rfl|(simp; done)|(simp [*]; done)),H',⟨Nat.le_refl _⟩,⟨by repeat (first|(with_reducible first|exact HB.out|apply below_alloc|apply pw_below_drewN|apply below_drew1)|exact HB.out)⟩⟩
 case round =>
  clear H'
  try clear c1
  try clear p2
  obtain ⟨x5_1,x6_1,rfl,rfl,HA,HK1,HB⟩:=hrel
  cases gk with
  | zero => exact absurd HA.out (by simp [spec_l2Number.l0])
  | succ k1 =>
   have H:=HA.out
   clear HA
   simp only [spec_l2Number.l0] at H
   by_cases c3 : x6_1 > 0
   ·rw [if_pos c3] at H
    have c3b0 : decide (0 < x6_1) = true:=decide_eq_true c3
    clear c3
    by_cases c4 : x6_1 = 0
    ·rw [if_pos c4] at H
     exact absurd H (by simp)
    ·rw [if_neg c4] at H
     have c4b0 : (x6_1 == 0) = false:=beq_eq_false_iff_ne.mpr c4
     have c4b1 : (x6_1 != 0) = true:=bne_iff_ne.mpr c4
     obtain ⟨ji5,hji5⟩ : ∃ j_ : Int,(Int.tmod (wrap64 (Int.tdiv a1 x6_1)) 10) = j_:=⟨_,rfl⟩
     replace H : (if 0 ≤ (ji5) then (if (ji5) ≤ (wrap64 ((ji5) + 1)) then (if (wrap64 ((ji5) + 1)) ≤ 10 then (if x5_1.size + ((⟨#[48,49,50,51,52,53,54,55,56,57]⟩ : ByteArray).extract ((ji5) : Int).toNat ((wrap64 ((ji5) + 1)) : Int).toNat).size ≤ 9223372036854775807 then (spec_l2Number.l0 k1 a1 (x5_1 ++ ((⟨#[48,49,50,51,52,53,54,55,56,57]⟩ : ByteArray).extract ((ji5) : Int).toNat ((wrap64 ((ji5) + 1)) : Int).toNat)) (wrap64 (Int.tdiv x6_1 10))) else (none)) else (none)) else (none)) else (none)) = some r:=by first|(rw [hji5] at H; exact H)|(simp only [hji5] at H ⊢; exact H)
     by_cases c6 : 0 ≤ (ji5)
     ·rw [if_pos c6] at H
      have c6b0:=eq_true c6
      have c6b1 : decide (0 ≤ (ji5)) = true:=decide_eq_true c6
      clear c6
      by_cases c7 : (ji5) ≤ (wrap64 ((ji5) + 1))
      ·rw [if_pos c7] at H
       have c7b0:=eq_true c7
       have c7b1 : decide ((ji5) ≤ (wrap64 ((ji5) + 1))) = true:=decide_eq_true c7
       by_cases c8 : (wrap64 ((ji5) + 1)) ≤ 10
       ·rw [if_pos c8] at H
        have c8b0:=eq_true c8
        have c8b1 : decide ((wrap64 ((ji5) + 1)) ≤ 10) = true:=decide_eq_true c8
        by_cases c9 : x5_1.size + ((⟨#[48,49,50,51,52,53,54,55,56,57]⟩ : ByteArray).extract ((ji5) : Int).toNat ((wrap64 ((ji5) + 1)) : Int).toNat).size ≤ 9223372036854775807
        ·rw [if_pos c9] at H
         have c9b0:=eq_true c9
         have c9b1 : decide (x5_1.size + ((⟨#[48,49,50,51,52,53,54,55,56,57]⟩ : ByteArray).extract ((ji5) : Int).toNat ((wrap64 ((ji5) + 1)) : Int).toNat).size ≤ 9223372036854775807) = true:=decide_eq_true c9
         try have c9b2 : (9223372036854775807 < x5_1.size + ((⟨#[48,49,50,51,52,53,54,55,56,57]⟩ : ByteArray).extract ((ji5) : Int).toNat ((wrap64 ((ji5) + 1)) : Int).toNat).size) = False:=eq_false (Nat.not_lt.2 c9)
         try have c9b3 : (9223372036854775807 < x5_1.size + (((wrap64 ((ji5) + 1)) : Int).toNat - ((ji5) : Int).toNat)) = False:=eq_false (by have h1_ : ((⟨#[48,49,50,51,52,53,54,55,56,57]⟩ : ByteArray).extract ((ji5) : Int).toNat ((wrap64 ((ji5) + 1)) : Int).toNat).size = min ((wrap64 ((ji5) + 1)) : Int).toNat 10 - ((ji5) : Int).toNat:=by { rw [ByteArray.size_extract]; rfl }; have h2_:=c9; rw [h1_] at h2_; omega)
         have H':=Aside0.mk H
         clear H
         go_wp2
         repeat (go_quiet (fail); try go_wp2)
         go_roundg k1
         case measure => have:=HK1.out; omega
         case rel => exact ⟨(x5_1 ++ ((⟨#[48,49,50,51,52,53,54,55,56,57]⟩ : ByteArray).extract ((ji5) : Int).toNat ((wrap64 ((ji5) + 1)) : Int).toNat)),(wrap64 (Int.tdiv x6_1 10)),(by first|rfl|(simp; done)|(simp only [← hji5] <;> (first|rfl|simp))|(simp [*]; done)),(by first|rfl|(simp; done)|(simp [*]; done)),H',⟨by have:=HK1.out; omega⟩,⟨by repeat (first|(with_reducible first|exact HB.out|apply below_alloc|apply pw_below_drewN|apply below_drew1)|exact HB.out)⟩⟩
        ·rw [if_neg c9] at H
         exact absurd H (by simp)
       ·rw [if_neg c8] at H
        exact absurd H (by simp)
      ·rw [if_neg c7] at H
       exact absurd H (by simp)
     ·rw [if_neg c6] at H
      exact absurd H (by simp)
   ·rw [if_neg c3] at H
    have c3b0 : decide (0 < x6_1) = false:=decide_eq_false c3
    clear c3
    replace H:=Option.bind_eq_some_iff.mp H
    obtain ⟨t1142,A100,H⟩:=H
    replace H : ((some (([t1142] : List Int) : List Int)).bind fun y1143 => (if x5_1.size + (strOfNums y1143).size ≤ 9223372036854775807 then (some (x5_1 ++ (strOfNums y1143))) else (none))) = some r:=H
    have A10:=Aside0.mk A100
    clear A100
    obtain ⟨y1143,hy1143⟩ : ∃ y_ : List Int,y_ = (([t1142] : List Int)):=⟨_,rfl⟩
    replace H : (if x5_1.size + (strOfNums y1143).size ≤ 9223372036854775807 then (some (x5_1 ++ (strOfNums y1143))) else (none)) = some r:=by first|(rw [hy1143]; with_reducible exact H)|(have H2_:=(Option.bind_some _ _).symm.trans H; rw [hy1143]; with_reducible exact H2_)|(have H2_:=(Option.bind_some _ _).symm.trans H; with_reducible exact H2_)|with_reducible exact H|(rw [hy1143]; exact H)|exact H
    have Ny1143:=Aside0.mk hy1143
    clear hy1143
    by_cases c11 : x5_1.size + (strOfNums y1143).size ≤ 9223372036854775807
    ·rw [if_pos c11] at H
     have c11b0:=eq_true c11
     have c11b1 : decide (x5_1.size + (strOfNums y1143).size ≤ 9223372036854775807) = true:=decide_eq_true c11
     try have c11b2 : (9223372036854775807 < x5_1.size + (strOfNums y1143).size) = False:=eq_false (Nat.not_lt.2 c11)
     obtain rfl:=Option.some.inj H
     go_wp2_with (first|(go_at_call 200; (with_reducible refine (spec_l2Check.calls k1 x5_1 t1142 _ A10.out).mono ?_); rintro e w' ⟨rfl,⟨nd,rfl⟩⟩; (try first|exact ⟨rfl,_,World.drewN_drewN _ _ _⟩|exact ⟨rfl,_,Eq.trans (World.drewN_drewN _ _ _) (congrArg (World.drewN _) (Nat.add_assoc _ _ _))⟩))|((with_reducible refine gate_dst (N:=27) rfl ?_); refine Kd.R_lit (Kd.int .u8) _ 5 ?hg (N:=27) ?hd (xs:=([t1142] : List Int)) (inner:=[.int .u8 t1142]) (ok:=fun _ => True) (okp:=fun _ => True) ?hr ?hp (fun _ hk => hk) trivial (Below.refl _ _) (Nat.le_refl _) (by simp) ?_; (case hd => rfl); (case hg => rfl); (case hr => first|(go_simp; done)|(go_simp; rfl)); (case hp => exact (Reps.one (show Kd.M (Kd.int .u8) _ _ _ t1142 [.int .u8 t1142] from rfl) (Reps.none _ _))); intro v1144 w12 ho13 hb hg_ hnew_; clear hg_ hnew_; (first|rw [← Ny1143.out] at ho13|(simp only [Int.reduceToNat] at ho13; rw [← Ny1143.out] at ho13)); have n0_:=Aside0.mk (Kd.R_lower ho13 (below_size (by repeat (first|(with_reducible first|exact HB.out|apply below_alloc|apply pw_below_drewN|apply below_drew1)|exact HB.out)))); have n1_:=Aside0.mk (below_step (by repeat (first|(with_reducible first|exact HB.out|apply below_alloc|apply pw_below_drewN|apply below_drew1)|exact HB.out)) hb); clear HB; have HO1145:=n0_; have HB:=n1_; clear n0_ n1_; clear hb ho13; have hcv14:=own_string (P:=Try.prog) Try.underlying22 Try.underlying5 Try.underlying9 (Kd.own_of_R HO1145.out)))
     repeat (go_quiet (first|(go_at_call 200; (with_reducible refine (spec_l2Check.calls k1 x5_1 t1142 _ A10.out).mono ?_); rintro e w' ⟨rfl,⟨nd,rfl⟩⟩; (try first|exact ⟨rfl,_,World.drewN_drewN _ _ _⟩|exact ⟨rfl,_,Eq.trans (World.drewN_drewN _ _ _) (congrArg (World.drewN _) (Nat.add_assoc _ _ _))⟩))|((with_reducible refine gate_dst (N:=27) rfl ?_); refine Kd.R_lit (Kd.int .u8) _ 5 ?hg (N:=27) ?hd (xs:=([t1142] : List Int)) (inner:=[.int .u8 t1142]) (ok:=fun _ => True) (okp:=fun _ => True) ?hr ?hp (fun _ hk => hk) trivial (Below.refl _ _) (Nat.le_refl _) (by simp) ?_; (case hd => rfl); (case hg => rfl); (case hr => first|(go_simp; done)|(go_simp; rfl)); (case hp => exact (Reps.one (show Kd.M (Kd.int .u8) _ _ _ t1142 [.int .u8 t1142] from rfl) (Reps.none _ _))); intro v1144 w12 ho13 hb hg_ hnew_; clear hg_ hnew_; (first|rw [← Ny1143.out] at ho13|(simp only [Int.reduceToNat] at ho13; rw [← Ny1143.out] at ho13)); have n0_:=Aside0.mk (Kd.R_lower ho13 (below_size (by repeat (first|(with_reducible first|exact HB.out|apply below_alloc|apply pw_below_drewN|apply below_drew1)|exact HB.out)))); have n1_:=Aside0.mk (below_step (by repeat (first|(with_reducible first|exact HB.out|apply below_alloc|apply pw_below_drewN|apply below_drew1)|exact HB.out)) hb); clear HB; have HO1145:=n0_; have HB:=n1_; clear n0_ n1_; clear hb ho13; have hcv14:=own_string (P:=Try.prog) Try.underlying22 Try.underlying5 Try.underlying9 (Kd.own_of_R HO1145.out))); try go_wp2_with (first|(go_at_call 200; (with_reducible refine (spec_l2Check.calls k1 x5_1 t1142 _ A10.out).mono ?_); rintro e w' ⟨rfl,⟨nd,rfl⟩⟩; (try first|exact ⟨rfl,_,World.drewN_drewN _ _ _⟩|exact ⟨rfl,_,Eq.trans (World.drewN_drewN _ _ _) (congrArg (World.drewN _) (Nat.add_assoc _ _ _))⟩))|((with_reducible refine gate_dst (N:=27) rfl ?_); refine Kd.R_lit (Kd.int .u8) _ 5 ?hg (N:=27) ?hd (xs:=([t1142] : List Int)) (inner:=[.int .u8 t1142]) (ok:=fun _ => True) (okp:=fun _ => True) ?hr ?hp (fun _ hk => hk) trivial (Below.refl _ _) (Nat.le_refl _) (by simp) ?_; (case hd => rfl); (case hg => rfl); (case hr => first|(go_simp; done)|(go_simp; rfl)); (case hp => exact (Reps.one (show Kd.M (Kd.int .u8) _ _ _ t1142 [.int .u8 t1142] from rfl) (Reps.none _ _))); intro v1144 w12 ho13 hb hg_ hnew_; clear hg_ hnew_; (first|rw [← Ny1143.out] at ho13|(simp only [Int.reduceToNat] at ho13; rw [← Ny1143.out] at ho13)); have n0_:=Aside0.mk (Kd.R_lower ho13 (below_size (by repeat (first|(with_reducible first|exact HB.out|apply below_alloc|apply pw_below_drewN|apply below_drew1)|exact HB.out)))); have n1_:=Aside0.mk (below_step (by repeat (first|(with_reducible first|exact HB.out|apply below_alloc|apply pw_below_drewN|apply below_drew1)|exact HB.out)) hb); clear HB; have HO1145:=n0_; have HB:=n1_; clear n0_ n1_; clear hb ho13; have hcv14:=own_string (P:=Try.prog) Try.underlying22 Try.underlying5 Try.underlying9 (Kd.own_of_R HO1145.out))))
     go_ret
     exact ⟨by first|rfl|(simp [errW_none,errW_some] <;> rfl)|(simp [*,errW_none,errW_some] <;> rfl),by repeat (first|(with_reducible first|exact HB.out|apply below_alloc|apply pw_below_drewN|apply below_drew1)|exact HB.out)⟩
    ·rw [if_neg c11] at H
     exact absurd H (by simp)

end Go.Proofs.Ytlldonokjgoajaa.X
