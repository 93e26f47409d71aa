-- Written by a program of ours (wip/bin/xprint.py,over the kit's print.py) out of the translation. Not trusted: Lean checks it.
import Derived.Test.YtlldonokjgoajaaX0
import Derived.Test.YtlldonokjgoajaaXGtr
namespace Go.Proofs.Ytlldonokjgoajaa.X
open Go.RowKit Go.Proofs.YtlldonokjgoajaaW.PrintWords Go.Proofs.YtlldonokjgoajaaW.PrintLast Go.Proofs.YtlldonokjgoajaaW.PrintMore
def lb942 : Nat → Nat → List Bool
 | 0,_ => []
 | n+1,m => (m%2==1) :: lb942 n (m/2)
def b942 (n m : Nat) : Array Bool := ⟨lb942 n m⟩
attribute [local go_sem] max2_int min2_int max_two min_two max_three min_three max_four min_four   -- for this text's walks alone
set_option linter.unusedVariables false
set_option linter.unusedSimpArgs false

/-! ### spec_l4Put: function 154 -/
def spec_l4Put.l0 : Nat → List ByteArray → ByteArray → Int → Option (List ByteArray)
 | 0,_,_,_ => none
 | k + 1,x0,x1,x5 => if x5 > 0 then (if 0 ≤ (wrap64 (x5 - 1)) then (if (wrap64 (x5 - 1)) < (x0.length : Int) then (if (Op.bytesLess x1.toList ((rdOf ByteArray.empty x0 (wrap64 (x5 - 1))).toList)) = true then (spec_l4Put.l0 k x0 x1 (wrap64 (x5 - 1))) else ((some (([] : List ByteArray) : List ByteArray)).bind fun y1406 => (if 0 ≤ x5 then (if x5 ≤ (x0.length : Int) then (if y1406.length + (x0.take (x5 : Int).toNat).length < 8796093022208 then ((some (y1406 ++ (x0.take (x5 : Int).toNat) : List ByteArray)).bind fun y1410 => ((some (([x1] : List ByteArray) : List ByteArray)).bind fun y1413 => (if y1410.length + y1413.length < 8796093022208 then ((some (y1410 ++ y1413 : List ByteArray)).bind fun y1416 => (if y1416.length + (x0.drop (x5 : Int).toNat).length < 8796093022208 then (some (y1416 ++ (x0.drop (x5 : Int).toNat))) else (none))) else (none)))) else (none)) else (none)) else (none)))) else (none)) else (none)) else ((some (([] : List ByteArray) : List ByteArray)).bind fun y1423 => (if 0 ≤ x5 then (if x5 ≤ (x0.length : Int) then (if y1423.length + (x0.take (x5 : Int).toNat).length < 8796093022208 then ((some (y1423 ++ (x0.take (x5 : Int).toNat) : List ByteArray)).bind fun y1427 => ((some (([x1] : List ByteArray) : List ByteArray)).bind fun y1430 => (if y1427.length + y1430.length < 8796093022208 then ((some (y1427 ++ y1430 : List ByteArray)).bind fun y1433 => (if y1433.length + (x0.drop (x5 : Int).toNat).length < 8796093022208 then (some (y1433 ++ (x0.drop (x5 : Int).toNat))) else (none))) else (none)))) else (none)) else (none)) else (none)))
def spec_l4Put.f (k : Nat) (l0 : List ByteArray) (a1 : ByteArray) : Option (List ByteArray):=spec_l4Put.l0 k l0 a1 (l0.length : Int)
theorem spec_l4Put.mono_l : ∀ k,(∀ y0 y1 y2,LeO (spec_l4Put.l0 k y0 y1 y2) (spec_l4Put.l0 (k + 1) y0 y1 y2))
 | 0 => fun _ _ _ r h => by simp [spec_l4Put.l0] at h
 | k + 1 => by
  have ih0:=spec_l4Put.mono_l k
  ·intro y0 y1 y2
   unfold spec_l4Put.l0
   repeat' first
   | (with_reducible exact ih0 _ _ _)
   | (with_reducible exact LeO.refl _)
   | (with_reducible exact LeO.none _)
   | (with_reducible refine LeO.ite ?_ ?_)
   | (with_reducible refine LeO.bind ?_ (fun _ => ?_))
   | exact ih0 _ _ _
   | exact LeO.none _
   | refine LeO.ite ?_ ?_
   | refine LeO.bind ?_ (fun _ => ?_)
theorem spec_l4Put.mono : ∀ a0 a1 k,LeO (spec_l4Put.f k a0 a1) (spec_l4Put.f (k + 1) a0 a1):=by
 intro a0 a1 k
 have ih0:=spec_l4Put.mono_l k
 unfold spec_l4Put.f
 repeat' first
   | (with_reducible exact ih0 _ _ _)
   | (with_reducible exact LeO.refl _)
   | (with_reducible exact LeO.none _)
   | (with_reducible refine LeO.ite ?_ ?_)
   | (with_reducible refine LeO.bind ?_ (fun _ => ?_))
   | exact ih0 _ _ _
   | exact LeO.none _
   | refine LeO.ite ?_ ?_
   | refine LeO.bind ?_ (fun _ => ?_)
def spec_l4Put.T4 : Bool × List (List Nat × List Nat):=(true,[([],[]),([],[]),([],[]),([1,2],[1,2]),([0,3],[0,3]),([],[]),([5],[5]),([4,6,4],[4,6]),([],[]),([],[]),([8,9],[8,9]),([7,10,7],[7,10]),([11,11,0,1,2,3,4,5,6,7,8,9,10,11],[11])])
def spec_l4Put.B4 : List Nat:=[0,0,0,6,15,0,32,127,0,0,768,2047,4095]
theorem spec_l4Put.tab4 : rtab .any (opsOf Try.f154 4) = spec_l4Put.T4:=by kernel_rfl
theorem spec_l4Put.bits4 : waitsOk spec_l4Put.T4.2 spec_l4Put.B4 = true:=by kernel_rfl
set_option maxHeartbeats 8000000 in
set_option maxRecDepth 100000 in
theorem spec_l4Put.calls (k : Nat) (A0 : Option Addr) (c0 : Nat) (l0 : List ByteArray) (a1 : ByteArray) (r : List ByteArray) (w : World) (hr0 : Kd.C Kd.string w A0 l0.length l0) (hc0 : l0.length ≤ c0) (h : spec_l4Put.f k l0 a1 = some r) :
  Calls Try.prog 154 #[.slice A0 l0.length c0,.string a1] w fun e w' => ∃ v0_ : Value,e = .returned (v0_) ∧ Kd.R Kd.string 9 w' w.heap.size (fun _ => True) v0_ r ∧ Below w.heap.size w w':=by
 have HR0:=Aside0.mk hr0
 have HC0:=Aside0.mk hc0
 clear hr0 hc0
 have HB:=Aside0.mk (Below.refl w.heap.size w)
 have H : (spec_l4Put.l0 k l0 a1 (l0.length : Int)) = some r:=h
 clear h
 have H':=Aside0.mk H
 clear H
 go_enter Try.func154,Try.ntmps154
 go_wp2
 go_loopg [5] k (fun kq v5 w' => ∃ (x5_1 : Int),v5 = .int .i64 x5_1 ∧ Aside0 (spec_l4Put.l0 kq l0 a1 x5_1 = some r) ∧ Aside0 (kq ≤ k) ∧ Aside0 (Below w.heap.size w w'))
 case atStart => exact ⟨(l0.length : Int),(by (rfl)),H',⟨Nat.le_refl _⟩,⟨by repeat (((with_reducible (exact HB.out))))⟩⟩
 case round =>
  clear H'
  try clear c1
  try clear p2
  obtain ⟨x5_1,rfl,HA,HK1,HB⟩:=hrel
  cases gk with
  | zero => exact absurd HA.out (by simp [spec_l4Put.l0])
  | succ k1 =>
   have H:=HA.out
   clear HA
   simp only [spec_l4Put.l0] at H
   by_cases c3 : x5_1 > 0
   ·rw [if_pos c3] at H
    have c3b0 : decide (0 < x5_1) = true:=decide_eq_true c3
    clear c3
    obtain ⟨ji4,hji4⟩ : ∃ j_ : Int,(wrap64 (x5_1 - 1)) = j_:=⟨_,rfl⟩
    replace H : (if 0 ≤ (ji4) then (if (ji4) < (l0.length : Int) then (if (Op.bytesLess a1.toList ((rdOf ByteArray.empty l0 (ji4)).toList)) = true then (spec_l4Put.l0 k1 l0 a1 ji4) else ((some (([] : List ByteArray) : List ByteArray)).bind fun y1406 => (if 0 ≤ x5_1 then (if x5_1 ≤ (l0.length : Int) then (if y1406.length + (l0.take (x5_1 : Int).toNat).length < 8796093022208 then ((some (y1406 ++ (l0.take (x5_1 : Int).toNat) : List ByteArray)).bind fun y1410 => ((some (([a1] : List ByteArray) : List ByteArray)).bind fun y1413 => (if y1410.length + y1413.length < 8796093022208 then ((some (y1410 ++ y1413 : List ByteArray)).bind fun y1416 => (if y1416.length + (l0.drop (x5_1 : Int).toNat).length < 8796093022208 then (some (y1416 ++ (l0.drop (x5_1 : Int).toNat))) else (none))) else (none)))) else (none)) else (none)) else (none)))) else (none)) else (none)) = some r:=by (rw [hji4] at H; exact H)
    have hji4w : (IntKind.i64.wrap (x5_1 - 1)) = ji4:=(i64_w _).trans hji4
    by_cases c5 : 0 ≤ (ji4)
    ·rw [if_pos c5] at H
     have c5b0 : decide (0 ≤ (ji4)) = true:=decide_eq_true c5
     clear c5
     by_cases c6 : (ji4) < (l0.length : Int)
     ·rw [if_pos c6] at H
      have c6b0 : decide ((ji4) < (l0.length : Int)) = true:=decide_eq_true c6
      clear c6
      by_cases c7 : (Op.bytesLess a1.toList ((rdOf ByteArray.empty l0 (ji4)).toList)) = true
      ·rw [if_pos c7] at H
       have c7b0 : (Op.bytesLess a1.toList ((rdOf ByteArray.empty l0 (ji4)).toList)) = true:=c7
       clear c7
       have H':=Aside0.mk H
       clear H
       have p1405 : 0 ≤ ((ji4) : Int):=of_decide_eq_true (by (with_reducible assumption))
       have q1405 : (ji4) < (l0.length : Int):=of_decide_eq_true (by (with_reducible assumption))
       obtain ⟨ad1405,e1405,hx1405_0⟩:=Kd.at_string HR0.out (ji4) p1405 q1405
       cases e1405
       replace hx1405_0:=(HB.out.cell (World.block_lt_of_cell? w _ hx1405_0)).trans hx1405_0
       replace p1405:=eq_true p1405
       replace q1405:=eq_true q1405
       go_wp2
       go_roundg k1
       case measure => have:=HK1.out; omega
       case rel => exact ⟨(ji4),(by (rfl)),H',⟨by have:=HK1.out; omega⟩,⟨by repeat (((with_reducible (exact HB.out))))⟩⟩
      ·rw [if_neg c7] at H
       have c7b0 : (Op.bytesLess a1.toList ((rdOf ByteArray.empty l0 (ji4)).toList)) = false:=by simpa using c7
       clear c7
       obtain ⟨y1406,hy1406⟩ : ∃ y_ : List ByteArray,y_ = ([] : List ByteArray):=⟨_,rfl⟩
       replace H : (if 0 ≤ x5_1 then (if x5_1 ≤ (l0.length : Int) then (if y1406.length + (l0.take (x5_1 : Int).toNat).length < 8796093022208 then ((some (y1406 ++ (l0.take (x5_1 : Int).toNat) : List ByteArray)).bind fun y1410 => ((some (([a1] : List ByteArray) : List ByteArray)).bind fun y1413 => (if y1410.length + y1413.length < 8796093022208 then ((some (y1410 ++ y1413 : List ByteArray)).bind fun y1416 => (if y1416.length + (l0.drop (x5_1 : Int).toNat).length < 8796093022208 then (some (y1416 ++ (l0.drop (x5_1 : Int).toNat))) else (none))) else (none)))) else (none)) else (none)) else (none)) = some r:=by ((have H2_:=(Option.bind_some _ _).symm.trans H; rw [hy1406]; with_reducible exact H2_))
       have Ny1406:=Aside0.mk hy1406
       clear hy1406
       by_cases c8 : 0 ≤ x5_1
       ·rw [if_pos c8] at H
        have c8b0:=eq_true c8
        have c8b1 : decide (0 ≤ x5_1) = true:=decide_eq_true c8
        clear c8
        by_cases c9 : x5_1 ≤ (l0.length : Int)
        ·rw [if_pos c9] at H
         have c9b0:=eq_true c9
         have c9b1 : decide (x5_1 ≤ (l0.length : Int)) = true:=decide_eq_true c9
         clear c9
         by_cases c10 : y1406.length + (l0.take (x5_1 : Int).toNat).length < 8796093022208
         ·rw [if_pos c10] at H
          have LMc10:=Aside0.mk c10
          clear c10
          obtain ⟨y1410,hy1410⟩ : ∃ y_ : List ByteArray,y_ = (y1406 ++ (l0.take (x5_1 : Int).toNat)):=⟨_,rfl⟩
          replace H : ((some (([a1] : List ByteArray) : List ByteArray)).bind fun y1413 => (if y1410.length + y1413.length < 8796093022208 then ((some (y1410 ++ y1413 : List ByteArray)).bind fun y1416 => (if y1416.length + (l0.drop (x5_1 : Int).toNat).length < 8796093022208 then (some (y1416 ++ (l0.drop (x5_1 : Int).toNat))) else (none))) else (none))) = some r:=by ((have H2_:=(Option.bind_some _ _).symm.trans H; rw [hy1410]; with_reducible exact H2_))
          have Ny1410:=Aside0.mk hy1410
          clear hy1410
          obtain ⟨y1413,hy1413⟩ : ∃ y_ : List ByteArray,y_ = ([a1] : List ByteArray):=⟨_,rfl⟩
          replace H : (if y1410.length + y1413.length < 8796093022208 then ((some (y1410 ++ y1413 : List ByteArray)).bind fun y1416 => (if y1416.length + (l0.drop (x5_1 : Int).toNat).length < 8796093022208 then (some (y1416 ++ (l0.drop (x5_1 : Int).toNat))) else (none))) else (none)) = some r:=by ((have H2_:=(Option.bind_some _ _).symm.trans H; rw [hy1413]; with_reducible exact H2_))
          have Ny1413:=Aside0.mk hy1413
          clear hy1413
          by_cases c11 : y1410.length + y1413.length < 8796093022208
          ·rw [if_pos c11] at H
           have LMc11:=Aside0.mk c11
           clear c11
           obtain ⟨y1416,hy1416⟩ : ∃ y_ : List ByteArray,y_ = (y1410 ++ y1413):=⟨_,rfl⟩
           replace H : (if y1416.length + (l0.drop (x5_1 : Int).toNat).length < 8796093022208 then (some (y1416 ++ (l0.drop (x5_1 : Int).toNat))) else (none)) = some r:=by ((have H2_:=(Option.bind_some _ _).symm.trans H; rw [hy1416]; with_reducible exact H2_))
           have Ny1416:=Aside0.mk hy1416
           clear hy1416
           have c12b0:=eq_true (of_decide_eq_true (by (with_reducible assumption)) : 0 ≤ x5_1)
           have c13b0:=eq_true (of_decide_eq_true (by (with_reducible assumption)) : x5_1 ≤ (l0.length : Int))
           by_cases c14 : y1416.length + (l0.drop (x5_1 : Int).toNat).length < 8796093022208
           ·rw [if_pos c14] at H
            have LMc14:=Aside0.mk c14
            clear c14
            obtain ⟨y1420,hy1420⟩ : ∃ y_ : List ByteArray,y_ = (y1416 ++ (l0.drop (x5_1 : Int).toNat)):=⟨_,rfl⟩
            replace H : (some y1420) = some r:=by (rw [hy1420]; with_reducible exact H)
            have Ny1420:=Aside0.mk hy1420
            clear hy1420
            obtain rfl:=Option.some.inj H
            have p1405 : 0 ≤ ((ji4) : Int):=of_decide_eq_true (by (with_reducible assumption))
            have q1405 : (ji4) < (l0.length : Int):=of_decide_eq_true (by (with_reducible assumption))
            obtain ⟨ad1405,e1405,hx1405_0⟩:=Kd.at_string HR0.out (ji4) p1405 q1405
            cases e1405
            replace hx1405_0:=(HB.out.cell (World.block_lt_of_cell? w _ hx1405_0)).trans hx1405_0
            replace p1405:=eq_true p1405
            replace q1405:=eq_true q1405
            try go_wp2
            have n0_:=Aside0.mk (below_drew1 HB.out)
            clear HB
            have HB:=n0_
            clear n0_
            obtain ⟨i016,hi016,_,hsz16,_⟩:=info_parts info9
            obtain ⟨hcut16,hA16,hC16⟩:=print_take_of (P:=Try.prog) Value.string (⟨#[]⟩ : ByteArray) 92 9 .i64 Try.underlying92 hi016 hsz16 (some ad1405) c0 l0 x5_1 (of_decide_eq_true (by (with_reducible assumption))) (of_decide_eq_true (by (with_reducible assumption))) HC0.out
            have HR1409:=Aside0.mk (Kd.C_of_reads (h1:=fun _ => rfl) (hA16 _ (Kd.reads_of_C HR0.out)))
            have HC1409:=Aside0.mk hC16
            clear hA16 hC16 hi016 hsz16
            obtain ⟨i017,hi017,_,hsz17,_⟩:=info_parts info9
            obtain ⟨A17,hcut17,hA17,hC17⟩:=print_drop_of (P:=Try.prog) Value.string (⟨#[]⟩ : ByteArray) 92 9 .i64 Try.underlying92 hi017 hsz17 (some ad1405) c0 l0 x5_1 (of_decide_eq_true (by (with_reducible assumption))) (of_decide_eq_true (by (with_reducible assumption))) HC0.out
            have HR1419:=Aside0.mk (Kd.C_of_reads (h1:=fun _ => rfl) (hA17 _ (Kd.reads_of_C HR0.out)))
            have HC1419:=Aside0.mk hC17
            clear hA17 hC17 hi017 hsz17
            refine start_ (n:=13) (S:=fun w' => True) (ds:=[]) (b942 13 0) (by kernel_rfl) rfl rfl trivial (fun hHeld => ?_); refine with_tabW spec_l4Put.tab4 spec_l4Put.bits4 (fun HT_ HW_ => ?_)
            generalize wr.drew = w15 at HB HR1409 HR1419 hHeld ⊢
            refine pure_ (i:=1) (N:=some 22) (v:=?_) (a':=?_) (b942 13 2) rfl rfl (any_of HT_.out (by kernel_rfl)) (fun _ _ _ h => h) (Or.inl ⟨by rfl,?_⟩) ?_ ?_
            rotate_left
            ·intro w'
             go_simp
             with_reducible rfl
            rotate_left
            ·simp only [Act.put,List.setIfInBounds_toArray,List.set_cons_zero,List.set_cons_succ,i64_w,i32_w]
             rfl
            refine pure_ (i:=2) (N:=some 23) (v:=?_) (a':=?_) (b942 13 6) rfl rfl (any_of HT_.out (by kernel_rfl)) (fun _ _ _ h => h) (Or.inl ⟨by rfl,?_⟩) ?_ ?_
            rotate_left
            ·intro w'
             go_simp
             with_reducible rfl
            rotate_left
            ·simp only [Act.put,List.setIfInBounds_toArray,List.set_cons_zero,List.set_cons_succ,i64_w,i32_w]
             rfl
            refine pure_ (i:=3) (N:=some 24) (v:=?_) (a':=?_) (b942 13 14) rfl rfl (any_of HT_.out (by kernel_rfl)) (fun _ _ _ h => h) (Or.inl ⟨by rfl,?_⟩) ?_ ?_
            rotate_left
            ·intro w'
             go_simp
             with_reducible rfl
            rotate_left
            ·simp only [Act.put,List.setIfInBounds_toArray,List.set_cons_zero,List.set_cons_succ,i64_w,i32_w]
             rfl
            refine pure_ (i:=5) (N:=some 26) (v:=?_) (a':=?_) (b942 13 46) rfl rfl (any_of HT_.out (by kernel_rfl)) (fun _ _ _ h => h) (Or.inl ⟨by rfl,?_⟩) ?_ ?_
            rotate_left
            ·intro w'
             go_simp
             with_reducible rfl
            rotate_left
            ·simp only [Act.put,List.setIfInBounds_toArray,List.set_cons_zero,List.set_cons_succ,i64_w,i32_w]
             rfl
            refine pure_ (i:=8) (N:=some 29) (v:=?_) (a':=?_) (b942 13 302) rfl rfl (any_of HT_.out (by kernel_rfl)) (fun _ _ _ h => h) (Or.inl ⟨by rfl,?_⟩) ?_ ?_
            rotate_left
            ·intro w'
             go_simp
             with_reducible rfl
            rotate_left
            ·simp only [Act.put,List.setIfInBounds_toArray,List.set_cons_zero,List.set_cons_succ,i64_w,i32_w]
             rfl
            refine pure_ (i:=9) (N:=some 30) (v:=?_) (a':=?_) (b942 13 814) rfl rfl (any_of HT_.out (by kernel_rfl)) (fun _ _ _ h => h) (Or.inl ⟨by rfl,?_⟩) ?_ ?_
            rotate_left
            ·intro w'
             go_simp
             with_reducible rfl
            rotate_left
            ·simp only [Act.put,List.setIfInBounds_toArray,List.set_cons_zero,List.set_cons_succ,i64_w,i32_w]
             rfl
            refine pure_ (i:=10) (N:=some 31) (v:=?_) (a':=?_) (b942 13 1838) rfl rfl (any_of HT_.out (by kernel_rfl)) (fun _ _ _ h => h) (Or.inl ⟨by rfl,?_⟩) ?_ ?_
            rotate_left
            ·intro w'
             go_simp
             with_reducible rfl
            rotate_left
            ·simp only [Act.put,List.setIfInBounds_toArray,List.set_cons_zero,List.set_cons_succ,i64_w,i32_w]
             rfl
            refine join_ (σ:=Value × Value × Value) 3 (b942 13 1919) (fun s_ => [(21,s_.1),(25,s_.2.1),(27,s_.2.2)]) (fun s_ w' => (Kd.R Kd.string 9 w' w.heap.size (fun k_ => some k_ ≠ (s_.2.2 : Value).ownBlock) s_.2.1 y1410) ∧ (Kd.R Kd.string 9 w' w.heap.size (fun k_ => some k_ ≠ (s_.2.1 : Value).ownBlock) s_.2.2 y1413) ∧ (Below w.heap.size w w')) ?_ ?_
            rotate_left
            ·intro hCont
             refine two_ (i:=0) (j:=6) (Ni:=some 21) (Nj:=some 27) (b942 13 1839) (b942 13 1902) rfl rfl rfl rfl (two_of HT_.out (by kernel_rfl)) (by decide) (by decide) (fun K hK => ?_) (fun K hK => ?_)
             ·skip
              refine Kd.R_lit_step Kd.string _ 9 ?hg (N:=21) ?hd (xs:=([] : List ByteArray)) (inner:=[]) (ok:=fun _ => True) (okp:=fun _ => True) ?hr ?hp (fun _ hk => hk) trivial (Below.refl _ _) (Nat.le_refl _) (by simp) ?_; (case hd => rfl); (case hg => rfl); (case hr => (go_simp; done)); (case hp => exact (Reps.none _ _))
              intro v1407 w18 ho19 hb hg_ hnew_
              clear hg_ hnew_
              (rw [← Ny1406.out] at ho19)
              have n0_:=Aside0.mk (Kd.R_lower ho19 (below_size (by repeat (((with_reducible (exact HB.out)))))))
              have n1_:=Aside0.mk (below_step (by repeat (((with_reducible (exact HB.out))))) hb)
              clear HB
              have HO1408:=n0_
              have HB:=n1_
              clear n0_ n1_
              clear hb ho19
              refine hK.out _ _ trivial (fun hHeld => ?_)
              clear hK K
              refine norm_ (a':=?_) ?_ ?_
              rotate_left
              ·show Act.put _ (some 21) _ = _
               simp only [Act.put,List.setIfInBounds_toArray,List.set_cons_zero,List.set_cons_succ,i64_w,i32_w]
               rfl
              refine two_ (i:=4) (j:=6) (Ni:=some 25) (Nj:=some 27) (b942 13 1855) (b942 13 1903) rfl rfl rfl rfl (two_of HT_.out (by kernel_rfl)) (by decide) (by decide) (fun K hK => ?_) (fun K hK => ?_)
              ·skip
               refine Kd.R_append_rows_step Kd.string (w0:=w) w.heap.size (by rfl) (.tmp 21) (.tmp 24) 92 9 (.string ⟨#[]⟩) 16 rfl Try.underlying92 info9 rfl (by decide) (by omega) v1407 y1406 (l0.take (x5_1 : Int).toNat) _ _ _ (fun _ => True) (fun _ => False) rfl rfl ?aO ?aR (fun _ _ h => h) (fun _ h => h.elim) ?aF ?aB ?aS ?aL ?_
               (case aR => ((have h9_:=(Kd.C_below HR1409.out HB.out); rw [show (l0.take (x5_1 : Int).toNat).length = x5_1.toNat from (by rw [List.length_take]; have h_ : (x5_1 : Int) ≤ (l0.length : Int):=of_decide_eq_true (by (with_reducible assumption)); omega)] at h9_; exact h9_)))
               (case aB => exact (by repeat (((with_reducible (exact HB.out))))))
               (case aF => exact (fun _ _ => trivial))
               (case aO => exact (by exact HO1408.out))
               (case aS => exact (below_size (by repeat (((with_reducible (exact HB.out)))))))
               (case aL => have:=LMc10.out; have hlx_:=(show (l0.take (x5_1 : Int).toNat).length = x5_1.toNat from (by rw [List.length_take]; have h_ : (x5_1 : Int) ≤ (l0.length : Int):=of_decide_eq_true (by (with_reducible assumption)); omega)); omega)
               intro v1411 w20 ho hb hg hat
               rw [← Ny1410.out] at ho
               have n0_:=Aside0.mk (hb)
               have n1_:=Aside0.mk (ho)
               clear HB
               clear HO1408
               have HB:=n0_
               have HO1412:=n1_
               clear n0_ n1_
               clear ho hb hg hat
               refine hK.out _ _ trivial (fun hHeld => ?_)
               clear hK K
               refine norm_ (a':=?_) ?_ ?_
               rotate_left
               ·show Act.put _ (some 25) _ = _
                simp only [Act.put,List.setIfInBounds_toArray,List.set_cons_zero,List.set_cons_succ,i64_w,i32_w]
                rfl
               refine one_ (i:=6) (N:=some 27) (b942 13 1919) rfl rfl (one_of HT_.out (by kernel_rfl)) (by decide) (fun K hK => ?_)
               refine Kd.R_lit_step Kd.string _ 9 ?hg (N:=27) ?hd (xs:=([a1] : List ByteArray)) (inner:=[.string a1]) (ok:=fun _ => True) (okp:=fun _ => True) ?hr ?hp (fun _ hk => hk) trivial (Below.refl _ _) (Nat.le_refl _) (by simp) ?_; (case hd => rfl); (case hg => rfl); (case hr => (go_simp; done)); (case hp => exact (Reps.one (show Kd.M Kd.string _ _ _ a1 [.string a1] from rfl) (Reps.none _ _)))
               intro v1414 w21 ho22 hb hg_ hnew_
               clear hg_ hnew_
               (rw [← Ny1413.out] at ho22)
               have n0_:=Aside0.mk (Kd.R_elder' (by exact HO1412.out) (Kd.R_base ho22) hb)
               have n1_:=Aside0.mk (Kd.R_lower (Kd.R_new' ho22 (Kd.R_lt (by exact HO1412.out))) (below_size (by repeat (((with_reducible (exact HB.out)))))))
               have n2_:=Aside0.mk (below_step (by repeat (((with_reducible (exact HB.out))))) hb)
               clear HO1412
               clear HB
               have HO1412:=n0_
               have HO1415:=n1_
               have HB:=n2_
               clear n0_ n1_ n2_
               clear hb ho22
               refine hK.out _ _ trivial (fun hHeld => ?_)
               clear hK K
               refine norm_ (a':=?_) ?_ ?_
               rotate_left
               ·show Act.put _ (some 27) _ = _
                simp only [Act.put,List.setIfInBounds_toArray,List.set_cons_zero,List.set_cons_succ,i64_w,i32_w]
                rfl
               exact norm_ (by simp only [putAll,Act.put,List.setIfInBounds_toArray,List.set_cons_zero,List.set_cons_succ]) (hCont (v1407,v1411,v1414) _ ⟨(by exact Kd.R_mono HO1412.out (fun _ hk => hk.2)),(by exact Kd.R_mono HO1415.out (fun _ hk => hk.2)),(by repeat (((with_reducible (exact HB.out)))))⟩)
              ·skip
               refine Kd.R_lit_step Kd.string _ 9 ?hg (N:=27) ?hd (xs:=([a1] : List ByteArray)) (inner:=[.string a1]) (ok:=fun _ => True) (okp:=fun _ => True) ?hr ?hp (fun _ hk => hk) trivial (Below.refl _ _) (Nat.le_refl _) (by simp) ?_; (case hd => rfl); (case hg => rfl); (case hr => (go_simp; done)); (case hp => exact (Reps.one (show Kd.M Kd.string _ _ _ a1 [.string a1] from rfl) (Reps.none _ _)))
               intro v1414 w20 ho21 hb hg_ hnew_
               clear hg_ hnew_
               (rw [← Ny1413.out] at ho21)
               have n0_:=Aside0.mk (Kd.R_elder' (by exact HO1408.out) (Kd.R_base ho21) hb)
               have n1_:=Aside0.mk (Kd.R_lower (Kd.R_new' ho21 (Kd.R_lt (by exact HO1408.out))) (below_size (by repeat (((with_reducible (exact HB.out)))))))
               have n2_:=Aside0.mk (below_step (by repeat (((with_reducible (exact HB.out))))) hb)
               clear HO1408
               clear HB
               have HO1408:=n0_
               have HO1415:=n1_
               have HB:=n2_
               clear n0_ n1_ n2_
               clear hb ho21
               refine hK.out _ _ trivial (fun hHeld => ?_)
               clear hK K
               refine norm_ (a':=?_) ?_ ?_
               rotate_left
               ·show Act.put _ (some 27) _ = _
                simp only [Act.put,List.setIfInBounds_toArray,List.set_cons_zero,List.set_cons_succ,i64_w,i32_w]
                rfl
               refine one_ (i:=4) (N:=some 25) (b942 13 1919) rfl rfl (one_of HT_.out (by kernel_rfl)) (by decide) (fun K hK => ?_)
               refine Kd.R_append_rows_step Kd.string (w0:=w) w.heap.size (by rfl) (.tmp 21) (.tmp 24) 92 9 (.string ⟨#[]⟩) 16 rfl Try.underlying92 info9 rfl (by decide) (by omega) v1407 y1406 (l0.take (x5_1 : Int).toNat) _ _ _ (fun k_ => some k_ ≠ (v1414 : Value).ownBlock) (fun _ => False) rfl rfl ?aO ?aR (fun _ _ h => h) (fun _ h => h.elim) ?aF ?aB ?aS ?aL ?_
               (case aR => ((have h9_:=(Kd.C_below HR1409.out HB.out); rw [show (l0.take (x5_1 : Int).toNat).length = x5_1.toNat from (by rw [List.length_take]; have h_ : (x5_1 : Int) ≤ (l0.length : Int):=of_decide_eq_true (by (with_reducible assumption)); omega)] at h9_; exact h9_)))
               (case aB => exact (by repeat (((with_reducible (exact HB.out))))))
               (case aF => exact (fun k_ hk => Kd.fresh' (Kd.R_lt (by exact HO1415.out)) k_ hk))
               (case aO => exact (by exact Kd.R_mono HO1408.out (fun _ hk => hk.2)))
               (case aS => exact (below_size (by repeat (((with_reducible (exact HB.out)))))))
               (case aL => have:=LMc10.out; have hlx_:=(show (l0.take (x5_1 : Int).toNat).length = x5_1.toNat from (by rw [List.length_take]; have h_ : (x5_1 : Int) ≤ (l0.length : Int):=of_decide_eq_true (by (with_reducible assumption)); omega)); omega)
               intro v1411 w22 ho hb hg hat
               rw [← Ny1410.out] at ho
               have n0_:=Aside0.mk (Kd.R_after (ok:=(fun _ => True)) (by exact HO1415.out) hg hat)
               have n1_:=Aside0.mk (hb)
               have n2_:=Aside0.mk (ho)
               clear HO1415
               clear HB
               clear HO1408
               have HO1415:=n0_
               have HB:=n1_
               have HO1412:=n2_
               clear n0_ n1_ n2_
               clear ho hb hg hat
               refine hK.out _ _ trivial (fun hHeld => ?_)
               clear hK K
               refine norm_ (a':=?_) ?_ ?_
               rotate_left
               ·show Act.put _ (some 25) _ = _
                simp only [Act.put,List.setIfInBounds_toArray,List.set_cons_zero,List.set_cons_succ,i64_w,i32_w]
                rfl
               exact norm_ (by simp only [putAll,Act.put,List.setIfInBounds_toArray,List.set_cons_zero,List.set_cons_succ]) (hCont (v1407,v1411,v1414) _ ⟨(by exact HO1412.out),(by exact Kd.R_mono HO1415.out (fun _ hk => hk.2)),(by repeat (((with_reducible (exact HB.out)))))⟩)
             ·skip
              refine Kd.R_lit_step Kd.string _ 9 ?hg (N:=27) ?hd (xs:=([a1] : List ByteArray)) (inner:=[.string a1]) (ok:=fun _ => True) (okp:=fun _ => True) ?hr ?hp (fun _ hk => hk) trivial (Below.refl _ _) (Nat.le_refl _) (by simp) ?_; (case hd => rfl); (case hg => rfl); (case hr => (go_simp; done)); (case hp => exact (Reps.one (show Kd.M Kd.string _ _ _ a1 [.string a1] from rfl) (Reps.none _ _)))
              intro v1414 w18 ho19 hb hg_ hnew_
              clear hg_ hnew_
              (rw [← Ny1413.out] at ho19)
              have n0_:=Aside0.mk (Kd.R_lower ho19 (below_size (by repeat (((with_reducible (exact HB.out)))))))
              have n1_:=Aside0.mk (below_step (by repeat (((with_reducible (exact HB.out))))) hb)
              clear HB
              have HO1415:=n0_
              have HB:=n1_
              clear n0_ n1_
              clear hb ho19
              refine hK.out _ _ trivial (fun hHeld => ?_)
              clear hK K
              refine norm_ (a':=?_) ?_ ?_
              rotate_left
              ·show Act.put _ (some 27) _ = _
               simp only [Act.put,List.setIfInBounds_toArray,List.set_cons_zero,List.set_cons_succ,i64_w,i32_w]
               rfl
              refine one_ (i:=0) (N:=some 21) (b942 13 1903) rfl rfl (one_of HT_.out (by kernel_rfl)) (by decide) (fun K hK => ?_)
              refine Kd.R_lit_step Kd.string _ 9 ?hg (N:=21) ?hd (xs:=([] : List ByteArray)) (inner:=[]) (ok:=fun _ => True) (okp:=fun _ => True) ?hr ?hp (fun _ hk => hk) trivial (Below.refl _ _) (Nat.le_refl _) (by simp) ?_; (case hd => rfl); (case hg => rfl); (case hr => (go_simp; done)); (case hp => exact (Reps.none _ _))
              intro v1407 w20 ho21 hb hg_ hnew_
              clear hg_ hnew_
              (rw [← Ny1406.out] at ho21)
              have n0_:=Aside0.mk (Kd.R_elder' (by exact HO1415.out) (Kd.R_base ho21) hb)
              have n1_:=Aside0.mk (Kd.R_lower (Kd.R_new' ho21 (Kd.R_lt (by exact HO1415.out))) (below_size (by repeat (((with_reducible (exact HB.out)))))))
              have n2_:=Aside0.mk (below_step (by repeat (((with_reducible (exact HB.out))))) hb)
              clear HO1415
              clear HB
              have HO1415:=n0_
              have HO1408:=n1_
              have HB:=n2_
              clear n0_ n1_ n2_
              clear hb ho21
              refine hK.out _ _ trivial (fun hHeld => ?_)
              clear hK K
              refine norm_ (a':=?_) ?_ ?_
              rotate_left
              ·show Act.put _ (some 21) _ = _
               simp only [Act.put,List.setIfInBounds_toArray,List.set_cons_zero,List.set_cons_succ,i64_w,i32_w]
               rfl
              refine one_ (i:=4) (N:=some 25) (b942 13 1919) rfl rfl (one_of HT_.out (by kernel_rfl)) (by decide) (fun K hK => ?_)
              refine Kd.R_append_rows_step Kd.string (w0:=w) w.heap.size (by rfl) (.tmp 21) (.tmp 24) 92 9 (.string ⟨#[]⟩) 16 rfl Try.underlying92 info9 rfl (by decide) (by omega) v1407 y1406 (l0.take (x5_1 : Int).toNat) _ _ _ (fun k_ => some k_ ≠ (v1414 : Value).ownBlock) (fun _ => False) rfl rfl ?aO ?aR (fun _ _ h => h) (fun _ h => h.elim) ?aF ?aB ?aS ?aL ?_
              (case aR => ((have h9_:=(Kd.C_below HR1409.out HB.out); rw [show (l0.take (x5_1 : Int).toNat).length = x5_1.toNat from (by rw [List.length_take]; have h_ : (x5_1 : Int) ≤ (l0.length : Int):=of_decide_eq_true (by (with_reducible assumption)); omega)] at h9_; exact h9_)))
              (case aB => exact (by repeat (((with_reducible (exact HB.out))))))
              (case aF => exact (fun k_ hk => Kd.fresh' (Kd.R_lt (by exact HO1415.out)) k_ hk))
              (case aO => exact (by exact Kd.R_mono HO1408.out (fun _ hk => hk.2)))
              (case aS => exact (below_size (by repeat (((with_reducible (exact HB.out)))))))
              (case aL => have:=LMc10.out; have hlx_:=(show (l0.take (x5_1 : Int).toNat).length = x5_1.toNat from (by rw [List.length_take]; have h_ : (x5_1 : Int) ≤ (l0.length : Int):=of_decide_eq_true (by (with_reducible assumption)); omega)); omega)
              intro v1411 w22 ho hb hg hat
              rw [← Ny1410.out] at ho
              have n0_:=Aside0.mk (Kd.R_after (ok:=(fun _ => True)) (by exact HO1415.out) hg hat)
              have n1_:=Aside0.mk (hb)
              have n2_:=Aside0.mk (ho)
              clear HO1415
              clear HB
              clear HO1408
              have HO1415:=n0_
              have HB:=n1_
              have HO1412:=n2_
              clear n0_ n1_ n2_
              clear ho hb hg hat
              refine hK.out _ _ trivial (fun hHeld => ?_)
              clear hK K
              refine norm_ (a':=?_) ?_ ?_
              rotate_left
              ·show Act.put _ (some 25) _ = _
               simp only [Act.put,List.setIfInBounds_toArray,List.set_cons_zero,List.set_cons_succ,i64_w,i32_w]
               rfl
              exact norm_ (by simp only [putAll,Act.put,List.setIfInBounds_toArray,List.set_cons_zero,List.set_cons_succ]) (hCont (v1407,v1411,v1414) _ ⟨(by exact HO1412.out),(by exact Kd.R_mono HO1415.out (fun _ hk => hk.2)),(by repeat (((with_reducible (exact HB.out)))))⟩)
            rintro ⟨v1407,v1411,v1414⟩ w23 ⟨h0_,h1_,h2_⟩
            have n0_ : Aside0 (Kd.R Kd.string 9 w23 w.heap.size (fun k_ => some k_ ≠ (v1414 : Value).ownBlock) v1411 y1410):=⟨h0_⟩
            have n1_ : Aside0 (Kd.R Kd.string 9 w23 w.heap.size (fun k_ => some k_ ≠ (v1411 : Value).ownBlock) v1414 y1413):=⟨h1_⟩
            have n2_ : Aside0 (Below w.heap.size w w23):=⟨h2_⟩
            clear HB
            clear h0_ h1_ h2_
            have HO1412:=n0_
            have HO1415:=n1_
            have HB:=n2_
            clear n0_ n1_ n2_
            have hHeld:=trivial
            obtain ⟨Ao25,co25,eo25⟩:=Kd.R_slice HO1415.out
            (subst eo25)
            refine norm_ (a':=?_) ?_ ?_
            rotate_left
            ·simp only [putAll,Act.put,List.setIfInBounds_toArray,List.set_cons_zero,List.set_cons_succ]
             rfl
            refine one_ (i:=7) (N:=some 28) (b942 13 2047) rfl rfl (one_of HT_.out (by kernel_rfl)) (by decide) (fun K hK => ?_)
            refine Kd.R_append_rows_step Kd.string (w0:=w) w.heap.size (by rfl) (.tmp 25) (.tmp 27) 92 9 (.string ⟨#[]⟩) 16 rfl Try.underlying92 info9 rfl (by decide) (by omega) v1411 y1410 y1413 _ _ _ (fun k_ => some k_ ≠ (.slice Ao25 y1413.length co25 : Value).ownBlock) (fun _ => False) rfl rfl ?aO ?aR (fun _ _ h => h) (fun _ h => h.elim) ?aF ?aB ?aS ?aL ?_
            (case aR => repeat ((exact (Kd.R_reads' HO1415.out).2.2)))
            (case aB => exact (by repeat (((with_reducible (exact HB.out))))))
            (case aF => exact (fun k_ hk => Kd.fresh' (Kd.R_lt (by exact HO1415.out)) k_ hk))
            (case aO => exact (by exact HO1412.out))
            (case aS => exact (below_size (by repeat (((with_reducible (exact HB.out)))))))
            (case aL => have:=LMc11.out; omega)
            intro v1417 w24 ho hb hg hat
            rw [← Ny1416.out] at ho
            have n0_:=Aside0.mk (Kd.R_after (ok:=(fun _ => True)) (by exact Kd.R_mono HO1415.out (fun _ hk => ⟨trivial,hk⟩)) hg hat)
            have n1_:=Aside0.mk (hb)
            have n2_:=Aside0.mk (ho)
            clear HO1415
            clear HB
            clear HO1412
            have HO1415:=n0_
            have HB:=n1_
            have HO1418:=n2_
            clear n0_ n1_ n2_
            clear ho hb hg hat
            refine hK.out _ _ trivial (fun hHeld => ?_)
            clear hK K
            refine norm_ (a':=?_) ?_ ?_
            rotate_left
            ·show Act.put _ (some 28) _ = _
             simp only [Act.put,List.setIfInBounds_toArray,List.set_cons_zero,List.set_cons_succ,i64_w,i32_w]
             rfl
            refine one_ (i:=11) (N:=some 32) (b942 13 4095) rfl rfl (one_of HT_.out (by kernel_rfl)) (by decide) (fun K hK => ?_)
            refine Kd.R_append_rows_step Kd.string (w0:=w) w.heap.size (by rfl) (.tmp 28) (.tmp 31) 92 9 (.string ⟨#[]⟩) 16 rfl Try.underlying92 info9 rfl (by decide) (by omega) v1417 y1416 (l0.drop (x5_1 : Int).toNat) _ _ _ (fun k_ => some k_ ≠ (.slice Ao25 y1413.length co25 : Value).ownBlock) (fun _ => False) rfl rfl ?aO ?aR (fun _ _ h => h) (fun _ h => h.elim) ?aF ?aB ?aS ?aL ?_
            (case aR => ((rw [← show (l0.drop (x5_1 : Int).toNat).length = (l0.length - x5_1.toNat) from List.length_drop]; repeat ((exact (Kd.C_below HR1419.out HB.out))))))
            (case aB => exact (by repeat (((with_reducible (exact HB.out))))))
            (case aF => exact (fun k_ hk => Kd.fresh' (Kd.R_lt (by exact HO1415.out)) k_ hk))
            (case aO => exact (by exact HO1418.out))
            (case aS => exact (below_size (by repeat (((with_reducible (exact HB.out)))))))
            (case aL => have:=LMc14.out; have hlx_:=(show (l0.drop (x5_1 : Int).toNat).length = (l0.length - x5_1.toNat) from List.length_drop); omega)
            intro v1421 w26 ho hb hg hat
            rw [← Ny1420.out] at ho
            have n0_:=Aside0.mk (Kd.R_after (ok:=(fun _ => True)) (by exact HO1415.out) hg hat)
            have n1_:=Aside0.mk (hb)
            have n2_:=Aside0.mk (ho)
            clear HO1415
            clear HB
            clear HO1418
            have HO1415:=n0_
            have HB:=n1_
            have HO1422:=n2_
            clear n0_ n1_ n2_
            clear ho hb hg hat
            refine hK.out _ _ trivial (fun hHeld => ?_)
            clear hK K
            refine norm_ (a':=?_) ?_ ?_
            rotate_left
            ·show Act.put _ (some 32) _ = _
             simp only [Act.put,List.setIfInBounds_toArray,List.set_cons_zero,List.set_cons_succ,i64_w,i32_w]
             rfl
            refine pure_ (i:=12) (N:=some 4) (v:=?_) (a':=?_) (b942 13 8191) rfl rfl (any_of HT_.out (by kernel_rfl)) (fun _ _ _ h => h) (Or.inl ⟨by rfl,?_⟩) ?_ ?_
            rotate_left
            ·intro w'
             go_simp
             with_reducible rfl
            rotate_left
            ·simp only [Act.put,List.setIfInBounds_toArray,List.set_cons_zero,List.set_cons_succ,i64_w,i32_w]
             rfl
            refine done_ (done_of HT_.out (by kernel_rfl)) ?_
            try go_wp2
            go_ret
            exact ⟨_,by (rfl),by exact Kd.R_mono HO1422.out (fun _ hk => trivial),by repeat (((with_reducible (exact HB.out))))⟩
           ·rw [if_neg c14] at H
            exact absurd H (by simp)
          ·rw [if_neg c11] at H
           exact absurd H (by simp)
         ·rw [if_neg c10] at H
          exact absurd H (by simp)
        ·rw [if_neg c9] at H
         exact absurd H (by simp)
       ·rw [if_neg c8] at H
        exact absurd H (by simp)
     ·rw [if_neg c6] at H
      exact absurd H (by simp)
    ·rw [if_neg c5] at H
     exact absurd H (by simp)
   ·rw [if_neg c3] at H
    have c3b0 : decide (0 < x5_1) = false:=decide_eq_false c3
    clear c3
    obtain ⟨y1423,hy1423⟩ : ∃ y_ : List ByteArray,y_ = ([] : List ByteArray):=⟨_,rfl⟩
    replace H : (if 0 ≤ x5_1 then (if x5_1 ≤ (l0.length : Int) then (if y1423.length + (l0.take (x5_1 : Int).toNat).length < 8796093022208 then ((some (y1423 ++ (l0.take (x5_1 : Int).toNat) : List ByteArray)).bind fun y1427 => ((some (([a1] : List ByteArray) : List ByteArray)).bind fun y1430 => (if y1427.length + y1430.length < 8796093022208 then ((some (y1427 ++ y1430 : List ByteArray)).bind fun y1433 => (if y1433.length + (l0.drop (x5_1 : Int).toNat).length < 8796093022208 then (some (y1433 ++ (l0.drop (x5_1 : Int).toNat))) else (none))) else (none)))) else (none)) else (none)) else (none)) = some r:=by ((have H2_:=(Option.bind_some _ _).symm.trans H; rw [hy1423]; with_reducible exact H2_))
    have Ny1423:=Aside0.mk hy1423
    clear hy1423
    by_cases c27 : 0 ≤ x5_1
    ·rw [if_pos c27] at H
     have c27b0:=eq_true c27
     have c27b1 : decide (0 ≤ x5_1) = true:=decide_eq_true c27
     clear c27
     by_cases c28 : x5_1 ≤ (l0.length : Int)
     ·rw [if_pos c28] at H
      have c28b0:=eq_true c28
      have c28b1 : decide (x5_1 ≤ (l0.length : Int)) = true:=decide_eq_true c28
      clear c28
      by_cases c29 : y1423.length + (l0.take (x5_1 : Int).toNat).length < 8796093022208
      ·rw [if_pos c29] at H
       have LMc29:=Aside0.mk c29
       clear c29
       obtain ⟨y1427,hy1427⟩ : ∃ y_ : List ByteArray,y_ = (y1423 ++ (l0.take (x5_1 : Int).toNat)):=⟨_,rfl⟩
       replace H : ((some (([a1] : List ByteArray) : List ByteArray)).bind fun y1430 => (if y1427.length + y1430.length < 8796093022208 then ((some (y1427 ++ y1430 : List ByteArray)).bind fun y1433 => (if y1433.length + (l0.drop (x5_1 : Int).toNat).length < 8796093022208 then (some (y1433 ++ (l0.drop (x5_1 : Int).toNat))) else (none))) else (none))) = some r:=by ((have H2_:=(Option.bind_some _ _).symm.trans H; rw [hy1427]; with_reducible exact H2_))
       have Ny1427:=Aside0.mk hy1427
       clear hy1427
       obtain ⟨y1430,hy1430⟩ : ∃ y_ : List ByteArray,y_ = ([a1] : List ByteArray):=⟨_,rfl⟩
       replace H : (if y1427.length + y1430.length < 8796093022208 then ((some (y1427 ++ y1430 : List ByteArray)).bind fun y1433 => (if y1433.length + (l0.drop (x5_1 : Int).toNat).length < 8796093022208 then (some (y1433 ++ (l0.drop (x5_1 : Int).toNat))) else (none))) else (none)) = some r:=by ((have H2_:=(Option.bind_some _ _).symm.trans H; rw [hy1430]; with_reducible exact H2_))
       have Ny1430:=Aside0.mk hy1430
       clear hy1430
       by_cases c30 : y1427.length + y1430.length < 8796093022208
       ·rw [if_pos c30] at H
        have LMc30:=Aside0.mk c30
        clear c30
        obtain ⟨y1433,hy1433⟩ : ∃ y_ : List ByteArray,y_ = (y1427 ++ y1430):=⟨_,rfl⟩
        replace H : (if y1433.length + (l0.drop (x5_1 : Int).toNat).length < 8796093022208 then (some (y1433 ++ (l0.drop (x5_1 : Int).toNat))) else (none)) = some r:=by ((have H2_:=(Option.bind_some _ _).symm.trans H; rw [hy1433]; with_reducible exact H2_))
        have Ny1433:=Aside0.mk hy1433
        clear hy1433
        have c31b0:=eq_true (of_decide_eq_true (by (with_reducible assumption)) : 0 ≤ x5_1)
        have c32b0:=eq_true (of_decide_eq_true (by (with_reducible assumption)) : x5_1 ≤ (l0.length : Int))
        by_cases c33 : y1433.length + (l0.drop (x5_1 : Int).toNat).length < 8796093022208
        ·rw [if_pos c33] at H
         have LMc33:=Aside0.mk c33
         clear c33
         obtain ⟨y1437,hy1437⟩ : ∃ y_ : List ByteArray,y_ = (y1433 ++ (l0.drop (x5_1 : Int).toNat)):=⟨_,rfl⟩
         replace H : (some y1437) = some r:=by (rw [hy1437]; with_reducible exact H)
         have Ny1437:=Aside0.mk hy1437
         clear hy1437
         obtain rfl:=Option.some.inj H
         try go_wp2
         have n0_:=Aside0.mk (below_drew1 HB.out)
         clear HB
         have HB:=n0_
         clear n0_
         obtain ⟨i035,hi035,_,hsz35,_⟩:=info_parts info9
         obtain ⟨hcut35,hA35,hC35⟩:=print_take_of (P:=Try.prog) Value.string (⟨#[]⟩ : ByteArray) 92 9 .i64 Try.underlying92 hi035 hsz35 A0 c0 l0 x5_1 (of_decide_eq_true (by (with_reducible assumption))) (of_decide_eq_true (by (with_reducible assumption))) HC0.out
         have HR1426:=Aside0.mk (Kd.C_of_reads (h1:=fun _ => rfl) (hA35 _ (Kd.reads_of_C HR0.out)))
         have HC1426:=Aside0.mk hC35
         clear hA35 hC35 hi035 hsz35
         obtain ⟨i036,hi036,_,hsz36,_⟩:=info_parts info9
         obtain ⟨A36,hcut36,hA36,hC36⟩:=print_drop_of (P:=Try.prog) Value.string (⟨#[]⟩ : ByteArray) 92 9 .i64 Try.underlying92 hi036 hsz36 A0 c0 l0 x5_1 (of_decide_eq_true (by (with_reducible assumption))) (of_decide_eq_true (by (with_reducible assumption))) HC0.out
         have HR1436:=Aside0.mk (Kd.C_of_reads (h1:=fun _ => rfl) (hA36 _ (Kd.reads_of_C HR0.out)))
         have HC1436:=Aside0.mk hC36
         clear hA36 hC36 hi036 hsz36
         refine start_ (n:=13) (S:=fun w' => True) (ds:=[]) (b942 13 0) (by kernel_rfl) rfl rfl trivial (fun hHeld => ?_); refine with_tabW spec_l4Put.tab4 spec_l4Put.bits4 (fun HT_ HW_ => ?_)
         generalize wr.drew = w34 at HB HR1426 HR1436 hHeld ⊢
         refine pure_ (i:=1) (N:=some 22) (v:=?_) (a':=?_) (b942 13 2) rfl rfl (any_of HT_.out (by kernel_rfl)) (fun _ _ _ h => h) (Or.inl ⟨by rfl,?_⟩) ?_ ?_
         rotate_left
         ·intro w'
          go_simp
          with_reducible rfl
         rotate_left
         ·simp only [Act.put,List.setIfInBounds_toArray,List.set_cons_zero,List.set_cons_succ,i64_w,i32_w]
          rfl
         refine pure_ (i:=2) (N:=some 23) (v:=?_) (a':=?_) (b942 13 6) rfl rfl (any_of HT_.out (by kernel_rfl)) (fun _ _ _ h => h) (Or.inl ⟨by rfl,?_⟩) ?_ ?_
         rotate_left
         ·intro w'
          go_simp
          with_reducible rfl
         rotate_left
         ·simp only [Act.put,List.setIfInBounds_toArray,List.set_cons_zero,List.set_cons_succ,i64_w,i32_w]
          rfl
         refine pure_ (i:=3) (N:=some 24) (v:=?_) (a':=?_) (b942 13 14) rfl rfl (any_of HT_.out (by kernel_rfl)) (fun _ _ _ h => h) (Or.inl ⟨by rfl,?_⟩) ?_ ?_
         rotate_left
         ·intro w'
          go_simp
          with_reducible rfl
         rotate_left
         ·simp only [Act.put,List.setIfInBounds_toArray,List.set_cons_zero,List.set_cons_succ,i64_w,i32_w]
          rfl
         refine pure_ (i:=5) (N:=some 26) (v:=?_) (a':=?_) (b942 13 46) rfl rfl (any_of HT_.out (by kernel_rfl)) (fun _ _ _ h => h) (Or.inl ⟨by rfl,?_⟩) ?_ ?_
         rotate_left
         ·intro w'
          go_simp
          with_reducible rfl
         rotate_left
         ·simp only [Act.put,List.setIfInBounds_toArray,List.set_cons_zero,List.set_cons_succ,i64_w,i32_w]
          rfl
         refine pure_ (i:=8) (N:=some 29) (v:=?_) (a':=?_) (b942 13 302) rfl rfl (any_of HT_.out (by kernel_rfl)) (fun _ _ _ h => h) (Or.inl ⟨by rfl,?_⟩) ?_ ?_
         rotate_left
         ·intro w'
          go_simp
          with_reducible rfl
         rotate_left
         ·simp only [Act.put,List.setIfInBounds_toArray,List.set_cons_zero,List.set_cons_succ,i64_w,i32_w]
          rfl
         refine pure_ (i:=9) (N:=some 30) (v:=?_) (a':=?_) (b942 13 814) rfl rfl (any_of HT_.out (by kernel_rfl)) (fun _ _ _ h => h) (Or.inl ⟨by rfl,?_⟩) ?_ ?_
         rotate_left
         ·intro w'
          go_simp
          with_reducible rfl
         rotate_left
         ·simp only [Act.put,List.setIfInBounds_toArray,List.set_cons_zero,List.set_cons_succ,i64_w,i32_w]
          rfl
         refine pure_ (i:=10) (N:=some 31) (v:=?_) (a':=?_) (b942 13 1838) rfl rfl (any_of HT_.out (by kernel_rfl)) (fun _ _ _ h => h) (Or.inl ⟨by rfl,?_⟩) ?_ ?_
         rotate_left
         ·intro w'
          go_simp
          with_reducible rfl
         rotate_left
         ·simp only [Act.put,List.setIfInBounds_toArray,List.set_cons_zero,List.set_cons_succ,i64_w,i32_w]
          rfl
         refine join_ (σ:=Value × Value × Value) 3 (b942 13 1919) (fun s_ => [(21,s_.1),(25,s_.2.1),(27,s_.2.2)]) (fun s_ w' => (Kd.R Kd.string 9 w' w.heap.size (fun k_ => some k_ ≠ (s_.2.2 : Value).ownBlock) s_.2.1 y1427) ∧ (Kd.R Kd.string 9 w' w.heap.size (fun k_ => some k_ ≠ (s_.2.1 : Value).ownBlock) s_.2.2 y1430) ∧ (Below w.heap.size w w')) ?_ ?_
         rotate_left
         ·intro hCont
          refine two_ (i:=0) (j:=6) (Ni:=some 21) (Nj:=some 27) (b942 13 1839) (b942 13 1902) rfl rfl rfl rfl (two_of HT_.out (by kernel_rfl)) (by decide) (by decide) (fun K hK => ?_) (fun K hK => ?_)
          ·skip
           refine Kd.R_lit_step Kd.string _ 9 ?hg (N:=21) ?hd (xs:=([] : List ByteArray)) (inner:=[]) (ok:=fun _ => True) (okp:=fun _ => True) ?hr ?hp (fun _ hk => hk) trivial (Below.refl _ _) (Nat.le_refl _) (by simp) ?_; (case hd => rfl); (case hg => rfl); (case hr => (go_simp; done)); (case hp => exact (Reps.none _ _))
           intro v1424 w37 ho38 hb hg_ hnew_
           clear hg_ hnew_
           (rw [← Ny1423.out] at ho38)
           have n0_:=Aside0.mk (Kd.R_lower ho38 (below_size (by repeat (((with_reducible (exact HB.out)))))))
           have n1_:=Aside0.mk (below_step (by repeat (((with_reducible (exact HB.out))))) hb)
           clear HB
           have HO1425:=n0_
           have HB:=n1_
           clear n0_ n1_
           clear hb ho38
           refine hK.out _ _ trivial (fun hHeld => ?_)
           clear hK K
           refine norm_ (a':=?_) ?_ ?_
           rotate_left
           ·show Act.put _ (some 21) _ = _
            simp only [Act.put,List.setIfInBounds_toArray,List.set_cons_zero,List.set_cons_succ,i64_w,i32_w]
            rfl
           refine two_ (i:=4) (j:=6) (Ni:=some 25) (Nj:=some 27) (b942 13 1855) (b942 13 1903) rfl rfl rfl rfl (two_of HT_.out (by kernel_rfl)) (by decide) (by decide) (fun K hK => ?_) (fun K hK => ?_)
           ·skip
            refine Kd.R_append_rows_step Kd.string (w0:=w) w.heap.size (by rfl) (.tmp 21) (.tmp 24) 92 9 (.string ⟨#[]⟩) 16 rfl Try.underlying92 info9 rfl (by decide) (by omega) v1424 y1423 (l0.take (x5_1 : Int).toNat) _ _ _ (fun _ => True) (fun _ => False) rfl rfl ?aO ?aR (fun _ _ h => h) (fun _ h => h.elim) ?aF ?aB ?aS ?aL ?_
            (case aR => ((have h9_:=(Kd.C_below HR1426.out HB.out); rw [show (l0.take (x5_1 : Int).toNat).length = x5_1.toNat from (by rw [List.length_take]; have h_ : (x5_1 : Int) ≤ (l0.length : Int):=of_decide_eq_true (by (with_reducible assumption)); omega)] at h9_; exact h9_)))
            (case aB => exact (by repeat (((with_reducible (exact HB.out))))))
            (case aF => exact (fun _ _ => trivial))
            (case aO => exact (by exact HO1425.out))
            (case aS => exact (below_size (by repeat (((with_reducible (exact HB.out)))))))
            (case aL => have:=LMc29.out; have hlx_:=(show (l0.take (x5_1 : Int).toNat).length = x5_1.toNat from (by rw [List.length_take]; have h_ : (x5_1 : Int) ≤ (l0.length : Int):=of_decide_eq_true (by (with_reducible assumption)); omega)); omega)
            intro v1428 w39 ho hb hg hat
            rw [← Ny1427.out] at ho
            have n0_:=Aside0.mk (hb)
            have n1_:=Aside0.mk (ho)
            clear HB
            clear HO1425
            have HB:=n0_
            have HO1429:=n1_
            clear n0_ n1_
            clear ho hb hg hat
            refine hK.out _ _ trivial (fun hHeld => ?_)
            clear hK K
            refine norm_ (a':=?_) ?_ ?_
            rotate_left
            ·show Act.put _ (some 25) _ = _
             simp only [Act.put,List.setIfInBounds_toArray,List.set_cons_zero,List.set_cons_succ,i64_w,i32_w]
             rfl
            refine one_ (i:=6) (N:=some 27) (b942 13 1919) rfl rfl (one_of HT_.out (by kernel_rfl)) (by decide) (fun K hK => ?_)
            refine Kd.R_lit_step Kd.string _ 9 ?hg (N:=27) ?hd (xs:=([a1] : List ByteArray)) (inner:=[.string a1]) (ok:=fun _ => True) (okp:=fun _ => True) ?hr ?hp (fun _ hk => hk) trivial (Below.refl _ _) (Nat.le_refl _) (by simp) ?_; (case hd => rfl); (case hg => rfl); (case hr => (go_simp; done)); (case hp => exact (Reps.one (show Kd.M Kd.string _ _ _ a1 [.string a1] from rfl) (Reps.none _ _)))
            intro v1431 w40 ho41 hb hg_ hnew_
            clear hg_ hnew_
            (rw [← Ny1430.out] at ho41)
            have n0_:=Aside0.mk (Kd.R_elder' (by exact HO1429.out) (Kd.R_base ho41) hb)
            have n1_:=Aside0.mk (Kd.R_lower (Kd.R_new' ho41 (Kd.R_lt (by exact HO1429.out))) (below_size (by repeat (((with_reducible (exact HB.out)))))))
            have n2_:=Aside0.mk (below_step (by repeat (((with_reducible (exact HB.out))))) hb)
            clear HO1429
            clear HB
            have HO1429:=n0_
            have HO1432:=n1_
            have HB:=n2_
            clear n0_ n1_ n2_
            clear hb ho41
            refine hK.out _ _ trivial (fun hHeld => ?_)
            clear hK K
            refine norm_ (a':=?_) ?_ ?_
            rotate_left
            ·show Act.put _ (some 27) _ = _
             simp only [Act.put,List.setIfInBounds_toArray,List.set_cons_zero,List.set_cons_succ,i64_w,i32_w]
             rfl
            exact norm_ (by simp only [putAll,Act.put,List.setIfInBounds_toArray,List.set_cons_zero,List.set_cons_succ]) (hCont (v1424,v1428,v1431) _ ⟨(by exact Kd.R_mono HO1429.out (fun _ hk => hk.2)),(by exact Kd.R_mono HO1432.out (fun _ hk => hk.2)),(by repeat (((with_reducible (exact HB.out)))))⟩)
           ·skip
            refine Kd.R_lit_step Kd.string _ 9 ?hg (N:=27) ?hd (xs:=([a1] : List ByteArray)) (inner:=[.string a1]) (ok:=fun _ => True) (okp:=fun _ => True) ?hr ?hp (fun _ hk => hk) trivial (Below.refl _ _) (Nat.le_refl _) (by simp) ?_; (case hd => rfl); (case hg => rfl); (case hr => (go_simp; done)); (case hp => exact (Reps.one (show Kd.M Kd.string _ _ _ a1 [.string a1] from rfl) (Reps.none _ _)))
            intro v1431 w39 ho40 hb hg_ hnew_
            clear hg_ hnew_
            (rw [← Ny1430.out] at ho40)
            have n0_:=Aside0.mk (Kd.R_elder' (by exact HO1425.out) (Kd.R_base ho40) hb)
            have n1_:=Aside0.mk (Kd.R_lower (Kd.R_new' ho40 (Kd.R_lt (by exact HO1425.out))) (below_size (by repeat (((with_reducible (exact HB.out)))))))
            have n2_:=Aside0.mk (below_step (by repeat (((with_reducible (exact HB.out))))) hb)
            clear HO1425
            clear HB
            have HO1425:=n0_
            have HO1432:=n1_
            have HB:=n2_
            clear n0_ n1_ n2_
            clear hb ho40
            refine hK.out _ _ trivial (fun hHeld => ?_)
            clear hK K
            refine norm_ (a':=?_) ?_ ?_
            rotate_left
            ·show Act.put _ (some 27) _ = _
             simp only [Act.put,List.setIfInBounds_toArray,List.set_cons_zero,List.set_cons_succ,i64_w,i32_w]
             rfl
            refine one_ (i:=4) (N:=some 25) (b942 13 1919) rfl rfl (one_of HT_.out (by kernel_rfl)) (by decide) (fun K hK => ?_)
            refine Kd.R_append_rows_step Kd.string (w0:=w) w.heap.size (by rfl) (.tmp 21) (.tmp 24) 92 9 (.string ⟨#[]⟩) 16 rfl Try.underlying92 info9 rfl (by decide) (by omega) v1424 y1423 (l0.take (x5_1 : Int).toNat) _ _ _ (fun k_ => some k_ ≠ (v1431 : Value).ownBlock) (fun _ => False) rfl rfl ?aO ?aR (fun _ _ h => h) (fun _ h => h.elim) ?aF ?aB ?aS ?aL ?_
            (case aR => ((have h9_:=(Kd.C_below HR1426.out HB.out); rw [show (l0.take (x5_1 : Int).toNat).length = x5_1.toNat from (by rw [List.length_take]; have h_ : (x5_1 : Int) ≤ (l0.length : Int):=of_decide_eq_true (by (with_reducible assumption)); omega)] at h9_; exact h9_)))
            (case aB => exact (by repeat (((with_reducible (exact HB.out))))))
            (case aF => exact (fun k_ hk => Kd.fresh' (Kd.R_lt (by exact HO1432.out)) k_ hk))
            (case aO => exact (by exact Kd.R_mono HO1425.out (fun _ hk => hk.2)))
            (case aS => exact (below_size (by repeat (((with_reducible (exact HB.out)))))))
            (case aL => have:=LMc29.out; have hlx_:=(show (l0.take (x5_1 : Int).toNat).length = x5_1.toNat from (by rw [List.length_take]; have h_ : (x5_1 : Int) ≤ (l0.length : Int):=of_decide_eq_true (by (with_reducible assumption)); omega)); omega)
            intro v1428 w41 ho hb hg hat
            rw [← Ny1427.out] at ho
            have n0_:=Aside0.mk (Kd.R_after (ok:=(fun _ => True)) (by exact HO1432.out) hg hat)
            have n1_:=Aside0.mk (hb)
            have n2_:=Aside0.mk (ho)
            clear HO1432
            clear HB
            clear HO1425
            have HO1432:=n0_
            have HB:=n1_
            have HO1429:=n2_
            clear n0_ n1_ n2_
            clear ho hb hg hat
            refine hK.out _ _ trivial (fun hHeld => ?_)
            clear hK K
            refine norm_ (a':=?_) ?_ ?_
            rotate_left
            ·show Act.put _ (some 25) _ = _
             simp only [Act.put,List.setIfInBounds_toArray,List.set_cons_zero,List.set_cons_succ,i64_w,i32_w]
             rfl
            exact norm_ (by simp only [putAll,Act.put,List.setIfInBounds_toArray,List.set_cons_zero,List.set_cons_succ]) (hCont (v1424,v1428,v1431) _ ⟨(by exact HO1429.out),(by exact Kd.R_mono HO1432.out (fun _ hk => hk.2)),(by repeat (((with_reducible (exact HB.out)))))⟩)
          ·skip
           refine Kd.R_lit_step Kd.string _ 9 ?hg (N:=27) ?hd (xs:=([a1] : List ByteArray)) (inner:=[.string a1]) (ok:=fun _ => True) (okp:=fun _ => True) ?hr ?hp (fun _ hk => hk) trivial (Below.refl _ _) (Nat.le_refl _) (by simp) ?_; (case hd => rfl); (case hg => rfl); (case hr => (go_simp; done)); (case hp => exact (Reps.one (show Kd.M Kd.string _ _ _ a1 [.string a1] from rfl) (Reps.none _ _)))
           intro v1431 w37 ho38 hb hg_ hnew_
           clear hg_ hnew_
           (rw [← Ny1430.out] at ho38)
           have n0_:=Aside0.mk (Kd.R_lower ho38 (below_size (by repeat (((with_reducible (exact HB.out)))))))
           have n1_:=Aside0.mk (below_step (by repeat (((with_reducible (exact HB.out))))) hb)
           clear HB
           have HO1432:=n0_
           have HB:=n1_
           clear n0_ n1_
           clear hb ho38
           refine hK.out _ _ trivial (fun hHeld => ?_)
           clear hK K
           refine norm_ (a':=?_) ?_ ?_
           rotate_left
           ·show Act.put _ (some 27) _ = _
            simp only [Act.put,List.setIfInBounds_toArray,List.set_cons_zero,List.set_cons_succ,i64_w,i32_w]
            rfl
           refine one_ (i:=0) (N:=some 21) (b942 13 1903) rfl rfl (one_of HT_.out (by kernel_rfl)) (by decide) (fun K hK => ?_)
           refine Kd.R_lit_step Kd.string _ 9 ?hg (N:=21) ?hd (xs:=([] : List ByteArray)) (inner:=[]) (ok:=fun _ => True) (okp:=fun _ => True) ?hr ?hp (fun _ hk => hk) trivial (Below.refl _ _) (Nat.le_refl _) (by simp) ?_; (case hd => rfl); (case hg => rfl); (case hr => (go_simp; done)); (case hp => exact (Reps.none _ _))
           intro v1424 w39 ho40 hb hg_ hnew_
           clear hg_ hnew_
           (rw [← Ny1423.out] at ho40)
           have n0_:=Aside0.mk (Kd.R_elder' (by exact HO1432.out) (Kd.R_base ho40) hb)
           have n1_:=Aside0.mk (Kd.R_lower (Kd.R_new' ho40 (Kd.R_lt (by exact HO1432.out))) (below_size (by repeat (((with_reducible (exact HB.out)))))))
           have n2_:=Aside0.mk (below_step (by repeat (((with_reducible (exact HB.out))))) hb)
           clear HO1432
           clear HB
           have HO1432:=n0_
           have HO1425:=n1_
           have HB:=n2_
           clear n0_ n1_ n2_
           clear hb ho40
           refine hK.out _ _ trivial (fun hHeld => ?_)
           clear hK K
           refine norm_ (a':=?_) ?_ ?_
           rotate_left
           ·show Act.put _ (some 21) _ = _
            simp only [Act.put,List.setIfInBounds_toArray,List.set_cons_zero,List.set_cons_succ,i64_w,i32_w]
            rfl
           refine one_ (i:=4) (N:=some 25) (b942 13 1919) rfl rfl (one_of HT_.out (by kernel_rfl)) (by decide) (fun K hK => ?_)
           refine Kd.R_append_rows_step Kd.string (w0:=w) w.heap.size (by rfl) (.tmp 21) (.tmp 24) 92 9 (.string ⟨#[]⟩) 16 rfl Try.underlying92 info9 rfl (by decide) (by omega) v1424 y1423 (l0.take (x5_1 : Int).toNat) _ _ _ (fun k_ => some k_ ≠ (v1431 : Value).ownBlock) (fun _ => False) rfl rfl ?aO ?aR (fun _ _ h => h) (fun _ h => h.elim) ?aF ?aB ?aS ?aL ?_
           (case aR => ((have h9_:=(Kd.C_below HR1426.out HB.out); rw [show (l0.take (x5_1 : Int).toNat).length = x5_1.toNat from (by rw [List.length_take]; have h_ : (x5_1 : Int) ≤ (l0.length : Int):=of_decide_eq_true (by (with_reducible assumption)); omega)] at h9_; exact h9_)))
           (case aB => exact (by repeat (((with_reducible (exact HB.out))))))
           (case aF => exact (fun k_ hk => Kd.fresh' (Kd.R_lt (by exact HO1432.out)) k_ hk))
           (case aO => exact (by exact Kd.R_mono HO1425.out (fun _ hk => hk.2)))
           (case aS => exact (below_size (by repeat (((with_reducible (exact HB.out)))))))
           (case aL => have:=LMc29.out; have hlx_:=(show (l0.take (x5_1 : Int).toNat).length = x5_1.toNat from (by rw [List.length_take]; have h_ : (x5_1 : Int) ≤ (l0.length : Int):=of_decide_eq_true (by (with_reducible assumption)); omega)); omega)
           intro v1428 w41 ho hb hg hat
           rw [← Ny1427.out] at ho
           have n0_:=Aside0.mk (Kd.R_after (ok:=(fun _ => True)) (by exact HO1432.out) hg hat)
           have n1_:=Aside0.mk (hb)
           have n2_:=Aside0.mk (ho)
           clear HO1432
           clear HB
           clear HO1425
           have HO1432:=n0_
           have HB:=n1_
           have HO1429:=n2_
           clear n0_ n1_ n2_
           clear ho hb hg hat
           refine hK.out _ _ trivial (fun hHeld => ?_)
           clear hK K
           refine norm_ (a':=?_) ?_ ?_
           rotate_left
           ·show Act.put _ (some 25) _ = _
            simp only [Act.put,List.setIfInBounds_toArray,List.set_cons_zero,List.set_cons_succ,i64_w,i32_w]
            rfl
           exact norm_ (by simp only [putAll,Act.put,List.setIfInBounds_toArray,List.set_cons_zero,List.set_cons_succ]) (hCont (v1424,v1428,v1431) _ ⟨(by exact HO1429.out),(by exact Kd.R_mono HO1432.out (fun _ hk => hk.2)),(by repeat (((with_reducible (exact HB.out)))))⟩)
         rintro ⟨v1424,v1428,v1431⟩ w42 ⟨h0_,h1_,h2_⟩
         have n0_ : Aside0 (Kd.R Kd.string 9 w42 w.heap.size (fun k_ => some k_ ≠ (v1431 : Value).ownBlock) v1428 y1427):=⟨h0_⟩
         have n1_ : Aside0 (Kd.R Kd.string 9 w42 w.heap.size (fun k_ => some k_ ≠ (v1428 : Value).ownBlock) v1431 y1430):=⟨h1_⟩
         have n2_ : Aside0 (Below w.heap.size w w42):=⟨h2_⟩
         clear HB
         clear h0_ h1_ h2_
         have HO1429:=n0_
         have HO1432:=n1_
         have HB:=n2_
         clear n0_ n1_ n2_
         have hHeld:=trivial
         obtain ⟨Ao44,co44,eo44⟩:=Kd.R_slice HO1432.out
         (subst eo44)
         refine norm_ (a':=?_) ?_ ?_
         rotate_left
         ·simp only [putAll,Act.put,List.setIfInBounds_toArray,List.set_cons_zero,List.set_cons_succ]
          rfl
         refine one_ (i:=7) (N:=some 28) (b942 13 2047) rfl rfl (one_of HT_.out (by kernel_rfl)) (by decide) (fun K hK => ?_)
         refine Kd.R_append_rows_step Kd.string (w0:=w) w.heap.size (by rfl) (.tmp 25) (.tmp 27) 92 9 (.string ⟨#[]⟩) 16 rfl Try.underlying92 info9 rfl (by decide) (by omega) v1428 y1427 y1430 _ _ _ (fun k_ => some k_ ≠ (.slice Ao44 y1430.length co44 : Value).ownBlock) (fun _ => False) rfl rfl ?aO ?aR (fun _ _ h => h) (fun _ h => h.elim) ?aF ?aB ?aS ?aL ?_
         (case aR => repeat ((exact (Kd.R_reads' HO1432.out).2.2)))
         (case aB => exact (by repeat (((with_reducible (exact HB.out))))))
         (case aF => exact (fun k_ hk => Kd.fresh' (Kd.R_lt (by exact HO1432.out)) k_ hk))
         (case aO => exact (by exact HO1429.out))
         (case aS => exact (below_size (by repeat (((with_reducible (exact HB.out)))))))
         (case aL => have:=LMc30.out; omega)
         intro v1434 w43 ho hb hg hat
         rw [← Ny1433.out] at ho
         have n0_:=Aside0.mk (Kd.R_after (ok:=(fun _ => True)) (by exact Kd.R_mono HO1432.out (fun _ hk => ⟨trivial,hk⟩)) hg hat)
         have n1_:=Aside0.mk (hb)
         have n2_:=Aside0.mk (ho)
         clear HO1432
         clear HB
         clear HO1429
         have HO1432:=n0_
         have HB:=n1_
         have HO1435:=n2_
         clear n0_ n1_ n2_
         clear ho hb hg hat
         refine hK.out _ _ trivial (fun hHeld => ?_)
         clear hK K
         refine norm_ (a':=?_) ?_ ?_
         rotate_left
         ·show Act.put _ (some 28) _ = _
          simp only [Act.put,List.setIfInBounds_toArray,List.set_cons_zero,List.set_cons_succ,i64_w,i32_w]
          rfl
         refine one_ (i:=11) (N:=some 32) (b942 13 4095) rfl rfl (one_of HT_.out (by kernel_rfl)) (by decide) (fun K hK => ?_)
         refine Kd.R_append_rows_step Kd.string (w0:=w) w.heap.size (by rfl) (.tmp 28) (.tmp 31) 92 9 (.string ⟨#[]⟩) 16 rfl Try.underlying92 info9 rfl (by decide) (by omega) v1434 y1433 (l0.drop (x5_1 : Int).toNat) _ _ _ (fun k_ => some k_ ≠ (.slice Ao44 y1430.length co44 : Value).ownBlock) (fun _ => False) rfl rfl ?aO ?aR (fun _ _ h => h) (fun _ h => h.elim) ?aF ?aB ?aS ?aL ?_
         (case aR => ((rw [← show (l0.drop (x5_1 : Int).toNat).length = (l0.length - x5_1.toNat) from List.length_drop]; repeat ((exact (Kd.C_below HR1436.out HB.out))))))
         (case aB => exact (by repeat (((with_reducible (exact HB.out))))))
         (case aF => exact (fun k_ hk => Kd.fresh' (Kd.R_lt (by exact HO1432.out)) k_ hk))
         (case aO => exact (by exact HO1435.out))
         (case aS => exact (below_size (by repeat (((with_reducible (exact HB.out)))))))
         (case aL => have:=LMc33.out; have hlx_:=(show (l0.drop (x5_1 : Int).toNat).length = (l0.length - x5_1.toNat) from List.length_drop); omega)
         intro v1438 w45 ho hb hg hat
         rw [← Ny1437.out] at ho
         have n0_:=Aside0.mk (Kd.R_after (ok:=(fun _ => True)) (by exact HO1432.out) hg hat)
         have n1_:=Aside0.mk (hb)
         have n2_:=Aside0.mk (ho)
         clear HO1432
         clear HB
         clear HO1435
         have HO1432:=n0_
         have HB:=n1_
         have HO1439:=n2_
         clear n0_ n1_ n2_
         clear ho hb hg hat
         refine hK.out _ _ trivial (fun hHeld => ?_)
         clear hK K
         refine norm_ (a':=?_) ?_ ?_
         rotate_left
         ·show Act.put _ (some 32) _ = _
          simp only [Act.put,List.setIfInBounds_toArray,List.set_cons_zero,List.set_cons_succ,i64_w,i32_w]
          rfl
         refine pure_ (i:=12) (N:=some 4) (v:=?_) (a':=?_) (b942 13 8191) rfl rfl (any_of HT_.out (by kernel_rfl)) (fun _ _ _ h => h) (Or.inl ⟨by rfl,?_⟩) ?_ ?_
         rotate_left
         ·intro w'
          go_simp
          with_reducible rfl
         rotate_left
         ·simp only [Act.put,List.setIfInBounds_toArray,List.set_cons_zero,List.set_cons_succ,i64_w,i32_w]
          rfl
         refine done_ (done_of HT_.out (by kernel_rfl)) ?_
         try go_wp2
         go_ret
         exact ⟨_,by (rfl),by exact Kd.R_mono HO1439.out (fun _ hk => trivial),by repeat (((with_reducible (exact HB.out))))⟩
        ·rw [if_neg c33] at H
         exact absurd H (by simp)
       ·rw [if_neg c30] at H
        exact absurd H (by simp)
      ·rw [if_neg c29] at H
       exact absurd H (by simp)
     ·rw [if_neg c28] at H
      exact absurd H (by simp)
    ·rw [if_neg c27] at H
     exact absurd H (by simp)

end Go.Proofs.Ytlldonokjgoajaa.X
