/- The program's SameYard, walked: a yard's rows sorted by the library's sort (its contract), two lists of rows compared. -/
import Derived.Test.YtlldonokjgoajaaMSameY
import Derived.Test.YtlldonokjgoajaaMOwn
import Derived.Test.YtlldonokjgoajaaShelfR
import Derived.Test.YtlldonokjgoajaaGIsValidYard
import Derived.Test.YtlldonokjgoajaaFbYard
import Derived.Sort.OwnSorted
namespace Go.Proofs.Ytlldonokjgoajaa.X
open Go.RowKit Go.Sort Go.Proofs.YtlldonokjgoajaaW.PrintWords Go.Proofs.YtlldonokjgoajaaW.PrintLast Go.Proofs.YtlldonokjgoajaaW.PrintMore
set_option linter.unusedVariables false
set_option linter.unusedSimpArgs false
section
variable {α : Type} [Inhabited α] {enc : α → Value}
theorem holdsR {w : World} {g : Nat} {cur : Array Value} {e : TypeId} {ss : List α} (hb : w.heap[g]? = some (.cells cur e (0, 0))) (ht : cur.toList.take ss.length = ss.map enc) : Holds enc w g 0 ss.toArray := by
  intro j hj
  have hj' : j < ss.length := by simpa using hj
  refine ⟨?_, by simp [World.frozen?, hb]⟩
  have h1 : (cur.toList.take ss.length)[j]? = (ss.map enc)[j]? := by rw [ht]
  rw [List.getElem?_take_of_lt hj'] at h1
  simp only [World.cell?, hb, Nat.zero_add]
  simp only [Option.isSome_none, Bool.false_eq_true, if_false]
  rw [← Array.getElem?_toList, h1]
  simp [hj']
theorem heap_sortedR {w : World} {g n : Nat} {os : Array Obj} {cur : Array Value} {e : TypeId} {fr : Nat × Nat} (d : Array α) (hb : w.heap[g]? = some (.cells cur e fr)) :
    (grow (putRow enc (Sort.ahead w n) g 0 d) os).heap[g]? = some (.cells (putCells enc 0 d cur) e fr) := by
  have hg : g < w.heap.size := (Array.getElem?_eq_some_iff.1 hb).1
  rw [heap_grow_old _ _ (by simpa using hg)]
  simp [putRow, mapBlock, Sort.ahead, Array.getElem?_modify, hb, onCells]
theorem grownByR {w : World} {g n : Nat} {os : Array Obj} (d : Array α) : w.grownBy (grow (putRow enc (Sort.ahead w n) g 0 d) os) (some g) := by
  refine ⟨rfl, rfl, rfl, by simp, fun k hk hne => ?_⟩
  rw [heap_grow_old _ _ (by simpa using hk)]
  have : g ≠ k := fun e => hne (by rw [e])
  simp [putRow, mapBlock, Sort.ahead, Array.getElem?_modify, this]
theorem take_putR (cur : Array Value) (ts : List α) (h : ts.length ≤ cur.size) : (putCells enc 0 ts.toArray cur).toList.take ts.length = ts.map enc := by
  apply List.ext_getElem?
  intro j
  by_cases hj : j < ts.length
  · rw [List.getElem?_take_of_lt hj, Array.getElem?_toList]
    simp [putCells, hj, show j < cur.size by omega]
  · rw [List.getElem?_take_eq_none (by omega), List.getElem?_eq_none (by simp; omega)]
theorem ownsRowR {w : World} {base g cap n len : Nat} {e : TypeId} {os : Array Obj} {cur : Array Value} {ts : List α} (hl : ts.length = len) (hbase : base ≤ g) (hb : w.heap[g]? = some (.cells cur e (0, 0)))
    (h1 : len ≤ cap) (h2 : cap ≤ maxLen) (h3 : cur.size = cap * 1) :
    (grow (putRow enc (Sort.ahead w n) g 0 ts.toArray) os).ownsRow base e 1 (.slice (some ⟨g, 0, none⟩) len cap) len (ts.map enc) :=
  ⟨by simp [hl], .inr ⟨g, cap, _, rfl, hbase, heap_sortedR _ hb, h1, h2, by simp [putCells, h3], by rw [Nat.mul_one, ← hl]; exact take_putR cur ts (by omega)⟩⟩
end

theorem run_stacks (W : World) (A : Option Addr) (n c : Nat) : (Instr.field 42 (.agg #[.slice A n c]) 0).run Try.prog W = .ok (.slice A n c) W := by kernel_rfl
attribute [local go_sem] run_stacks
abbrev KR : Kd (List Int) := Kd.slice 3 (Kd.int .i64)
theorem grow_nil (W : World) (q : Nat) : W.drewN q = grow (W.drewN q) #[] := by
  simp [grow]
  rfl
/-- The values of a row's slices, by their places. -/
def encR (inner : List Value) (n : Nat) (x : Fin n) : Value := inner.getD x.val (.bool false)
theorem encR_at {w : World} {base : Nat} {ok : Nat → Prop} {rows : List (List Int)} {inner : List Value} (hr : Reps (KR.M w base ok) 1 rows inner) (x : Fin rows.length) : Kd.R (Kd.int .i64) 3 w base ok (encR inner rows.length x) (rows.get x) := by
  have hx := x.isLt
  have hl := hr.1
  obtain ⟨v, e, h⟩ := hr.2 x.val (rows.get x) (List.getElem?_eq_getElem hx)
  rw [Nat.mul_one] at e
  have hd : (inner.drop x.val).take 1 = [inner.getD x.val (.bool false)] := by
    rw [getD_cons (z := Value.bool false) (show x.val < inner.length by omega)]
    rfl
  rw [hd] at e
  unfold encR
  rw [List.head_eq_of_cons_eq e]
  exact h
theorem encR_one {w : World} {base : Nat} {ok : Nat → Prop} {rows : List (List Int)} {inner : List Value} (hr : Reps (KR.M w base ok) 1 rows inner) : OneCell (encR inner rows.length) := by
  intro x
  obtain ⟨A, c, e⟩ := Kd.R_slice (encR_at hr x)
  rw [e]
  rfl
theorem rows_lays (w : World) (base g : Nat) (ok : Nat → Prop) (rows : List (List Int)) (inner : List Value) (hok : ∀ k, ok k → some k ≠ some g) (hr : Reps (KR.M w base ok) 1 rows inner) (h4 : ∀ x : Fin rows.length, (rows.get x).length ≤ 1048576) (n : Nat) [Inhabited (Fin rows.length)] :
    CmpLays1 Try.prog 176 #[] (encR inner rows.length) (cfR rows) g 0 n w := by
  intro m os dk hs x y
  have hgr : w.grownBy (sortWorld (encR inner rows.length) w g 0 m dk os) (some g) := grownByR dk
  obtain ⟨A, c, e1, l1, C1⟩ := Kd.R_reads (Kd.R_grown (encR_at hr x) hgr hok)
  obtain ⟨B, d, e2, l2, C2⟩ := Kd.R_reads (Kd.R_grown (encR_at hr y) hgr hok)
  rw [e1, e2]
  refine (slices_Compare_int_int.calls 1048577 A c (rows.get x) B d (rows.get y) (cmpL (rows.get x) (rows.get y)) _ C1 l1 C2 l2 (cmpL_ends _ _ (h4 x) _ (Nat.le_refl _))).mono ?_
  rintro e w' ⟨rfl, ⟨⟨q, rfl⟩⟩⟩
  exact ⟨rfl, q, #[], grow_nil _ _⟩
theorem rows_sorted {w : World} {base g cap n3 : Nat} {ok : Nat → Prop} {rows : List (List Int)} {inner : List Value} {os : Array Obj} {cur : Array Value} [Inhabited (Fin rows.length)] (hg : ok g) (hbase : base ≤ g) (hb : w.heap[g]? = some (.cells cur 24 (0, 0))) (h1 : rows.length ≤ cap) (h2 : cap ≤ maxLen) (h3 : cur.size = cap * 1)
    (hr : Reps (KR.M w base (fun k => ok k ∧ some k ≠ (Value.slice (some ⟨g, 0, none⟩) rows.length cap).ownBlock)) 1 rows inner) (d : Array (Fin rows.length)) (hl : d.toList.length = rows.length) (hd : d.toList.map rows.get = sortY rows) :
    Kd.R KR 24 (sortWorld (encR inner rows.length) w g 0 n3 d os) base ok (.slice (some ⟨g, 0, none⟩) rows.length cap) (sortY rows) := by
  have hgr : w.grownBy (sortWorld (encR inner rows.length) w g 0 n3 d os) (some g) := grownByR d
  have hrow := ownsRowR (enc := encR inner rows.length) (n := n3) (os := os) (ts := d.toList) hl hbase hb h1 h2 h3
  have hsl : (sortY rows).length = rows.length := (sortY_perm rows).length_eq
  refine ⟨fun k hk => ?_, d.toList.map (encR inner rows.length), ?_, ?_, fun j p hp => ?_⟩
  · have : g = k := by simpa [Value.ownBlock] using hk
    rw [← this]
    exact hg
  · rw [hsl]
    exact hrow
  · rw [List.length_map, hl, hsl, show KR.sz = 1 from rfl, Nat.mul_one]
  · rw [← hd, List.getElem?_map] at hp
    obtain ⟨x, hx, rfl⟩ := Option.map_eq_some_iff.1 hp
    obtain ⟨hj, hx2⟩ := List.getElem?_eq_some_iff.1 hx
    rw [show KR.sz = 1 from rfl, Nat.mul_one]
    have hjm : j < (d.toList.map (encR inner rows.length)).length := by rw [List.length_map]; exact hj
    have ht : ((d.toList.map (encR inner rows.length)).drop j).take 1 = [encR inner rows.length x] := by
      rw [List.drop_eq_getElem_cons hjm, List.getElem_map, hx2]
      rfl
    rw [ht]
    exact ⟨_, rfl, Kd.R_grown (encR_at hr x) hgr (fun k hk => hk.2)⟩
theorem inner_map {inner : List Value} {n : Nat} (h : inner.length = n) : inner = (List.finRange n).map (encR inner n) := by
  apply List.ext_getElem (by simp [h])
  intro i i1 i2
  rw [List.getElem_map]
  have hv : ((List.finRange n)[i]'(by simpa using i2)).val = i := by simp
  unfold encR
  rw [hv, List.getD_eq_getElem?_getD, List.getElem?_eq_getElem i1]
  rfl
theorem R_open {w : World} {base : Nat} {ok : Nat → Prop} {v : Value} {rows : List (List Int)} (h : Kd.R KR 24 w base ok v rows) (hp : 0 < rows.length) : ∃ (g cap : Nat) (cur : Array Value) (inner : List Value), v = .slice (some ⟨g, 0, none⟩) rows.length cap ∧ base ≤ g ∧ w.heap[g]? = some (.cells cur 24 (0, 0)) ∧ rows.length ≤ cap ∧ cap ≤ maxLen ∧ cur.size = cap * 1 ∧ cur.toList.take rows.length = inner ∧ Reps (KR.M w base (fun k => ok k ∧ some k ≠ v.ownBlock)) 1 rows inner := by
  obtain ⟨h0, inner, hown, hr⟩ := h
  rcases hown.2 with ⟨_, hz⟩ | ⟨g, cap, cur, rfl, hbase, hb, h1, h2, h3, h4⟩
  · omega
  rw [show KR.sz = 1 from rfl, Nat.mul_one] at h4
  exact ⟨g, cap, cur, inner, rfl, hbase, hb, h1, h2, h3, h4, hr⟩
set_option maxHeartbeats 8000000 in
set_option maxRecDepth 100000 in
theorem sorted_walk (A0 : Option Addr) (c0 : Nat) (l0 : List (List Int)) (w : World) (hr0 : Kd.C KR w A0 l0.length l0) (hc0 : l0.length ≤ c0) (hg : goodY l0 = true) :
    Calls Try.prog 145 #[.agg #[.slice A0 l0.length c0]] w fun e w' => ∃ v0_ : Value, e = .returned v0_ ∧ Kd.R KR 24 w' w.heap.size (fun _ => True) v0_ (sortY l0) ∧ Below w.heap.size w w' := by
  have HR0 := Aside0.mk hr0
  have HC0 := Aside0.mk hc0
  have HOW := Aside0.mk (own_ends l0 hg 2097160 (by omega)).2
  have HLN := Aside0.mk (goodY_len hg)
  have HL4 := Aside0.mk (goodY_row hg)
  clear hr0 hc0 hg
  have hu42 := Try.underlying42
  go_enter Try.func145, Try.ntmps145
  go_upto_region 1 with (fail)
  generalize hwa : w.alloc (Obj.cells #[Value.slice A0 l0.length c0] 42) = wa
  have hba : Below w.heap.size w wa := by rw [← hwa]; exact below_alloc (Below.refl _ _) _
  have hx1 : wa.cell? ⟨w.heap.size, 0, none⟩ = some (.slice A0 l0.length c0) := by rw [← hwa]; exact (blk_cell (blk_new _ _) 0).trans rfl
  have HBA := Aside0.mk hba
  clear hwa hba
  go_upto_region 2 with (go_at_call 108; refine (impl_ownYard.calls 2097160 A0 c0 l0 l0 _ (Kd.C_below HR0.out HBA.out) HC0.out HOW.out).mono ?_; rintro e w2 ⟨v1, rfl, hs, hb⟩; obtain ⟨g, cap, cur, inner, rfl, hgs⟩ := R_open (Kd.S_R (Kd.S_lower hs HBA.out.size)) (by have := HLN.out; omega); have HS := Aside0.mk hgs; have HB2 := Aside0.mk (below_then HBA.out HBA.out.size hb); clear hs hb hx1 hgs)
  clear HBA
  obtain ⟨hbase, hb, h1, h2, h3, h4, hr⟩ := HS.out
  clear HS
  haveI : Inhabited (Fin l0.length) := ⟨⟨0, by have := HLN.out; omega⟩⟩
  have hil : inner.length = l0.length := by have := hr.1; omega
  have h4' : cur.toList.take (List.finRange l0.length).length = (List.finRange l0.length).map (encR inner l0.length) := by
    rw [List.length_finRange]
    rw [h4]
    exact inner_map hil
  have hH : Holds (encR inner l0.length) w2 g 0 (List.finRange l0.length).toArray := holdsR hb h4'
  have hgl : g < w2.heap.size := (Array.getElem?_eq_some_iff.1 hb).1
  have eg : ∀ args w, (callFunc 176 args).run Try.prog w = .ok (.enter 176 args) w := enters_of Try.func176 (by kernel_rfl) rfl
  have hc := Try.sortRow_perm (encR inner l0.length) (encR_one hr) (cfR l0) (swoR l0) 176 #[] g 0 cap (List.finRange l0.length).toArray w2 eg (rows_lays w2 w.heap.size g _ l0 inner (fun k hk => hk.2) hr (fun x => by have := HL4.out x.val; rw [List.getD_eq_getElem?_getD, List.getElem?_eq_getElem x.isLt] at this; exact Nat.le_trans this (by decide)) _) hH hgl (by have := HLN.out; simp; omega)
  rw [show (List.finRange l0.length).toArray.size = l0.length by simp] at hc
  have hcc : Calls Try.prog 175 #[.slice (some ⟨g, 0, none⟩) l0.length cap, .func (.func 176) #[] #[]] w2 fun e w3 => ∃ d3 n3 os3, e = .returned (.tuple #[]) ∧ PermIn 0 l0.length (List.finRange l0.length).toArray d3 ∧ SortedIn (ltOf (cfR l0)) 0 l0.length d3 ∧ w3 = sortWorld (encR inner l0.length) w2 g 0 n3 d3 os3 := hc.mono (fun _ _ h => by obtain ⟨h, d, n, os, h1, h2, h3⟩ := h; exact ⟨d, n, os, h, h1, h2, h3⟩)
  clear hc
  have HCC := Aside0.mk hcc
  have HRR := Aside0.mk hr
  have HBL := Aside0.mk hb
  have HBS := Aside0.mk hbase
  have H1 := Aside0.mk h1
  have H2 := Aside0.mk h2
  have H3 := Aside0.mk h3
  clear hcc hb hbase h1 h2 h3 h4 h4' hH hgl eg hr hil
  go_upto_region 3 with (go_at_call 175; refine HCC.out.mono ?_; rintro e w3 ⟨d3, n3, os3, rfl, hp3, hs3, rfl⟩)
  have hd := sorted_is l0 d3 (by rw [show (List.finRange l0.length).toArray.size = l0.length by simp]; exact hp3) (by rw [show (List.finRange l0.length).toArray.size = l0.length by simp]; exact hs3)
  have hrow := rows_sorted (n3 := n3) (os := os3) (ok := fun _ => True) trivial HBS.out HBL.out H1.out H2.out H3.out HRR.out d3 hd.1 hd.2
  have hgr := grownByR (enc := encR inner l0.length) (w := w2) (g := g) (n := n3) (os := os3) d3
  have HROW := Aside0.mk hrow
  have HGR := Aside0.mk (show w2.grownBy (sortWorld (encR inner l0.length) w2 g 0 n3 d3 os3) (some g) from hgr)
  clear hrow hgr HCC HRR hp3 hs3 hd
  generalize sortWorld (encR inner l0.length) w2 g 0 n3 d3 os3 = w5 at HROW HGR ⊢
  go_wp2
  go_ret
  exact ⟨_, rfl, HROW.out, HB2.out.grown HGR.out HB2.out.size (fun k hk => by cases hk; exact HBS.out)⟩
def eqR.l0 : Nat → List (List Int) → List (List Int) → Int → Option Bool
  | 0, _, _, _ => none
  | k + 1, x0, x1, i => if i < (x0.length : Int) then (if 0 ≤ i then (if i < (x1.length : Int) then ((slices_Equal_int_int.f 1048577 (rd_L2 x0 i) (rd_L2 x1 i)).bind fun t => if t = true then eqR.l0 k x0 x1 (wrap64 (i + 1)) else some false) else none) else none) else some true
theorem eqR_loop (a b : List (List Int)) (hx : a.length ≤ 1000) (hl : a.length = b.length) (h4 : ∀ n, (a.getD n []).length ≤ 1048576) (d : Nat) : ∀ (k i : Nat), i + d = a.length → d < k → eqR.l0 k a b (i : Int) = some (decide (a.drop i = b.drop i)) := by
  induction d with
  | zero =>
    intro k i hi hk
    obtain ⟨k, rfl⟩ := kpos hk
    simp only [eqR.l0]
    rw [if_neg (by omega), List.drop_of_length_le (by omega), List.drop_of_length_le (by omega)]
    simp
  | succ d ih =>
    intro k i hi hk
    obtain ⟨k, rfl⟩ := kpos hk
    have hlt : i < a.length := by omega
    simp only [eqR.l0]
    rw [if_pos (by omega), if_pos (by omega), if_pos (by omega), rdL_nat, rdL_nat, equal_ends _ _ (h4 i) _ (Nat.le_refl _), Option.bind_some, wnext hlt (by omega), getD_cons (z := []) hlt, getD_cons (xs := b) (z := []) (show i < b.length by omega)]
    by_cases e : a.getD i [] = b.getD i []
    · rw [decide_eq_true e, if_pos rfl, dec_cons_pos e]
      exact ih k (i + 1) (by omega) (by omega)
    · rw [decide_eq_false e, if_neg Bool.false_ne_true, dec_cons_neg e]
set_option maxHeartbeats 8000000 in
set_option maxRecDepth 100000 in
theorem eqR_same (k : Nat) (A0 : Option Addr) (c0 : Nat) (l0 : List (List Int)) (A1 : Option Addr) (c1 : Nat) (l1 : List (List Int)) (r : Bool) (w : World) (hr0 : Kd.C KR w A0 l0.length l0) (hr1 : Kd.C KR w A1 l1.length l1) (hl : l0.length = l1.length) (h : eqR.l0 k l0 l1 0 = some r) :
    Calls Try.prog 144 #[.slice A0 l0.length c0, .slice A1 l1.length c1, .func (.func 146) #[] #[]] w fun e w' => e = .returned (.bool r) ∧ Drawn0 w w' := by
  have HR0 := Aside0.mk hr0
  have HR1 := Aside0.mk hr1
  have c3b0 : ((l0.length : Int) == (l1.length : Int)) = true := beq_iff_eq.mpr (by omega)
  have c3b1 : ((l0.length : Int) != (l1.length : Int)) = false := bne_eq_false_iff_eq.mpr (by omega)
  have c3b2 : (l0.length == l1.length) = true := beq_iff_eq.mpr hl
  have H' := Aside0.mk h
  have eE : ∀ args w, (callFunc 146 args).run Try.prog w = .ok (.enter 146 args) w := enters_of Try.func146 (by kernel_rfl) rfl
  have EE := Aside0.mk eE
  clear hr0 hr1 hl h eE
  go_enter Try.func144, Try.ntmps144
  go_wp2
  go_loopg [17] k (fun kq v17 w' => ∃ (i : Int), v17 = .int .i64 i ∧ Aside0 (eqR.l0 kq l0 l1 i = some r) ∧ Aside0 (kq ≤ k) ∧ Drawn0 w w')
  case atStart => exact ⟨0, by first | rfl | (simp; done) | (simp [*]; done), H', ⟨Nat.le_refl _⟩, by repeat (first | exact Drawn0.refl _ | apply Drawn0.step)⟩
  case round =>
    clear H' c3b0 c3b1 c3b2
    obtain ⟨i, rfl, HA, HK1, ⟨m1, rfl⟩⟩ := hrel
    cases gk with
    | zero => exact absurd HA.out (by simp [eqR.l0])
    | succ k1 =>
      have H := HA.out
      clear HA
      simp only [eqR.l0] at H
      by_cases c4 : i < (l0.length : Int)
      · rw [if_pos c4] at H
        have c4b0 : decide (i < (l0.length : Int)) = true := decide_eq_true c4
        by_cases c5 : 0 ≤ i
        · rw [if_pos c5] at H
          by_cases c7 : i < (l1.length : Int)
          · rw [if_pos c7] at H
            obtain ⟨t, A8, H⟩ := Option.bind_eq_some_iff.mp H
            have T8 := Aside0.mk A8
            obtain ⟨ad, B0, d0, e0, hx0, hl0, hi0⟩ := at_L2 HR0.out i c5 c4
            cases e0
            obtain ⟨ad', B1, d1, e1, hx1, hl1, hi1⟩ := at_L2 HR1.out i c5 c7
            cases e1
            have HI0 := Aside0.mk hi0
            have HI1 := Aside0.mk hi1
            have HL0 := Aside0.mk hl0
            have HL1 := Aside0.mk hl1
            replace c5 := eq_true c5
            replace c4 := eq_true c4
            replace c7 := eq_true c7
            clear hi0 hi1 hl0 hl1 A8
            have eE := EE.out
            by_cases ct : t = true
            · rw [if_pos ct] at H
              subst ct
              have H' := Aside0.mk H
              clear H
              go_wp2_with (go_at_fn 146; refine (slices_Equal_int_int.calls 1048577 B0 d0 (rd_L2 l0 i) B1 d1 (rd_L2 l1 i) true _ (by first | exact HI0.out | exact Kd.C_drawnN HI0.out _) HL0.out (by first | exact HI1.out | exact Kd.C_drawnN HI1.out _) HL1.out T8.out).mono ?_; rintro e w' ⟨rfl, ⟨nd, rfl⟩⟩)
              go_roundg k1
              case measure => have := HK1.out; omega
              case rel => exact ⟨wrap64 (i + 1), by first | rfl | (simp; done) | (simp [*]; done), H', ⟨by have := HK1.out; omega⟩, by repeat (first | exact Drawn0.refl _ | apply Drawn0.step)⟩
            · rw [if_neg ct] at H
              rw [Bool.not_eq_true] at ct
              subst ct
              obtain rfl := Option.some.inj H
              go_wp2_with (go_at_fn 146; refine (slices_Equal_int_int.calls 1048577 B0 d0 (rd_L2 l0 i) B1 d1 (rd_L2 l1 i) false _ (by first | exact HI0.out | exact Kd.C_drawnN HI0.out _) HL0.out (by first | exact HI1.out | exact Kd.C_drawnN HI1.out _) HL1.out T8.out).mono ?_; rintro e w' ⟨rfl, ⟨nd, rfl⟩⟩)
              go_ret
              exact ⟨by first | rfl | (simp; done) | (simp [*]; done), by repeat (first | exact Drawn0.refl _ | apply Drawn0.step)⟩
          · rw [if_neg c7] at H
            exact absurd H (by simp)
        · rw [if_neg c5] at H
          exact absurd H (by simp)
      · rw [if_neg c4] at H
        have c4b0 : decide (i < (l0.length : Int)) = false := decide_eq_false c4
        clear c4
        obtain rfl := Option.some.inj H
        go_wp2
        go_ret
        exact ⟨by first | rfl | (simp; done) | (simp [*]; done), by repeat (first | exact Drawn0.refl _ | apply Drawn0.step)⟩
set_option maxHeartbeats 8000000 in
set_option maxRecDepth 100000 in
theorem eqR_len (A0 : Option Addr) (c0 : Nat) (l0 : List (List Int)) (A1 : Option Addr) (c1 : Nat) (l1 : List (List Int)) (w : World) (hl : ¬ l0.length = l1.length) :
    Calls Try.prog 144 #[.slice A0 l0.length c0, .slice A1 l1.length c1, .func (.func 146) #[] #[]] w fun e w' => e = .returned (.bool false) ∧ Drawn0 w w' := by
  have c3b0 : ((l0.length : Int) == (l1.length : Int)) = false := beq_eq_false_iff_ne.mpr (by omega)
  have c3b1 : ((l0.length : Int) != (l1.length : Int)) = true := bne_iff_ne.mpr (by omega)
  have c3b2 : (l0.length == l1.length) = false := beq_eq_false_iff_ne.mpr hl
  clear hl
  go_enter Try.func144, Try.ntmps144
  go_wp2
  go_ret
  exact ⟨by first | rfl | (simp; done) | (simp [*]; done), by repeat (first | exact Drawn0.refl _ | apply Drawn0.step)⟩
theorem eqR_calls (A0 : Option Addr) (c0 : Nat) (l0 : List (List Int)) (A1 : Option Addr) (c1 : Nat) (l1 : List (List Int)) (w : World) (hr0 : Kd.C KR w A0 l0.length l0) (hr1 : Kd.C KR w A1 l1.length l1) (hx : l0.length ≤ 1000) (h4 : ∀ n, (l0.getD n []).length ≤ 1048576) :
    Calls Try.prog 144 #[.slice A0 l0.length c0, .slice A1 l1.length c1, .func (.func 146) #[] #[]] w fun e w' => e = .returned (.bool (decide (l0 = l1))) ∧ Drawn0 w w' := by
  by_cases hl : l0.length = l1.length
  · have h := eqR_loop l0 l1 hx hl h4 l0.length (l0.length + 1) 0 (by omega) (by omega)
    rw [show ((0 : Nat) : Int) = 0 from rfl, List.drop_zero, List.drop_zero] at h
    exact eqR_same _ A0 c0 l0 A1 c1 l1 _ w hr0 hr1 hl h
  · rw [decide_eq_false (fun e => hl (by rw [e]))]
    exact eqR_len A0 c0 l0 A1 c1 l1 w hl
end Go.Proofs.Ytlldonokjgoajaa.X
