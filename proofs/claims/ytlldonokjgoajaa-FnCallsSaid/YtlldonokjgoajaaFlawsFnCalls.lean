-- Written by a program of ours (wip/bin/xprint.py, over the kit's print.py) out of the translation. Not trusted: Lean checks it.
import Derived.Test.YtlldonokjgoajaaX0
import Derived.Test.YtlldonokjgoajaaFbV
import Derived.Test.YtlldonokjgoajaaFimplBestLoading
import Derived.Test.YtlldonokjgoajaaFimplCycleDays
import Derived.Test.YtlldonokjgoajaaFimplDaysBetween
import Derived.Test.YtlldonokjgoajaaFimplNextCall
import Derived.Test.YtlldonokjgoajaaFimplPortsAhead
import Derived.Test.YtlldonokjgoajaaFspecBestLoading
import Derived.Test.YtlldonokjgoajaaFspecDaysBetween
import Derived.Test.YtlldonokjgoajaaFspecDrawBestLoading
import Derived.Test.YtlldonokjgoajaaFspecDrawDaysBetween
import Derived.Test.YtlldonokjgoajaaFspecDrawNextCall
import Derived.Test.YtlldonokjgoajaaFspecNextCall
import Derived.Test.YtlldonokjgoajaaFspecPortsAhead
namespace Go.Proofs.Ytlldonokjgoajaa.X
open Go.RowKit Go.Proofs.YtlldonokjgoajaaW.PrintWords Go.Proofs.YtlldonokjgoajaaW.PrintLast Go.Proofs.YtlldonokjgoajaaW.PrintMore
attribute [local go_sem] max2_int min2_int max_two min_two max_three min_three max_four min_four   -- for this text's walks alone
set_option linter.unusedVariables false
set_option linter.unusedSimpArgs false

/-! ### laws_FnCalls: function 3 -/
mutual
def laws_FnCalls.j0 : Nat → List Int → Int → Int → Int → Bool → Bool → List Int → List Int → Option (Bool)
 | 0, _, _, _, _, _, _, _, _ => none
 | k + 1, x0, x4, x5, x6, x7, x69, x393000, x393001 => if x69 = true then (none) else (if x7 = true then (laws_FnCalls.j1 k x0 x4 x5 x6 (x4 != x5) x393000 x393001) else (laws_FnCalls.j1 k x0 x4 x5 x6 false x393000 x393001))
def laws_FnCalls.j1 : Nat → List Int → Int → Int → Int → Bool → List Int → List Int → Option (Bool)
 | 0, _, _, _, _, _, _, _ => none
 | k + 1, x0, x4, x5, x6, x75, x393000, x393001 => if x75 = true then ((impl_DaysBetween.f k x393000 x393001 x5 x4).bind fun bt397 => ((impl_CycleDays.f k x393000 x393001).bind fun bt399 => (if bt397.2 = true then (if bt399.2 = true then (if (wrap64 (x6 + bt397.1)) = bt399.1 then (laws_FnCalls.j2 k x0) else (none)) else (none)) else (none)))) else (laws_FnCalls.j2 k x0)
def laws_FnCalls.j2 : Nat → List Int → Option (Bool)
 | 0, _ => none
 | k + 1, x0 => (spec_DrawBestLoading.f k x0).bind fun bt401 => ((impl_BestLoading.f k bt401.1 bt401.2.1 bt401.2.2.1 bt401.2.2.2).bind fun bt410 => ((spec_BestLoading.f k bt401.1 bt401.2.1 bt401.2.2.1 bt401.2.2.2).bind fun bt413 => (if bt410.1 = bt413.1 then (if bt410.2.1 = bt413.2.1 then (laws_FnCalls.j3 k x0 bt401.2.2.1 bt401.2.2.2 bt410.1 bt410.2.1 bt410.2.2 (bt410.2.2 != bt413.2.2) bt401.1 bt401.2.1) else (none)) else (none))))
def laws_FnCalls.j3 : Nat → List Int → Int → Int → Int → Int → Bool → Bool → List Int → List Int → Option (Bool)
 | 0, _, _, _, _, _, _, _, _, _ => none
 | k + 1, x0, x15, x16, x17, x18, x19, x135, x410000, x410001 => if x135 = true then (none) else (laws_FnCalls.l0 k x0 x15 x16 x17 x18 x19 0 x410000 x410001)
def laws_FnCalls.l0 : Nat → List Int → Int → Int → Int → Int → Bool → Int → List Int → List Int → Option (Bool)
 | 0, _, _, _, _, _, _, _, _, _ => none
 | k + 1, x0, x15, x16, x17, x18, x19, x23, x410000, x410001 => if x23 < (x410000.length : Int) then (laws_FnCalls.j5 k x0 x15 x16 x17 x18 x19 x23 x19 x410000 x410001) else (laws_FnCalls.j5 k x0 x15 x16 x17 x18 x19 x23 false x410000 x410001)
def laws_FnCalls.j5 : Nat → List Int → Int → Int → Int → Int → Bool → Int → Bool → List Int → List Int → Option (Bool)
 | 0, _, _, _, _, _, _, _, _, _, _ => none
 | k + 1, x0, x15, x16, x17, x18, x19, x23, x143, x410000, x410001 => if x143 = true then (if 0 ≤ x23 then (if x23 < (x410000.length : Int) then (if (rd x410000 x23) = x15 then ((impl_NextCall.f k x410000 x410001 x23 x16).bind fun bt417 => (if bt417.2.2 = true then (if bt417.2.1 < x18 then (none) else (if x23 = x17 then (if bt417.2.1 = x18 then (laws_FnCalls.l0 k x0 x15 x16 x17 x18 x19 (wrap64 (x23 + 1)) x410000 x410001) else (none)) else (laws_FnCalls.l0 k x0 x15 x16 x17 x18 x19 (wrap64 (x23 + 1)) x410000 x410001))) else (none))) else (laws_FnCalls.l0 k x0 x15 x16 x17 x18 x19 (wrap64 (x23 + 1)) x410000 x410001)) else (none)) else (none)) else ((spec_DrawNextCall.f k x0).bind fun bt420 => ((impl_NextCall.f k bt420.1 bt420.2.1 bt420.2.2.1 bt420.2.2.2).bind fun bt429 => ((spec_NextCall.f k bt420.1 bt420.2.1 bt420.2.2.1 bt420.2.2.2).bind fun bt432 => (if bt429.1 = bt432.1 then (if bt429.2.1 = bt432.2.1 then (laws_FnCalls.j6 k bt420.2.2.1 bt420.2.2.2 bt429.2.2 (bt429.2.2 != bt432.2.2) bt420.1 bt420.2.1) else (none)) else (none)))))
def laws_FnCalls.j6 : Nat → Int → Int → Bool → Bool → List Int → List Int → Option (Bool)
 | 0, _, _, _, _, _, _ => none
 | k + 1, x28, x29, x32, x212, x429000, x429001 => if x212 = true then (none) else ((impl_PortsAhead.f k x429000 x429001 x28).bind fun bt435 => ((spec_PortsAhead.f k x429000 x429001 x28).bind fun bt439 => (if (bt435.2 == bt439.2) = true then ((laws_rInts.f k bt435.1 bt439.1).bind fun t443 => (if t443 = true then (if bt435.2 = true then ((laws_rHas.f k bt435.1 x29).bind fun t444 => (some (t444 == x32))) else (some true)) else (none))) else (none))))
end
def laws_FnCalls.f (k : Nat) (l0 : List Int) : Option (Bool) := (laws_rBig.f l0).bind fun t383 => (if t383 = true then (some true) else ((spec_DrawDaysBetween.f k l0).bind fun bt384 => ((impl_DaysBetween.f k bt384.1 bt384.2.1 bt384.2.2.1 bt384.2.2.2).bind fun bt393 => ((spec_DaysBetween.f k bt384.1 bt384.2.1 bt384.2.2.1 bt384.2.2.2).bind fun bt395 => (if bt393.1 = bt395.1 then (laws_FnCalls.j0 k l0 bt384.2.2.1 bt384.2.2.2 bt393.1 bt393.2 (bt393.2 != bt395.2) bt384.1 bt384.2.1) else (none))))))
theorem laws_FnCalls.mono_l : ∀ k, (∀ y0 y1 y2 y3 y4 y5 y6 y7, LeO (laws_FnCalls.j0 k y0 y1 y2 y3 y4 y5 y6 y7) (laws_FnCalls.j0 (k + 1) y0 y1 y2 y3 y4 y5 y6 y7)) ∧ (∀ y0 y1 y2 y3 y4 y5 y6, LeO (laws_FnCalls.j1 k y0 y1 y2 y3 y4 y5 y6) (laws_FnCalls.j1 (k + 1) y0 y1 y2 y3 y4 y5 y6)) ∧ (∀ y0, LeO (laws_FnCalls.j2 k y0) (laws_FnCalls.j2 (k + 1) y0)) ∧ (∀ y0 y1 y2 y3 y4 y5 y6 y7 y8, LeO (laws_FnCalls.j3 k y0 y1 y2 y3 y4 y5 y6 y7 y8) (laws_FnCalls.j3 (k + 1) y0 y1 y2 y3 y4 y5 y6 y7 y8)) ∧ (∀ y0 y1 y2 y3 y4 y5 y6 y7 y8, LeO (laws_FnCalls.l0 k y0 y1 y2 y3 y4 y5 y6 y7 y8) (laws_FnCalls.l0 (k + 1) y0 y1 y2 y3 y4 y5 y6 y7 y8)) ∧ (∀ y0 y1 y2 y3 y4 y5 y6 y7 y8 y9, LeO (laws_FnCalls.j5 k y0 y1 y2 y3 y4 y5 y6 y7 y8 y9) (laws_FnCalls.j5 (k + 1) y0 y1 y2 y3 y4 y5 y6 y7 y8 y9)) ∧ (∀ y0 y1 y2 y3 y4 y5, LeO (laws_FnCalls.j6 k y0 y1 y2 y3 y4 y5) (laws_FnCalls.j6 (k + 1) y0 y1 y2 y3 y4 y5))
 | 0 => ⟨fun _ _ _ _ _ _ _ _ r h => by simp [laws_FnCalls.j0] at h, fun _ _ _ _ _ _ _ r h => by simp [laws_FnCalls.j1] at h, fun _ r h => by simp [laws_FnCalls.j2] at h, fun _ _ _ _ _ _ _ _ _ r h => by simp [laws_FnCalls.j3] at h, fun _ _ _ _ _ _ _ _ _ r h => by simp [laws_FnCalls.l0] at h, fun _ _ _ _ _ _ _ _ _ _ r h => by simp [laws_FnCalls.j5] at h, fun _ _ _ _ _ _ r h => by simp [laws_FnCalls.j6] at h⟩
 | k + 1 => by
  obtain ⟨ih0, ih1, ih2, ih3, ih4, ih5, ih6⟩ := laws_FnCalls.mono_l k
  refine ⟨?_, ?_, ?_, ?_, ?_, ?_, ?_⟩
  ·intro y0 y1 y2 y3 y4 y5 y6 y7
   unfold laws_FnCalls.j0
   repeat' first
   | (with_reducible exact ih0 _ _ _ _ _ _ _ _)
   | (with_reducible exact ih1 _ _ _ _ _ _ _)
   | (with_reducible exact ih2 _)
   | (with_reducible exact ih3 _ _ _ _ _ _ _ _ _)
   | (with_reducible exact ih4 _ _ _ _ _ _ _ _ _)
   | (with_reducible exact ih5 _ _ _ _ _ _ _ _ _ _)
   | (with_reducible exact ih6 _ _ _ _ _ _)
   | (with_reducible exact impl_BestLoading.mono _ _ _ _ _)
   | (with_reducible exact impl_CycleDays.mono _ _ _)
   | (with_reducible exact impl_DaysBetween.mono _ _ _ _ _)
   | (with_reducible exact impl_NextCall.mono _ _ _ _ _)
   | (with_reducible exact impl_PortsAhead.mono _ _ _ _)
   | (with_reducible exact laws_rHas.mono _ _ _)
   | (with_reducible exact laws_rInts.mono _ _ _)
   | (with_reducible exact spec_BestLoading.mono _ _ _ _ _)
   | (with_reducible exact spec_DaysBetween.mono _ _ _ _ _)
   | (with_reducible exact spec_DrawBestLoading.mono _ _)
   | (with_reducible exact spec_DrawDaysBetween.mono _ _)
   | (with_reducible exact spec_DrawNextCall.mono _ _)
   | (with_reducible exact spec_NextCall.mono _ _ _ _ _)
   | (with_reducible exact spec_PortsAhead.mono _ _ _ _)
   | (with_reducible exact LeO.refl _)
   | (with_reducible exact LeO.none _)
   | (with_reducible refine LeO.ite ?_ ?_)
   | (with_reducible refine LeO.bind ?_ (fun _ => ?_))
   | exact ih0 _ _ _ _ _ _ _ _
   | exact ih1 _ _ _ _ _ _ _
   | exact ih2 _
   | exact ih3 _ _ _ _ _ _ _ _ _
   | exact ih4 _ _ _ _ _ _ _ _ _
   | exact ih5 _ _ _ _ _ _ _ _ _ _
   | exact ih6 _ _ _ _ _ _
   | exact impl_BestLoading.mono _ _ _ _ _
   | exact impl_CycleDays.mono _ _ _
   | exact impl_DaysBetween.mono _ _ _ _ _
   | exact impl_NextCall.mono _ _ _ _ _
   | exact impl_PortsAhead.mono _ _ _ _
   | exact laws_rHas.mono _ _ _
   | exact laws_rInts.mono _ _ _
   | exact spec_BestLoading.mono _ _ _ _ _
   | exact spec_DaysBetween.mono _ _ _ _ _
   | exact spec_DrawBestLoading.mono _ _
   | exact spec_DrawDaysBetween.mono _ _
   | exact spec_DrawNextCall.mono _ _
   | exact spec_NextCall.mono _ _ _ _ _
   | exact spec_PortsAhead.mono _ _ _ _
   | exact LeO.none _
   | refine LeO.ite ?_ ?_
   | refine LeO.bind ?_ (fun _ => ?_)
  ·intro y0 y1 y2 y3 y4 y5 y6
   unfold laws_FnCalls.j1
   repeat' first
   | (with_reducible exact ih0 _ _ _ _ _ _ _ _)
   | (with_reducible exact ih1 _ _ _ _ _ _ _)
   | (with_reducible exact ih2 _)
   | (with_reducible exact ih3 _ _ _ _ _ _ _ _ _)
   | (with_reducible exact ih4 _ _ _ _ _ _ _ _ _)
   | (with_reducible exact ih5 _ _ _ _ _ _ _ _ _ _)
   | (with_reducible exact ih6 _ _ _ _ _ _)
   | (with_reducible exact impl_BestLoading.mono _ _ _ _ _)
   | (with_reducible exact impl_CycleDays.mono _ _ _)
   | (with_reducible exact impl_DaysBetween.mono _ _ _ _ _)
   | (with_reducible exact impl_NextCall.mono _ _ _ _ _)
   | (with_reducible exact impl_PortsAhead.mono _ _ _ _)
   | (with_reducible exact laws_rHas.mono _ _ _)
   | (with_reducible exact laws_rInts.mono _ _ _)
   | (with_reducible exact spec_BestLoading.mono _ _ _ _ _)
   | (with_reducible exact spec_DaysBetween.mono _ _ _ _ _)
   | (with_reducible exact spec_DrawBestLoading.mono _ _)
   | (with_reducible exact spec_DrawDaysBetween.mono _ _)
   | (with_reducible exact spec_DrawNextCall.mono _ _)
   | (with_reducible exact spec_NextCall.mono _ _ _ _ _)
   | (with_reducible exact spec_PortsAhead.mono _ _ _ _)
   | (with_reducible exact LeO.refl _)
   | (with_reducible exact LeO.none _)
   | (with_reducible refine LeO.ite ?_ ?_)
   | (with_reducible refine LeO.bind ?_ (fun _ => ?_))
   | exact ih0 _ _ _ _ _ _ _ _
   | exact ih1 _ _ _ _ _ _ _
   | exact ih2 _
   | exact ih3 _ _ _ _ _ _ _ _ _
   | exact ih4 _ _ _ _ _ _ _ _ _
   | exact ih5 _ _ _ _ _ _ _ _ _ _
   | exact ih6 _ _ _ _ _ _
   | exact impl_BestLoading.mono _ _ _ _ _
   | exact impl_CycleDays.mono _ _ _
   | exact impl_DaysBetween.mono _ _ _ _ _
   | exact impl_NextCall.mono _ _ _ _ _
   | exact impl_PortsAhead.mono _ _ _ _
   | exact laws_rHas.mono _ _ _
   | exact laws_rInts.mono _ _ _
   | exact spec_BestLoading.mono _ _ _ _ _
   | exact spec_DaysBetween.mono _ _ _ _ _
   | exact spec_DrawBestLoading.mono _ _
   | exact spec_DrawDaysBetween.mono _ _
   | exact spec_DrawNextCall.mono _ _
   | exact spec_NextCall.mono _ _ _ _ _
   | exact spec_PortsAhead.mono _ _ _ _
   | exact LeO.none _
   | refine LeO.ite ?_ ?_
   | refine LeO.bind ?_ (fun _ => ?_)
  ·intro y0
   unfold laws_FnCalls.j2
   repeat' first
   | (with_reducible exact ih0 _ _ _ _ _ _ _ _)
   | (with_reducible exact ih1 _ _ _ _ _ _ _)
   | (with_reducible exact ih2 _)
   | (with_reducible exact ih3 _ _ _ _ _ _ _ _ _)
   | (with_reducible exact ih4 _ _ _ _ _ _ _ _ _)
   | (with_reducible exact ih5 _ _ _ _ _ _ _ _ _ _)
   | (with_reducible exact ih6 _ _ _ _ _ _)
   | (with_reducible exact impl_BestLoading.mono _ _ _ _ _)
   | (with_reducible exact impl_CycleDays.mono _ _ _)
   | (with_reducible exact impl_DaysBetween.mono _ _ _ _ _)
   | (with_reducible exact impl_NextCall.mono _ _ _ _ _)
   | (with_reducible exact impl_PortsAhead.mono _ _ _ _)
   | (with_reducible exact laws_rHas.mono _ _ _)
   | (with_reducible exact laws_rInts.mono _ _ _)
   | (with_reducible exact spec_BestLoading.mono _ _ _ _ _)
   | (with_reducible exact spec_DaysBetween.mono _ _ _ _ _)
   | (with_reducible exact spec_DrawBestLoading.mono _ _)
   | (with_reducible exact spec_DrawDaysBetween.mono _ _)
   | (with_reducible exact spec_DrawNextCall.mono _ _)
   | (with_reducible exact spec_NextCall.mono _ _ _ _ _)
   | (with_reducible exact spec_PortsAhead.mono _ _ _ _)
   | (with_reducible exact LeO.refl _)
   | (with_reducible exact LeO.none _)
   | (with_reducible refine LeO.ite ?_ ?_)
   | (with_reducible refine LeO.bind ?_ (fun _ => ?_))
   | exact ih0 _ _ _ _ _ _ _ _
   | exact ih1 _ _ _ _ _ _ _
   | exact ih2 _
   | exact ih3 _ _ _ _ _ _ _ _ _
   | exact ih4 _ _ _ _ _ _ _ _ _
   | exact ih5 _ _ _ _ _ _ _ _ _ _
   | exact ih6 _ _ _ _ _ _
   | exact impl_BestLoading.mono _ _ _ _ _
   | exact impl_CycleDays.mono _ _ _
   | exact impl_DaysBetween.mono _ _ _ _ _
   | exact impl_NextCall.mono _ _ _ _ _
   | exact impl_PortsAhead.mono _ _ _ _
   | exact laws_rHas.mono _ _ _
   | exact laws_rInts.mono _ _ _
   | exact spec_BestLoading.mono _ _ _ _ _
   | exact spec_DaysBetween.mono _ _ _ _ _
   | exact spec_DrawBestLoading.mono _ _
   | exact spec_DrawDaysBetween.mono _ _
   | exact spec_DrawNextCall.mono _ _
   | exact spec_NextCall.mono _ _ _ _ _
   | exact spec_PortsAhead.mono _ _ _ _
   | exact LeO.none _
   | refine LeO.ite ?_ ?_
   | refine LeO.bind ?_ (fun _ => ?_)
  ·intro y0 y1 y2 y3 y4 y5 y6 y7 y8
   unfold laws_FnCalls.j3
   repeat' first
   | (with_reducible exact ih0 _ _ _ _ _ _ _ _)
   | (with_reducible exact ih1 _ _ _ _ _ _ _)
   | (with_reducible exact ih2 _)
   | (with_reducible exact ih3 _ _ _ _ _ _ _ _ _)
   | (with_reducible exact ih4 _ _ _ _ _ _ _ _ _)
   | (with_reducible exact ih5 _ _ _ _ _ _ _ _ _ _)
   | (with_reducible exact ih6 _ _ _ _ _ _)
   | (with_reducible exact impl_BestLoading.mono _ _ _ _ _)
   | (with_reducible exact impl_CycleDays.mono _ _ _)
   | (with_reducible exact impl_DaysBetween.mono _ _ _ _ _)
   | (with_reducible exact impl_NextCall.mono _ _ _ _ _)
   | (with_reducible exact impl_PortsAhead.mono _ _ _ _)
   | (with_reducible exact laws_rHas.mono _ _ _)
   | (with_reducible exact laws_rInts.mono _ _ _)
   | (with_reducible exact spec_BestLoading.mono _ _ _ _ _)
   | (with_reducible exact spec_DaysBetween.mono _ _ _ _ _)
   | (with_reducible exact spec_DrawBestLoading.mono _ _)
   | (with_reducible exact spec_DrawDaysBetween.mono _ _)
   | (with_reducible exact spec_DrawNextCall.mono _ _)
   | (with_reducible exact spec_NextCall.mono _ _ _ _ _)
   | (with_reducible exact spec_PortsAhead.mono _ _ _ _)
   | (with_reducible exact LeO.refl _)
   | (with_reducible exact LeO.none _)
   | (with_reducible refine LeO.ite ?_ ?_)
   | (with_reducible refine LeO.bind ?_ (fun _ => ?_))
   | exact ih0 _ _ _ _ _ _ _ _
   | exact ih1 _ _ _ _ _ _ _
   | exact ih2 _
   | exact ih3 _ _ _ _ _ _ _ _ _
   | exact ih4 _ _ _ _ _ _ _ _ _
   | exact ih5 _ _ _ _ _ _ _ _ _ _
   | exact ih6 _ _ _ _ _ _
   | exact impl_BestLoading.mono _ _ _ _ _
   | exact impl_CycleDays.mono _ _ _
   | exact impl_DaysBetween.mono _ _ _ _ _
   | exact impl_NextCall.mono _ _ _ _ _
   | exact impl_PortsAhead.mono _ _ _ _
   | exact laws_rHas.mono _ _ _
   | exact laws_rInts.mono _ _ _
   | exact spec_BestLoading.mono _ _ _ _ _
   | exact spec_DaysBetween.mono _ _ _ _ _
   | exact spec_DrawBestLoading.mono _ _
   | exact spec_DrawDaysBetween.mono _ _
   | exact spec_DrawNextCall.mono _ _
   | exact spec_NextCall.mono _ _ _ _ _
   | exact spec_PortsAhead.mono _ _ _ _
   | exact LeO.none _
   | refine LeO.ite ?_ ?_
   | refine LeO.bind ?_ (fun _ => ?_)
  ·intro y0 y1 y2 y3 y4 y5 y6 y7 y8
   unfold laws_FnCalls.l0
   repeat' first
   | (with_reducible exact ih0 _ _ _ _ _ _ _ _)
   | (with_reducible exact ih1 _ _ _ _ _ _ _)
   | (with_reducible exact ih2 _)
   | (with_reducible exact ih3 _ _ _ _ _ _ _ _ _)
   | (with_reducible exact ih4 _ _ _ _ _ _ _ _ _)
   | (with_reducible exact ih5 _ _ _ _ _ _ _ _ _ _)
   | (with_reducible exact ih6 _ _ _ _ _ _)
   | (with_reducible exact impl_BestLoading.mono _ _ _ _ _)
   | (with_reducible exact impl_CycleDays.mono _ _ _)
   | (with_reducible exact impl_DaysBetween.mono _ _ _ _ _)
   | (with_reducible exact impl_NextCall.mono _ _ _ _ _)
   | (with_reducible exact impl_PortsAhead.mono _ _ _ _)
   | (with_reducible exact laws_rHas.mono _ _ _)
   | (with_reducible exact laws_rInts.mono _ _ _)
   | (with_reducible exact spec_BestLoading.mono _ _ _ _ _)
   | (with_reducible exact spec_DaysBetween.mono _ _ _ _ _)
   | (with_reducible exact spec_DrawBestLoading.mono _ _)
   | (with_reducible exact spec_DrawDaysBetween.mono _ _)
   | (with_reducible exact spec_DrawNextCall.mono _ _)
   | (with_reducible exact spec_NextCall.mono _ _ _ _ _)
   | (with_reducible exact spec_PortsAhead.mono _ _ _ _)
   | (with_reducible exact LeO.refl _)
   | (with_reducible exact LeO.none _)
   | (with_reducible refine LeO.ite ?_ ?_)
   | (with_reducible refine LeO.bind ?_ (fun _ => ?_))
   | exact ih0 _ _ _ _ _ _ _ _
   | exact ih1 _ _ _ _ _ _ _
   | exact ih2 _
   | exact ih3 _ _ _ _ _ _ _ _ _
   | exact ih4 _ _ _ _ _ _ _ _ _
   | exact ih5 _ _ _ _ _ _ _ _ _ _
   | exact ih6 _ _ _ _ _ _
   | exact impl_BestLoading.mono _ _ _ _ _
   | exact impl_CycleDays.mono _ _ _
   | exact impl_DaysBetween.mono _ _ _ _ _
   | exact impl_NextCall.mono _ _ _ _ _
   | exact impl_PortsAhead.mono _ _ _ _
   | exact laws_rHas.mono _ _ _
   | exact laws_rInts.mono _ _ _
   | exact spec_BestLoading.mono _ _ _ _ _
   | exact spec_DaysBetween.mono _ _ _ _ _
   | exact spec_DrawBestLoading.mono _ _
   | exact spec_DrawDaysBetween.mono _ _
   | exact spec_DrawNextCall.mono _ _
   | exact spec_NextCall.mono _ _ _ _ _
   | exact spec_PortsAhead.mono _ _ _ _
   | exact LeO.none _
   | refine LeO.ite ?_ ?_
   | refine LeO.bind ?_ (fun _ => ?_)
  ·intro y0 y1 y2 y3 y4 y5 y6 y7 y8 y9
   unfold laws_FnCalls.j5
   repeat' first
   | (with_reducible exact ih0 _ _ _ _ _ _ _ _)
   | (with_reducible exact ih1 _ _ _ _ _ _ _)
   | (with_reducible exact ih2 _)
   | (with_reducible exact ih3 _ _ _ _ _ _ _ _ _)
   | (with_reducible exact ih4 _ _ _ _ _ _ _ _ _)
   | (with_reducible exact ih5 _ _ _ _ _ _ _ _ _ _)
   | (with_reducible exact ih6 _ _ _ _ _ _)
   | (with_reducible exact impl_BestLoading.mono _ _ _ _ _)
   | (with_reducible exact impl_CycleDays.mono _ _ _)
   | (with_reducible exact impl_DaysBetween.mono _ _ _ _ _)
   | (with_reducible exact impl_NextCall.mono _ _ _ _ _)
   | (with_reducible exact impl_PortsAhead.mono _ _ _ _)
   | (with_reducible exact laws_rHas.mono _ _ _)
   | (with_reducible exact laws_rInts.mono _ _ _)
   | (with_reducible exact spec_BestLoading.mono _ _ _ _ _)
   | (with_reducible exact spec_DaysBetween.mono _ _ _ _ _)
   | (with_reducible exact spec_DrawBestLoading.mono _ _)
   | (with_reducible exact spec_DrawDaysBetween.mono _ _)
   | (with_reducible exact spec_DrawNextCall.mono _ _)
   | (with_reducible exact spec_NextCall.mono _ _ _ _ _)
   | (with_reducible exact spec_PortsAhead.mono _ _ _ _)
   | (with_reducible exact LeO.refl _)
   | (with_reducible exact LeO.none _)
   | (with_reducible refine LeO.ite ?_ ?_)
   | (with_reducible refine LeO.bind ?_ (fun _ => ?_))
   | exact ih0 _ _ _ _ _ _ _ _
   | exact ih1 _ _ _ _ _ _ _
   | exact ih2 _
   | exact ih3 _ _ _ _ _ _ _ _ _
   | exact ih4 _ _ _ _ _ _ _ _ _
   | exact ih5 _ _ _ _ _ _ _ _ _ _
   | exact ih6 _ _ _ _ _ _
   | exact impl_BestLoading.mono _ _ _ _ _
   | exact impl_CycleDays.mono _ _ _
   | exact impl_DaysBetween.mono _ _ _ _ _
   | exact impl_NextCall.mono _ _ _ _ _
   | exact impl_PortsAhead.mono _ _ _ _
   | exact laws_rHas.mono _ _ _
   | exact laws_rInts.mono _ _ _
   | exact spec_BestLoading.mono _ _ _ _ _
   | exact spec_DaysBetween.mono _ _ _ _ _
   | exact spec_DrawBestLoading.mono _ _
   | exact spec_DrawDaysBetween.mono _ _
   | exact spec_DrawNextCall.mono _ _
   | exact spec_NextCall.mono _ _ _ _ _
   | exact spec_PortsAhead.mono _ _ _ _
   | exact LeO.none _
   | refine LeO.ite ?_ ?_
   | refine LeO.bind ?_ (fun _ => ?_)
  ·intro y0 y1 y2 y3 y4 y5
   unfold laws_FnCalls.j6
   repeat' first
   | (with_reducible exact ih0 _ _ _ _ _ _ _ _)
   | (with_reducible exact ih1 _ _ _ _ _ _ _)
   | (with_reducible exact ih2 _)
   | (with_reducible exact ih3 _ _ _ _ _ _ _ _ _)
   | (with_reducible exact ih4 _ _ _ _ _ _ _ _ _)
   | (with_reducible exact ih5 _ _ _ _ _ _ _ _ _ _)
   | (with_reducible exact ih6 _ _ _ _ _ _)
   | (with_reducible exact impl_BestLoading.mono _ _ _ _ _)
   | (with_reducible exact impl_CycleDays.mono _ _ _)
   | (with_reducible exact impl_DaysBetween.mono _ _ _ _ _)
   | (with_reducible exact impl_NextCall.mono _ _ _ _ _)
   | (with_reducible exact impl_PortsAhead.mono _ _ _ _)
   | (with_reducible exact laws_rHas.mono _ _ _)
   | (with_reducible exact laws_rInts.mono _ _ _)
   | (with_reducible exact spec_BestLoading.mono _ _ _ _ _)
   | (with_reducible exact spec_DaysBetween.mono _ _ _ _ _)
   | (with_reducible exact spec_DrawBestLoading.mono _ _)
   | (with_reducible exact spec_DrawDaysBetween.mono _ _)
   | (with_reducible exact spec_DrawNextCall.mono _ _)
   | (with_reducible exact spec_NextCall.mono _ _ _ _ _)
   | (with_reducible exact spec_PortsAhead.mono _ _ _ _)
   | (with_reducible exact LeO.refl _)
   | (with_reducible exact LeO.none _)
   | (with_reducible refine LeO.ite ?_ ?_)
   | (with_reducible refine LeO.bind ?_ (fun _ => ?_))
   | exact ih0 _ _ _ _ _ _ _ _
   | exact ih1 _ _ _ _ _ _ _
   | exact ih2 _
   | exact ih3 _ _ _ _ _ _ _ _ _
   | exact ih4 _ _ _ _ _ _ _ _ _
   | exact ih5 _ _ _ _ _ _ _ _ _ _
   | exact ih6 _ _ _ _ _ _
   | exact impl_BestLoading.mono _ _ _ _ _
   | exact impl_CycleDays.mono _ _ _
   | exact impl_DaysBetween.mono _ _ _ _ _
   | exact impl_NextCall.mono _ _ _ _ _
   | exact impl_PortsAhead.mono _ _ _ _
   | exact laws_rHas.mono _ _ _
   | exact laws_rInts.mono _ _ _
   | exact spec_BestLoading.mono _ _ _ _ _
   | exact spec_DaysBetween.mono _ _ _ _ _
   | exact spec_DrawBestLoading.mono _ _
   | exact spec_DrawDaysBetween.mono _ _
   | exact spec_DrawNextCall.mono _ _
   | exact spec_NextCall.mono _ _ _ _ _
   | exact spec_PortsAhead.mono _ _ _ _
   | exact LeO.none _
   | refine LeO.ite ?_ ?_
   | refine LeO.bind ?_ (fun _ => ?_)
theorem laws_FnCalls.mono : ∀ a0 k, LeO (laws_FnCalls.f k a0) (laws_FnCalls.f (k + 1) a0) := by
 intro a0 k
 obtain ⟨ih0, ih1, ih2, ih3, ih4, ih5, ih6⟩ := laws_FnCalls.mono_l k
 unfold laws_FnCalls.f
 repeat' first
   | (with_reducible exact ih0 _ _ _ _ _ _ _ _)
   | (with_reducible exact ih1 _ _ _ _ _ _ _)
   | (with_reducible exact ih2 _)
   | (with_reducible exact ih3 _ _ _ _ _ _ _ _ _)
   | (with_reducible exact ih4 _ _ _ _ _ _ _ _ _)
   | (with_reducible exact ih5 _ _ _ _ _ _ _ _ _ _)
   | (with_reducible exact ih6 _ _ _ _ _ _)
   | (with_reducible exact impl_BestLoading.mono _ _ _ _ _)
   | (with_reducible exact impl_CycleDays.mono _ _ _)
   | (with_reducible exact impl_DaysBetween.mono _ _ _ _ _)
   | (with_reducible exact impl_NextCall.mono _ _ _ _ _)
   | (with_reducible exact impl_PortsAhead.mono _ _ _ _)
   | (with_reducible exact laws_rHas.mono _ _ _)
   | (with_reducible exact laws_rInts.mono _ _ _)
   | (with_reducible exact spec_BestLoading.mono _ _ _ _ _)
   | (with_reducible exact spec_DaysBetween.mono _ _ _ _ _)
   | (with_reducible exact spec_DrawBestLoading.mono _ _)
   | (with_reducible exact spec_DrawDaysBetween.mono _ _)
   | (with_reducible exact spec_DrawNextCall.mono _ _)
   | (with_reducible exact spec_NextCall.mono _ _ _ _ _)
   | (with_reducible exact spec_PortsAhead.mono _ _ _ _)
   | (with_reducible exact LeO.refl _)
   | (with_reducible exact LeO.none _)
   | (with_reducible refine LeO.ite ?_ ?_)
   | (with_reducible refine LeO.bind ?_ (fun _ => ?_))
   | exact ih0 _ _ _ _ _ _ _ _
   | exact ih1 _ _ _ _ _ _ _
   | exact ih2 _
   | exact ih3 _ _ _ _ _ _ _ _ _
   | exact ih4 _ _ _ _ _ _ _ _ _
   | exact ih5 _ _ _ _ _ _ _ _ _ _
   | exact ih6 _ _ _ _ _ _
   | exact impl_BestLoading.mono _ _ _ _ _
   | exact impl_CycleDays.mono _ _ _
   | exact impl_DaysBetween.mono _ _ _ _ _
   | exact impl_NextCall.mono _ _ _ _ _
   | exact impl_PortsAhead.mono _ _ _ _
   | exact laws_rHas.mono _ _ _
   | exact laws_rInts.mono _ _ _
   | exact spec_BestLoading.mono _ _ _ _ _
   | exact spec_DaysBetween.mono _ _ _ _ _
   | exact spec_DrawBestLoading.mono _ _
   | exact spec_DrawDaysBetween.mono _ _
   | exact spec_DrawNextCall.mono _ _
   | exact spec_NextCall.mono _ _ _ _ _
   | exact spec_PortsAhead.mono _ _ _ _
   | exact LeO.none _
   | refine LeO.ite ?_ ?_
   | refine LeO.bind ?_ (fun _ => ?_)
set_option maxHeartbeats 8000000 in
set_option maxRecDepth 100000 in
theorem laws_FnCalls.calls (k : Nat) (A0 : Option Addr) (c0 : Nat) (l0 : List Int) (r : Bool) (w : World) (hr0 : Kd.C (Kd.int .u8) w A0 l0.length l0) (hc0 : l0.length ≤ c0) (h : laws_FnCalls.f k l0 = some r) :
  Calls Try.prog 3 #[.slice A0 l0.length c0] w fun e w' => e = .returned (.bool r) ∧ Below w.heap.size w w' := by
 have hu26 := Try.underlying26
 have HR0 := Aside0.mk hr0
 have HC0 := Aside0.mk hc0
 clear hr0 hc0
 have HB := Aside0.mk (Below.refl w.heap.size w)
 have H : ((laws_rBig.f l0).bind fun t383 => (if t383 = true then (some true) else ((spec_DrawDaysBetween.f k l0).bind fun bt384 => ((impl_DaysBetween.f k bt384.1 bt384.2.1 bt384.2.2.1 bt384.2.2.2).bind fun bt393 => ((spec_DaysBetween.f k bt384.1 bt384.2.1 bt384.2.2.1 bt384.2.2.2).bind fun bt395 => (if bt393.1 = bt395.1 then (laws_FnCalls.j0 k l0 bt384.2.2.1 bt384.2.2.2 bt393.1 bt393.2 (bt393.2 != bt395.2) bt384.1 bt384.2.1) else (none))))))) = some r := h
 clear h
 replace H := Option.bind_eq_some_iff.mp H
 obtain ⟨t383, A20, H⟩ := H
 replace H : (if t383 = true then (some true) else ((spec_DrawDaysBetween.f k l0).bind fun bt384 => ((impl_DaysBetween.f k bt384.1 bt384.2.1 bt384.2.2.1 bt384.2.2.2).bind fun bt393 => ((spec_DaysBetween.f k bt384.1 bt384.2.1 bt384.2.2.1 bt384.2.2.2).bind fun bt395 => (if bt393.1 = bt395.1 then (laws_FnCalls.j0 k l0 bt384.2.2.1 bt384.2.2.2 bt393.1 bt393.2 (bt393.2 != bt395.2) bt384.1 bt384.2.1) else (none)))))) = some r := H
 have A2 := Aside0.mk A20
 clear A20
 by_cases c3 : t383 = true
 ·subst c3
  have H1 : (some true) = some r := by rw [if_pos rfl] at H; exact H
  clear H
  have H := H1
  clear H1
  obtain rfl := Option.some.inj H
  go_enter Try.func3, Try.ntmps3
  go_wp2_with (first | ((with_reducible refine gate_callee (f := 13) rfl ?_); refine goesL_ (some 41) rfl rfl Try.func13 (by kernel_rfl) rfl #[.slice A0 l0.length c0] rfl (by (try simp only [List.map_toArray, List.map_cons, List.map_nil]); first | done | rfl | (simp only [List.length_drop, List.length_take]; rfl)) ?_; (with_reducible refine (laws_rBig.calls _ _ l0 true _ ?side1 ?side2 A2.out).mono ?_); (case side1 => repeat (first | exact HR0.out | (with_reducible refine Kd.C_alloc ?_ _) | (with_reducible refine Kd.C_drewN ?_ _) | (with_reducible refine Kd.C_drew ?_))); (case side2 => exact HC0.out); rintro e w' ⟨rfl, ⟨nd, rfl⟩⟩; refine ⟨_, rfl, ?_⟩))
  go_ret
  exact ⟨by first | rfl | (simp [errW_none, errW_some] <;> rfl) | (simp [*, errW_none, errW_some] <;> rfl), by repeat (first | (with_reducible first | exact HB.out | apply below_alloc | apply pw_below_drewN | apply below_drew1) | exact HB.out)⟩
 ·replace c3 := Bool.eq_false_iff.mpr c3
  subst c3
  have H1 : ((spec_DrawDaysBetween.f k l0).bind fun bt384 => ((impl_DaysBetween.f k bt384.1 bt384.2.1 bt384.2.2.1 bt384.2.2.2).bind fun bt393 => ((spec_DaysBetween.f k bt384.1 bt384.2.1 bt384.2.2.1 bt384.2.2.2).bind fun bt395 => (if bt393.1 = bt395.1 then (laws_FnCalls.j0 k l0 bt384.2.2.1 bt384.2.2.2 bt393.1 bt393.2 (bt393.2 != bt395.2) bt384.1 bt384.2.1) else (none))))) = some r := by rw [if_neg (show ¬ (false = true) by decide)] at H; exact H
  clear H
  have H := H1
  clear H1
  replace H := Option.bind_eq_some_iff.mp H
  obtain ⟨⟨t384, t387, t390, t391⟩, A40, H⟩ := H
  replace H : ((impl_DaysBetween.f k t384 t387 t390 t391).bind fun bt393 => ((spec_DaysBetween.f k t384 t387 t390 t391).bind fun bt395 => (if bt393.1 = bt395.1 then (laws_FnCalls.j0 k l0 t390 t391 bt393.1 bt393.2 (bt393.2 != bt395.2) t384 t387) else (none)))) = some r := H
  have A4 := Aside0.mk A40
  clear A40
  replace H := Option.bind_eq_some_iff.mp H
  obtain ⟨⟨t393, t394⟩, A50, H⟩ := H
  replace H : ((spec_DaysBetween.f k t384 t387 t390 t391).bind fun bt395 => (if t393 = bt395.1 then (laws_FnCalls.j0 k l0 t390 t391 t393 t394 (t394 != bt395.2) t384 t387) else (none))) = some r := H
  have A5 := Aside0.mk A50
  clear A50
  replace H := Option.bind_eq_some_iff.mp H
  obtain ⟨⟨t395, t396⟩, A60, H⟩ := H
  replace H : (if t393 = t395 then (laws_FnCalls.j0 k l0 t390 t391 t393 t394 (t394 != t396) t384 t387) else (none)) = some r := H
  have A6 := Aside0.mk A60
  clear A60
  have HC7 := Aside0.mk H
  clear H
  go_enter Try.func3, Try.ntmps3
  go_upto_region 6 with (first | ((with_reducible refine gate_callee (f := 13) rfl ?_); refine goesL_ (some 41) rfl rfl Try.func13 (by kernel_rfl) rfl #[.slice A0 l0.length c0] rfl (by (try simp only [List.map_toArray, List.map_cons, List.map_nil]); first | done | rfl | (simp only [List.length_drop, List.length_take]; rfl)) ?_; (with_reducible refine (laws_rBig.calls _ _ l0 false _ ?side1 ?side2 A2.out).mono ?_); (case side1 => repeat (first | exact HR0.out | (with_reducible refine Kd.C_alloc ?_ _) | (with_reducible refine Kd.C_drewN ?_ _) | (with_reducible refine Kd.C_drew ?_))); (case side2 => exact HC0.out); rintro e w' ⟨rfl, ⟨nd, rfl⟩⟩; refine ⟨_, rfl, ?_⟩) | ((with_reducible refine gate_callee (f := 14) rfl ?_); refine goesL_ (some 44) rfl rfl Try.func14 (by kernel_rfl) rfl #[.slice A0 l0.length c0] rfl (by (try simp only [List.map_toArray, List.map_cons, List.map_nil]); first | done | rfl | (simp only [List.length_drop, List.length_take]; rfl)) ?_; (with_reducible refine (spec_DrawDaysBetween.calls k _ _ l0 t384 t387 t390 t391 _ ?side1 ?side2 A4.out).mono ?_); (case side1 => repeat (first | exact HR0.out | (with_reducible refine Kd.C_alloc ?_ _) | (with_reducible refine Kd.C_drewN ?_ _) | (with_reducible refine Kd.C_drew ?_))); (case side2 => exact HC0.out); rintro e w8 ⟨v385, v388, rfl, ho0, ho1, hb⟩; refine ⟨_, rfl, ?_⟩; have n0_ := Aside0.mk (Kd.R_lower ho0 (below_size (by repeat (first | (with_reducible first | exact HB.out | apply below_alloc | apply pw_below_drewN | apply below_drew1) | exact HB.out)))); have n1_ := Aside0.mk (Kd.Q_lower ho1 (below_size (by repeat (first | (with_reducible first | exact HB.out | apply below_alloc | apply pw_below_drewN | apply below_drew1) | exact HB.out)))); have n2_ := Aside0.mk (below_step (by repeat (first | (with_reducible first | exact HB.out | apply below_alloc | apply pw_below_drewN | apply below_drew1) | exact HB.out)) hb); clear HB; have HO386 := n0_; have HO389 := n1_; have HB := n2_; clear n0_ n1_ n2_; (try clear hb); (try clear hb2); (try clear hk); (try clear hi); (try clear ho0); (try clear ho1)) | ((with_reducible refine gate_dst (N := 3) rfl ?_); refine box_event ?hg (N := 3) ?hd (cs := #[.slice none 0 0, .slice none 0 0]) (t := 26) ?hr ?_; (case hd => rfl); (case hg => rfl); (case hr => first | (go_simp; done) | (go_simp; rfl)); intro gb392 hg w9 hbox hb; have n0_ := Aside0.mk (Kd.R_below (by (with_reducible repeat (first | apply Kd.R_alloc | apply Kd.R_drewN | apply Kd.R_drew)); exact HO386.out) hb); have n1_ := Aside0.mk (Kd.Q_below (by (with_reducible repeat (first | apply Kd.Q_alloc | apply Kd.Q_drewN | apply Kd.Q_drew)); exact HO389.out) hb); have n2_ := Aside0.mk (below_step (by repeat (first | (with_reducible first | exact HB.out | apply below_alloc | apply pw_below_drewN | apply below_drew1) | exact HB.out)) hb); have n3_ := Aside0.mk (hbox); have n4_ := Aside0.mk ((by rw [hg]; exact (below_size (by repeat (first | (with_reducible first | exact HB.out | apply below_alloc | apply pw_below_drewN | apply below_drew1) | exact HB.out))) : w.heap.size ≤ gb392)); have n5_ := Aside0.mk ((by rw [hg]; exact (below_size (by repeat (first | (with_reducible first | exact HB.out | apply below_alloc | apply pw_below_drewN | apply below_drew1) | exact HB.out))) : w.heap.size ≤ gb392)); clear HO386; clear HO389; clear HB; have HO386 := n0_; have HO389 := n1_; have HB := n2_; have BK392 := n3_; have GW392 := n4_; have GE392 := n5_; clear n0_ n1_ n2_ n3_ n4_ n5_; clear hb hbox hg; obtain ⟨Ao10, co10, eo10⟩ := Kd.R_slice HO386.out; subst eo10; have hcz11_0 : w9.cell? ⟨gb392, 0, none⟩ = some (.slice none 0 0) := (blk_cell BK392.out 0).trans rfl; have hcz11_1 : w9.cell? ⟨gb392, 1, none⟩ = some (.slice none 0 0) := (blk_cell BK392.out 1).trans rfl; have hfz11_0 := blk_frozen BK392.out 0; have hfz11_1 := blk_frozen BK392.out 1; obtain ⟨Ao12, co12, eo12, _⟩ := Kd.Q_slice HO389.out; subst eo12) | ((with_reducible refine gate_callee (f := 15) rfl ?_); refine goesL_ (some 52) rfl rfl Try.func15 (by kernel_rfl) rfl #[.agg #[.slice Ao10 t384.length co10, .slice Ao12 t387.length co12], .int .i64 t390, .int .i64 t391] rfl (by (try simp only [List.map_toArray, List.map_cons, List.map_nil]); first | done | rfl | (simp only [List.length_drop, List.length_take]; rfl)) ?_; (with_reducible refine (impl_DaysBetween.calls k _ _ t384 _ _ t387 t390 t391 t393 t394 _ ?side1 ?side2 ?side3 ?side4 A5.out).mono ?_); (case side1 => refine (Kd.R_reads' (e := 3) (base := w.heap.size) (ok := fun k_ => some k_ ≠ (.slice Ao12 t387.length co12 : Value).ownBlock) (n := t384.length) (c := co10) ?_).2.2; exact (by (with_reducible repeat (first | apply Kd.R_alloc | apply Kd.R_drewN | apply Kd.R_drew)); exact (Kd.R_mono (Kd.R_far (p := ⟨gb392, 1, none⟩) (Kd.R_far (p := ⟨gb392, 0, none⟩) (Kd.R_types HO386.out BK392.out (by decide)) (fun _ hk => hk.2) (.slice Ao10 t384.length co10)) (fun _ hk => hk.2) (.slice Ao12 t387.length co12)) (fun _ h_ => h_.1)))); (case side2 => exact (Kd.R_reads' HO386.out).2.1); (case side3 => refine (Kd.Q_reads' (e := 3) (base := w.heap.size) (ok := fun k_ => some k_ ≠ (.slice Ao10 t384.length co10 : Value).ownBlock) (n := t387.length) (c := co12) ?_).2.2; exact (by (with_reducible repeat (first | apply Kd.Q_alloc | apply Kd.Q_drewN | apply Kd.Q_drew)); exact (Kd.Q_mono (Kd.Q_far (p := ⟨gb392, 1, none⟩) (Kd.Q_far (p := ⟨gb392, 0, none⟩) (Kd.Q_types HO389.out BK392.out (by decide)) (fun _ hk => hk.2) (.slice Ao10 t384.length co10)) (fun _ hk => hk.2) (.slice Ao12 t387.length co12)) (fun _ h_ => h_.1)))); (case side4 => exact (Kd.Q_reads' HO389.out).2.1); rintro e w13 ⟨rfl, hb⟩; refine ⟨_, rfl, ?_⟩; have n0_ := Aside0.mk (Kd.R_below (by (with_reducible repeat (first | apply Kd.R_alloc | apply Kd.R_drewN | apply Kd.R_drew)); exact (Kd.R_mono (Kd.R_far (p := ⟨gb392, 1, none⟩) (Kd.R_far (p := ⟨gb392, 0, none⟩) (Kd.R_types HO386.out BK392.out (by decide)) (fun _ hk => hk.2) (.slice Ao10 t384.length co10)) (fun _ hk => hk.2) (.slice Ao12 t387.length co12)) (fun _ h_ => h_.1))) hb); have n1_ := Aside0.mk (Kd.Q_below (by (with_reducible repeat (first | apply Kd.Q_alloc | apply Kd.Q_drewN | apply Kd.Q_drew)); exact (Kd.Q_mono (Kd.Q_far (p := ⟨gb392, 1, none⟩) (Kd.Q_far (p := ⟨gb392, 0, none⟩) (Kd.Q_types HO389.out BK392.out (by decide)) (fun _ hk => hk.2) (.slice Ao10 t384.length co10)) (fun _ hk => hk.2) (.slice Ao12 t387.length co12)) (fun _ h_ => h_.1))) hb); have n2_ := Aside0.mk (blk_below (g := gb392) (o := .cells #[.slice Ao10 t384.length co10, .slice Ao12 t387.length co12] 26 (0, 0)) (by (with_reducible repeat (first | refine blk_drewN ?_ _ | refine blk_drew ?_ | refine blk_alloc ?_ _)); refine blk_put (cs := #[.slice Ao10 t384.length co10, .slice none 0 0]) ?_ 1 _ rfl; (with_reducible repeat (first | refine blk_drewN ?_ _ | refine blk_drew ?_ | refine blk_alloc ?_ _)); refine blk_put (cs := #[.slice none 0 0, .slice none 0 0]) ?_ 0 _ rfl; (with_reducible repeat (first | refine blk_drewN ?_ _ | refine blk_drew ?_ | refine blk_alloc ?_ _)); exact BK392.out) hb); have n3_ := Aside0.mk (below_step (by repeat (first | (with_reducible first | exact HB.out | apply below_alloc | apply pw_below_drewN | apply below_drew1 | refine below_set ?_ GE392.out) | exact HB.out)) hb); clear HO386; clear HO389; clear BK392; clear HB; have HO386 := n0_; have HO389 := n1_; have BK392 := n2_; have HB := n3_; clear n0_ n1_ n2_ n3_; (try clear hb); (try clear hb2); (try clear hk); (try clear hi); have hcz14_0 : w13.cell? ⟨gb392, 0, none⟩ = some (.slice Ao10 t384.length co10) := (blk_cell BK392.out 0).trans rfl; have hcz14_1 : w13.cell? ⟨gb392, 1, none⟩ = some (.slice Ao12 t387.length co12) := (blk_cell BK392.out 1).trans rfl; have hfz14_0 := blk_frozen BK392.out 0; have hfz14_1 := blk_frozen BK392.out 1) | ((with_reducible refine gate_callee (f := 16) rfl ?_); refine goesL_ (some 59) rfl rfl Try.func16 (by kernel_rfl) rfl #[.agg #[.slice Ao10 t384.length co10, .slice Ao12 t387.length co12], .int .i64 t390, .int .i64 t391] rfl (by (try simp only [List.map_toArray, List.map_cons, List.map_nil]); first | done | rfl | (simp only [List.length_drop, List.length_take]; rfl)) ?_; (with_reducible refine (spec_DaysBetween.calls k _ _ t384 _ _ t387 t390 t391 t395 t396 _ ?side1 ?side2 ?side3 ?side4 A6.out).mono ?_); (case side1 => repeat (first | exact (Kd.R_reads' HO386.out).2.2 | (with_reducible refine Kd.C_alloc ?_ _) | (with_reducible refine Kd.C_drewN ?_ _) | (with_reducible refine Kd.C_drew ?_))); (case side2 => exact (Kd.R_reads' HO386.out).2.1); (case side3 => repeat (first | exact (Kd.Q_reads' HO389.out).2.2 | (with_reducible refine Kd.C_alloc ?_ _) | (with_reducible refine Kd.C_drewN ?_ _) | (with_reducible refine Kd.C_drew ?_))); (case side4 => exact (Kd.Q_reads' HO389.out).2.1); rintro e w15 ⟨rfl, hb⟩; refine ⟨_, rfl, ?_⟩; have n0_ := Aside0.mk (Kd.R_below (by (with_reducible repeat (first | apply Kd.R_alloc | apply Kd.R_drewN | apply Kd.R_drew)); exact HO386.out) hb); have n1_ := Aside0.mk (Kd.Q_below (by (with_reducible repeat (first | apply Kd.Q_alloc | apply Kd.Q_drewN | apply Kd.Q_drew)); exact HO389.out) hb); have n2_ := Aside0.mk (blk_below (g := gb392) (o := .cells #[.slice Ao10 t384.length co10, .slice Ao12 t387.length co12] 26 (0, 0)) (by (with_reducible repeat (first | refine blk_drewN ?_ _ | refine blk_drew ?_ | refine blk_alloc ?_ _)); exact BK392.out) hb); have n3_ := Aside0.mk (below_step (by repeat (first | (with_reducible first | exact HB.out | apply below_alloc | apply pw_below_drewN | apply below_drew1 | refine below_set ?_ GE392.out) | exact HB.out)) hb); clear HO386; clear HO389; clear BK392; clear HB; have HO386 := n0_; have HO389 := n1_; have BK392 := n2_; have HB := n3_; clear n0_ n1_ n2_ n3_; (try clear hb); (try clear hb2); (try clear hk); (try clear hi)))
  (try simp only [Act.put, List.setIfInBounds_toArray, List.set_cons_zero, List.set_cons_succ])
  go_cut [69] (fun v69 wc => ∃ (kq : Nat) (x69_6 : Bool), v69 = .bool x69_6 ∧ Aside0 (laws_FnCalls.j0 kq l0 t390 t391 t393 t394 x69_6 t384 t387 = some r) ∧ Aside0 (kq ≤ k) ∧ Aside0 (Kd.R (Kd.int .i64) 3 wc w.heap.size (fun k_ => some k_ ≠ ((.slice Ao12 t387.length co12) : Value).ownBlock) (.slice Ao10 t384.length co10) t384) ∧ Aside0 (Kd.Q (Kd.int .i64) 3 wc w.heap.size (fun k_ => some k_ ≠ ((.slice Ao10 t384.length co10) : Value).ownBlock) (.slice Ao12 t387.length co12) t387) ∧ Aside0 (wc.heap[gb392]? = some (.cells #[(.slice Ao10 t384.length co10), (.slice Ao12 t387.length co12)] 26 (0, 0))) ∧ Aside0 (Below w.heap.size w wc))
  case first =>
   have H := HC7.out
   clear HC7
   by_cases c16 : t393 = t395
   ·rw [if_pos c16] at H
    have c16b0 : (t393 == t395) = true := beq_iff_eq.mpr c16
    have c16b1 : (t393 != t395) = false := bne_eq_false_iff_eq.mpr c16
    clear c16
    (first | rw [c16b0] | (simp only [i64_w, i32_w]; rw [c16b0]) | skip)
    have H' := Aside0.mk H
    clear H
    go_wp2
    go_meet
    case rel => exact ⟨_, ((t394 != t396)), (by first | rfl | (simp; done) | (simp [*]; done)), H', ⟨by first | omega | exact Nat.le_refl _⟩, ⟨by (with_reducible repeat (first | apply Kd.R_alloc | apply Kd.R_drewN | apply Kd.R_drew)); exact HO386.out⟩, ⟨by (with_reducible repeat (first | apply Kd.Q_alloc | apply Kd.Q_drewN | apply Kd.Q_drew)); exact HO389.out⟩, ⟨by (with_reducible repeat (first | refine blk_drewN ?_ _ | refine blk_drew ?_ | refine blk_alloc ?_ _)); exact BK392.out⟩, ⟨by repeat (first | (with_reducible first | exact HB.out | apply below_alloc | apply pw_below_drewN | apply below_drew1 | refine below_set ?_ GE392.out) | exact HB.out)⟩⟩
   ·rw [if_neg c16] at H
    have c16b0 : (t393 == t395) = false := beq_eq_false_iff_ne.mpr c16
    have c16b1 : (t393 != t395) = true := bne_iff_ne.mpr c16
    (first | rw [c16b0] | (simp only [i64_w, i32_w]; rw [c16b0]) | skip)
    exact absurd H (by simp)
  case rest => as_aux_lemma =>
   clear HC7
   try clear c1
   try clear p2
   try clear c3
   try clear c13
   try clear c14
   try clear c15
   try clear c16
   try clear c16b0
   try clear c16b1
   try clear hcz11_0
   try clear hcz11_1
   try clear hcz14_0
   try clear hcz14_1
   try clear hfz11_0
   try clear hfz11_1
   try clear hfz14_0
   try clear hfz14_1
   obtain ⟨kq, x69_6, rfl, HA, HJ6, HO_393000, HO_393001, BK392, HB⟩ := hcut
   cases kq with
   | zero => exact absurd HA.out (by simp [laws_FnCalls.j0])
   | succ kj6 =>
    have H := HA.out
    clear HA
    simp only [laws_FnCalls.j0] at H
    by_cases c17 : x69_6 = true
    ·subst c17
     have H1 : (none) = some r := by rw [if_pos rfl] at H; exact H
     clear H
     have H := H1
     clear H1
     exact absurd H (by simp)
    ·replace c17 := Bool.eq_false_iff.mpr c17
     subst c17
     have H1 : (if t394 = true then (laws_FnCalls.j1 kj6 l0 t390 t391 t393 (t390 != t391) t384 t387) else (laws_FnCalls.j1 kj6 l0 t390 t391 t393 false t384 t387)) = some r := by rw [if_neg (show ¬ (false = true) by decide)] at H; exact H
     clear H
     have H := H1
     clear H1
     have HC18 := Aside0.mk H
     clear H
     go_upto_region 8 with (fail)
     go_cut [75] (fun v75 wc => ∃ (kq : Nat) (x75_17 : Bool), v75 = .bool x75_17 ∧ Aside0 (laws_FnCalls.j1 kq l0 t390 t391 t393 x75_17 t384 t387 = some r) ∧ Aside0 (kq ≤ kj6) ∧ Aside0 (Kd.R (Kd.int .i64) 3 wc w.heap.size (fun k_ => some k_ ≠ ((.slice Ao12 t387.length co12) : Value).ownBlock) (.slice Ao10 t384.length co10) t384) ∧ Aside0 (Kd.Q (Kd.int .i64) 3 wc w.heap.size (fun k_ => some k_ ≠ ((.slice Ao10 t384.length co10) : Value).ownBlock) (.slice Ao12 t387.length co12) t387) ∧ Aside0 (wc.heap[gb392]? = some (.cells #[(.slice Ao10 t384.length co10), (.slice Ao12 t387.length co12)] 26 (0, 0))) ∧ Aside0 (Below w.heap.size w wc))
     case first =>
      have H := HC18.out
      clear HC18
      by_cases c19 : t394 = true
      ·subst c19
       have H1 : (laws_FnCalls.j1 kj6 l0 t390 t391 t393 (t390 != t391) t384 t387) = some r := by rw [if_pos rfl] at H; exact H
       clear H
       have H := H1
       clear H1
       have H' := Aside0.mk H
       clear H
       go_wp2
       go_meet
       case rel => exact ⟨_, ((t390 != t391)), (by first | rfl | (simp; done) | (simp [*]; done)), H', ⟨by have := HJ6.out; first | omega | exact Nat.le_refl _⟩, ⟨by (with_reducible repeat (first | apply Kd.R_alloc | apply Kd.R_drewN | apply Kd.R_drew)); exact HO_393000.out⟩, ⟨by (with_reducible repeat (first | apply Kd.Q_alloc | apply Kd.Q_drewN | apply Kd.Q_drew)); exact HO_393001.out⟩, ⟨by (with_reducible repeat (first | refine blk_drewN ?_ _ | refine blk_drew ?_ | refine blk_alloc ?_ _)); exact BK392.out⟩, ⟨by repeat (first | (with_reducible first | exact HB.out | apply below_alloc | apply pw_below_drewN | apply below_drew1 | refine below_set ?_ GE392.out) | exact HB.out)⟩⟩
      ·replace c19 := Bool.eq_false_iff.mpr c19
       subst c19
       have H1 : (laws_FnCalls.j1 kj6 l0 t390 t391 t393 false t384 t387) = some r := by rw [if_neg (show ¬ (false = true) by decide)] at H; exact H
       clear H
       have H := H1
       clear H1
       have H' := Aside0.mk H
       clear H
       go_wp2
       go_meet
       case rel => exact ⟨_, (false), (by first | rfl | (simp; done) | (simp [*]; done)), H', ⟨by have := HJ6.out; first | omega | exact Nat.le_refl _⟩, ⟨by (with_reducible repeat (first | apply Kd.R_alloc | apply Kd.R_drewN | apply Kd.R_drew)); exact HO_393000.out⟩, ⟨by (with_reducible repeat (first | apply Kd.Q_alloc | apply Kd.Q_drewN | apply Kd.Q_drew)); exact HO_393001.out⟩, ⟨by (with_reducible repeat (first | refine blk_drewN ?_ _ | refine blk_drew ?_ | refine blk_alloc ?_ _)); exact BK392.out⟩, ⟨by repeat (first | (with_reducible first | exact HB.out | apply below_alloc | apply pw_below_drewN | apply below_drew1 | refine below_set ?_ GE392.out) | exact HB.out)⟩⟩
     case rest => as_aux_lemma =>
      clear HC18
      try clear c1
      try clear p2
      try clear c3
      try clear c13
      try clear c14
      try clear c15
      try clear c16
      try clear c16b0
      try clear c16b1
      try clear c17
      try clear c19
      try clear hcz11_0
      try clear hcz11_1
      try clear hcz14_0
      try clear hcz14_1
      try clear hfz11_0
      try clear hfz11_1
      try clear hfz14_0
      try clear hfz14_1
      try clear p2
      obtain ⟨kq, x75_17, rfl, HA, HJ17, HO_393000, HO_393001, BK392, HB⟩ := hcut
      cases kq with
      | zero => exact absurd HA.out (by simp [laws_FnCalls.j1])
      | succ kj17 =>
       have H := HA.out
       clear HA
       simp only [laws_FnCalls.j1] at H
       have HC20 := Aside0.mk H
       clear H
       go_upto_if 75 with (fail)
       go_cut [] (fun wc => ∃ (kq : Nat), Aside0 (laws_FnCalls.j2 kq l0 = some r) ∧ Aside0 (kq ≤ kj17) ∧ Aside0 (Kd.R (Kd.int .i64) 3 wc w.heap.size (fun k_ => some k_ ≠ ((.slice Ao12 t387.length co12) : Value).ownBlock) (.slice Ao10 t384.length co10) t384) ∧ Aside0 (Kd.Q (Kd.int .i64) 3 wc w.heap.size (fun k_ => some k_ ≠ ((.slice Ao10 t384.length co10) : Value).ownBlock) (.slice Ao12 t387.length co12) t387) ∧ Aside0 (wc.heap[gb392]? = some (.cells #[(.slice Ao10 t384.length co10), (.slice Ao12 t387.length co12)] 26 (0, 0))) ∧ Aside0 (Below w.heap.size w wc))
       case first =>
        have H := HC20.out
        clear HC20
        by_cases c21 : x75_17 = true
        ·subst c21
         have H1 : ((impl_DaysBetween.f kj17 t384 t387 t391 t390).bind fun bt397 => ((impl_CycleDays.f kj17 t384 t387).bind fun bt399 => (if bt397.2 = true then (if bt399.2 = true then (if (wrap64 (t393 + bt397.1)) = bt399.1 then (laws_FnCalls.j2 kj17 l0) else (none)) else (none)) else (none)))) = some r := by rw [if_pos rfl] at H; exact H
         clear H
         have H := H1
         clear H1
         replace H := Option.bind_eq_some_iff.mp H
         obtain ⟨⟨t397, t398⟩, A220, H⟩ := H
         replace H : ((impl_CycleDays.f kj17 t384 t387).bind fun bt399 => (if t398 = true then (if bt399.2 = true then (if (wrap64 (t393 + t397)) = bt399.1 then (laws_FnCalls.j2 kj17 l0) else (none)) else (none)) else (none))) = some r := H
         have A22 := Aside0.mk A220
         clear A220
         replace H := Option.bind_eq_some_iff.mp H
         obtain ⟨⟨t399, t400⟩, A230, H⟩ := H
         replace H : (if t398 = true then (if t400 = true then (if (wrap64 (t393 + t397)) = t399 then (laws_FnCalls.j2 kj17 l0) else (none)) else (none)) else (none)) = some r := H
         have A23 := Aside0.mk A230
         clear A230
         by_cases c24 : t398 = true
         ·subst c24
          have H1 : (if t400 = true then (if (wrap64 (t393 + t397)) = t399 then (laws_FnCalls.j2 kj17 l0) else (none)) else (none)) = some r := by rw [if_pos rfl] at H; exact H
          clear H
          have H := H1
          clear H1
          by_cases c25 : t400 = true
          ·subst c25
           have H1 : (if (wrap64 (t393 + t397)) = t399 then (laws_FnCalls.j2 kj17 l0) else (none)) = some r := by rw [if_pos rfl] at H; exact H
           clear H
           have H := H1
           clear H1
           by_cases c26 : (wrap64 (t393 + t397)) = t399
           ·rw [if_pos c26] at H
            have c26b0 : ((wrap64 (t393 + t397)) == t399) = true := beq_iff_eq.mpr c26
            have c26b1 : ((wrap64 (t393 + t397)) != t399) = false := bne_eq_false_iff_eq.mpr c26
            clear c26
            (first | rw [c26b0] | (simp only [i64_w, i32_w]; rw [c26b0]) | skip)
            have H' := Aside0.mk H
            clear H
            have hcz27_0 : wc.cell? ⟨gb392, 0, none⟩ = some (.slice Ao10 t384.length co10) := (blk_cell BK392.out 0).trans rfl
            have hcz27_1 : wc.cell? ⟨gb392, 1, none⟩ = some (.slice Ao12 t387.length co12) := (blk_cell BK392.out 1).trans rfl
            have hfz27_0 := blk_frozen BK392.out 0
            have hfz27_1 := blk_frozen BK392.out 1
            go_wp2_with (first | ((with_reducible refine gate_callee (f := 15) rfl ?_); refine goesL_ (some 80) rfl rfl Try.func15 (by kernel_rfl) rfl #[.agg #[.slice Ao10 t384.length co10, .slice Ao12 t387.length co12], .int .i64 t391, .int .i64 t390] rfl (by (try simp only [List.map_toArray, List.map_cons, List.map_nil]); first | done | rfl | (simp only [List.length_drop, List.length_take]; rfl)) ?_; (with_reducible refine (impl_DaysBetween.calls kj17 _ _ t384 _ _ t387 t391 t390 t397 true _ ?side1 ?side2 ?side3 ?side4 A22.out).mono ?_); (case side1 => repeat (first | exact (Kd.R_reads' HO_393000.out).2.2 | (with_reducible refine Kd.C_alloc ?_ _) | (with_reducible refine Kd.C_drewN ?_ _) | (with_reducible refine Kd.C_drew ?_))); (case side2 => exact (Kd.R_reads' HO_393000.out).2.1); (case side3 => repeat (first | exact (Kd.Q_reads' HO_393001.out).2.2 | (with_reducible refine Kd.C_alloc ?_ _) | (with_reducible refine Kd.C_drewN ?_ _) | (with_reducible refine Kd.C_drew ?_))); (case side4 => exact (Kd.Q_reads' HO_393001.out).2.1); rintro e w28 ⟨rfl, hb⟩; refine ⟨_, rfl, ?_⟩; have n0_ := Aside0.mk (Kd.R_below (by (with_reducible repeat (first | apply Kd.R_alloc | apply Kd.R_drewN | apply Kd.R_drew)); exact HO_393000.out) hb); have n1_ := Aside0.mk (Kd.Q_below (by (with_reducible repeat (first | apply Kd.Q_alloc | apply Kd.Q_drewN | apply Kd.Q_drew)); exact HO_393001.out) hb); have n2_ := Aside0.mk (blk_below (g := gb392) (o := .cells #[.slice Ao10 t384.length co10, .slice Ao12 t387.length co12] 26 (0, 0)) (by (with_reducible repeat (first | refine blk_drewN ?_ _ | refine blk_drew ?_ | refine blk_alloc ?_ _)); exact BK392.out) hb); have n3_ := Aside0.mk (below_step (by repeat (first | (with_reducible first | exact HB.out | apply below_alloc | apply pw_below_drewN | apply below_drew1 | refine below_set ?_ GE392.out) | exact HB.out)) hb); clear HO_393000; clear HO_393001; clear BK392; clear HB; have HO_393000 := n0_; have HO_393001 := n1_; have BK392 := n2_; have HB := n3_; clear n0_ n1_ n2_ n3_; (try clear hb); (try clear hb2); (try clear hk); (try clear hi); have hcz29_0 : w28.cell? ⟨gb392, 0, none⟩ = some (.slice Ao10 t384.length co10) := (blk_cell BK392.out 0).trans rfl; have hcz29_1 : w28.cell? ⟨gb392, 1, none⟩ = some (.slice Ao12 t387.length co12) := (blk_cell BK392.out 1).trans rfl; have hfz29_0 := blk_frozen BK392.out 0; have hfz29_1 := blk_frozen BK392.out 1) | ((with_reducible refine gate_callee (f := 17) rfl ?_); refine goesL_ (some 85) rfl rfl Try.func17 (by kernel_rfl) rfl #[.agg #[.slice Ao10 t384.length co10, .slice Ao12 t387.length co12]] rfl (by (try simp only [List.map_toArray, List.map_cons, List.map_nil]); first | done | rfl | (simp only [List.length_drop, List.length_take]; rfl)) ?_; (with_reducible refine (impl_CycleDays.calls kj17 _ _ t384 _ _ t387 t399 true _ ?side1 ?side2 ?side3 ?side4 A23.out).mono ?_); (case side1 => repeat (first | exact (Kd.R_reads' HO_393000.out).2.2 | (with_reducible refine Kd.C_alloc ?_ _) | (with_reducible refine Kd.C_drewN ?_ _) | (with_reducible refine Kd.C_drew ?_))); (case side2 => exact (Kd.R_reads' HO_393000.out).2.1); (case side3 => repeat (first | exact (Kd.Q_reads' HO_393001.out).2.2 | (with_reducible refine Kd.C_alloc ?_ _) | (with_reducible refine Kd.C_drewN ?_ _) | (with_reducible refine Kd.C_drew ?_))); (case side4 => exact (Kd.Q_reads' HO_393001.out).2.1); rintro e w30 ⟨rfl, hb⟩; refine ⟨_, rfl, ?_⟩; have n0_ := Aside0.mk (Kd.R_below (by (with_reducible repeat (first | apply Kd.R_alloc | apply Kd.R_drewN | apply Kd.R_drew)); exact HO_393000.out) hb); have n1_ := Aside0.mk (Kd.Q_below (by (with_reducible repeat (first | apply Kd.Q_alloc | apply Kd.Q_drewN | apply Kd.Q_drew)); exact HO_393001.out) hb); have n2_ := Aside0.mk (blk_below (g := gb392) (o := .cells #[.slice Ao10 t384.length co10, .slice Ao12 t387.length co12] 26 (0, 0)) (by (with_reducible repeat (first | refine blk_drewN ?_ _ | refine blk_drew ?_ | refine blk_alloc ?_ _)); exact BK392.out) hb); have n3_ := Aside0.mk (below_step (by repeat (first | (with_reducible first | exact HB.out | apply below_alloc | apply pw_below_drewN | apply below_drew1 | refine below_set ?_ GE392.out) | exact HB.out)) hb); clear HO_393000; clear HO_393001; clear BK392; clear HB; have HO_393000 := n0_; have HO_393001 := n1_; have BK392 := n2_; have HB := n3_; clear n0_ n1_ n2_ n3_; (try clear hb); (try clear hb2); (try clear hk); (try clear hi)))
            go_meet
            case rel => exact ⟨_, H', ⟨by have := HJ6.out; have := HJ17.out; first | omega | exact Nat.le_refl _⟩, ⟨by (with_reducible repeat (first | apply Kd.R_alloc | apply Kd.R_drewN | apply Kd.R_drew)); exact HO_393000.out⟩, ⟨by (with_reducible repeat (first | apply Kd.Q_alloc | apply Kd.Q_drewN | apply Kd.Q_drew)); exact HO_393001.out⟩, ⟨by (with_reducible repeat (first | refine blk_drewN ?_ _ | refine blk_drew ?_ | refine blk_alloc ?_ _)); exact BK392.out⟩, ⟨by repeat (first | (with_reducible first | exact HB.out | apply below_alloc | apply pw_below_drewN | apply below_drew1 | refine below_set ?_ GE392.out) | exact HB.out)⟩⟩
           ·rw [if_neg c26] at H
            have c26b0 : ((wrap64 (t393 + t397)) == t399) = false := beq_eq_false_iff_ne.mpr c26
            have c26b1 : ((wrap64 (t393 + t397)) != t399) = true := bne_iff_ne.mpr c26
            (first | rw [c26b0] | (simp only [i64_w, i32_w]; rw [c26b0]) | skip)
            exact absurd H (by simp)
          ·replace c25 := Bool.eq_false_iff.mpr c25
           subst c25
           have H1 : (none) = some r := by rw [if_neg (show ¬ (false = true) by decide)] at H; exact H
           clear H
           have H := H1
           clear H1
           exact absurd H (by simp)
         ·replace c24 := Bool.eq_false_iff.mpr c24
          subst c24
          have H1 : (none) = some r := by rw [if_neg (show ¬ (false = true) by decide)] at H; exact H
          clear H
          have H := H1
          clear H1
          exact absurd H (by simp)
        ·replace c21 := Bool.eq_false_iff.mpr c21
         subst c21
         have H1 : (laws_FnCalls.j2 kj17 l0) = some r := by rw [if_neg (show ¬ (false = true) by decide)] at H; exact H
         clear H
         have H := H1
         clear H1
         have H' := Aside0.mk H
         clear H
         go_wp2
         go_meet
         case rel => exact ⟨_, H', ⟨by have := HJ6.out; have := HJ17.out; first | omega | exact Nat.le_refl _⟩, ⟨by (with_reducible repeat (first | apply Kd.R_alloc | apply Kd.R_drewN | apply Kd.R_drew)); exact HO_393000.out⟩, ⟨by (with_reducible repeat (first | apply Kd.Q_alloc | apply Kd.Q_drewN | apply Kd.Q_drew)); exact HO_393001.out⟩, ⟨by (with_reducible repeat (first | refine blk_drewN ?_ _ | refine blk_drew ?_ | refine blk_alloc ?_ _)); exact BK392.out⟩, ⟨by repeat (first | (with_reducible first | exact HB.out | apply below_alloc | apply pw_below_drewN | apply below_drew1 | refine below_set ?_ GE392.out) | exact HB.out)⟩⟩
       case rest => as_aux_lemma =>
        clear HC20
        try clear c1
        try clear c2
        try clear p2
        try clear c3
        try clear p6
        try clear c13
        try clear c14
        try clear c15
        try clear c16
        try clear c16b0
        try clear c16b1
        try clear c17
        try clear c19
        try clear c21
        try clear c24
        try clear c25
        try clear c26
        try clear c26b0
        try clear c26b1
        try clear hcz11_0
        try clear hcz11_1
        try clear hcz14_0
        try clear hcz14_1
        try clear hcz27_0
        try clear hcz27_1
        try clear hcz29_0
        try clear hcz29_1
        try clear hcz31_0
        try clear hcz31_1
        try clear hcz33_0
        try clear hcz33_1
        try clear hcz35_0
        try clear hcz35_1
        try clear hcz37_0
        try clear hcz37_1
        try clear hcz39_0
        try clear hcz39_1
        try clear hcz41_0
        try clear hcz41_1
        try clear hfz11_0
        try clear hfz11_1
        try clear hfz14_0
        try clear hfz14_1
        try clear hfz27_0
        try clear hfz27_1
        try clear hfz29_0
        try clear hfz29_1
        try clear hfz31_0
        try clear hfz31_1
        try clear hfz33_0
        try clear hfz33_1
        try clear hfz35_0
        try clear hfz35_1
        try clear hfz37_0
        try clear hfz37_1
        try clear hfz39_0
        try clear hfz39_1
        try clear hfz41_0
        try clear hfz41_1
        try clear p2
        obtain ⟨kq, HA, HJ19, HO_393000, HO_393001, BK392, HB⟩ := hcut
        cases kq with
        | zero => exact absurd HA.out (by simp [laws_FnCalls.j2])
        | succ kj19 =>
         have H := HA.out
         clear HA
         simp only [laws_FnCalls.j2] at H
         replace H := Option.bind_eq_some_iff.mp H
         obtain ⟨⟨t401, t404, t407, t408⟩, A430, H⟩ := H
         replace H : ((impl_BestLoading.f kj19 t401 t404 t407 t408).bind fun bt410 => ((spec_BestLoading.f kj19 t401 t404 t407 t408).bind fun bt413 => (if bt410.1 = bt413.1 then (if bt410.2.1 = bt413.2.1 then (laws_FnCalls.j3 kj19 l0 t407 t408 bt410.1 bt410.2.1 bt410.2.2 (bt410.2.2 != bt413.2.2) t401 t404) else (none)) else (none)))) = some r := H
         have A43 := Aside0.mk A430
         clear A430
         replace H := Option.bind_eq_some_iff.mp H
         obtain ⟨⟨t410, t411, t412⟩, A440, H⟩ := H
         replace H : ((spec_BestLoading.f kj19 t401 t404 t407 t408).bind fun bt413 => (if t410 = bt413.1 then (if t411 = bt413.2.1 then (laws_FnCalls.j3 kj19 l0 t407 t408 t410 t411 t412 (t412 != bt413.2.2) t401 t404) else (none)) else (none))) = some r := H
         have A44 := Aside0.mk A440
         clear A440
         replace H := Option.bind_eq_some_iff.mp H
         obtain ⟨⟨t413, t414, t415⟩, A450, H⟩ := H
         replace H : (if t410 = t413 then (if t411 = t414 then (laws_FnCalls.j3 kj19 l0 t407 t408 t410 t411 t412 (t412 != t415) t401 t404) else (none)) else (none)) = some r := H
         have A45 := Aside0.mk A450
         clear A450
         have HC46 := Aside0.mk H
         clear H
         go_upto_region 16 with (first | ((with_reducible refine gate_callee (f := 18) rfl ?_); refine goesL_ (some 103) rfl rfl Try.func18 (by kernel_rfl) rfl #[.slice A0 l0.length c0] rfl (by (try simp only [List.map_toArray, List.map_cons, List.map_nil]); first | done | rfl | (simp only [List.length_drop, List.length_take]; rfl)) ?_; (with_reducible refine (spec_DrawBestLoading.calls kj19 _ _ l0 t401 t404 t407 t408 _ ?side1 ?side2 A43.out).mono ?_); (case side1 => repeat (first | exact (Kd.C_below HR0.out HB.out) | (with_reducible refine Kd.C_alloc ?_ _) | (with_reducible refine Kd.C_drewN ?_ _) | (with_reducible refine Kd.C_drew ?_))); (case side2 => exact HC0.out); rintro e w47 ⟨v402, v405, rfl, ho0, ho1, hb⟩; refine ⟨_, rfl, ?_⟩; have n0_ := Aside0.mk (Kd.R_mono (Kd.R_told (Kd.R_told (Kd.R_old (by (with_reducible repeat (first | apply Kd.R_alloc | apply Kd.R_drewN | apply Kd.R_drew)); exact HO_393000.out) hb) (Kd.R_base ho0)) (Kd.Q_base ho1)) (fun _ h_ => h_.1)); have n1_ := Aside0.mk (Kd.Q_mono (Kd.Q_told (Kd.Q_told (Kd.Q_old (by (with_reducible repeat (first | apply Kd.Q_alloc | apply Kd.Q_drewN | apply Kd.Q_drew)); exact HO_393001.out) hb) (Kd.R_base ho0)) (Kd.Q_base ho1)) (fun _ h_ => h_.1)); have n2_ := Aside0.mk (Kd.R_lower (Kd.R_new' (Kd.R_new' ho0 (Kd.R_lt (by (with_reducible repeat (first | apply Kd.R_alloc | apply Kd.R_drewN | apply Kd.R_drew)); exact HO_393000.out))) (Kd.Q_lt (by (with_reducible repeat (first | apply Kd.Q_alloc | apply Kd.Q_drewN | apply Kd.Q_drew)); exact HO_393001.out))) (below_size (by repeat (first | (with_reducible first | exact HB.out | apply below_alloc | apply pw_below_drewN | apply below_drew1 | refine below_set ?_ GE392.out) | exact HB.out)))); have n3_ := Aside0.mk (Kd.Q_lower (Kd.Q_new' (Kd.Q_new' ho1 (Kd.R_lt (by (with_reducible repeat (first | apply Kd.R_alloc | apply Kd.R_drewN | apply Kd.R_drew)); exact HO_393000.out))) (Kd.Q_lt (by (with_reducible repeat (first | apply Kd.Q_alloc | apply Kd.Q_drewN | apply Kd.Q_drew)); exact HO_393001.out))) (below_size (by repeat (first | (with_reducible first | exact HB.out | apply below_alloc | apply pw_below_drewN | apply below_drew1 | refine below_set ?_ GE392.out) | exact HB.out)))); have n4_ := Aside0.mk (blk_below (g := gb392) (o := .cells #[.slice Ao10 t384.length co10, .slice Ao12 t387.length co12] 26 (0, 0)) (by (with_reducible repeat (first | refine blk_drewN ?_ _ | refine blk_drew ?_ | refine blk_alloc ?_ _)); exact BK392.out) hb); have n5_ := Aside0.mk (below_step (by repeat (first | (with_reducible first | exact HB.out | apply below_alloc | apply pw_below_drewN | apply below_drew1 | refine below_set ?_ GE392.out) | exact HB.out)) hb); clear HO_393000; clear HO_393001; clear BK392; clear HB; have HO_393000 := n0_; have HO_393001 := n1_; have HO403 := n2_; have HO406 := n3_; have BK392 := n4_; have HB := n5_; clear n0_ n1_ n2_ n3_ n4_ n5_; (try clear hb); (try clear hb2); (try clear hk); (try clear hi); (try clear ho0); (try clear ho1)) | ((with_reducible refine gate_dst (N := 14) rfl ?_); refine box_event ?hg (N := 14) ?hd (cs := #[.slice none 0 0, .slice none 0 0]) (t := 26) ?hr ?_; (case hd => rfl); (case hg => rfl); (case hr => first | (go_simp; done) | (go_simp; rfl)); intro gb409 hg w48 hbox hb; have n0_ := Aside0.mk (Kd.R_below (by (with_reducible repeat (first | apply Kd.R_alloc | apply Kd.R_drewN | apply Kd.R_drew)); exact HO_393000.out) hb); have n1_ := Aside0.mk (Kd.Q_below (by (with_reducible repeat (first | apply Kd.Q_alloc | apply Kd.Q_drewN | apply Kd.Q_drew)); exact HO_393001.out) hb); have n2_ := Aside0.mk (Kd.R_below (by (with_reducible repeat (first | apply Kd.R_alloc | apply Kd.R_drewN | apply Kd.R_drew)); exact HO403.out) hb); have n3_ := Aside0.mk (Kd.Q_below (by (with_reducible repeat (first | apply Kd.Q_alloc | apply Kd.Q_drewN | apply Kd.Q_drew)); exact HO406.out) hb); have n4_ := Aside0.mk (blk_below (g := gb392) (o := .cells #[.slice Ao10 t384.length co10, .slice Ao12 t387.length co12] 26 (0, 0)) (by (with_reducible repeat (first | refine blk_drewN ?_ _ | refine blk_drew ?_ | refine blk_alloc ?_ _)); exact BK392.out) hb); have n5_ := Aside0.mk (below_step (by repeat (first | (with_reducible first | exact HB.out | apply below_alloc | apply pw_below_drewN | apply below_drew1 | refine below_set ?_ GE392.out) | exact HB.out)) hb); have n6_ := Aside0.mk (hbox); have n7_ := Aside0.mk ((by rw [hg]; exact (below_size (by repeat (first | (with_reducible first | exact HB.out | apply below_alloc | apply pw_below_drewN | apply below_drew1 | refine below_set ?_ GE392.out) | exact HB.out))) : w.heap.size ≤ gb409)); have n8_ := Aside0.mk ((by rw [hg]; exact (below_size (by repeat (first | (with_reducible first | exact HB.out | apply below_alloc | apply pw_below_drewN | apply below_drew1 | refine below_set ?_ GE392.out) | exact HB.out))) : w.heap.size ≤ gb409)); have n9_ := Aside0.mk ((by rw [hg]; exact Nat.ne_of_lt (blk_lt (g := gb392) (o := .cells #[.slice Ao10 t384.length co10, .slice Ao12 t387.length co12] 26 (0, 0)) (by (with_reducible repeat (first | refine blk_drewN ?_ _ | refine blk_drew ?_ | refine blk_alloc ?_ _)); exact BK392.out)) : gb392 ≠ gb409)); have n10_ := Aside0.mk ((by rw [hg]; exact Nat.ne_of_gt (blk_lt (g := gb392) (o := .cells #[.slice Ao10 t384.length co10, .slice Ao12 t387.length co12] 26 (0, 0)) (by (with_reducible repeat (first | refine blk_drewN ?_ _ | refine blk_drew ?_ | refine blk_alloc ?_ _)); exact BK392.out)) : gb409 ≠ gb392)); clear HO_393000; clear HO_393001; clear HO403; clear HO406; clear BK392; clear HB; have HO_393000 := n0_; have HO_393001 := n1_; have HO403 := n2_; have HO406 := n3_; have BK392 := n4_; have HB := n5_; have BK409 := n6_; have GW409 := n7_; have GE409 := n8_; have NB392_409 := n9_; have NB409_392 := n10_; clear n0_ n1_ n2_ n3_ n4_ n5_ n6_ n7_ n8_ n9_ n10_; clear hb hbox hg; obtain ⟨Ao49, co49, eo49⟩ := Kd.R_slice HO403.out; subst eo49; have hnb50 := NB409_392.out; have hnc50 := NB392_409.out; have hcz51_0 : w48.cell? ⟨gb409, 0, none⟩ = some (.slice none 0 0) := (blk_cell BK409.out 0).trans rfl; have hcz51_1 : w48.cell? ⟨gb409, 1, none⟩ = some (.slice none 0 0) := (blk_cell BK409.out 1).trans rfl; have hfz51_0 := blk_frozen BK409.out 0; have hfz51_1 := blk_frozen BK409.out 1; obtain ⟨Ao52, co52, eo52, _⟩ := Kd.Q_slice HO406.out; subst eo52) | ((with_reducible refine gate_callee (f := 19) rfl ?_); refine goesL_ (some 111) rfl rfl Try.func19 (by kernel_rfl) rfl #[.agg #[.slice Ao49 t401.length co49, .slice Ao52 t404.length co52], .int .i64 t407, .int .i64 t408] rfl (by (try simp only [List.map_toArray, List.map_cons, List.map_nil]); first | done | rfl | (simp only [List.length_drop, List.length_take]; rfl)) ?_; (with_reducible refine (impl_BestLoading.calls kj19 _ _ t401 _ _ t404 t407 t408 t410 t411 t412 _ ?side1 ?side2 ?side3 ?side4 A44.out).mono ?_); (case side1 => refine (Kd.R_reads' (e := 3) (base := w.heap.size) (ok := fun k_ => ((some k_ ≠ (.slice Ao52 t404.length co52 : Value).ownBlock ∧ some k_ ≠ (.slice Ao10 t384.length co10 : Value).ownBlock) ∧ some k_ ≠ (.slice Ao12 t387.length co12 : Value).ownBlock)) (n := t401.length) (c := co49) ?_).2.2; exact (by (with_reducible repeat (first | apply Kd.R_alloc | apply Kd.R_drewN | apply Kd.R_drew)); exact (Kd.R_mono (Kd.R_far (p := ⟨gb409, 1, none⟩) (Kd.R_far (p := ⟨gb409, 0, none⟩) (Kd.R_types HO403.out BK409.out (by decide)) (fun _ hk => hk.2) (.slice Ao49 t401.length co49)) (fun _ hk => hk.2) (.slice Ao52 t404.length co52)) (fun _ h_ => h_.1)))); (case side2 => exact (Kd.R_reads' HO403.out).2.1); (case side3 => refine (Kd.Q_reads' (e := 3) (base := w.heap.size) (ok := fun k_ => ((some k_ ≠ (.slice Ao49 t401.length co49 : Value).ownBlock ∧ some k_ ≠ (.slice Ao10 t384.length co10 : Value).ownBlock) ∧ some k_ ≠ (.slice Ao12 t387.length co12 : Value).ownBlock)) (n := t404.length) (c := co52) ?_).2.2; exact (by (with_reducible repeat (first | apply Kd.Q_alloc | apply Kd.Q_drewN | apply Kd.Q_drew)); exact (Kd.Q_mono (Kd.Q_far (p := ⟨gb409, 1, none⟩) (Kd.Q_far (p := ⟨gb409, 0, none⟩) (Kd.Q_types HO406.out BK409.out (by decide)) (fun _ hk => hk.2) (.slice Ao49 t401.length co49)) (fun _ hk => hk.2) (.slice Ao52 t404.length co52)) (fun _ h_ => h_.1)))); (case side4 => exact (Kd.Q_reads' HO406.out).2.1); rintro e w53 ⟨rfl, hb⟩; refine ⟨_, rfl, ?_⟩; have n0_ := Aside0.mk (Kd.R_below (by (with_reducible repeat (first | apply Kd.R_alloc | apply Kd.R_drewN | apply Kd.R_drew)); exact (Kd.R_mono (Kd.R_far (p := ⟨gb409, 1, none⟩) (Kd.R_far (p := ⟨gb409, 0, none⟩) (Kd.R_types HO_393000.out BK409.out (by decide)) (fun _ hk => hk.2) (.slice Ao49 t401.length co49)) (fun _ hk => hk.2) (.slice Ao52 t404.length co52)) (fun _ h_ => h_.1))) hb); have n1_ := Aside0.mk (Kd.Q_below (by (with_reducible repeat (first | apply Kd.Q_alloc | apply Kd.Q_drewN | apply Kd.Q_drew)); exact (Kd.Q_mono (Kd.Q_far (p := ⟨gb409, 1, none⟩) (Kd.Q_far (p := ⟨gb409, 0, none⟩) (Kd.Q_types HO_393001.out BK409.out (by decide)) (fun _ hk => hk.2) (.slice Ao49 t401.length co49)) (fun _ hk => hk.2) (.slice Ao52 t404.length co52)) (fun _ h_ => h_.1))) hb); have n2_ := Aside0.mk (Kd.R_below (by (with_reducible repeat (first | apply Kd.R_alloc | apply Kd.R_drewN | apply Kd.R_drew)); exact (Kd.R_mono (Kd.R_far (p := ⟨gb409, 1, none⟩) (Kd.R_far (p := ⟨gb409, 0, none⟩) (Kd.R_types HO403.out BK409.out (by decide)) (fun _ hk => hk.2) (.slice Ao49 t401.length co49)) (fun _ hk => hk.2) (.slice Ao52 t404.length co52)) (fun _ h_ => h_.1))) hb); have n3_ := Aside0.mk (Kd.Q_below (by (with_reducible repeat (first | apply Kd.Q_alloc | apply Kd.Q_drewN | apply Kd.Q_drew)); exact (Kd.Q_mono (Kd.Q_far (p := ⟨gb409, 1, none⟩) (Kd.Q_far (p := ⟨gb409, 0, none⟩) (Kd.Q_types HO406.out BK409.out (by decide)) (fun _ hk => hk.2) (.slice Ao49 t401.length co49)) (fun _ hk => hk.2) (.slice Ao52 t404.length co52)) (fun _ h_ => h_.1))) hb); have n4_ := Aside0.mk (blk_below (g := gb392) (o := .cells #[.slice Ao10 t384.length co10, .slice Ao12 t387.length co12] 26 (0, 0)) (by (with_reducible repeat (first | refine blk_drewN ?_ _ | refine blk_drew ?_ | refine blk_alloc ?_ _)); refine blk_far ?_ NB392_409.out _; (with_reducible repeat (first | refine blk_drewN ?_ _ | refine blk_drew ?_ | refine blk_alloc ?_ _)); refine blk_far ?_ NB392_409.out _; (with_reducible repeat (first | refine blk_drewN ?_ _ | refine blk_drew ?_ | refine blk_alloc ?_ _)); exact BK392.out) hb); have n5_ := Aside0.mk (blk_below (g := gb409) (o := .cells #[.slice Ao49 t401.length co49, .slice Ao52 t404.length co52] 26 (0, 0)) (by (with_reducible repeat (first | refine blk_drewN ?_ _ | refine blk_drew ?_ | refine blk_alloc ?_ _)); refine blk_put (cs := #[.slice Ao49 t401.length co49, .slice none 0 0]) ?_ 1 _ rfl; (with_reducible repeat (first | refine blk_drewN ?_ _ | refine blk_drew ?_ | refine blk_alloc ?_ _)); refine blk_put (cs := #[.slice none 0 0, .slice none 0 0]) ?_ 0 _ rfl; (with_reducible repeat (first | refine blk_drewN ?_ _ | refine blk_drew ?_ | refine blk_alloc ?_ _)); exact BK409.out) hb); have n6_ := Aside0.mk (below_step (by repeat (first | (with_reducible first | exact HB.out | apply below_alloc | apply pw_below_drewN | apply below_drew1 | refine below_set ?_ GE392.out | refine below_set ?_ GE409.out) | exact HB.out)) hb); clear HO_393000; clear HO_393001; clear HO403; clear HO406; clear BK392; clear BK409; clear HB; have HO_393000 := n0_; have HO_393001 := n1_; have HO403 := n2_; have HO406 := n3_; have BK392 := n4_; have BK409 := n5_; have HB := n6_; clear n0_ n1_ n2_ n3_ n4_ n5_ n6_; (try clear hb); (try clear hb2); (try clear hk); (try clear hi); have hcz54_0 : w53.cell? ⟨gb409, 0, none⟩ = some (.slice Ao49 t401.length co49) := (blk_cell BK409.out 0).trans rfl; have hcz54_1 : w53.cell? ⟨gb409, 1, none⟩ = some (.slice Ao52 t404.length co52) := (blk_cell BK409.out 1).trans rfl; have hfz54_0 := blk_frozen BK409.out 0; have hfz54_1 := blk_frozen BK409.out 1) | ((with_reducible refine gate_callee (f := 20) rfl ?_); refine goesL_ (some 119) rfl rfl Try.func20 (by kernel_rfl) rfl #[.agg #[.slice Ao49 t401.length co49, .slice Ao52 t404.length co52], .int .i64 t407, .int .i64 t408] rfl (by (try simp only [List.map_toArray, List.map_cons, List.map_nil]); first | done | rfl | (simp only [List.length_drop, List.length_take]; rfl)) ?_; (with_reducible refine (spec_BestLoading.calls kj19 _ _ t401 _ _ t404 t407 t408 t413 t414 t415 _ ?side1 ?side2 ?side3 ?side4 A45.out).mono ?_); (case side1 => repeat (first | exact (Kd.R_reads' HO403.out).2.2 | (with_reducible refine Kd.C_alloc ?_ _) | (with_reducible refine Kd.C_drewN ?_ _) | (with_reducible refine Kd.C_drew ?_))); (case side2 => exact (Kd.R_reads' HO403.out).2.1); (case side3 => repeat (first | exact (Kd.Q_reads' HO406.out).2.2 | (with_reducible refine Kd.C_alloc ?_ _) | (with_reducible refine Kd.C_drewN ?_ _) | (with_reducible refine Kd.C_drew ?_))); (case side4 => exact (Kd.Q_reads' HO406.out).2.1); rintro e w55 ⟨rfl, hb⟩; refine ⟨_, rfl, ?_⟩; have n0_ := Aside0.mk (Kd.R_below (by (with_reducible repeat (first | apply Kd.R_alloc | apply Kd.R_drewN | apply Kd.R_drew)); exact HO_393000.out) hb); have n1_ := Aside0.mk (Kd.Q_below (by (with_reducible repeat (first | apply Kd.Q_alloc | apply Kd.Q_drewN | apply Kd.Q_drew)); exact HO_393001.out) hb); have n2_ := Aside0.mk (Kd.R_below (by (with_reducible repeat (first | apply Kd.R_alloc | apply Kd.R_drewN | apply Kd.R_drew)); exact HO403.out) hb); have n3_ := Aside0.mk (Kd.Q_below (by (with_reducible repeat (first | apply Kd.Q_alloc | apply Kd.Q_drewN | apply Kd.Q_drew)); exact HO406.out) hb); have n4_ := Aside0.mk (blk_below (g := gb392) (o := .cells #[.slice Ao10 t384.length co10, .slice Ao12 t387.length co12] 26 (0, 0)) (by (with_reducible repeat (first | refine blk_drewN ?_ _ | refine blk_drew ?_ | refine blk_alloc ?_ _)); exact BK392.out) hb); have n5_ := Aside0.mk (blk_below (g := gb409) (o := .cells #[.slice Ao49 t401.length co49, .slice Ao52 t404.length co52] 26 (0, 0)) (by (with_reducible repeat (first | refine blk_drewN ?_ _ | refine blk_drew ?_ | refine blk_alloc ?_ _)); exact BK409.out) hb); have n6_ := Aside0.mk (below_step (by repeat (first | (with_reducible first | exact HB.out | apply below_alloc | apply pw_below_drewN | apply below_drew1 | refine below_set ?_ GE392.out | refine below_set ?_ GE409.out) | exact HB.out)) hb); clear HO_393000; clear HO_393001; clear HO403; clear HO406; clear BK392; clear BK409; clear HB; have HO_393000 := n0_; have HO_393001 := n1_; have HO403 := n2_; have HO406 := n3_; have BK392 := n4_; have BK409 := n5_; have HB := n6_; clear n0_ n1_ n2_ n3_ n4_ n5_ n6_; (try clear hb); (try clear hb2); (try clear hk); (try clear hi)))
         (try simp only [Act.put, List.setIfInBounds_toArray, List.set_cons_zero, List.set_cons_succ])
         go_cut [135] (fun v135 wc => ∃ (kq : Nat) (x135_45 : Bool), v135 = .bool x135_45 ∧ Aside0 (laws_FnCalls.j3 kq l0 t407 t408 t410 t411 t412 x135_45 t401 t404 = some r) ∧ Aside0 (kq ≤ kj19) ∧ Aside0 (Kd.R (Kd.int .i64) 3 wc w.heap.size (fun k_ => some k_ ≠ ((.slice Ao12 t387.length co12) : Value).ownBlock ∧ some k_ ≠ ((.slice Ao49 t401.length co49) : Value).ownBlock ∧ some k_ ≠ ((.slice Ao52 t404.length co52) : Value).ownBlock) (.slice Ao10 t384.length co10) t384) ∧ Aside0 (Kd.Q (Kd.int .i64) 3 wc w.heap.size (fun k_ => some k_ ≠ ((.slice Ao10 t384.length co10) : Value).ownBlock ∧ some k_ ≠ ((.slice Ao49 t401.length co49) : Value).ownBlock ∧ some k_ ≠ ((.slice Ao52 t404.length co52) : Value).ownBlock) (.slice Ao12 t387.length co12) t387) ∧ Aside0 (Kd.R (Kd.int .i64) 3 wc w.heap.size (fun k_ => some k_ ≠ ((.slice Ao10 t384.length co10) : Value).ownBlock ∧ some k_ ≠ ((.slice Ao12 t387.length co12) : Value).ownBlock ∧ some k_ ≠ ((.slice Ao52 t404.length co52) : Value).ownBlock) (.slice Ao49 t401.length co49) t401) ∧ Aside0 (Kd.Q (Kd.int .i64) 3 wc w.heap.size (fun k_ => some k_ ≠ ((.slice Ao10 t384.length co10) : Value).ownBlock ∧ some k_ ≠ ((.slice Ao12 t387.length co12) : Value).ownBlock ∧ some k_ ≠ ((.slice Ao49 t401.length co49) : Value).ownBlock) (.slice Ao52 t404.length co52) t404) ∧ Aside0 (wc.heap[gb392]? = some (.cells #[(.slice Ao10 t384.length co10), (.slice Ao12 t387.length co12)] 26 (0, 0))) ∧ Aside0 (wc.heap[gb409]? = some (.cells #[(.slice Ao49 t401.length co49), (.slice Ao52 t404.length co52)] 26 (0, 0))) ∧ Aside0 (Below w.heap.size w wc))
         case first =>
          have H := HC46.out
          clear HC46
          by_cases c56 : t410 = t413
          ·rw [if_pos c56] at H
           have c56b0 : (t410 == t413) = true := beq_iff_eq.mpr c56
           have c56b1 : (t410 != t413) = false := bne_eq_false_iff_eq.mpr c56
           clear c56
           (first | rw [c56b0] | (simp only [i64_w, i32_w]; rw [c56b0]) | skip)
           by_cases c57 : t411 = t414
           ·rw [if_pos c57] at H
            have c57b0 : (t411 == t414) = true := beq_iff_eq.mpr c57
            have c57b1 : (t411 != t414) = false := bne_eq_false_iff_eq.mpr c57
            clear c57
            have H' := Aside0.mk H
            clear H
            go_wp2
            go_meet
            case rel => exact ⟨_, ((t412 != t415)), (by first | rfl | (simp; done) | (simp [*]; done)), H', ⟨by have := HJ6.out; have := HJ17.out; have := HJ19.out; first | omega | exact Nat.le_refl _⟩, ⟨by (with_reducible repeat (first | apply Kd.R_alloc | apply Kd.R_drewN | apply Kd.R_drew)); exact Kd.R_mono HO_393000.out (fun _ hk => ⟨hk.1.1, ⟨hk.1.2, hk.2⟩⟩)⟩, ⟨by (with_reducible repeat (first | apply Kd.Q_alloc | apply Kd.Q_drewN | apply Kd.Q_drew)); exact Kd.Q_mono HO_393001.out (fun _ hk => ⟨hk.1.1, ⟨hk.1.2, hk.2⟩⟩)⟩, ⟨by (with_reducible repeat (first | apply Kd.R_alloc | apply Kd.R_drewN | apply Kd.R_drew)); exact Kd.R_mono HO403.out (fun _ hk => ⟨hk.1.2, ⟨hk.2, hk.1.1⟩⟩)⟩, ⟨by (with_reducible repeat (first | apply Kd.Q_alloc | apply Kd.Q_drewN | apply Kd.Q_drew)); exact Kd.Q_mono HO406.out (fun _ hk => ⟨hk.1.2, ⟨hk.2, hk.1.1⟩⟩)⟩, ⟨by (with_reducible repeat (first | refine blk_drewN ?_ _ | refine blk_drew ?_ | refine blk_alloc ?_ _)); exact BK392.out⟩, ⟨by (with_reducible repeat (first | refine blk_drewN ?_ _ | refine blk_drew ?_ | refine blk_alloc ?_ _)); exact BK409.out⟩, ⟨by repeat (first | (with_reducible first | exact HB.out | apply below_alloc | apply pw_below_drewN | apply below_drew1 | refine below_set ?_ GE392.out | refine below_set ?_ GE409.out) | exact HB.out)⟩⟩
           ·rw [if_neg c57] at H
            have c57b0 : (t411 == t414) = false := beq_eq_false_iff_ne.mpr c57
            have c57b1 : (t411 != t414) = true := bne_iff_ne.mpr c57
            exact absurd H (by simp)
          ·rw [if_neg c56] at H
           have c56b0 : (t410 == t413) = false := beq_eq_false_iff_ne.mpr c56
           have c56b1 : (t410 != t413) = true := bne_iff_ne.mpr c56
           (first | rw [c56b0] | (simp only [i64_w, i32_w]; rw [c56b0]) | skip)
           exact absurd H (by simp)
         case rest => as_aux_lemma =>
          clear HC46
          try clear c1
          try clear c2
          try clear p2
          try clear c3
          try clear c5
          try clear p6
          try clear c13
          try clear c14
          try clear c15
          try clear c16
          try clear c16b0
          try clear c16b1
          try clear c17
          try clear c18
          try clear c19
          try clear c20
          try clear c21
          try clear c24
          try clear c25
          try clear c26
          try clear c26b0
          try clear c26b1
          try clear c50
          try clear c56
          try clear c56b0
          try clear c56b1
          try clear c57
          try clear c57b0
          try clear c57b1
          try clear hcz11_0
          try clear hcz11_1
          try clear hcz14_0
          try clear hcz14_1
          try clear hcz27_0
          try clear hcz27_1
          try clear hcz29_0
          try clear hcz29_1
          try clear hcz31_0
          try clear hcz31_1
          try clear hcz33_0
          try clear hcz33_1
          try clear hcz35_0
          try clear hcz35_1
          try clear hcz37_0
          try clear hcz37_1
          try clear hcz39_0
          try clear hcz39_1
          try clear hcz41_0
          try clear hcz41_1
          try clear hcz51_0
          try clear hcz51_1
          try clear hcz54_0
          try clear hcz54_1
          try clear hfz11_0
          try clear hfz11_1
          try clear hfz14_0
          try clear hfz14_1
          try clear hfz27_0
          try clear hfz27_1
          try clear hfz29_0
          try clear hfz29_1
          try clear hfz31_0
          try clear hfz31_1
          try clear hfz33_0
          try clear hfz33_1
          try clear hfz35_0
          try clear hfz35_1
          try clear hfz37_0
          try clear hfz37_1
          try clear hfz39_0
          try clear hfz39_1
          try clear hfz41_0
          try clear hfz41_1
          try clear hfz51_0
          try clear hfz51_1
          try clear hfz54_0
          try clear hfz54_1
          try clear p2
          try clear p6
          obtain ⟨kq, x135_45, rfl, HA, HJ45, HO_393000, HO_393001, HO_410000, HO_410001, BK392, BK409, HB⟩ := hcut
          cases kq with
          | zero => exact absurd HA.out (by simp [laws_FnCalls.j3])
          | succ kj45 =>
           have H := HA.out
           clear HA
           simp only [laws_FnCalls.j3] at H
           by_cases c58 : x135_45 = true
           ·subst c58
            have H1 : (none) = some r := by rw [if_pos rfl] at H; exact H
            clear H
            have H := H1
            clear H1
            exact absurd H (by simp)
           ·replace c58 := Bool.eq_false_iff.mpr c58
            subst c58
            have H1 : (laws_FnCalls.l0 kj45 l0 t407 t408 t410 t411 t412 0 t401 t404) = some r := by rw [if_neg (show ¬ (false = true) by decide)] at H; exact H
            clear H
            have H := H1
            clear H1
            have H' := Aside0.mk H
            clear H
            go_wp2
            go_loopg [23] kj45 (fun kq v23 w' => ∃ (x23_5 : Int), v23 = .int .i64 x23_5 ∧ Aside0 (laws_FnCalls.l0 kq l0 t407 t408 t410 t411 t412 x23_5 t401 t404 = some r) ∧ Aside0 (kq ≤ kj45) ∧ Aside0 (Kd.R (Kd.int .i64) 3 w' w.heap.size (fun k_ => some k_ ≠ ((.slice Ao12 t387.length co12) : Value).ownBlock ∧ some k_ ≠ ((.slice Ao49 t401.length co49) : Value).ownBlock ∧ some k_ ≠ ((.slice Ao52 t404.length co52) : Value).ownBlock) (.slice Ao10 t384.length co10) t384) ∧ Aside0 (Kd.Q (Kd.int .i64) 3 w' w.heap.size (fun k_ => some k_ ≠ ((.slice Ao10 t384.length co10) : Value).ownBlock ∧ some k_ ≠ ((.slice Ao49 t401.length co49) : Value).ownBlock ∧ some k_ ≠ ((.slice Ao52 t404.length co52) : Value).ownBlock) (.slice Ao12 t387.length co12) t387) ∧ Aside0 (Kd.R (Kd.int .i64) 3 w' w.heap.size (fun k_ => some k_ ≠ ((.slice Ao10 t384.length co10) : Value).ownBlock ∧ some k_ ≠ ((.slice Ao12 t387.length co12) : Value).ownBlock ∧ some k_ ≠ ((.slice Ao52 t404.length co52) : Value).ownBlock) (.slice Ao49 t401.length co49) t401) ∧ Aside0 (Kd.Q (Kd.int .i64) 3 w' w.heap.size (fun k_ => some k_ ≠ ((.slice Ao10 t384.length co10) : Value).ownBlock ∧ some k_ ≠ ((.slice Ao12 t387.length co12) : Value).ownBlock ∧ some k_ ≠ ((.slice Ao49 t401.length co49) : Value).ownBlock) (.slice Ao52 t404.length co52) t404) ∧ Aside0 (w'.heap[gb392]? = some (.cells #[(.slice Ao10 t384.length co10), (.slice Ao12 t387.length co12)] 26 (0, 0))) ∧ Aside0 (w'.heap[gb409]? = some (.cells #[(.slice Ao49 t401.length co49), (.slice Ao52 t404.length co52)] 26 (0, 0))) ∧ Aside0 (Below w.heap.size w w'))
            case atStart => exact ⟨(0), (by first | rfl | (simp; done) | (simp [*]; done)), H', ⟨Nat.le_refl _⟩, ⟨by (with_reducible repeat (first | apply Kd.R_alloc | apply Kd.R_drewN | apply Kd.R_drew)); exact HO_393000.out⟩, ⟨by (with_reducible repeat (first | apply Kd.Q_alloc | apply Kd.Q_drewN | apply Kd.Q_drew)); exact HO_393001.out⟩, ⟨by (with_reducible repeat (first | apply Kd.R_alloc | apply Kd.R_drewN | apply Kd.R_drew)); exact HO_410000.out⟩, ⟨by (with_reducible repeat (first | apply Kd.Q_alloc | apply Kd.Q_drewN | apply Kd.Q_drew)); exact HO_410001.out⟩, ⟨by (with_reducible repeat (first | refine blk_drewN ?_ _ | refine blk_drew ?_ | refine blk_alloc ?_ _)); exact BK392.out⟩, ⟨by (with_reducible repeat (first | refine blk_drewN ?_ _ | refine blk_drew ?_ | refine blk_alloc ?_ _)); exact BK409.out⟩, ⟨by repeat (first | (with_reducible first | exact HB.out | apply below_alloc | apply pw_below_drewN | apply below_drew1 | refine below_set ?_ GE392.out | refine below_set ?_ GE409.out) | exact HB.out)⟩⟩
            case round => as_aux_lemma =>
             clear H'
             try clear c1
             try clear c2
             try clear p2
             try clear c3
             try clear c5
             try clear p6
             try clear c13
             try clear c14
             try clear c15
             try clear c16
             try clear c16b0
             try clear c16b1
             try clear c17
             try clear c18
             try clear c19
             try clear c20
             try clear c21
             try clear c24
             try clear c25
             try clear c26
             try clear c26b0
             try clear c26b1
             try clear c50
             try clear c56
             try clear c56b0
             try clear c56b1
             try clear c57
             try clear c57b0
             try clear c57b1
             try clear c58
             try clear hcz11_0
             try clear hcz11_1
             try clear hcz14_0
             try clear hcz14_1
             try clear hcz27_0
             try clear hcz27_1
             try clear hcz29_0
             try clear hcz29_1
             try clear hcz31_0
             try clear hcz31_1
             try clear hcz33_0
             try clear hcz33_1
             try clear hcz35_0
             try clear hcz35_1
             try clear hcz37_0
             try clear hcz37_1
             try clear hcz39_0
             try clear hcz39_1
             try clear hcz41_0
             try clear hcz41_1
             try clear hcz51_0
             try clear hcz51_1
             try clear hcz54_0
             try clear hcz54_1
             try clear hfz11_0
             try clear hfz11_1
             try clear hfz14_0
             try clear hfz14_1
             try clear hfz27_0
             try clear hfz27_1
             try clear hfz29_0
             try clear hfz29_1
             try clear hfz31_0
             try clear hfz31_1
             try clear hfz33_0
             try clear hfz33_1
             try clear hfz35_0
             try clear hfz35_1
             try clear hfz37_0
             try clear hfz37_1
             try clear hfz39_0
             try clear hfz39_1
             try clear hfz41_0
             try clear hfz41_1
             try clear hfz51_0
             try clear hfz51_1
             try clear hfz54_0
             try clear hfz54_1
             try clear p2
             try clear p6
             obtain ⟨x23_5, rfl, HA, HK5, HO_393000, HO_393001, HO_410000, HO_410001, BK392, BK409, HB⟩ := hrel
             cases gk with
             | zero => exact absurd HA.out (by simp [laws_FnCalls.l0])
             | succ k5 =>
              have H := HA.out
              clear HA
              simp only [laws_FnCalls.l0] at H
              have HC59 := Aside0.mk H
              clear H
              go_upto_region 19 with (fail)
              go_cut [143] (fun v143 wc => ∃ (kq : Nat) (x143_58 : Bool), v143 = .bool x143_58 ∧ Aside0 (laws_FnCalls.j5 kq l0 t407 t408 t410 t411 t412 x23_5 x143_58 t401 t404 = some r) ∧ Aside0 (kq ≤ k5) ∧ Aside0 (Kd.R (Kd.int .i64) 3 wc w.heap.size (fun k_ => some k_ ≠ ((.slice Ao12 t387.length co12) : Value).ownBlock ∧ some k_ ≠ ((.slice Ao49 t401.length co49) : Value).ownBlock ∧ some k_ ≠ ((.slice Ao52 t404.length co52) : Value).ownBlock) (.slice Ao10 t384.length co10) t384) ∧ Aside0 (Kd.Q (Kd.int .i64) 3 wc w.heap.size (fun k_ => some k_ ≠ ((.slice Ao10 t384.length co10) : Value).ownBlock ∧ some k_ ≠ ((.slice Ao49 t401.length co49) : Value).ownBlock ∧ some k_ ≠ ((.slice Ao52 t404.length co52) : Value).ownBlock) (.slice Ao12 t387.length co12) t387) ∧ Aside0 (Kd.R (Kd.int .i64) 3 wc w.heap.size (fun k_ => some k_ ≠ ((.slice Ao10 t384.length co10) : Value).ownBlock ∧ some k_ ≠ ((.slice Ao12 t387.length co12) : Value).ownBlock ∧ some k_ ≠ ((.slice Ao52 t404.length co52) : Value).ownBlock) (.slice Ao49 t401.length co49) t401) ∧ Aside0 (Kd.Q (Kd.int .i64) 3 wc w.heap.size (fun k_ => some k_ ≠ ((.slice Ao10 t384.length co10) : Value).ownBlock ∧ some k_ ≠ ((.slice Ao12 t387.length co12) : Value).ownBlock ∧ some k_ ≠ ((.slice Ao49 t401.length co49) : Value).ownBlock) (.slice Ao52 t404.length co52) t404) ∧ Aside0 (wc.heap[gb392]? = some (.cells #[(.slice Ao10 t384.length co10), (.slice Ao12 t387.length co12)] 26 (0, 0))) ∧ Aside0 (wc.heap[gb409]? = some (.cells #[(.slice Ao49 t401.length co49), (.slice Ao52 t404.length co52)] 26 (0, 0))) ∧ Aside0 (Below w.heap.size w wc))
              case first =>
               have H := HC59.out
               clear HC59
               by_cases c60 : x23_5 < (t401.length : Int)
               ·rw [if_pos c60] at H
                have c60b0 : decide (x23_5 < (t401.length : Int)) = true := decide_eq_true c60
                clear c60
                (first | rw [c60b0] | (simp only [i64_w, i32_w]; rw [c60b0]) | skip)
                have H' := Aside0.mk H
                clear H
                have hnb61 := NB409_392.out
                have hnc61 := NB392_409.out
                have hcz62_0 : wr.cell? ⟨gb409, 0, none⟩ = some (.slice Ao49 t401.length co49) := (blk_cell BK409.out 0).trans rfl
                have hcz62_1 : wr.cell? ⟨gb409, 1, none⟩ = some (.slice Ao52 t404.length co52) := (blk_cell BK409.out 1).trans rfl
                have hfz62_0 := blk_frozen BK409.out 0
                have hfz62_1 := blk_frozen BK409.out 1
                go_wp2
                go_meet
                case rel => exact ⟨_, (t412), (by first | rfl | (simp; done) | (simp [*]; done)), H', ⟨by have := HJ6.out; have := HJ17.out; have := HJ19.out; have := HJ45.out; have := HK5.out; first | omega | exact Nat.le_refl _⟩, ⟨by (with_reducible repeat (first | apply Kd.R_alloc | apply Kd.R_drewN | apply Kd.R_drew)); exact HO_393000.out⟩, ⟨by (with_reducible repeat (first | apply Kd.Q_alloc | apply Kd.Q_drewN | apply Kd.Q_drew)); exact HO_393001.out⟩, ⟨by (with_reducible repeat (first | apply Kd.R_alloc | apply Kd.R_drewN | apply Kd.R_drew)); exact HO_410000.out⟩, ⟨by (with_reducible repeat (first | apply Kd.Q_alloc | apply Kd.Q_drewN | apply Kd.Q_drew)); exact HO_410001.out⟩, ⟨by (with_reducible repeat (first | refine blk_drewN ?_ _ | refine blk_drew ?_ | refine blk_alloc ?_ _)); exact BK392.out⟩, ⟨by (with_reducible repeat (first | refine blk_drewN ?_ _ | refine blk_drew ?_ | refine blk_alloc ?_ _)); exact BK409.out⟩, ⟨by repeat (first | (with_reducible first | exact HB.out | apply below_alloc | apply pw_below_drewN | apply below_drew1 | refine below_set ?_ GE392.out | refine below_set ?_ GE409.out) | exact HB.out)⟩⟩
               ·rw [if_neg c60] at H
                have c60b0 : decide (x23_5 < (t401.length : Int)) = false := decide_eq_false c60
                clear c60
                (first | rw [c60b0] | (simp only [i64_w, i32_w]; rw [c60b0]) | skip)
                have H' := Aside0.mk H
                clear H
                have hnb63 := NB409_392.out
                have hnc63 := NB392_409.out
                have hcz64_0 : wr.cell? ⟨gb409, 0, none⟩ = some (.slice Ao49 t401.length co49) := (blk_cell BK409.out 0).trans rfl
                have hcz64_1 : wr.cell? ⟨gb409, 1, none⟩ = some (.slice Ao52 t404.length co52) := (blk_cell BK409.out 1).trans rfl
                have hfz64_0 := blk_frozen BK409.out 0
                have hfz64_1 := blk_frozen BK409.out 1
                go_wp2
                go_meet
                case rel => exact ⟨_, (false), (by first | rfl | (simp; done) | (simp [*]; done)), H', ⟨by have := HJ6.out; have := HJ17.out; have := HJ19.out; have := HJ45.out; have := HK5.out; first | omega | exact Nat.le_refl _⟩, ⟨by (with_reducible repeat (first | apply Kd.R_alloc | apply Kd.R_drewN | apply Kd.R_drew)); exact HO_393000.out⟩, ⟨by (with_reducible repeat (first | apply Kd.Q_alloc | apply Kd.Q_drewN | apply Kd.Q_drew)); exact HO_393001.out⟩, ⟨by (with_reducible repeat (first | apply Kd.R_alloc | apply Kd.R_drewN | apply Kd.R_drew)); exact HO_410000.out⟩, ⟨by (with_reducible repeat (first | apply Kd.Q_alloc | apply Kd.Q_drewN | apply Kd.Q_drew)); exact HO_410001.out⟩, ⟨by (with_reducible repeat (first | refine blk_drewN ?_ _ | refine blk_drew ?_ | refine blk_alloc ?_ _)); exact BK392.out⟩, ⟨by (with_reducible repeat (first | refine blk_drewN ?_ _ | refine blk_drew ?_ | refine blk_alloc ?_ _)); exact BK409.out⟩, ⟨by repeat (first | (with_reducible first | exact HB.out | apply below_alloc | apply pw_below_drewN | apply below_drew1 | refine below_set ?_ GE392.out | refine below_set ?_ GE409.out) | exact HB.out)⟩⟩
              case rest => as_aux_lemma =>
               clear HC59
               try clear c1
               try clear c2
               try clear p2
               try clear c3
               try clear c5
               try clear c6
               try clear p6
               try clear c13
               try clear c14
               try clear c15
               try clear c16
               try clear c16b0
               try clear c16b1
               try clear c17
               try clear c18
               try clear c19
               try clear c20
               try clear c21
               try clear c24
               try clear c25
               try clear c26
               try clear c26b0
               try clear c26b1
               try clear c50
               try clear c56
               try clear c56b0
               try clear c56b1
               try clear c57
               try clear c57b0
               try clear c57b1
               try clear c58
               try clear c60
               try clear c60b0
               try clear c61
               try clear c63
               try clear p64
               try clear hcz11_0
               try clear hcz11_1
               try clear hcz14_0
               try clear hcz14_1
               try clear hcz27_0
               try clear hcz27_1
               try clear hcz29_0
               try clear hcz29_1
               try clear hcz31_0
               try clear hcz31_1
               try clear hcz33_0
               try clear hcz33_1
               try clear hcz35_0
               try clear hcz35_1
               try clear hcz37_0
               try clear hcz37_1
               try clear hcz39_0
               try clear hcz39_1
               try clear hcz41_0
               try clear hcz41_1
               try clear hcz51_0
               try clear hcz51_1
               try clear hcz54_0
               try clear hcz54_1
               try clear hcz62_0
               try clear hcz62_1
               try clear hcz64_0
               try clear hcz64_1
               try clear hfz11_0
               try clear hfz11_1
               try clear hfz14_0
               try clear hfz14_1
               try clear hfz27_0
               try clear hfz27_1
               try clear hfz29_0
               try clear hfz29_1
               try clear hfz31_0
               try clear hfz31_1
               try clear hfz33_0
               try clear hfz33_1
               try clear hfz35_0
               try clear hfz35_1
               try clear hfz37_0
               try clear hfz37_1
               try clear hfz39_0
               try clear hfz39_1
               try clear hfz41_0
               try clear hfz41_1
               try clear hfz51_0
               try clear hfz51_1
               try clear hfz54_0
               try clear hfz54_1
               try clear hfz62_0
               try clear hfz62_1
               try clear hfz64_0
               try clear hfz64_1
               try clear p2
               try clear p6
               obtain ⟨kq, x143_58, rfl, HA, HJ58, HO_393000, HO_393001, HO_410000, HO_410001, BK392, BK409, HB⟩ := hcut
               cases kq with
               | zero => exact absurd HA.out (by simp [laws_FnCalls.j5])
               | succ kj58 =>
                have H := HA.out
                clear HA
                simp only [laws_FnCalls.j5] at H
                by_cases c65 : x143_58 = true
                ·subst c65
                 have H1 : (if 0 ≤ x23_5 then (if x23_5 < (t401.length : Int) then (if (rd t401 x23_5) = t407 then ((impl_NextCall.f kj58 t401 t404 x23_5 t408).bind fun bt417 => (if bt417.2.2 = true then (if bt417.2.1 < t411 then (none) else (if x23_5 = t410 then (if bt417.2.1 = t411 then (laws_FnCalls.l0 kj58 l0 t407 t408 t410 t411 t412 (wrap64 (x23_5 + 1)) t401 t404) else (none)) else (laws_FnCalls.l0 kj58 l0 t407 t408 t410 t411 t412 (wrap64 (x23_5 + 1)) t401 t404))) else (none))) else (laws_FnCalls.l0 kj58 l0 t407 t408 t410 t411 t412 (wrap64 (x23_5 + 1)) t401 t404)) else (none)) else (none)) = some r := by rw [if_pos rfl] at H; exact H
                 clear H
                 have H := H1
                 clear H1
                 by_cases c66 : 0 ≤ x23_5
                 ·rw [if_pos c66] at H
                  have c66b0 : decide (0 ≤ x23_5) = true := decide_eq_true c66
                  clear c66
                  by_cases c67 : x23_5 < (t401.length : Int)
                  ·rw [if_pos c67] at H
                   have c67b0 : decide (x23_5 < (t401.length : Int)) = true := decide_eq_true c67
                   clear c67
                   by_cases c68 : (rd t401 x23_5) = t407
                   ·rw [if_pos c68] at H
                    have c68b0 : ((rd t401 x23_5) == t407) = true := beq_iff_eq.mpr c68
                    have c68b1 : ((rd t401 x23_5) != t407) = false := bne_eq_false_iff_eq.mpr c68
                    clear c68
                    replace H := Option.bind_eq_some_iff.mp H
                    obtain ⟨⟨t417, t418, t419⟩, A690, H⟩ := H
                    replace H : (if t419 = true then (if t418 < t411 then (none) else (if x23_5 = t410 then (if t418 = t411 then (laws_FnCalls.l0 kj58 l0 t407 t408 t410 t411 t412 (wrap64 (x23_5 + 1)) t401 t404) else (none)) else (laws_FnCalls.l0 kj58 l0 t407 t408 t410 t411 t412 (wrap64 (x23_5 + 1)) t401 t404))) else (none)) = some r := H
                    have A69 := Aside0.mk A690
                    clear A690
                    by_cases c70 : t419 = true
                    ·subst c70
                     have H1 : (if t418 < t411 then (none) else (if x23_5 = t410 then (if t418 = t411 then (laws_FnCalls.l0 kj58 l0 t407 t408 t410 t411 t412 (wrap64 (x23_5 + 1)) t401 t404) else (none)) else (laws_FnCalls.l0 kj58 l0 t407 t408 t410 t411 t412 (wrap64 (x23_5 + 1)) t401 t404))) = some r := by rw [if_pos rfl] at H; exact H
                     clear H
                     have H := H1
                     clear H1
                     by_cases c71 : t418 < t411
                     ·rw [if_pos c71] at H
                      have c71b0 : decide (t418 < t411) = true := decide_eq_true c71
                      clear c71
                      exact absurd H (by simp)
                     ·rw [if_neg c71] at H
                      have c71b0 : decide (t418 < t411) = false := decide_eq_false c71
                      clear c71
                      by_cases c75 : x23_5 = t410
                      ·rw [if_pos c75] at H
                       have c75b0 : (x23_5 == t410) = true := beq_iff_eq.mpr c75
                       have c75b1 : (x23_5 != t410) = false := bne_eq_false_iff_eq.mpr c75
                       clear c75
                       by_cases c76 : t418 = t411
                       ·rw [if_pos c76] at H
                        have c76b0 : (t418 == t411) = true := beq_iff_eq.mpr c76
                        have c76b1 : (t418 != t411) = false := bne_eq_false_iff_eq.mpr c76
                        clear c76
                        have H' := Aside0.mk H
                        clear H
                        have hnb77 := NB409_392.out
                        have hnc77 := NB392_409.out
                        have hcz78_0 : wc.cell? ⟨gb409, 0, none⟩ = some (.slice Ao49 t401.length co49) := (blk_cell BK409.out 0).trans rfl
                        have hcz78_1 : wc.cell? ⟨gb409, 1, none⟩ = some (.slice Ao52 t404.length co52) := (blk_cell BK409.out 1).trans rfl
                        have hfz78_0 := blk_frozen BK409.out 0
                        have hfz78_1 := blk_frozen BK409.out 1
                        have p416 : 0 ≤ (x23_5 : Int) := of_decide_eq_true (by first | (with_reducible assumption) | assumption)
                        have q416 : x23_5 < (t401.length : Int) := of_decide_eq_true (by first | (with_reducible assumption) | assumption)
                        obtain ⟨ad416, e416, hx416_0⟩ := Kd.at_int (Kd.R_reads' HO_410000.out).2.2 x23_5 p416 q416
                        cases e416
                        replace p416 := eq_true p416
                        replace q416 := eq_true q416
                        go_wp2_with (first | ((with_reducible refine gate_callee (f := 21) rfl ?_); refine goesL_ (some 157) rfl rfl Try.func21 (by kernel_rfl) rfl #[.agg #[.slice (some ad416) t401.length co49, .slice Ao52 t404.length co52], .int .i64 x23_5, .int .i64 t408] rfl (by (try simp only [List.map_toArray, List.map_cons, List.map_nil]); first | done | rfl | (simp only [List.length_drop, List.length_take]; rfl)) ?_; (with_reducible refine (impl_NextCall.calls kj58 _ _ t401 _ _ t404 x23_5 t408 t417 t418 true _ ?side1 ?side2 ?side3 ?side4 A69.out).mono ?_); (case side1 => repeat (first | exact (Kd.R_reads' HO_410000.out).2.2 | (with_reducible refine Kd.C_alloc ?_ _) | (with_reducible refine Kd.C_drewN ?_ _) | (with_reducible refine Kd.C_drew ?_))); (case side2 => exact (Kd.R_reads' HO_410000.out).2.1); (case side3 => repeat (first | exact (Kd.Q_reads' HO_410001.out).2.2 | (with_reducible refine Kd.C_alloc ?_ _) | (with_reducible refine Kd.C_drewN ?_ _) | (with_reducible refine Kd.C_drew ?_))); (case side4 => exact (Kd.Q_reads' HO_410001.out).2.1); rintro e w79 ⟨rfl, hb⟩; refine ⟨_, rfl, ?_⟩; have n0_ := Aside0.mk (Kd.R_below (by (with_reducible repeat (first | apply Kd.R_alloc | apply Kd.R_drewN | apply Kd.R_drew)); exact HO_393000.out) hb); have n1_ := Aside0.mk (Kd.Q_below (by (with_reducible repeat (first | apply Kd.Q_alloc | apply Kd.Q_drewN | apply Kd.Q_drew)); exact HO_393001.out) hb); have n2_ := Aside0.mk (Kd.R_below (by (with_reducible repeat (first | apply Kd.R_alloc | apply Kd.R_drewN | apply Kd.R_drew)); exact HO_410000.out) hb); have n3_ := Aside0.mk (Kd.Q_below (by (with_reducible repeat (first | apply Kd.Q_alloc | apply Kd.Q_drewN | apply Kd.Q_drew)); exact HO_410001.out) hb); have n4_ := Aside0.mk (blk_below (g := gb392) (o := .cells #[.slice Ao10 t384.length co10, .slice Ao12 t387.length co12] 26 (0, 0)) (by (with_reducible repeat (first | refine blk_drewN ?_ _ | refine blk_drew ?_ | refine blk_alloc ?_ _)); exact BK392.out) hb); have n5_ := Aside0.mk (blk_below (g := gb409) (o := .cells #[.slice (some ad416) t401.length co49, .slice Ao52 t404.length co52] 26 (0, 0)) (by (with_reducible repeat (first | refine blk_drewN ?_ _ | refine blk_drew ?_ | refine blk_alloc ?_ _)); exact BK409.out) hb); have n6_ := Aside0.mk (below_step (by repeat (first | (with_reducible first | exact HB.out | apply below_alloc | apply pw_below_drewN | apply below_drew1 | refine below_set ?_ GE392.out | refine below_set ?_ GE409.out) | exact HB.out)) hb); clear HO_393000; clear HO_393001; clear HO_410000; clear HO_410001; clear BK392; clear BK409; clear HB; have HO_393000 := n0_; have HO_393001 := n1_; have HO_410000 := n2_; have HO_410001 := n3_; have BK392 := n4_; have BK409 := n5_; have HB := n6_; clear n0_ n1_ n2_ n3_ n4_ n5_ n6_; (try clear hb); (try clear hb2); (try clear hk); (try clear hi)))
                        go_roundg kj58
                        case measure => have := HJ6.out; have := HJ17.out; have := HJ19.out; have := HJ45.out; have := HK5.out; have := HJ58.out; omega
                        case rel => exact ⟨(wrap64 (x23_5 + 1)), (by first | rfl | (simp; done) | (simp [*]; done)), H', ⟨by have := HJ6.out; have := HJ17.out; have := HJ19.out; have := HJ45.out; have := HK5.out; have := HJ58.out; omega⟩, ⟨by (with_reducible repeat (first | apply Kd.R_alloc | apply Kd.R_drewN | apply Kd.R_drew)); exact HO_393000.out⟩, ⟨by (with_reducible repeat (first | apply Kd.Q_alloc | apply Kd.Q_drewN | apply Kd.Q_drew)); exact HO_393001.out⟩, ⟨by (with_reducible repeat (first | apply Kd.R_alloc | apply Kd.R_drewN | apply Kd.R_drew)); exact HO_410000.out⟩, ⟨by (with_reducible repeat (first | apply Kd.Q_alloc | apply Kd.Q_drewN | apply Kd.Q_drew)); exact HO_410001.out⟩, ⟨by (with_reducible repeat (first | refine blk_drewN ?_ _ | refine blk_drew ?_ | refine blk_alloc ?_ _)); exact BK392.out⟩, ⟨by (with_reducible repeat (first | refine blk_drewN ?_ _ | refine blk_drew ?_ | refine blk_alloc ?_ _)); exact BK409.out⟩, ⟨by repeat (first | (with_reducible first | exact HB.out | apply below_alloc | apply pw_below_drewN | apply below_drew1 | refine below_set ?_ GE392.out | refine below_set ?_ GE409.out) | exact HB.out)⟩⟩
                       ·rw [if_neg c76] at H
                        have c76b0 : (t418 == t411) = false := beq_eq_false_iff_ne.mpr c76
                        have c76b1 : (t418 != t411) = true := bne_iff_ne.mpr c76
                        exact absurd H (by simp)
                      ·rw [if_neg c75] at H
                       have c75b0 : (x23_5 == t410) = false := beq_eq_false_iff_ne.mpr c75
                       have c75b1 : (x23_5 != t410) = true := bne_iff_ne.mpr c75
                       have H' := Aside0.mk H
                       clear H
                       have hnb83 := NB409_392.out
                       have hnc83 := NB392_409.out
                       have hcz84_0 : wc.cell? ⟨gb409, 0, none⟩ = some (.slice Ao49 t401.length co49) := (blk_cell BK409.out 0).trans rfl
                       have hcz84_1 : wc.cell? ⟨gb409, 1, none⟩ = some (.slice Ao52 t404.length co52) := (blk_cell BK409.out 1).trans rfl
                       have hfz84_0 := blk_frozen BK409.out 0
                       have hfz84_1 := blk_frozen BK409.out 1
                       have p416 : 0 ≤ (x23_5 : Int) := of_decide_eq_true (by first | (with_reducible assumption) | assumption)
                       have q416 : x23_5 < (t401.length : Int) := of_decide_eq_true (by first | (with_reducible assumption) | assumption)
                       obtain ⟨ad416, e416, hx416_0⟩ := Kd.at_int (Kd.R_reads' HO_410000.out).2.2 x23_5 p416 q416
                       cases e416
                       replace p416 := eq_true p416
                       replace q416 := eq_true q416
                       go_wp2_with (first | ((with_reducible refine gate_callee (f := 21) rfl ?_); refine goesL_ (some 157) rfl rfl Try.func21 (by kernel_rfl) rfl #[.agg #[.slice (some ad416) t401.length co49, .slice Ao52 t404.length co52], .int .i64 x23_5, .int .i64 t408] rfl (by (try simp only [List.map_toArray, List.map_cons, List.map_nil]); first | done | rfl | (simp only [List.length_drop, List.length_take]; rfl)) ?_; (with_reducible refine (impl_NextCall.calls kj58 _ _ t401 _ _ t404 x23_5 t408 t417 t418 true _ ?side1 ?side2 ?side3 ?side4 A69.out).mono ?_); (case side1 => repeat (first | exact (Kd.R_reads' HO_410000.out).2.2 | (with_reducible refine Kd.C_alloc ?_ _) | (with_reducible refine Kd.C_drewN ?_ _) | (with_reducible refine Kd.C_drew ?_))); (case side2 => exact (Kd.R_reads' HO_410000.out).2.1); (case side3 => repeat (first | exact (Kd.Q_reads' HO_410001.out).2.2 | (with_reducible refine Kd.C_alloc ?_ _) | (with_reducible refine Kd.C_drewN ?_ _) | (with_reducible refine Kd.C_drew ?_))); (case side4 => exact (Kd.Q_reads' HO_410001.out).2.1); rintro e w85 ⟨rfl, hb⟩; refine ⟨_, rfl, ?_⟩; have n0_ := Aside0.mk (Kd.R_below (by (with_reducible repeat (first | apply Kd.R_alloc | apply Kd.R_drewN | apply Kd.R_drew)); exact HO_393000.out) hb); have n1_ := Aside0.mk (Kd.Q_below (by (with_reducible repeat (first | apply Kd.Q_alloc | apply Kd.Q_drewN | apply Kd.Q_drew)); exact HO_393001.out) hb); have n2_ := Aside0.mk (Kd.R_below (by (with_reducible repeat (first | apply Kd.R_alloc | apply Kd.R_drewN | apply Kd.R_drew)); exact HO_410000.out) hb); have n3_ := Aside0.mk (Kd.Q_below (by (with_reducible repeat (first | apply Kd.Q_alloc | apply Kd.Q_drewN | apply Kd.Q_drew)); exact HO_410001.out) hb); have n4_ := Aside0.mk (blk_below (g := gb392) (o := .cells #[.slice Ao10 t384.length co10, .slice Ao12 t387.length co12] 26 (0, 0)) (by (with_reducible repeat (first | refine blk_drewN ?_ _ | refine blk_drew ?_ | refine blk_alloc ?_ _)); exact BK392.out) hb); have n5_ := Aside0.mk (blk_below (g := gb409) (o := .cells #[.slice (some ad416) t401.length co49, .slice Ao52 t404.length co52] 26 (0, 0)) (by (with_reducible repeat (first | refine blk_drewN ?_ _ | refine blk_drew ?_ | refine blk_alloc ?_ _)); exact BK409.out) hb); have n6_ := Aside0.mk (below_step (by repeat (first | (with_reducible first | exact HB.out | apply below_alloc | apply pw_below_drewN | apply below_drew1 | refine below_set ?_ GE392.out | refine below_set ?_ GE409.out) | exact HB.out)) hb); clear HO_393000; clear HO_393001; clear HO_410000; clear HO_410001; clear BK392; clear BK409; clear HB; have HO_393000 := n0_; have HO_393001 := n1_; have HO_410000 := n2_; have HO_410001 := n3_; have BK392 := n4_; have BK409 := n5_; have HB := n6_; clear n0_ n1_ n2_ n3_ n4_ n5_ n6_; (try clear hb); (try clear hb2); (try clear hk); (try clear hi)))
                       go_roundg kj58
                       case measure => have := HJ6.out; have := HJ17.out; have := HJ19.out; have := HJ45.out; have := HK5.out; have := HJ58.out; omega
                       case rel => exact ⟨(wrap64 (x23_5 + 1)), (by first | rfl | (simp; done) | (simp [*]; done)), H', ⟨by have := HJ6.out; have := HJ17.out; have := HJ19.out; have := HJ45.out; have := HK5.out; have := HJ58.out; omega⟩, ⟨by (with_reducible repeat (first | apply Kd.R_alloc | apply Kd.R_drewN | apply Kd.R_drew)); exact HO_393000.out⟩, ⟨by (with_reducible repeat (first | apply Kd.Q_alloc | apply Kd.Q_drewN | apply Kd.Q_drew)); exact HO_393001.out⟩, ⟨by (with_reducible repeat (first | apply Kd.R_alloc | apply Kd.R_drewN | apply Kd.R_drew)); exact HO_410000.out⟩, ⟨by (with_reducible repeat (first | apply Kd.Q_alloc | apply Kd.Q_drewN | apply Kd.Q_drew)); exact HO_410001.out⟩, ⟨by (with_reducible repeat (first | refine blk_drewN ?_ _ | refine blk_drew ?_ | refine blk_alloc ?_ _)); exact BK392.out⟩, ⟨by (with_reducible repeat (first | refine blk_drewN ?_ _ | refine blk_drew ?_ | refine blk_alloc ?_ _)); exact BK409.out⟩, ⟨by repeat (first | (with_reducible first | exact HB.out | apply below_alloc | apply pw_below_drewN | apply below_drew1 | refine below_set ?_ GE392.out | refine below_set ?_ GE409.out) | exact HB.out)⟩⟩
                    ·replace c70 := Bool.eq_false_iff.mpr c70
                     subst c70
                     have H1 : (none) = some r := by rw [if_neg (show ¬ (false = true) by decide)] at H; exact H
                     clear H
                     have H := H1
                     clear H1
                     exact absurd H (by simp)
                   ·rw [if_neg c68] at H
                    have c68b0 : ((rd t401 x23_5) == t407) = false := beq_eq_false_iff_ne.mpr c68
                    have c68b1 : ((rd t401 x23_5) != t407) = true := bne_iff_ne.mpr c68
                    have H' := Aside0.mk H
                    clear H
                    have hnb89 := NB409_392.out
                    have hnc89 := NB392_409.out
                    have hcz90_0 : wc.cell? ⟨gb409, 0, none⟩ = some (.slice Ao49 t401.length co49) := (blk_cell BK409.out 0).trans rfl
                    have hcz90_1 : wc.cell? ⟨gb409, 1, none⟩ = some (.slice Ao52 t404.length co52) := (blk_cell BK409.out 1).trans rfl
                    have hfz90_0 := blk_frozen BK409.out 0
                    have hfz90_1 := blk_frozen BK409.out 1
                    have p416 : 0 ≤ (x23_5 : Int) := of_decide_eq_true (by first | (with_reducible assumption) | assumption)
                    have q416 : x23_5 < (t401.length : Int) := of_decide_eq_true (by first | (with_reducible assumption) | assumption)
                    obtain ⟨ad416, e416, hx416_0⟩ := Kd.at_int (Kd.R_reads' HO_410000.out).2.2 x23_5 p416 q416
                    cases e416
                    replace p416 := eq_true p416
                    replace q416 := eq_true q416
                    go_wp2
                    go_roundg kj58
                    case measure => have := HJ6.out; have := HJ17.out; have := HJ19.out; have := HJ45.out; have := HK5.out; have := HJ58.out; omega
                    case rel => exact ⟨(wrap64 (x23_5 + 1)), (by first | rfl | (simp; done) | (simp [*]; done)), H', ⟨by have := HJ6.out; have := HJ17.out; have := HJ19.out; have := HJ45.out; have := HK5.out; have := HJ58.out; omega⟩, ⟨by (with_reducible repeat (first | apply Kd.R_alloc | apply Kd.R_drewN | apply Kd.R_drew)); exact HO_393000.out⟩, ⟨by (with_reducible repeat (first | apply Kd.Q_alloc | apply Kd.Q_drewN | apply Kd.Q_drew)); exact HO_393001.out⟩, ⟨by (with_reducible repeat (first | apply Kd.R_alloc | apply Kd.R_drewN | apply Kd.R_drew)); exact HO_410000.out⟩, ⟨by (with_reducible repeat (first | apply Kd.Q_alloc | apply Kd.Q_drewN | apply Kd.Q_drew)); exact HO_410001.out⟩, ⟨by (with_reducible repeat (first | refine blk_drewN ?_ _ | refine blk_drew ?_ | refine blk_alloc ?_ _)); exact BK392.out⟩, ⟨by (with_reducible repeat (first | refine blk_drewN ?_ _ | refine blk_drew ?_ | refine blk_alloc ?_ _)); exact BK409.out⟩, ⟨by repeat (first | (with_reducible first | exact HB.out | apply below_alloc | apply pw_below_drewN | apply below_drew1 | refine below_set ?_ GE392.out | refine below_set ?_ GE409.out) | exact HB.out)⟩⟩
                  ·rw [if_neg c67] at H
                   exact absurd H (by simp)
                 ·rw [if_neg c66] at H
                  exact absurd H (by simp)
                ·replace c65 := Bool.eq_false_iff.mpr c65
                 subst c65
                 have H1 : ((spec_DrawNextCall.f kj58 l0).bind fun bt420 => ((impl_NextCall.f kj58 bt420.1 bt420.2.1 bt420.2.2.1 bt420.2.2.2).bind fun bt429 => ((spec_NextCall.f kj58 bt420.1 bt420.2.1 bt420.2.2.1 bt420.2.2.2).bind fun bt432 => (if bt429.1 = bt432.1 then (if bt429.2.1 = bt432.2.1 then (laws_FnCalls.j6 kj58 bt420.2.2.1 bt420.2.2.2 bt429.2.2 (bt429.2.2 != bt432.2.2) bt420.1 bt420.2.1) else (none)) else (none))))) = some r := by rw [if_neg (show ¬ (false = true) by decide)] at H; exact H
                 clear H
                 have H := H1
                 clear H1
                 replace H := Option.bind_eq_some_iff.mp H
                 obtain ⟨⟨t420, t423, t426, t427⟩, A910, H⟩ := H
                 replace H : ((impl_NextCall.f kj58 t420 t423 t426 t427).bind fun bt429 => ((spec_NextCall.f kj58 t420 t423 t426 t427).bind fun bt432 => (if bt429.1 = bt432.1 then (if bt429.2.1 = bt432.2.1 then (laws_FnCalls.j6 kj58 t426 t427 bt429.2.2 (bt429.2.2 != bt432.2.2) t420 t423) else (none)) else (none)))) = some r := H
                 have A91 := Aside0.mk A910
                 clear A910
                 replace H := Option.bind_eq_some_iff.mp H
                 obtain ⟨⟨t429, t430, t431⟩, A920, H⟩ := H
                 replace H : ((spec_NextCall.f kj58 t420 t423 t426 t427).bind fun bt432 => (if t429 = bt432.1 then (if t430 = bt432.2.1 then (laws_FnCalls.j6 kj58 t426 t427 t431 (t431 != bt432.2.2) t420 t423) else (none)) else (none))) = some r := H
                 have A92 := Aside0.mk A920
                 clear A920
                 replace H := Option.bind_eq_some_iff.mp H
                 obtain ⟨⟨t432, t433, t434⟩, A930, H⟩ := H
                 replace H : (if t429 = t432 then (if t430 = t433 then (laws_FnCalls.j6 kj58 t426 t427 t431 (t431 != t434) t420 t423) else (none)) else (none)) = some r := H
                 have A93 := Aside0.mk A930
                 clear A930
                 have HC94 := Aside0.mk H
                 clear H
                 go_upto_region 28 with (first | ((with_reducible refine gate_callee (f := 22) rfl ?_); refine goesL_ (some 180) rfl rfl Try.func22 (by kernel_rfl) rfl #[.slice A0 l0.length c0] rfl (by (try simp only [List.map_toArray, List.map_cons, List.map_nil]); first | done | rfl | (simp only [List.length_drop, List.length_take]; rfl)) ?_; (with_reducible refine (spec_DrawNextCall.calls kj58 _ _ l0 t420 t423 t426 t427 _ ?side1 ?side2 A91.out).mono ?_); (case side1 => repeat (first | exact (Kd.C_below HR0.out HB.out) | (with_reducible refine Kd.C_alloc ?_ _) | (with_reducible refine Kd.C_drewN ?_ _) | (with_reducible refine Kd.C_drew ?_))); (case side2 => exact HC0.out); rintro e w95 ⟨v421, v424, rfl, ho0, ho1, hb⟩; refine ⟨_, rfl, ?_⟩; have n0_ := Aside0.mk (Kd.R_mono (Kd.R_told (Kd.R_told (Kd.R_old (by (with_reducible repeat (first | apply Kd.R_alloc | apply Kd.R_drewN | apply Kd.R_drew)); exact HO_393000.out) hb) (Kd.R_base ho0)) (Kd.Q_base ho1)) (fun _ h_ => h_.1)); have n1_ := Aside0.mk (Kd.Q_mono (Kd.Q_told (Kd.Q_told (Kd.Q_old (by (with_reducible repeat (first | apply Kd.Q_alloc | apply Kd.Q_drewN | apply Kd.Q_drew)); exact HO_393001.out) hb) (Kd.R_base ho0)) (Kd.Q_base ho1)) (fun _ h_ => h_.1)); have n2_ := Aside0.mk (Kd.R_mono (Kd.R_told (Kd.R_told (Kd.R_old (by (with_reducible repeat (first | apply Kd.R_alloc | apply Kd.R_drewN | apply Kd.R_drew)); exact HO_410000.out) hb) (Kd.R_base ho0)) (Kd.Q_base ho1)) (fun _ h_ => h_.1)); have n3_ := Aside0.mk (Kd.Q_mono (Kd.Q_told (Kd.Q_told (Kd.Q_old (by (with_reducible repeat (first | apply Kd.Q_alloc | apply Kd.Q_drewN | apply Kd.Q_drew)); exact HO_410001.out) hb) (Kd.R_base ho0)) (Kd.Q_base ho1)) (fun _ h_ => h_.1)); have n4_ := Aside0.mk (Kd.R_lower (Kd.R_new' (Kd.R_new' (Kd.R_new' (Kd.R_new' ho0 (Kd.R_lt (by (with_reducible repeat (first | apply Kd.R_alloc | apply Kd.R_drewN | apply Kd.R_drew)); exact HO_393000.out))) (Kd.Q_lt (by (with_reducible repeat (first | apply Kd.Q_alloc | apply Kd.Q_drewN | apply Kd.Q_drew)); exact HO_393001.out))) (Kd.R_lt (by (with_reducible repeat (first | apply Kd.R_alloc | apply Kd.R_drewN | apply Kd.R_drew)); exact HO_410000.out))) (Kd.Q_lt (by (with_reducible repeat (first | apply Kd.Q_alloc | apply Kd.Q_drewN | apply Kd.Q_drew)); exact HO_410001.out))) (below_size (by repeat (first | (with_reducible first | exact HB.out | apply below_alloc | apply pw_below_drewN | apply below_drew1 | refine below_set ?_ GE392.out | refine below_set ?_ GE409.out) | exact HB.out)))); have n5_ := Aside0.mk (Kd.Q_lower (Kd.Q_new' (Kd.Q_new' (Kd.Q_new' (Kd.Q_new' ho1 (Kd.R_lt (by (with_reducible repeat (first | apply Kd.R_alloc | apply Kd.R_drewN | apply Kd.R_drew)); exact HO_393000.out))) (Kd.Q_lt (by (with_reducible repeat (first | apply Kd.Q_alloc | apply Kd.Q_drewN | apply Kd.Q_drew)); exact HO_393001.out))) (Kd.R_lt (by (with_reducible repeat (first | apply Kd.R_alloc | apply Kd.R_drewN | apply Kd.R_drew)); exact HO_410000.out))) (Kd.Q_lt (by (with_reducible repeat (first | apply Kd.Q_alloc | apply Kd.Q_drewN | apply Kd.Q_drew)); exact HO_410001.out))) (below_size (by repeat (first | (with_reducible first | exact HB.out | apply below_alloc | apply pw_below_drewN | apply below_drew1 | refine below_set ?_ GE392.out | refine below_set ?_ GE409.out) | exact HB.out)))); have n6_ := Aside0.mk (blk_below (g := gb392) (o := .cells #[.slice Ao10 t384.length co10, .slice Ao12 t387.length co12] 26 (0, 0)) (by (with_reducible repeat (first | refine blk_drewN ?_ _ | refine blk_drew ?_ | refine blk_alloc ?_ _)); exact BK392.out) hb); have n7_ := Aside0.mk (blk_below (g := gb409) (o := .cells #[.slice Ao49 t401.length co49, .slice Ao52 t404.length co52] 26 (0, 0)) (by (with_reducible repeat (first | refine blk_drewN ?_ _ | refine blk_drew ?_ | refine blk_alloc ?_ _)); exact BK409.out) hb); have n8_ := Aside0.mk (below_step (by repeat (first | (with_reducible first | exact HB.out | apply below_alloc | apply pw_below_drewN | apply below_drew1 | refine below_set ?_ GE392.out | refine below_set ?_ GE409.out) | exact HB.out)) hb); clear HO_393000; clear HO_393001; clear HO_410000; clear HO_410001; clear BK392; clear BK409; clear HB; have HO_393000 := n0_; have HO_393001 := n1_; have HO_410000 := n2_; have HO_410001 := n3_; have HO422 := n4_; have HO425 := n5_; have BK392 := n6_; have BK409 := n7_; have HB := n8_; clear n0_ n1_ n2_ n3_ n4_ n5_ n6_ n7_ n8_; (try clear hb); (try clear hb2); (try clear hk); (try clear hi); (try clear ho0); (try clear ho1)) | ((with_reducible refine gate_dst (N := 27) rfl ?_); refine box_event ?hg (N := 27) ?hd (cs := #[.slice none 0 0, .slice none 0 0]) (t := 26) ?hr ?_; (case hd => rfl); (case hg => rfl); (case hr => first | (go_simp; done) | (go_simp; rfl)); intro gb428 hg w96 hbox hb; have n0_ := Aside0.mk (Kd.R_below (by (with_reducible repeat (first | apply Kd.R_alloc | apply Kd.R_drewN | apply Kd.R_drew)); exact HO_393000.out) hb); have n1_ := Aside0.mk (Kd.Q_below (by (with_reducible repeat (first | apply Kd.Q_alloc | apply Kd.Q_drewN | apply Kd.Q_drew)); exact HO_393001.out) hb); have n2_ := Aside0.mk (Kd.R_below (by (with_reducible repeat (first | apply Kd.R_alloc | apply Kd.R_drewN | apply Kd.R_drew)); exact HO_410000.out) hb); have n3_ := Aside0.mk (Kd.Q_below (by (with_reducible repeat (first | apply Kd.Q_alloc | apply Kd.Q_drewN | apply Kd.Q_drew)); exact HO_410001.out) hb); have n4_ := Aside0.mk (Kd.R_below (by (with_reducible repeat (first | apply Kd.R_alloc | apply Kd.R_drewN | apply Kd.R_drew)); exact HO422.out) hb); have n5_ := Aside0.mk (Kd.Q_below (by (with_reducible repeat (first | apply Kd.Q_alloc | apply Kd.Q_drewN | apply Kd.Q_drew)); exact HO425.out) hb); have n6_ := Aside0.mk (blk_below (g := gb392) (o := .cells #[.slice Ao10 t384.length co10, .slice Ao12 t387.length co12] 26 (0, 0)) (by (with_reducible repeat (first | refine blk_drewN ?_ _ | refine blk_drew ?_ | refine blk_alloc ?_ _)); exact BK392.out) hb); have n7_ := Aside0.mk (blk_below (g := gb409) (o := .cells #[.slice Ao49 t401.length co49, .slice Ao52 t404.length co52] 26 (0, 0)) (by (with_reducible repeat (first | refine blk_drewN ?_ _ | refine blk_drew ?_ | refine blk_alloc ?_ _)); exact BK409.out) hb); have n8_ := Aside0.mk (below_step (by repeat (first | (with_reducible first | exact HB.out | apply below_alloc | apply pw_below_drewN | apply below_drew1 | refine below_set ?_ GE392.out | refine below_set ?_ GE409.out) | exact HB.out)) hb); have n9_ := Aside0.mk (hbox); have n10_ := Aside0.mk ((by rw [hg]; exact (below_size (by repeat (first | (with_reducible first | exact HB.out | apply below_alloc | apply pw_below_drewN | apply below_drew1 | refine below_set ?_ GE392.out | refine below_set ?_ GE409.out) | exact HB.out))) : w.heap.size ≤ gb428)); have n11_ := Aside0.mk ((by rw [hg]; exact (below_size (by repeat (first | (with_reducible first | exact HB.out | apply below_alloc | apply pw_below_drewN | apply below_drew1 | refine below_set ?_ GE392.out | refine below_set ?_ GE409.out) | exact HB.out))) : w.heap.size ≤ gb428)); have n12_ := Aside0.mk ((by rw [hg]; exact Nat.ne_of_lt (blk_lt (g := gb392) (o := .cells #[.slice Ao10 t384.length co10, .slice Ao12 t387.length co12] 26 (0, 0)) (by (with_reducible repeat (first | refine blk_drewN ?_ _ | refine blk_drew ?_ | refine blk_alloc ?_ _)); exact BK392.out)) : gb392 ≠ gb428)); have n13_ := Aside0.mk ((by rw [hg]; exact Nat.ne_of_gt (blk_lt (g := gb392) (o := .cells #[.slice Ao10 t384.length co10, .slice Ao12 t387.length co12] 26 (0, 0)) (by (with_reducible repeat (first | refine blk_drewN ?_ _ | refine blk_drew ?_ | refine blk_alloc ?_ _)); exact BK392.out)) : gb428 ≠ gb392)); have n14_ := Aside0.mk ((by rw [hg]; exact Nat.ne_of_lt (blk_lt (g := gb409) (o := .cells #[.slice Ao49 t401.length co49, .slice Ao52 t404.length co52] 26 (0, 0)) (by (with_reducible repeat (first | refine blk_drewN ?_ _ | refine blk_drew ?_ | refine blk_alloc ?_ _)); exact BK409.out)) : gb409 ≠ gb428)); have n15_ := Aside0.mk ((by rw [hg]; exact Nat.ne_of_gt (blk_lt (g := gb409) (o := .cells #[.slice Ao49 t401.length co49, .slice Ao52 t404.length co52] 26 (0, 0)) (by (with_reducible repeat (first | refine blk_drewN ?_ _ | refine blk_drew ?_ | refine blk_alloc ?_ _)); exact BK409.out)) : gb428 ≠ gb409)); clear HO_393000; clear HO_393001; clear HO_410000; clear HO_410001; clear HO422; clear HO425; clear BK392; clear BK409; clear HB; have HO_393000 := n0_; have HO_393001 := n1_; have HO_410000 := n2_; have HO_410001 := n3_; have HO422 := n4_; have HO425 := n5_; have BK392 := n6_; have BK409 := n7_; have HB := n8_; have BK428 := n9_; have GW428 := n10_; have GE428 := n11_; have NB392_428 := n12_; have NB428_392 := n13_; have NB409_428 := n14_; have NB428_409 := n15_; clear n0_ n1_ n2_ n3_ n4_ n5_ n6_ n7_ n8_ n9_ n10_ n11_ n12_ n13_ n14_ n15_; clear hb hbox hg; obtain ⟨Ao97, co97, eo97⟩ := Kd.R_slice HO422.out; subst eo97; have hnb98 := NB428_392.out; have hnc98 := NB392_428.out; have hnb99 := NB428_409.out; have hnc99 := NB409_428.out; have hcz100_0 : w96.cell? ⟨gb428, 0, none⟩ = some (.slice none 0 0) := (blk_cell BK428.out 0).trans rfl; have hcz100_1 : w96.cell? ⟨gb428, 1, none⟩ = some (.slice none 0 0) := (blk_cell BK428.out 1).trans rfl; have hfz100_0 := blk_frozen BK428.out 0; have hfz100_1 := blk_frozen BK428.out 1; obtain ⟨Ao101, co101, eo101, _⟩ := Kd.Q_slice HO425.out; subst eo101) | ((with_reducible refine gate_callee (f := 21) rfl ?_); refine goesL_ (some 188) rfl rfl Try.func21 (by kernel_rfl) rfl #[.agg #[.slice Ao97 t420.length co97, .slice Ao101 t423.length co101], .int .i64 t426, .int .i64 t427] rfl (by (try simp only [List.map_toArray, List.map_cons, List.map_nil]); first | done | rfl | (simp only [List.length_drop, List.length_take]; rfl)) ?_; (with_reducible refine (impl_NextCall.calls kj58 _ _ t420 _ _ t423 t426 t427 t429 t430 t431 _ ?side1 ?side2 ?side3 ?side4 A92.out).mono ?_); (case side1 => refine (Kd.R_reads' (e := 3) (base := w.heap.size) (ok := fun k_ => ((((some k_ ≠ (.slice Ao101 t423.length co101 : Value).ownBlock ∧ some k_ ≠ (.slice Ao10 t384.length co10 : Value).ownBlock) ∧ some k_ ≠ (.slice Ao12 t387.length co12 : Value).ownBlock) ∧ some k_ ≠ (.slice Ao49 t401.length co49 : Value).ownBlock) ∧ some k_ ≠ (.slice Ao52 t404.length co52 : Value).ownBlock)) (n := t420.length) (c := co97) ?_).2.2; exact (by (with_reducible repeat (first | apply Kd.R_alloc | apply Kd.R_drewN | apply Kd.R_drew)); exact (Kd.R_mono (Kd.R_far (p := ⟨gb428, 1, none⟩) (Kd.R_far (p := ⟨gb428, 0, none⟩) (Kd.R_types HO422.out BK428.out (by decide)) (fun _ hk => hk.2) (.slice Ao97 t420.length co97)) (fun _ hk => hk.2) (.slice Ao101 t423.length co101)) (fun _ h_ => h_.1)))); (case side2 => exact (Kd.R_reads' HO422.out).2.1); (case side3 => refine (Kd.Q_reads' (e := 3) (base := w.heap.size) (ok := fun k_ => ((((some k_ ≠ (.slice Ao97 t420.length co97 : Value).ownBlock ∧ some k_ ≠ (.slice Ao10 t384.length co10 : Value).ownBlock) ∧ some k_ ≠ (.slice Ao12 t387.length co12 : Value).ownBlock) ∧ some k_ ≠ (.slice Ao49 t401.length co49 : Value).ownBlock) ∧ some k_ ≠ (.slice Ao52 t404.length co52 : Value).ownBlock)) (n := t423.length) (c := co101) ?_).2.2; exact (by (with_reducible repeat (first | apply Kd.Q_alloc | apply Kd.Q_drewN | apply Kd.Q_drew)); exact (Kd.Q_mono (Kd.Q_far (p := ⟨gb428, 1, none⟩) (Kd.Q_far (p := ⟨gb428, 0, none⟩) (Kd.Q_types HO425.out BK428.out (by decide)) (fun _ hk => hk.2) (.slice Ao97 t420.length co97)) (fun _ hk => hk.2) (.slice Ao101 t423.length co101)) (fun _ h_ => h_.1)))); (case side4 => exact (Kd.Q_reads' HO425.out).2.1); rintro e w102 ⟨rfl, hb⟩; refine ⟨_, rfl, ?_⟩; have n0_ := Aside0.mk (Kd.R_below (by (with_reducible repeat (first | apply Kd.R_alloc | apply Kd.R_drewN | apply Kd.R_drew)); exact (Kd.R_mono (Kd.R_far (p := ⟨gb428, 1, none⟩) (Kd.R_far (p := ⟨gb428, 0, none⟩) (Kd.R_types HO_393000.out BK428.out (by decide)) (fun _ hk => hk.2) (.slice Ao97 t420.length co97)) (fun _ hk => hk.2) (.slice Ao101 t423.length co101)) (fun _ h_ => h_.1))) hb); have n1_ := Aside0.mk (Kd.Q_below (by (with_reducible repeat (first | apply Kd.Q_alloc | apply Kd.Q_drewN | apply Kd.Q_drew)); exact (Kd.Q_mono (Kd.Q_far (p := ⟨gb428, 1, none⟩) (Kd.Q_far (p := ⟨gb428, 0, none⟩) (Kd.Q_types HO_393001.out BK428.out (by decide)) (fun _ hk => hk.2) (.slice Ao97 t420.length co97)) (fun _ hk => hk.2) (.slice Ao101 t423.length co101)) (fun _ h_ => h_.1))) hb); have n2_ := Aside0.mk (Kd.R_below (by (with_reducible repeat (first | apply Kd.R_alloc | apply Kd.R_drewN | apply Kd.R_drew)); exact (Kd.R_mono (Kd.R_far (p := ⟨gb428, 1, none⟩) (Kd.R_far (p := ⟨gb428, 0, none⟩) (Kd.R_types HO_410000.out BK428.out (by decide)) (fun _ hk => hk.2) (.slice Ao97 t420.length co97)) (fun _ hk => hk.2) (.slice Ao101 t423.length co101)) (fun _ h_ => h_.1))) hb); have n3_ := Aside0.mk (Kd.Q_below (by (with_reducible repeat (first | apply Kd.Q_alloc | apply Kd.Q_drewN | apply Kd.Q_drew)); exact (Kd.Q_mono (Kd.Q_far (p := ⟨gb428, 1, none⟩) (Kd.Q_far (p := ⟨gb428, 0, none⟩) (Kd.Q_types HO_410001.out BK428.out (by decide)) (fun _ hk => hk.2) (.slice Ao97 t420.length co97)) (fun _ hk => hk.2) (.slice Ao101 t423.length co101)) (fun _ h_ => h_.1))) hb); have n4_ := Aside0.mk (Kd.R_below (by (with_reducible repeat (first | apply Kd.R_alloc | apply Kd.R_drewN | apply Kd.R_drew)); exact (Kd.R_mono (Kd.R_far (p := ⟨gb428, 1, none⟩) (Kd.R_far (p := ⟨gb428, 0, none⟩) (Kd.R_types HO422.out BK428.out (by decide)) (fun _ hk => hk.2) (.slice Ao97 t420.length co97)) (fun _ hk => hk.2) (.slice Ao101 t423.length co101)) (fun _ h_ => h_.1))) hb); have n5_ := Aside0.mk (Kd.Q_below (by (with_reducible repeat (first | apply Kd.Q_alloc | apply Kd.Q_drewN | apply Kd.Q_drew)); exact (Kd.Q_mono (Kd.Q_far (p := ⟨gb428, 1, none⟩) (Kd.Q_far (p := ⟨gb428, 0, none⟩) (Kd.Q_types HO425.out BK428.out (by decide)) (fun _ hk => hk.2) (.slice Ao97 t420.length co97)) (fun _ hk => hk.2) (.slice Ao101 t423.length co101)) (fun _ h_ => h_.1))) hb); have n6_ := Aside0.mk (blk_below (g := gb392) (o := .cells #[.slice Ao10 t384.length co10, .slice Ao12 t387.length co12] 26 (0, 0)) (by (with_reducible repeat (first | refine blk_drewN ?_ _ | refine blk_drew ?_ | refine blk_alloc ?_ _)); refine blk_far ?_ NB392_428.out _; (with_reducible repeat (first | refine blk_drewN ?_ _ | refine blk_drew ?_ | refine blk_alloc ?_ _)); refine blk_far ?_ NB392_428.out _; (with_reducible repeat (first | refine blk_drewN ?_ _ | refine blk_drew ?_ | refine blk_alloc ?_ _)); exact BK392.out) hb); have n7_ := Aside0.mk (blk_below (g := gb409) (o := .cells #[.slice Ao49 t401.length co49, .slice Ao52 t404.length co52] 26 (0, 0)) (by (with_reducible repeat (first | refine blk_drewN ?_ _ | refine blk_drew ?_ | refine blk_alloc ?_ _)); refine blk_far ?_ NB409_428.out _; (with_reducible repeat (first | refine blk_drewN ?_ _ | refine blk_drew ?_ | refine blk_alloc ?_ _)); refine blk_far ?_ NB409_428.out _; (with_reducible repeat (first | refine blk_drewN ?_ _ | refine blk_drew ?_ | refine blk_alloc ?_ _)); exact BK409.out) hb); have n8_ := Aside0.mk (blk_below (g := gb428) (o := .cells #[.slice Ao97 t420.length co97, .slice Ao101 t423.length co101] 26 (0, 0)) (by (with_reducible repeat (first | refine blk_drewN ?_ _ | refine blk_drew ?_ | refine blk_alloc ?_ _)); refine blk_put (cs := #[.slice Ao97 t420.length co97, .slice none 0 0]) ?_ 1 _ rfl; (with_reducible repeat (first | refine blk_drewN ?_ _ | refine blk_drew ?_ | refine blk_alloc ?_ _)); refine blk_put (cs := #[.slice none 0 0, .slice none 0 0]) ?_ 0 _ rfl; (with_reducible repeat (first | refine blk_drewN ?_ _ | refine blk_drew ?_ | refine blk_alloc ?_ _)); exact BK428.out) hb); have n9_ := Aside0.mk (below_step (by repeat (first | (with_reducible first | exact HB.out | apply below_alloc | apply pw_below_drewN | apply below_drew1 | refine below_set ?_ GE392.out | refine below_set ?_ GE409.out | refine below_set ?_ GE428.out) | exact HB.out)) hb); clear HO_393000; clear HO_393001; clear HO_410000; clear HO_410001; clear HO422; clear HO425; clear BK392; clear BK409; clear BK428; clear HB; have HO_393000 := n0_; have HO_393001 := n1_; have HO_410000 := n2_; have HO_410001 := n3_; have HO422 := n4_; have HO425 := n5_; have BK392 := n6_; have BK409 := n7_; have BK428 := n8_; have HB := n9_; clear n0_ n1_ n2_ n3_ n4_ n5_ n6_ n7_ n8_ n9_; (try clear hb); (try clear hb2); (try clear hk); (try clear hi); have hcz103_0 : w102.cell? ⟨gb428, 0, none⟩ = some (.slice Ao97 t420.length co97) := (blk_cell BK428.out 0).trans rfl; have hcz103_1 : w102.cell? ⟨gb428, 1, none⟩ = some (.slice Ao101 t423.length co101) := (blk_cell BK428.out 1).trans rfl; have hfz103_0 := blk_frozen BK428.out 0; have hfz103_1 := blk_frozen BK428.out 1) | ((with_reducible refine gate_callee (f := 23) rfl ?_); refine goesL_ (some 196) rfl rfl Try.func23 (by kernel_rfl) rfl #[.agg #[.slice Ao97 t420.length co97, .slice Ao101 t423.length co101], .int .i64 t426, .int .i64 t427] rfl (by (try simp only [List.map_toArray, List.map_cons, List.map_nil]); first | done | rfl | (simp only [List.length_drop, List.length_take]; rfl)) ?_; (with_reducible refine (spec_NextCall.calls kj58 _ _ t420 _ _ t423 t426 t427 t432 t433 t434 _ ?side1 ?side2 ?side3 ?side4 A93.out).mono ?_); (case side1 => repeat (first | exact (Kd.R_reads' HO422.out).2.2 | (with_reducible refine Kd.C_alloc ?_ _) | (with_reducible refine Kd.C_drewN ?_ _) | (with_reducible refine Kd.C_drew ?_))); (case side2 => exact (Kd.R_reads' HO422.out).2.1); (case side3 => repeat (first | exact (Kd.Q_reads' HO425.out).2.2 | (with_reducible refine Kd.C_alloc ?_ _) | (with_reducible refine Kd.C_drewN ?_ _) | (with_reducible refine Kd.C_drew ?_))); (case side4 => exact (Kd.Q_reads' HO425.out).2.1); rintro e w104 ⟨rfl, hb⟩; refine ⟨_, rfl, ?_⟩; have n0_ := Aside0.mk (Kd.R_below (by (with_reducible repeat (first | apply Kd.R_alloc | apply Kd.R_drewN | apply Kd.R_drew)); exact HO_393000.out) hb); have n1_ := Aside0.mk (Kd.Q_below (by (with_reducible repeat (first | apply Kd.Q_alloc | apply Kd.Q_drewN | apply Kd.Q_drew)); exact HO_393001.out) hb); have n2_ := Aside0.mk (Kd.R_below (by (with_reducible repeat (first | apply Kd.R_alloc | apply Kd.R_drewN | apply Kd.R_drew)); exact HO_410000.out) hb); have n3_ := Aside0.mk (Kd.Q_below (by (with_reducible repeat (first | apply Kd.Q_alloc | apply Kd.Q_drewN | apply Kd.Q_drew)); exact HO_410001.out) hb); have n4_ := Aside0.mk (Kd.R_below (by (with_reducible repeat (first | apply Kd.R_alloc | apply Kd.R_drewN | apply Kd.R_drew)); exact HO422.out) hb); have n5_ := Aside0.mk (Kd.Q_below (by (with_reducible repeat (first | apply Kd.Q_alloc | apply Kd.Q_drewN | apply Kd.Q_drew)); exact HO425.out) hb); have n6_ := Aside0.mk (blk_below (g := gb392) (o := .cells #[.slice Ao10 t384.length co10, .slice Ao12 t387.length co12] 26 (0, 0)) (by (with_reducible repeat (first | refine blk_drewN ?_ _ | refine blk_drew ?_ | refine blk_alloc ?_ _)); exact BK392.out) hb); have n7_ := Aside0.mk (blk_below (g := gb409) (o := .cells #[.slice Ao49 t401.length co49, .slice Ao52 t404.length co52] 26 (0, 0)) (by (with_reducible repeat (first | refine blk_drewN ?_ _ | refine blk_drew ?_ | refine blk_alloc ?_ _)); exact BK409.out) hb); have n8_ := Aside0.mk (blk_below (g := gb428) (o := .cells #[.slice Ao97 t420.length co97, .slice Ao101 t423.length co101] 26 (0, 0)) (by (with_reducible repeat (first | refine blk_drewN ?_ _ | refine blk_drew ?_ | refine blk_alloc ?_ _)); exact BK428.out) hb); have n9_ := Aside0.mk (below_step (by repeat (first | (with_reducible first | exact HB.out | apply below_alloc | apply pw_below_drewN | apply below_drew1 | refine below_set ?_ GE392.out | refine below_set ?_ GE409.out | refine below_set ?_ GE428.out) | exact HB.out)) hb); clear HO_393000; clear HO_393001; clear HO_410000; clear HO_410001; clear HO422; clear HO425; clear BK392; clear BK409; clear BK428; clear HB; have HO_393000 := n0_; have HO_393001 := n1_; have HO_410000 := n2_; have HO_410001 := n3_; have HO422 := n4_; have HO425 := n5_; have BK392 := n6_; have BK409 := n7_; have BK428 := n8_; have HB := n9_; clear n0_ n1_ n2_ n3_ n4_ n5_ n6_ n7_ n8_ n9_; (try clear hb); (try clear hb2); (try clear hk); (try clear hi)))
                 (try simp only [Act.put, List.setIfInBounds_toArray, List.set_cons_zero, List.set_cons_succ])
                 go_cut [212] (fun v212 wc => ∃ (kq : Nat) (x212_93 : Bool), v212 = .bool x212_93 ∧ Aside0 (laws_FnCalls.j6 kq t426 t427 t431 x212_93 t420 t423 = some r) ∧ Aside0 (kq ≤ kj58) ∧ Aside0 (Kd.R (Kd.int .i64) 3 wc w.heap.size (fun k_ => some k_ ≠ ((.slice Ao12 t387.length co12) : Value).ownBlock ∧ some k_ ≠ ((.slice Ao49 t401.length co49) : Value).ownBlock ∧ some k_ ≠ ((.slice Ao52 t404.length co52) : Value).ownBlock ∧ some k_ ≠ ((.slice Ao97 t420.length co97) : Value).ownBlock ∧ some k_ ≠ ((.slice Ao101 t423.length co101) : Value).ownBlock) (.slice Ao10 t384.length co10) t384) ∧ Aside0 (Kd.Q (Kd.int .i64) 3 wc w.heap.size (fun k_ => some k_ ≠ ((.slice Ao10 t384.length co10) : Value).ownBlock ∧ some k_ ≠ ((.slice Ao49 t401.length co49) : Value).ownBlock ∧ some k_ ≠ ((.slice Ao52 t404.length co52) : Value).ownBlock ∧ some k_ ≠ ((.slice Ao97 t420.length co97) : Value).ownBlock ∧ some k_ ≠ ((.slice Ao101 t423.length co101) : Value).ownBlock) (.slice Ao12 t387.length co12) t387) ∧ Aside0 (Kd.R (Kd.int .i64) 3 wc w.heap.size (fun k_ => some k_ ≠ ((.slice Ao10 t384.length co10) : Value).ownBlock ∧ some k_ ≠ ((.slice Ao12 t387.length co12) : Value).ownBlock ∧ some k_ ≠ ((.slice Ao52 t404.length co52) : Value).ownBlock ∧ some k_ ≠ ((.slice Ao97 t420.length co97) : Value).ownBlock ∧ some k_ ≠ ((.slice Ao101 t423.length co101) : Value).ownBlock) (.slice Ao49 t401.length co49) t401) ∧ Aside0 (Kd.Q (Kd.int .i64) 3 wc w.heap.size (fun k_ => some k_ ≠ ((.slice Ao10 t384.length co10) : Value).ownBlock ∧ some k_ ≠ ((.slice Ao12 t387.length co12) : Value).ownBlock ∧ some k_ ≠ ((.slice Ao49 t401.length co49) : Value).ownBlock ∧ some k_ ≠ ((.slice Ao97 t420.length co97) : Value).ownBlock ∧ some k_ ≠ ((.slice Ao101 t423.length co101) : Value).ownBlock) (.slice Ao52 t404.length co52) t404) ∧ Aside0 (Kd.R (Kd.int .i64) 3 wc w.heap.size (fun k_ => some k_ ≠ ((.slice Ao10 t384.length co10) : Value).ownBlock ∧ some k_ ≠ ((.slice Ao12 t387.length co12) : Value).ownBlock ∧ some k_ ≠ ((.slice Ao49 t401.length co49) : Value).ownBlock ∧ some k_ ≠ ((.slice Ao52 t404.length co52) : Value).ownBlock ∧ some k_ ≠ ((.slice Ao101 t423.length co101) : Value).ownBlock) (.slice Ao97 t420.length co97) t420) ∧ Aside0 (Kd.Q (Kd.int .i64) 3 wc w.heap.size (fun k_ => some k_ ≠ ((.slice Ao10 t384.length co10) : Value).ownBlock ∧ some k_ ≠ ((.slice Ao12 t387.length co12) : Value).ownBlock ∧ some k_ ≠ ((.slice Ao49 t401.length co49) : Value).ownBlock ∧ some k_ ≠ ((.slice Ao52 t404.length co52) : Value).ownBlock ∧ some k_ ≠ ((.slice Ao97 t420.length co97) : Value).ownBlock) (.slice Ao101 t423.length co101) t423) ∧ Aside0 (wc.heap[gb392]? = some (.cells #[(.slice Ao10 t384.length co10), (.slice Ao12 t387.length co12)] 26 (0, 0))) ∧ Aside0 (wc.heap[gb409]? = some (.cells #[(.slice Ao49 t401.length co49), (.slice Ao52 t404.length co52)] 26 (0, 0))) ∧ Aside0 (wc.heap[gb428]? = some (.cells #[(.slice Ao97 t420.length co97), (.slice Ao101 t423.length co101)] 26 (0, 0))) ∧ Aside0 (Below w.heap.size w wc))
                 case first =>
                  have H := HC94.out
                  clear HC94
                  by_cases c105 : t429 = t432
                  ·rw [if_pos c105] at H
                   have c105b0 : (t429 == t432) = true := beq_iff_eq.mpr c105
                   have c105b1 : (t429 != t432) = false := bne_eq_false_iff_eq.mpr c105
                   clear c105
                   (first | rw [c105b0] | (simp only [i64_w, i32_w]; rw [c105b0]) | skip)
                   by_cases c106 : t430 = t433
                   ·rw [if_pos c106] at H
                    have c106b0 : (t430 == t433) = true := beq_iff_eq.mpr c106
                    have c106b1 : (t430 != t433) = false := bne_eq_false_iff_eq.mpr c106
                    clear c106
                    have H' := Aside0.mk H
                    clear H
                    go_wp2
                    go_meet
                    case rel => exact ⟨_, ((t431 != t434)), (by first | rfl | (simp; done) | (simp [*]; done)), H', ⟨by have := HJ6.out; have := HJ17.out; have := HJ19.out; have := HJ45.out; have := HK5.out; have := HJ58.out; first | omega | exact Nat.le_refl _⟩, ⟨by (with_reducible repeat (first | apply Kd.R_alloc | apply Kd.R_drewN | apply Kd.R_drew)); exact Kd.R_mono HO_393000.out (fun _ hk => ⟨hk.1.1.1, ⟨hk.1.1.2.1, ⟨hk.1.1.2.2, ⟨hk.1.2, hk.2⟩⟩⟩⟩)⟩, ⟨by (with_reducible repeat (first | apply Kd.Q_alloc | apply Kd.Q_drewN | apply Kd.Q_drew)); exact Kd.Q_mono HO_393001.out (fun _ hk => ⟨hk.1.1.1, ⟨hk.1.1.2.1, ⟨hk.1.1.2.2, ⟨hk.1.2, hk.2⟩⟩⟩⟩)⟩, ⟨by (with_reducible repeat (first | apply Kd.R_alloc | apply Kd.R_drewN | apply Kd.R_drew)); exact Kd.R_mono HO_410000.out (fun _ hk => ⟨hk.1.1.1, ⟨hk.1.1.2.1, ⟨hk.1.1.2.2, ⟨hk.1.2, hk.2⟩⟩⟩⟩)⟩, ⟨by (with_reducible repeat (first | apply Kd.Q_alloc | apply Kd.Q_drewN | apply Kd.Q_drew)); exact Kd.Q_mono HO_410001.out (fun _ hk => ⟨hk.1.1.1, ⟨hk.1.1.2.1, ⟨hk.1.1.2.2, ⟨hk.1.2, hk.2⟩⟩⟩⟩)⟩, ⟨by (with_reducible repeat (first | apply Kd.R_alloc | apply Kd.R_drewN | apply Kd.R_drew)); exact Kd.R_mono HO422.out (fun _ hk => ⟨hk.1.1.1.2, ⟨hk.1.1.2, ⟨hk.1.2, ⟨hk.2, hk.1.1.1.1⟩⟩⟩⟩)⟩, ⟨by (with_reducible repeat (first | apply Kd.Q_alloc | apply Kd.Q_drewN | apply Kd.Q_drew)); exact Kd.Q_mono HO425.out (fun _ hk => ⟨hk.1.1.1.2, ⟨hk.1.1.2, ⟨hk.1.2, ⟨hk.2, hk.1.1.1.1⟩⟩⟩⟩)⟩, ⟨by (with_reducible repeat (first | refine blk_drewN ?_ _ | refine blk_drew ?_ | refine blk_alloc ?_ _)); exact BK392.out⟩, ⟨by (with_reducible repeat (first | refine blk_drewN ?_ _ | refine blk_drew ?_ | refine blk_alloc ?_ _)); exact BK409.out⟩, ⟨by (with_reducible repeat (first | refine blk_drewN ?_ _ | refine blk_drew ?_ | refine blk_alloc ?_ _)); exact BK428.out⟩, ⟨by repeat (first | (with_reducible first | exact HB.out | apply below_alloc | apply pw_below_drewN | apply below_drew1 | refine below_set ?_ GE392.out | refine below_set ?_ GE409.out | refine below_set ?_ GE428.out) | exact HB.out)⟩⟩
                   ·rw [if_neg c106] at H
                    have c106b0 : (t430 == t433) = false := beq_eq_false_iff_ne.mpr c106
                    have c106b1 : (t430 != t433) = true := bne_iff_ne.mpr c106
                    exact absurd H (by simp)
                  ·rw [if_neg c105] at H
                   have c105b0 : (t429 == t432) = false := beq_eq_false_iff_ne.mpr c105
                   have c105b1 : (t429 != t432) = true := bne_iff_ne.mpr c105
                   (first | rw [c105b0] | (simp only [i64_w, i32_w]; rw [c105b0]) | skip)
                   exact absurd H (by simp)
                 case rest => as_aux_lemma =>
                  clear HC94
                  try clear c1
                  try clear c2
                  try clear p2
                  try clear c3
                  try clear p4
                  try clear q4
                  try clear hx4
                  try clear c5
                  try clear c6
                  try clear p6
                  try clear c7
                  try clear c8
                  try clear c9
                  try clear c10
                  try clear c13
                  try clear c14
                  try clear c15
                  try clear c16
                  try clear c16b0
                  try clear c16b1
                  try clear c17
                  try clear c18
                  try clear c19
                  try clear c20
                  try clear c21
                  try clear c22
                  try clear c23
                  try clear c24
                  try clear c25
                  try clear c26
                  try clear c26b0
                  try clear c26b1
                  try clear p41
                  try clear q41
                  try clear hx41
                  try clear c50
                  try clear c56
                  try clear c56b0
                  try clear c56b1
                  try clear c57
                  try clear c57b0
                  try clear c57b1
                  try clear c58
                  try clear c60
                  try clear c60b0
                  try clear c61
                  try clear c63
                  try clear p64
                  try clear c65
                  try clear c66
                  try clear c66b0
                  try clear c67
                  try clear c67b0
                  try clear c68
                  try clear c68b0
                  try clear c68b1
                  try clear c70
                  try clear c71
                  try clear c71b0
                  try clear c72
                  try clear c75
                  try clear c75b0
                  try clear c75b1
                  try clear c76
                  try clear c76b0
                  try clear c76b1
                  try clear c77
                  try clear c80
                  try clear c83
                  try clear c86
                  try clear c89
                  try clear c98
                  try clear c99
                  try clear c105
                  try clear c105b0
                  try clear c105b1
                  try clear c106
                  try clear c106b0
                  try clear c106b1
                  try clear hcz100_0
                  try clear hcz100_1
                  try clear hcz103_0
                  try clear hcz103_1
                  try clear hcz11_0
                  try clear hcz11_1
                  try clear hcz14_0
                  try clear hcz14_1
                  try clear hcz27_0
                  try clear hcz27_1
                  try clear hcz29_0
                  try clear hcz29_1
                  try clear hcz31_0
                  try clear hcz31_1
                  try clear hcz33_0
                  try clear hcz33_1
                  try clear hcz35_0
                  try clear hcz35_1
                  try clear hcz37_0
                  try clear hcz37_1
                  try clear hcz39_0
                  try clear hcz39_1
                  try clear hcz41_0
                  try clear hcz41_1
                  try clear hcz51_0
                  try clear hcz51_1
                  try clear hcz54_0
                  try clear hcz54_1
                  try clear hcz62_0
                  try clear hcz62_1
                  try clear hcz64_0
                  try clear hcz64_1
                  try clear hcz73_0
                  try clear hcz73_1
                  try clear hcz78_0
                  try clear hcz78_1
                  try clear hcz81_0
                  try clear hcz81_1
                  try clear hcz84_0
                  try clear hcz84_1
                  try clear hcz87_0
                  try clear hcz87_1
                  try clear hcz90_0
                  try clear hcz90_1
                  try clear hfz100_0
                  try clear hfz100_1
                  try clear hfz103_0
                  try clear hfz103_1
                  try clear hfz11_0
                  try clear hfz11_1
                  try clear hfz14_0
                  try clear hfz14_1
                  try clear hfz27_0
                  try clear hfz27_1
                  try clear hfz29_0
                  try clear hfz29_1
                  try clear hfz31_0
                  try clear hfz31_1
                  try clear hfz33_0
                  try clear hfz33_1
                  try clear hfz35_0
                  try clear hfz35_1
                  try clear hfz37_0
                  try clear hfz37_1
                  try clear hfz39_0
                  try clear hfz39_1
                  try clear hfz41_0
                  try clear hfz41_1
                  try clear hfz51_0
                  try clear hfz51_1
                  try clear hfz54_0
                  try clear hfz54_1
                  try clear hfz62_0
                  try clear hfz62_1
                  try clear hfz64_0
                  try clear hfz64_1
                  try clear hfz73_0
                  try clear hfz73_1
                  try clear hfz78_0
                  try clear hfz78_1
                  try clear hfz81_0
                  try clear hfz81_1
                  try clear hfz84_0
                  try clear hfz84_1
                  try clear hfz87_0
                  try clear hfz87_1
                  try clear hfz90_0
                  try clear hfz90_1
                  try clear hx416_0
                  try clear p2
                  try clear p416
                  try clear p6
                  try clear p64
                  try clear q416
                  obtain ⟨kq, x212_93, rfl, HA, HJ93, HO_393000, HO_393001, HO_410000, HO_410001, HO_429000, HO_429001, BK392, BK409, BK428, HB⟩ := hcut
                  cases kq with
                  | zero => exact absurd HA.out (by simp [laws_FnCalls.j6])
                  | succ kj93 =>
                   have H := HA.out
                   clear HA
                   simp only [laws_FnCalls.j6] at H
                   by_cases c107 : x212_93 = true
                   ·subst c107
                    have H1 : (none) = some r := by rw [if_pos rfl] at H; exact H
                    clear H
                    have H := H1
                    clear H1
                    exact absurd H (by simp)
                   ·replace c107 := Bool.eq_false_iff.mpr c107
                    subst c107
                    have H1 : ((impl_PortsAhead.f kj93 t420 t423 t426).bind fun bt435 => ((spec_PortsAhead.f kj93 t420 t423 t426).bind fun bt439 => (if (bt435.2 == bt439.2) = true then ((laws_rInts.f kj93 bt435.1 bt439.1).bind fun t443 => (if t443 = true then (if bt435.2 = true then ((laws_rHas.f kj93 bt435.1 t427).bind fun t444 => (some (t444 == t431))) else (some true)) else (none))) else (none)))) = some r := by rw [if_neg (show ¬ (false = true) by decide)] at H; exact H
                    clear H
                    have H := H1
                    clear H1
                    replace H := Option.bind_eq_some_iff.mp H
                    obtain ⟨⟨t435, t438⟩, A1080, H⟩ := H
                    replace H : ((spec_PortsAhead.f kj93 t420 t423 t426).bind fun bt439 => (if (t438 == bt439.2) = true then ((laws_rInts.f kj93 t435 bt439.1).bind fun t443 => (if t443 = true then (if t438 = true then ((laws_rHas.f kj93 t435 t427).bind fun t444 => (some (t444 == t431))) else (some true)) else (none))) else (none))) = some r := H
                    have A108 := Aside0.mk A1080
                    clear A1080
                    replace H := Option.bind_eq_some_iff.mp H
                    obtain ⟨⟨t439, t442⟩, A1090, H⟩ := H
                    replace H : (if (t438 == t442) = true then ((laws_rInts.f kj93 t435 t439).bind fun t443 => (if t443 = true then (if t438 = true then ((laws_rHas.f kj93 t435 t427).bind fun t444 => (some (t444 == t431))) else (some true)) else (none))) else (none)) = some r := H
                    have A109 := Aside0.mk A1090
                    clear A1090
                    by_cases c110 : (t438 == t442) = true
                    ·rw [if_pos c110] at H
                     have c110b0 : (t438 == t442) = true := c110
                     (try (have c110b1 : decide (t438 = t442) = true := by simpa using c110))
                     (try (have c110b2 : (t438 == t442) = true := by simpa using c110))
                     clear c110
                     replace H := Option.bind_eq_some_iff.mp H
                     obtain ⟨t443, A1110, H⟩ := H
                     replace H : (if t443 = true then (if t438 = true then ((laws_rHas.f kj93 t435 t427).bind fun t444 => (some (t444 == t431))) else (some true)) else (none)) = some r := H
                     have A111 := Aside0.mk A1110
                     clear A1110
                     by_cases c112 : t443 = true
                     ·subst c112
                      have H1 : (if t438 = true then ((laws_rHas.f kj93 t435 t427).bind fun t444 => (some (t444 == t431))) else (some true)) = some r := by rw [if_pos rfl] at H; exact H
                      clear H
                      have H := H1
                      clear H1
                      by_cases c113 : t438 = true
                      ·subst c113
                       have H1 : ((laws_rHas.f kj93 t435 t427).bind fun t444 => (some (t444 == t431))) = some r := by rw [if_pos rfl] at H; exact H
                       clear H
                       have H := H1
                       clear H1
                       replace H := Option.bind_eq_some_iff.mp H
                       obtain ⟨t444, A1140, H⟩ := H
                       replace H : (some (t444 == t431)) = some r := H
                       have A114 := Aside0.mk A1140
                       clear A1140
                       obtain rfl := Option.some.inj H
                       have hnb115 := NB428_392.out
                       have hnc115 := NB392_428.out
                       have hnb116 := NB428_409.out
                       have hnc116 := NB409_428.out
                       have hcz117_0 : wc.cell? ⟨gb428, 0, none⟩ = some (.slice Ao97 t420.length co97) := (blk_cell BK428.out 0).trans rfl
                       have hcz117_1 : wc.cell? ⟨gb428, 1, none⟩ = some (.slice Ao101 t423.length co101) := (blk_cell BK428.out 1).trans rfl
                       have hfz117_0 := blk_frozen BK428.out 0
                       have hfz117_1 := blk_frozen BK428.out 1
                       go_wp2_with (first | ((with_reducible refine gate_callee (f := 24) rfl ?_); refine goesL_ (some 216) rfl rfl Try.func24 (by kernel_rfl) rfl #[.agg #[.slice Ao97 t420.length co97, .slice Ao101 t423.length co101], .int .i64 t426] rfl (by (try simp only [List.map_toArray, List.map_cons, List.map_nil]); first | done | rfl | (simp only [List.length_drop, List.length_take]; rfl)) ?_; (with_reducible refine (impl_PortsAhead.calls kj93 _ _ t420 _ _ t423 t426 t435 true _ ?side1 ?side2 ?side3 ?side4 A108.out).mono ?_); (case side1 => repeat (first | exact (Kd.R_reads' HO_429000.out).2.2 | (with_reducible refine Kd.C_alloc ?_ _) | (with_reducible refine Kd.C_drewN ?_ _) | (with_reducible refine Kd.C_drew ?_))); (case side2 => exact (Kd.R_reads' HO_429000.out).2.1); (case side3 => repeat (first | exact (Kd.Q_reads' HO_429001.out).2.2 | (with_reducible refine Kd.C_alloc ?_ _) | (with_reducible refine Kd.C_drewN ?_ _) | (with_reducible refine Kd.C_drew ?_))); (case side4 => exact (Kd.Q_reads' HO_429001.out).2.1); rintro e w118 ⟨v436, rfl, ho0, hb⟩; refine ⟨_, rfl, ?_⟩; have n0_ := Aside0.mk (Kd.R_elder' (by (with_reducible repeat (first | apply Kd.R_alloc | apply Kd.R_drewN | apply Kd.R_drew)); exact HO_393000.out) (Kd.R_base ho0) hb); have n1_ := Aside0.mk (Kd.Q_elder' (by (with_reducible repeat (first | apply Kd.Q_alloc | apply Kd.Q_drewN | apply Kd.Q_drew)); exact HO_393001.out) (Kd.R_base ho0) hb); have n2_ := Aside0.mk (Kd.R_elder' (by (with_reducible repeat (first | apply Kd.R_alloc | apply Kd.R_drewN | apply Kd.R_drew)); exact HO_410000.out) (Kd.R_base ho0) hb); have n3_ := Aside0.mk (Kd.Q_elder' (by (with_reducible repeat (first | apply Kd.Q_alloc | apply Kd.Q_drewN | apply Kd.Q_drew)); exact HO_410001.out) (Kd.R_base ho0) hb); have n4_ := Aside0.mk (Kd.R_elder' (by (with_reducible repeat (first | apply Kd.R_alloc | apply Kd.R_drewN | apply Kd.R_drew)); exact HO_429000.out) (Kd.R_base ho0) hb); have n5_ := Aside0.mk (Kd.Q_elder' (by (with_reducible repeat (first | apply Kd.Q_alloc | apply Kd.Q_drewN | apply Kd.Q_drew)); exact HO_429001.out) (Kd.R_base ho0) hb); have n6_ := Aside0.mk (Kd.R_lower (Kd.R_new' (Kd.R_new' (Kd.R_new' (Kd.R_new' (Kd.R_new' (Kd.R_new' ho0 (Kd.R_lt (by (with_reducible repeat (first | apply Kd.R_alloc | apply Kd.R_drewN | apply Kd.R_drew)); exact HO_393000.out))) (Kd.Q_lt (by (with_reducible repeat (first | apply Kd.Q_alloc | apply Kd.Q_drewN | apply Kd.Q_drew)); exact HO_393001.out))) (Kd.R_lt (by (with_reducible repeat (first | apply Kd.R_alloc | apply Kd.R_drewN | apply Kd.R_drew)); exact HO_410000.out))) (Kd.Q_lt (by (with_reducible repeat (first | apply Kd.Q_alloc | apply Kd.Q_drewN | apply Kd.Q_drew)); exact HO_410001.out))) (Kd.R_lt (by (with_reducible repeat (first | apply Kd.R_alloc | apply Kd.R_drewN | apply Kd.R_drew)); exact HO_429000.out))) (Kd.Q_lt (by (with_reducible repeat (first | apply Kd.Q_alloc | apply Kd.Q_drewN | apply Kd.Q_drew)); exact HO_429001.out))) (below_size (by repeat (first | (with_reducible first | exact HB.out | apply below_alloc | apply pw_below_drewN | apply below_drew1 | refine below_set ?_ GE392.out | refine below_set ?_ GE409.out | refine below_set ?_ GE428.out) | exact HB.out)))); have n7_ := Aside0.mk (blk_below (g := gb392) (o := .cells #[.slice Ao10 t384.length co10, .slice Ao12 t387.length co12] 26 (0, 0)) (by (with_reducible repeat (first | refine blk_drewN ?_ _ | refine blk_drew ?_ | refine blk_alloc ?_ _)); exact BK392.out) hb); have n8_ := Aside0.mk (blk_below (g := gb409) (o := .cells #[.slice Ao49 t401.length co49, .slice Ao52 t404.length co52] 26 (0, 0)) (by (with_reducible repeat (first | refine blk_drewN ?_ _ | refine blk_drew ?_ | refine blk_alloc ?_ _)); exact BK409.out) hb); have n9_ := Aside0.mk (blk_below (g := gb428) (o := .cells #[.slice Ao97 t420.length co97, .slice Ao101 t423.length co101] 26 (0, 0)) (by (with_reducible repeat (first | refine blk_drewN ?_ _ | refine blk_drew ?_ | refine blk_alloc ?_ _)); exact BK428.out) hb); have n10_ := Aside0.mk (below_step (by repeat (first | (with_reducible first | exact HB.out | apply below_alloc | apply pw_below_drewN | apply below_drew1 | refine below_set ?_ GE392.out | refine below_set ?_ GE409.out | refine below_set ?_ GE428.out) | exact HB.out)) hb); clear HO_393000; clear HO_393001; clear HO_410000; clear HO_410001; clear HO_429000; clear HO_429001; clear BK392; clear BK409; clear BK428; clear HB; have HO_393000 := n0_; have HO_393001 := n1_; have HO_410000 := n2_; have HO_410001 := n3_; have HO_429000 := n4_; have HO_429001 := n5_; have HO437 := n6_; have BK392 := n7_; have BK409 := n8_; have BK428 := n9_; have HB := n10_; clear n0_ n1_ n2_ n3_ n4_ n5_ n6_ n7_ n8_ n9_ n10_; (try clear hb); (try clear hb2); (try clear hk); (try clear hi); (try clear ho0); have hcz119_0 : w118.cell? ⟨gb428, 0, none⟩ = some (.slice Ao97 t420.length co97) := (blk_cell BK428.out 0).trans rfl; have hcz119_1 : w118.cell? ⟨gb428, 1, none⟩ = some (.slice Ao101 t423.length co101) := (blk_cell BK428.out 1).trans rfl; have hfz119_0 := blk_frozen BK428.out 0; have hfz119_1 := blk_frozen BK428.out 1) | ((with_reducible refine gate_callee (f := 25) rfl ?_); refine goesL_ (some 222) rfl rfl Try.func25 (by kernel_rfl) rfl #[.agg #[.slice Ao97 t420.length co97, .slice Ao101 t423.length co101], .int .i64 t426] rfl (by (try simp only [List.map_toArray, List.map_cons, List.map_nil]); first | done | rfl | (simp only [List.length_drop, List.length_take]; rfl)) ?_; (with_reducible refine (spec_PortsAhead.calls kj93 _ _ t420 _ _ t423 t426 t439 t442 _ ?side1 ?side2 ?side3 ?side4 A109.out).mono ?_); (case side1 => repeat (first | exact (Kd.R_reads' HO_429000.out).2.2 | (with_reducible refine Kd.C_alloc ?_ _) | (with_reducible refine Kd.C_drewN ?_ _) | (with_reducible refine Kd.C_drew ?_))); (case side2 => exact (Kd.R_reads' HO_429000.out).2.1); (case side3 => repeat (first | exact (Kd.Q_reads' HO_429001.out).2.2 | (with_reducible refine Kd.C_alloc ?_ _) | (with_reducible refine Kd.C_drewN ?_ _) | (with_reducible refine Kd.C_drew ?_))); (case side4 => exact (Kd.Q_reads' HO_429001.out).2.1); rintro e w120 ⟨v440, rfl, ho0, hb⟩; refine ⟨_, rfl, ?_⟩; have n0_ := Aside0.mk (Kd.R_elder' (by (with_reducible repeat (first | apply Kd.R_alloc | apply Kd.R_drewN | apply Kd.R_drew)); exact HO_393000.out) (Kd.R_base ho0) hb); have n1_ := Aside0.mk (Kd.Q_elder' (by (with_reducible repeat (first | apply Kd.Q_alloc | apply Kd.Q_drewN | apply Kd.Q_drew)); exact HO_393001.out) (Kd.R_base ho0) hb); have n2_ := Aside0.mk (Kd.R_elder' (by (with_reducible repeat (first | apply Kd.R_alloc | apply Kd.R_drewN | apply Kd.R_drew)); exact HO_410000.out) (Kd.R_base ho0) hb); have n3_ := Aside0.mk (Kd.Q_elder' (by (with_reducible repeat (first | apply Kd.Q_alloc | apply Kd.Q_drewN | apply Kd.Q_drew)); exact HO_410001.out) (Kd.R_base ho0) hb); have n4_ := Aside0.mk (Kd.R_elder' (by (with_reducible repeat (first | apply Kd.R_alloc | apply Kd.R_drewN | apply Kd.R_drew)); exact HO_429000.out) (Kd.R_base ho0) hb); have n5_ := Aside0.mk (Kd.Q_elder' (by (with_reducible repeat (first | apply Kd.Q_alloc | apply Kd.Q_drewN | apply Kd.Q_drew)); exact HO_429001.out) (Kd.R_base ho0) hb); have n6_ := Aside0.mk (Kd.R_elder' (by (with_reducible repeat (first | apply Kd.R_alloc | apply Kd.R_drewN | apply Kd.R_drew)); exact HO437.out) (Kd.R_base ho0) hb); have n7_ := Aside0.mk (Kd.R_lower (Kd.R_new' (Kd.R_new' (Kd.R_new' (Kd.R_new' (Kd.R_new' (Kd.R_new' (Kd.R_new' ho0 (Kd.R_lt (by (with_reducible repeat (first | apply Kd.R_alloc | apply Kd.R_drewN | apply Kd.R_drew)); exact HO_393000.out))) (Kd.Q_lt (by (with_reducible repeat (first | apply Kd.Q_alloc | apply Kd.Q_drewN | apply Kd.Q_drew)); exact HO_393001.out))) (Kd.R_lt (by (with_reducible repeat (first | apply Kd.R_alloc | apply Kd.R_drewN | apply Kd.R_drew)); exact HO_410000.out))) (Kd.Q_lt (by (with_reducible repeat (first | apply Kd.Q_alloc | apply Kd.Q_drewN | apply Kd.Q_drew)); exact HO_410001.out))) (Kd.R_lt (by (with_reducible repeat (first | apply Kd.R_alloc | apply Kd.R_drewN | apply Kd.R_drew)); exact HO_429000.out))) (Kd.Q_lt (by (with_reducible repeat (first | apply Kd.Q_alloc | apply Kd.Q_drewN | apply Kd.Q_drew)); exact HO_429001.out))) (Kd.R_lt (by (with_reducible repeat (first | apply Kd.R_alloc | apply Kd.R_drewN | apply Kd.R_drew)); exact HO437.out))) (below_size (by repeat (first | (with_reducible first | exact HB.out | apply below_alloc | apply pw_below_drewN | apply below_drew1 | refine below_set ?_ GE392.out | refine below_set ?_ GE409.out | refine below_set ?_ GE428.out) | exact HB.out)))); have n8_ := Aside0.mk (blk_below (g := gb392) (o := .cells #[.slice Ao10 t384.length co10, .slice Ao12 t387.length co12] 26 (0, 0)) (by (with_reducible repeat (first | refine blk_drewN ?_ _ | refine blk_drew ?_ | refine blk_alloc ?_ _)); exact BK392.out) hb); have n9_ := Aside0.mk (blk_below (g := gb409) (o := .cells #[.slice Ao49 t401.length co49, .slice Ao52 t404.length co52] 26 (0, 0)) (by (with_reducible repeat (first | refine blk_drewN ?_ _ | refine blk_drew ?_ | refine blk_alloc ?_ _)); exact BK409.out) hb); have n10_ := Aside0.mk (blk_below (g := gb428) (o := .cells #[.slice Ao97 t420.length co97, .slice Ao101 t423.length co101] 26 (0, 0)) (by (with_reducible repeat (first | refine blk_drewN ?_ _ | refine blk_drew ?_ | refine blk_alloc ?_ _)); exact BK428.out) hb); have n11_ := Aside0.mk (below_step (by repeat (first | (with_reducible first | exact HB.out | apply below_alloc | apply pw_below_drewN | apply below_drew1 | refine below_set ?_ GE392.out | refine below_set ?_ GE409.out | refine below_set ?_ GE428.out) | exact HB.out)) hb); clear HO_393000; clear HO_393001; clear HO_410000; clear HO_410001; clear HO_429000; clear HO_429001; clear HO437; clear BK392; clear BK409; clear BK428; clear HB; have HO_393000 := n0_; have HO_393001 := n1_; have HO_410000 := n2_; have HO_410001 := n3_; have HO_429000 := n4_; have HO_429001 := n5_; have HO437 := n6_; have HO441 := n7_; have BK392 := n8_; have BK409 := n9_; have BK428 := n10_; have HB := n11_; clear n0_ n1_ n2_ n3_ n4_ n5_ n6_ n7_ n8_ n9_ n10_ n11_; (try clear hb); (try clear hb2); (try clear hk); (try clear hi); (try clear ho0); obtain ⟨Ao121, co121, eo121⟩ := Kd.R_slice HO437.out; subst eo121; obtain ⟨Ao122, co122, eo122⟩ := Kd.R_slice HO441.out; subst eo122) | (go_at_call 26; (with_reducible refine (laws_rInts.calls kj93 _ _ t435 _ _ t439 true _ ?side1 ?side2 ?side3 ?side4 A111.out).mono ?_); (case side1 => repeat (first | exact (Kd.R_reads' HO437.out).2.2 | (with_reducible refine Kd.C_alloc ?_ _) | (with_reducible refine Kd.C_drewN ?_ _) | (with_reducible refine Kd.C_drew ?_))); (case side2 => exact (Kd.R_reads' HO437.out).2.1); (case side3 => repeat (first | exact (Kd.R_reads' HO441.out).2.2 | (with_reducible refine Kd.C_alloc ?_ _) | (with_reducible refine Kd.C_drewN ?_ _) | (with_reducible refine Kd.C_drew ?_))); (case side4 => exact (Kd.R_reads' HO441.out).2.1); rintro e w' ⟨rfl, ⟨nd, rfl⟩⟩) | (go_at_call 27; (with_reducible refine (laws_rHas.calls kj93 _ _ t435 t427 t444 _ ?side1 ?side2 A114.out).mono ?_); (case side1 => repeat (first | exact (Kd.R_reads' HO437.out).2.2 | (with_reducible refine Kd.C_alloc ?_ _) | (with_reducible refine Kd.C_drewN ?_ _) | (with_reducible refine Kd.C_drew ?_))); (case side2 => exact (Kd.R_reads' HO437.out).2.1); rintro e w' ⟨rfl, ⟨nd, rfl⟩⟩))
                       go_ret
                       exact ⟨by first | rfl | (simp [errW_none, errW_some] <;> rfl) | (simp [*, errW_none, errW_some] <;> rfl), by repeat (first | (with_reducible first | exact HB.out | apply below_alloc | apply pw_below_drewN | apply below_drew1 | refine below_set ?_ GE392.out | refine below_set ?_ GE409.out | refine below_set ?_ GE428.out) | exact HB.out)⟩
                      ·replace c113 := Bool.eq_false_iff.mpr c113
                       subst c113
                       have H1 : (some true) = some r := by rw [if_neg (show ¬ (false = true) by decide)] at H; exact H
                       clear H
                       have H := H1
                       clear H1
                       obtain rfl := Option.some.inj H
                       have hnb123 := NB428_392.out
                       have hnc123 := NB392_428.out
                       have hnb124 := NB428_409.out
                       have hnc124 := NB409_428.out
                       have hcz125_0 : wc.cell? ⟨gb428, 0, none⟩ = some (.slice Ao97 t420.length co97) := (blk_cell BK428.out 0).trans rfl
                       have hcz125_1 : wc.cell? ⟨gb428, 1, none⟩ = some (.slice Ao101 t423.length co101) := (blk_cell BK428.out 1).trans rfl
                       have hfz125_0 := blk_frozen BK428.out 0
                       have hfz125_1 := blk_frozen BK428.out 1
                       go_wp2_with (first | ((with_reducible refine gate_callee (f := 24) rfl ?_); refine goesL_ (some 216) rfl rfl Try.func24 (by kernel_rfl) rfl #[.agg #[.slice Ao97 t420.length co97, .slice Ao101 t423.length co101], .int .i64 t426] rfl (by (try simp only [List.map_toArray, List.map_cons, List.map_nil]); first | done | rfl | (simp only [List.length_drop, List.length_take]; rfl)) ?_; (with_reducible refine (impl_PortsAhead.calls kj93 _ _ t420 _ _ t423 t426 t435 false _ ?side1 ?side2 ?side3 ?side4 A108.out).mono ?_); (case side1 => repeat (first | exact (Kd.R_reads' HO_429000.out).2.2 | (with_reducible refine Kd.C_alloc ?_ _) | (with_reducible refine Kd.C_drewN ?_ _) | (with_reducible refine Kd.C_drew ?_))); (case side2 => exact (Kd.R_reads' HO_429000.out).2.1); (case side3 => repeat (first | exact (Kd.Q_reads' HO_429001.out).2.2 | (with_reducible refine Kd.C_alloc ?_ _) | (with_reducible refine Kd.C_drewN ?_ _) | (with_reducible refine Kd.C_drew ?_))); (case side4 => exact (Kd.Q_reads' HO_429001.out).2.1); rintro e w126 ⟨v436, rfl, ho0, hb⟩; refine ⟨_, rfl, ?_⟩; have n0_ := Aside0.mk (Kd.R_elder' (by (with_reducible repeat (first | apply Kd.R_alloc | apply Kd.R_drewN | apply Kd.R_drew)); exact HO_393000.out) (Kd.R_base ho0) hb); have n1_ := Aside0.mk (Kd.Q_elder' (by (with_reducible repeat (first | apply Kd.Q_alloc | apply Kd.Q_drewN | apply Kd.Q_drew)); exact HO_393001.out) (Kd.R_base ho0) hb); have n2_ := Aside0.mk (Kd.R_elder' (by (with_reducible repeat (first | apply Kd.R_alloc | apply Kd.R_drewN | apply Kd.R_drew)); exact HO_410000.out) (Kd.R_base ho0) hb); have n3_ := Aside0.mk (Kd.Q_elder' (by (with_reducible repeat (first | apply Kd.Q_alloc | apply Kd.Q_drewN | apply Kd.Q_drew)); exact HO_410001.out) (Kd.R_base ho0) hb); have n4_ := Aside0.mk (Kd.R_elder' (by (with_reducible repeat (first | apply Kd.R_alloc | apply Kd.R_drewN | apply Kd.R_drew)); exact HO_429000.out) (Kd.R_base ho0) hb); have n5_ := Aside0.mk (Kd.Q_elder' (by (with_reducible repeat (first | apply Kd.Q_alloc | apply Kd.Q_drewN | apply Kd.Q_drew)); exact HO_429001.out) (Kd.R_base ho0) hb); have n6_ := Aside0.mk (Kd.R_lower (Kd.R_new' (Kd.R_new' (Kd.R_new' (Kd.R_new' (Kd.R_new' (Kd.R_new' ho0 (Kd.R_lt (by (with_reducible repeat (first | apply Kd.R_alloc | apply Kd.R_drewN | apply Kd.R_drew)); exact HO_393000.out))) (Kd.Q_lt (by (with_reducible repeat (first | apply Kd.Q_alloc | apply Kd.Q_drewN | apply Kd.Q_drew)); exact HO_393001.out))) (Kd.R_lt (by (with_reducible repeat (first | apply Kd.R_alloc | apply Kd.R_drewN | apply Kd.R_drew)); exact HO_410000.out))) (Kd.Q_lt (by (with_reducible repeat (first | apply Kd.Q_alloc | apply Kd.Q_drewN | apply Kd.Q_drew)); exact HO_410001.out))) (Kd.R_lt (by (with_reducible repeat (first | apply Kd.R_alloc | apply Kd.R_drewN | apply Kd.R_drew)); exact HO_429000.out))) (Kd.Q_lt (by (with_reducible repeat (first | apply Kd.Q_alloc | apply Kd.Q_drewN | apply Kd.Q_drew)); exact HO_429001.out))) (below_size (by repeat (first | (with_reducible first | exact HB.out | apply below_alloc | apply pw_below_drewN | apply below_drew1 | refine below_set ?_ GE392.out | refine below_set ?_ GE409.out | refine below_set ?_ GE428.out) | exact HB.out)))); have n7_ := Aside0.mk (blk_below (g := gb392) (o := .cells #[.slice Ao10 t384.length co10, .slice Ao12 t387.length co12] 26 (0, 0)) (by (with_reducible repeat (first | refine blk_drewN ?_ _ | refine blk_drew ?_ | refine blk_alloc ?_ _)); exact BK392.out) hb); have n8_ := Aside0.mk (blk_below (g := gb409) (o := .cells #[.slice Ao49 t401.length co49, .slice Ao52 t404.length co52] 26 (0, 0)) (by (with_reducible repeat (first | refine blk_drewN ?_ _ | refine blk_drew ?_ | refine blk_alloc ?_ _)); exact BK409.out) hb); have n9_ := Aside0.mk (blk_below (g := gb428) (o := .cells #[.slice Ao97 t420.length co97, .slice Ao101 t423.length co101] 26 (0, 0)) (by (with_reducible repeat (first | refine blk_drewN ?_ _ | refine blk_drew ?_ | refine blk_alloc ?_ _)); exact BK428.out) hb); have n10_ := Aside0.mk (below_step (by repeat (first | (with_reducible first | exact HB.out | apply below_alloc | apply pw_below_drewN | apply below_drew1 | refine below_set ?_ GE392.out | refine below_set ?_ GE409.out | refine below_set ?_ GE428.out) | exact HB.out)) hb); clear HO_393000; clear HO_393001; clear HO_410000; clear HO_410001; clear HO_429000; clear HO_429001; clear BK392; clear BK409; clear BK428; clear HB; have HO_393000 := n0_; have HO_393001 := n1_; have HO_410000 := n2_; have HO_410001 := n3_; have HO_429000 := n4_; have HO_429001 := n5_; have HO437 := n6_; have BK392 := n7_; have BK409 := n8_; have BK428 := n9_; have HB := n10_; clear n0_ n1_ n2_ n3_ n4_ n5_ n6_ n7_ n8_ n9_ n10_; (try clear hb); (try clear hb2); (try clear hk); (try clear hi); (try clear ho0); have hcz127_0 : w126.cell? ⟨gb428, 0, none⟩ = some (.slice Ao97 t420.length co97) := (blk_cell BK428.out 0).trans rfl; have hcz127_1 : w126.cell? ⟨gb428, 1, none⟩ = some (.slice Ao101 t423.length co101) := (blk_cell BK428.out 1).trans rfl; have hfz127_0 := blk_frozen BK428.out 0; have hfz127_1 := blk_frozen BK428.out 1) | ((with_reducible refine gate_callee (f := 25) rfl ?_); refine goesL_ (some 222) rfl rfl Try.func25 (by kernel_rfl) rfl #[.agg #[.slice Ao97 t420.length co97, .slice Ao101 t423.length co101], .int .i64 t426] rfl (by (try simp only [List.map_toArray, List.map_cons, List.map_nil]); first | done | rfl | (simp only [List.length_drop, List.length_take]; rfl)) ?_; (with_reducible refine (spec_PortsAhead.calls kj93 _ _ t420 _ _ t423 t426 t439 t442 _ ?side1 ?side2 ?side3 ?side4 A109.out).mono ?_); (case side1 => repeat (first | exact (Kd.R_reads' HO_429000.out).2.2 | (with_reducible refine Kd.C_alloc ?_ _) | (with_reducible refine Kd.C_drewN ?_ _) | (with_reducible refine Kd.C_drew ?_))); (case side2 => exact (Kd.R_reads' HO_429000.out).2.1); (case side3 => repeat (first | exact (Kd.Q_reads' HO_429001.out).2.2 | (with_reducible refine Kd.C_alloc ?_ _) | (with_reducible refine Kd.C_drewN ?_ _) | (with_reducible refine Kd.C_drew ?_))); (case side4 => exact (Kd.Q_reads' HO_429001.out).2.1); rintro e w128 ⟨v440, rfl, ho0, hb⟩; refine ⟨_, rfl, ?_⟩; have n0_ := Aside0.mk (Kd.R_elder' (by (with_reducible repeat (first | apply Kd.R_alloc | apply Kd.R_drewN | apply Kd.R_drew)); exact HO_393000.out) (Kd.R_base ho0) hb); have n1_ := Aside0.mk (Kd.Q_elder' (by (with_reducible repeat (first | apply Kd.Q_alloc | apply Kd.Q_drewN | apply Kd.Q_drew)); exact HO_393001.out) (Kd.R_base ho0) hb); have n2_ := Aside0.mk (Kd.R_elder' (by (with_reducible repeat (first | apply Kd.R_alloc | apply Kd.R_drewN | apply Kd.R_drew)); exact HO_410000.out) (Kd.R_base ho0) hb); have n3_ := Aside0.mk (Kd.Q_elder' (by (with_reducible repeat (first | apply Kd.Q_alloc | apply Kd.Q_drewN | apply Kd.Q_drew)); exact HO_410001.out) (Kd.R_base ho0) hb); have n4_ := Aside0.mk (Kd.R_elder' (by (with_reducible repeat (first | apply Kd.R_alloc | apply Kd.R_drewN | apply Kd.R_drew)); exact HO_429000.out) (Kd.R_base ho0) hb); have n5_ := Aside0.mk (Kd.Q_elder' (by (with_reducible repeat (first | apply Kd.Q_alloc | apply Kd.Q_drewN | apply Kd.Q_drew)); exact HO_429001.out) (Kd.R_base ho0) hb); have n6_ := Aside0.mk (Kd.R_elder' (by (with_reducible repeat (first | apply Kd.R_alloc | apply Kd.R_drewN | apply Kd.R_drew)); exact HO437.out) (Kd.R_base ho0) hb); have n7_ := Aside0.mk (Kd.R_lower (Kd.R_new' (Kd.R_new' (Kd.R_new' (Kd.R_new' (Kd.R_new' (Kd.R_new' (Kd.R_new' ho0 (Kd.R_lt (by (with_reducible repeat (first | apply Kd.R_alloc | apply Kd.R_drewN | apply Kd.R_drew)); exact HO_393000.out))) (Kd.Q_lt (by (with_reducible repeat (first | apply Kd.Q_alloc | apply Kd.Q_drewN | apply Kd.Q_drew)); exact HO_393001.out))) (Kd.R_lt (by (with_reducible repeat (first | apply Kd.R_alloc | apply Kd.R_drewN | apply Kd.R_drew)); exact HO_410000.out))) (Kd.Q_lt (by (with_reducible repeat (first | apply Kd.Q_alloc | apply Kd.Q_drewN | apply Kd.Q_drew)); exact HO_410001.out))) (Kd.R_lt (by (with_reducible repeat (first | apply Kd.R_alloc | apply Kd.R_drewN | apply Kd.R_drew)); exact HO_429000.out))) (Kd.Q_lt (by (with_reducible repeat (first | apply Kd.Q_alloc | apply Kd.Q_drewN | apply Kd.Q_drew)); exact HO_429001.out))) (Kd.R_lt (by (with_reducible repeat (first | apply Kd.R_alloc | apply Kd.R_drewN | apply Kd.R_drew)); exact HO437.out))) (below_size (by repeat (first | (with_reducible first | exact HB.out | apply below_alloc | apply pw_below_drewN | apply below_drew1 | refine below_set ?_ GE392.out | refine below_set ?_ GE409.out | refine below_set ?_ GE428.out) | exact HB.out)))); have n8_ := Aside0.mk (blk_below (g := gb392) (o := .cells #[.slice Ao10 t384.length co10, .slice Ao12 t387.length co12] 26 (0, 0)) (by (with_reducible repeat (first | refine blk_drewN ?_ _ | refine blk_drew ?_ | refine blk_alloc ?_ _)); exact BK392.out) hb); have n9_ := Aside0.mk (blk_below (g := gb409) (o := .cells #[.slice Ao49 t401.length co49, .slice Ao52 t404.length co52] 26 (0, 0)) (by (with_reducible repeat (first | refine blk_drewN ?_ _ | refine blk_drew ?_ | refine blk_alloc ?_ _)); exact BK409.out) hb); have n10_ := Aside0.mk (blk_below (g := gb428) (o := .cells #[.slice Ao97 t420.length co97, .slice Ao101 t423.length co101] 26 (0, 0)) (by (with_reducible repeat (first | refine blk_drewN ?_ _ | refine blk_drew ?_ | refine blk_alloc ?_ _)); exact BK428.out) hb); have n11_ := Aside0.mk (below_step (by repeat (first | (with_reducible first | exact HB.out | apply below_alloc | apply pw_below_drewN | apply below_drew1 | refine below_set ?_ GE392.out | refine below_set ?_ GE409.out | refine below_set ?_ GE428.out) | exact HB.out)) hb); clear HO_393000; clear HO_393001; clear HO_410000; clear HO_410001; clear HO_429000; clear HO_429001; clear HO437; clear BK392; clear BK409; clear BK428; clear HB; have HO_393000 := n0_; have HO_393001 := n1_; have HO_410000 := n2_; have HO_410001 := n3_; have HO_429000 := n4_; have HO_429001 := n5_; have HO437 := n6_; have HO441 := n7_; have BK392 := n8_; have BK409 := n9_; have BK428 := n10_; have HB := n11_; clear n0_ n1_ n2_ n3_ n4_ n5_ n6_ n7_ n8_ n9_ n10_ n11_; (try clear hb); (try clear hb2); (try clear hk); (try clear hi); (try clear ho0); obtain ⟨Ao129, co129, eo129⟩ := Kd.R_slice HO437.out; subst eo129; obtain ⟨Ao130, co130, eo130⟩ := Kd.R_slice HO441.out; subst eo130) | (go_at_call 26; (with_reducible refine (laws_rInts.calls kj93 _ _ t435 _ _ t439 true _ ?side1 ?side2 ?side3 ?side4 A111.out).mono ?_); (case side1 => repeat (first | exact (Kd.R_reads' HO437.out).2.2 | (with_reducible refine Kd.C_alloc ?_ _) | (with_reducible refine Kd.C_drewN ?_ _) | (with_reducible refine Kd.C_drew ?_))); (case side2 => exact (Kd.R_reads' HO437.out).2.1); (case side3 => repeat (first | exact (Kd.R_reads' HO441.out).2.2 | (with_reducible refine Kd.C_alloc ?_ _) | (with_reducible refine Kd.C_drewN ?_ _) | (with_reducible refine Kd.C_drew ?_))); (case side4 => exact (Kd.R_reads' HO441.out).2.1); rintro e w' ⟨rfl, ⟨nd, rfl⟩⟩))
                       go_ret
                       exact ⟨by first | rfl | (simp [errW_none, errW_some] <;> rfl) | (simp [*, errW_none, errW_some] <;> rfl), by repeat (first | (with_reducible first | exact HB.out | apply below_alloc | apply pw_below_drewN | apply below_drew1 | refine below_set ?_ GE392.out | refine below_set ?_ GE409.out | refine below_set ?_ GE428.out) | exact HB.out)⟩
                     ·replace c112 := Bool.eq_false_iff.mpr c112
                      subst c112
                      have H1 : (none) = some r := by rw [if_neg (show ¬ (false = true) by decide)] at H; exact H
                      clear H
                      have H := H1
                      clear H1
                      exact absurd H (by simp)
                    ·rw [if_neg c110] at H
                     have c110b0 : (t438 == t442) = false := by simpa using c110
                     (try (have c110b1 : decide (t438 = t442) = false := by simpa using c110))
                     (try (have c110b2 : (t438 == t442) = false := by simpa using c110))
                     (try (have c110b3 : ¬ (t438 = t442) := by simpa using c110))
                     clear c110
                     exact absurd H (by simp)

end Go.Proofs.Ytlldonokjgoajaa.X
