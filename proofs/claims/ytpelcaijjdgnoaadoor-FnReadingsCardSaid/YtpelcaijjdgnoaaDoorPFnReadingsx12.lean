-- Written by a program of this session, over the kit's print (wip/xprint.py)
import Derived.Test.YtpelcaijjdgnoaaDoorPFnReadingsx0
import Derived.Test.YtpelcaijjdgnoaaDoorPFnReadingsx2
import Derived.Test.YtpelcaijjdgnoaaDoorPFnReadingsx3
import Derived.Test.YtpelcaijjdgnoaaDoorPFnReadingsx4
import Derived.Test.YtpelcaijjdgnoaaDoorPFnReadingsx5
import Derived.Test.YtpelcaijjdgnoaaDoorPFnReadingsx7
import Derived.Test.YtpelcaijjdgnoaaDoorPFnReadingsx8
import Derived.Test.YtpelcaijjdgnoaaDoorPFnReadingsx9
import Derived.Test.YtpelcaijjdgnoaaDoorPFnReadingsx10
import Derived.Test.YtpelcaijjdgnoaaDoorPFnReadingsx11
namespace Go.Proofs.YtpelcaijjdgnoaaDoor.PFnReadings
open Go.RowKit Go.Proofs.YtpelcaijjdgnoaaDoorW.PrintWords Go.Proofs.YtpelcaijjdgnoaaDoorW.PrintLast Go.Proofs.YtpelcaijjdgnoaaDoorW.PrintMore
attribute [local go_sem] max2_int min2_int max_two min_two max_three min_three max_four min_four   -- for this text's walks alone
set_option linter.unusedVariables false
set_option linter.unusedSimpArgs false

/-! ### laws_FnReadings: function 3 -/
mutual
def laws_FnReadings.j0 : Nat → List Int → Int → ByteArray → Bool → Bool → Option (Bool)
 | 0,_,_,_,_,_ => none
 | k + 1,x0,x3,x4,x5,x55 => if x55 = true then (some false) else ((impl_ParseTenth.f k x4).bind fun bt412 => (if x5 = true then (if bt412.2 = true then (laws_FnReadings.j1 k x0 (bt412.1 != x3)) else (laws_FnReadings.j1 k x0 true)) else (laws_FnReadings.j1 k x0 false)))
def laws_FnReadings.j1 : Nat → List Int → Bool → Option (Bool)
 | 0,_,_ => none
 | k + 1,x0,x70 => if x70 = true then (some false) else ((spec_DrawParseTenth.f k x0).bind fun t414 => ((impl_ParseTenth.f k t414).bind fun bt415 => ((spec_ParseTenth.f k t414).bind fun bt417 => (if bt415.1 = bt417.1 then (laws_FnReadings.j2 k x0 (bt415.2 != bt417.2)) else (laws_FnReadings.j2 k x0 true)))))
def laws_FnReadings.j2 : Nat → List Int → Bool → Option (Bool)
 | 0,_,_ => none
 | k + 1,x0,x90 => if x90 = true then (some false) else ((spec_DrawLongestAlarm.f k x0).bind fun bt419 => ((impl_LongestAlarm.f k bt419.1 bt419.2.1 bt419.2.2).bind fun bt424 => ((spec_LongestAlarm.f k bt419.1 bt419.2.1 bt419.2.2).bind fun bt427 => (if bt424.1 = bt427.1 then (if bt424.2.1 = bt427.2.1 then (laws_FnReadings.j3 k x0 bt419.1 bt419.2.1 bt419.2.2 bt424.1 bt424.2.1 bt424.2.2 (bt424.2.2 != bt427.2.2)) else (laws_FnReadings.j3 k x0 bt419.1 bt419.2.1 bt419.2.2 bt424.1 bt424.2.1 bt424.2.2 true)) else (laws_FnReadings.j3 k x0 bt419.1 bt419.2.1 bt419.2.2 bt424.1 bt424.2.1 bt424.2.2 true)))))
def laws_FnReadings.j3 : Nat → List Int → List (S41) → Int → Int → Int → Int → Bool → Bool → Option (Bool)
 | 0,_,_,_,_,_,_,_,_ => none
 | k + 1,x0,x15,x16,x17,x18,x19,x20,x125 => if x125 = true then (some false) else ((impl_BadReadings.f k x15 x16 x17).bind fun bt430 => ((spec_BadReadings.f k x15 x16 x17).bind fun bt434 => (if (bt430.2 != bt434.2) = true then (laws_FnReadings.j4 k x0 x18 x19 x20 bt430.1 bt430.2 true) else ((laws_rInts.f k bt430.1 bt434.1).bind fun t438 => (laws_FnReadings.j4 k x0 x18 x19 x20 bt430.1 bt430.2 (!t438))))))
def laws_FnReadings.j4 : Nat → List Int → Int → Int → Bool → List Int → Bool → Bool → Option (Bool)
 | 0,_,_,_,_,_,_,_ => none
 | k + 1,x0,x18,x19,x20,x24,x25,x148 => if x148 = true then (some false) else (if x25 = true then (if (x20 != (decide ((x24.length : Int) > 0))) = true then (laws_FnReadings.j5 k x0 true) else (if x20 = true then ((laws_rHas.f k x24 x18).bind fun t439 => (if t439 = true then ((laws_rHas.f k x24 x19).bind fun t440 => (if t440 = true then (laws_FnReadings.j5 k x0 (decide (x18 > x19))) else (laws_FnReadings.j5 k x0 true))) else (laws_FnReadings.j5 k x0 true))) else (laws_FnReadings.j5 k x0 false))) else (laws_FnReadings.j5 k x0 false))
def laws_FnReadings.j5 : Nat → List Int → Bool → Option (Bool)
 | 0,_,_ => none
 | k + 1,x0,x176 => if x176 = true then (some false) else ((spec_DrawAddReading.f k x0).bind fun bt441 => ((impl_AddReading.f k bt441.1 bt441.2.1 bt441.2.2.1 bt441.2.2.2).bind fun bt448 => ((spec_AddReading.f k bt441.1 bt441.2.1 bt441.2.2.1 bt441.2.2.2).bind fun bt452 => (if (bt448.2 == bt452.2) = true then ((laws_rReadings.f k bt448.1 bt452.1).bind fun t456 => (if t456 = true then (if bt448.2 = true then (if (bt448.1.length : Int) = (wrap64 ((bt441.1.length : Int) + 1)) then ((impl_IsValidReadings.f k bt448.1).bind fun t457 => (some t457)) else (some false)) else (some true)) else (some false))) else (some false)))))
end
def laws_FnReadings.f (k : Nat) (l0 : List Int) : Option (Bool):=(laws_rBig.f l0).bind fun t406 => (if t406 = true then (some true) else ((spec_DrawTenthText.f l0).bind fun t407 => ((impl_TenthText.f t407).bind fun bt408 => ((spec_TenthText.f k t407).bind fun bt410 => (if bt408.1.toList = bt410.1.toList then (laws_FnReadings.j0 k l0 t407 bt408.1 bt408.2 (bt408.2 != bt410.2)) else (laws_FnReadings.j0 k l0 t407 bt408.1 bt408.2 true))))))
theorem laws_FnReadings.mono_l : ∀ k,(∀ y0 y1 y2 y3 y4,LeO (laws_FnReadings.j0 k y0 y1 y2 y3 y4) (laws_FnReadings.j0 (k + 1) y0 y1 y2 y3 y4)) ∧ (∀ y0 y1,LeO (laws_FnReadings.j1 k y0 y1) (laws_FnReadings.j1 (k + 1) y0 y1)) ∧ (∀ y0 y1,LeO (laws_FnReadings.j2 k y0 y1) (laws_FnReadings.j2 (k + 1) y0 y1)) ∧ (∀ y0 y1 y2 y3 y4 y5 y6 y7,LeO (laws_FnReadings.j3 k y0 y1 y2 y3 y4 y5 y6 y7) (laws_FnReadings.j3 (k + 1) y0 y1 y2 y3 y4 y5 y6 y7)) ∧ (∀ y0 y1 y2 y3 y4 y5 y6,LeO (laws_FnReadings.j4 k y0 y1 y2 y3 y4 y5 y6) (laws_FnReadings.j4 (k + 1) y0 y1 y2 y3 y4 y5 y6)) ∧ (∀ y0 y1,LeO (laws_FnReadings.j5 k y0 y1) (laws_FnReadings.j5 (k + 1) y0 y1))
 | 0 => ⟨fun _ _ _ _ _ r h => by simp [laws_FnReadings.j0] at h,fun _ _ r h => by simp [laws_FnReadings.j1] at h,fun _ _ r h => by simp [laws_FnReadings.j2] at h,fun _ _ _ _ _ _ _ _ r h => by simp [laws_FnReadings.j3] at h,fun _ _ _ _ _ _ _ r h => by simp [laws_FnReadings.j4] at h,fun _ _ r h => by simp [laws_FnReadings.j5] at h⟩
 | k + 1 => by
  obtain ⟨ih0,ih1,ih2,ih3,ih4,ih5⟩ := laws_FnReadings.mono_l k
  refine ⟨?_, ?_, ?_, ?_, ?_, ?_⟩
  ·intro y0 y1 y2 y3 y4
   unfold laws_FnReadings.j0
   repeat' first
   | (with_reducible exact ih0 _ _ _ _ _)
   | (with_reducible exact ih1 _ _)
   | (with_reducible exact ih2 _ _)
   | (with_reducible exact ih3 _ _ _ _ _ _ _ _)
   | (with_reducible exact ih4 _ _ _ _ _ _ _)
   | (with_reducible exact ih5 _ _)
   | (with_reducible exact impl_AddReading.mono _ _ _ _ _)
   | (with_reducible exact impl_BadReadings.mono _ _ _ _)
   | (with_reducible exact impl_IsValidReadings.mono _ _)
   | (with_reducible exact impl_LongestAlarm.mono _ _ _ _)
   | (with_reducible exact impl_ParseTenth.mono _ _)
   | (with_reducible exact laws_rHas.mono _ _ _)
   | (with_reducible exact laws_rInts.mono _ _ _)
   | (with_reducible exact laws_rReadings.mono _ _ _)
   | (with_reducible exact spec_AddReading.mono _ _ _ _ _)
   | (with_reducible exact spec_BadReadings.mono _ _ _ _)
   | (with_reducible exact spec_DrawAddReading.mono _ _)
   | (with_reducible exact spec_DrawLongestAlarm.mono _ _)
   | (with_reducible exact spec_DrawParseTenth.mono _ _)
   | (with_reducible exact spec_LongestAlarm.mono _ _ _ _)
   | (with_reducible exact spec_ParseTenth.mono _ _)
   | (with_reducible exact spec_TenthText.mono _ _)
   | (with_reducible exact LeO.refl _)
   | (with_reducible exact LeO.none _)
   | (with_reducible refine LeO.ite ?_ ?_)
   | (with_reducible refine LeO.bind ?_ (fun _ => ?_))
   | exact ih0 _ _ _ _ _
   | exact ih1 _ _
   | exact ih2 _ _
   | exact ih3 _ _ _ _ _ _ _ _
   | exact ih4 _ _ _ _ _ _ _
   | exact ih5 _ _
   | exact impl_AddReading.mono _ _ _ _ _
   | exact impl_BadReadings.mono _ _ _ _
   | exact impl_IsValidReadings.mono _ _
   | exact impl_LongestAlarm.mono _ _ _ _
   | exact impl_ParseTenth.mono _ _
   | exact laws_rHas.mono _ _ _
   | exact laws_rInts.mono _ _ _
   | exact laws_rReadings.mono _ _ _
   | exact spec_AddReading.mono _ _ _ _ _
   | exact spec_BadReadings.mono _ _ _ _
   | exact spec_DrawAddReading.mono _ _
   | exact spec_DrawLongestAlarm.mono _ _
   | exact spec_DrawParseTenth.mono _ _
   | exact spec_LongestAlarm.mono _ _ _ _
   | exact spec_ParseTenth.mono _ _
   | exact spec_TenthText.mono _ _
   | exact LeO.none _
   | refine LeO.ite ?_ ?_
   | refine LeO.bind ?_ (fun _ => ?_)
  ·intro y0 y1
   unfold laws_FnReadings.j1
   repeat' first
   | (with_reducible exact ih0 _ _ _ _ _)
   | (with_reducible exact ih1 _ _)
   | (with_reducible exact ih2 _ _)
   | (with_reducible exact ih3 _ _ _ _ _ _ _ _)
   | (with_reducible exact ih4 _ _ _ _ _ _ _)
   | (with_reducible exact ih5 _ _)
   | (with_reducible exact impl_AddReading.mono _ _ _ _ _)
   | (with_reducible exact impl_BadReadings.mono _ _ _ _)
   | (with_reducible exact impl_IsValidReadings.mono _ _)
   | (with_reducible exact impl_LongestAlarm.mono _ _ _ _)
   | (with_reducible exact impl_ParseTenth.mono _ _)
   | (with_reducible exact laws_rHas.mono _ _ _)
   | (with_reducible exact laws_rInts.mono _ _ _)
   | (with_reducible exact laws_rReadings.mono _ _ _)
   | (with_reducible exact spec_AddReading.mono _ _ _ _ _)
   | (with_reducible exact spec_BadReadings.mono _ _ _ _)
   | (with_reducible exact spec_DrawAddReading.mono _ _)
   | (with_reducible exact spec_DrawLongestAlarm.mono _ _)
   | (with_reducible exact spec_DrawParseTenth.mono _ _)
   | (with_reducible exact spec_LongestAlarm.mono _ _ _ _)
   | (with_reducible exact spec_ParseTenth.mono _ _)
   | (with_reducible exact spec_TenthText.mono _ _)
   | (with_reducible exact LeO.refl _)
   | (with_reducible exact LeO.none _)
   | (with_reducible refine LeO.ite ?_ ?_)
   | (with_reducible refine LeO.bind ?_ (fun _ => ?_))
   | exact ih0 _ _ _ _ _
   | exact ih1 _ _
   | exact ih2 _ _
   | exact ih3 _ _ _ _ _ _ _ _
   | exact ih4 _ _ _ _ _ _ _
   | exact ih5 _ _
   | exact impl_AddReading.mono _ _ _ _ _
   | exact impl_BadReadings.mono _ _ _ _
   | exact impl_IsValidReadings.mono _ _
   | exact impl_LongestAlarm.mono _ _ _ _
   | exact impl_ParseTenth.mono _ _
   | exact laws_rHas.mono _ _ _
   | exact laws_rInts.mono _ _ _
   | exact laws_rReadings.mono _ _ _
   | exact spec_AddReading.mono _ _ _ _ _
   | exact spec_BadReadings.mono _ _ _ _
   | exact spec_DrawAddReading.mono _ _
   | exact spec_DrawLongestAlarm.mono _ _
   | exact spec_DrawParseTenth.mono _ _
   | exact spec_LongestAlarm.mono _ _ _ _
   | exact spec_ParseTenth.mono _ _
   | exact spec_TenthText.mono _ _
   | exact LeO.none _
   | refine LeO.ite ?_ ?_
   | refine LeO.bind ?_ (fun _ => ?_)
  ·intro y0 y1
   unfold laws_FnReadings.j2
   repeat' first
   | (with_reducible exact ih0 _ _ _ _ _)
   | (with_reducible exact ih1 _ _)
   | (with_reducible exact ih2 _ _)
   | (with_reducible exact ih3 _ _ _ _ _ _ _ _)
   | (with_reducible exact ih4 _ _ _ _ _ _ _)
   | (with_reducible exact ih5 _ _)
   | (with_reducible exact impl_AddReading.mono _ _ _ _ _)
   | (with_reducible exact impl_BadReadings.mono _ _ _ _)
   | (with_reducible exact impl_IsValidReadings.mono _ _)
   | (with_reducible exact impl_LongestAlarm.mono _ _ _ _)
   | (with_reducible exact impl_ParseTenth.mono _ _)
   | (with_reducible exact laws_rHas.mono _ _ _)
   | (with_reducible exact laws_rInts.mono _ _ _)
   | (with_reducible exact laws_rReadings.mono _ _ _)
   | (with_reducible exact spec_AddReading.mono _ _ _ _ _)
   | (with_reducible exact spec_BadReadings.mono _ _ _ _)
   | (with_reducible exact spec_DrawAddReading.mono _ _)
   | (with_reducible exact spec_DrawLongestAlarm.mono _ _)
   | (with_reducible exact spec_DrawParseTenth.mono _ _)
   | (with_reducible exact spec_LongestAlarm.mono _ _ _ _)
   | (with_reducible exact spec_ParseTenth.mono _ _)
   | (with_reducible exact spec_TenthText.mono _ _)
   | (with_reducible exact LeO.refl _)
   | (with_reducible exact LeO.none _)
   | (with_reducible refine LeO.ite ?_ ?_)
   | (with_reducible refine LeO.bind ?_ (fun _ => ?_))
   | exact ih0 _ _ _ _ _
   | exact ih1 _ _
   | exact ih2 _ _
   | exact ih3 _ _ _ _ _ _ _ _
   | exact ih4 _ _ _ _ _ _ _
   | exact ih5 _ _
   | exact impl_AddReading.mono _ _ _ _ _
   | exact impl_BadReadings.mono _ _ _ _
   | exact impl_IsValidReadings.mono _ _
   | exact impl_LongestAlarm.mono _ _ _ _
   | exact impl_ParseTenth.mono _ _
   | exact laws_rHas.mono _ _ _
   | exact laws_rInts.mono _ _ _
   | exact laws_rReadings.mono _ _ _
   | exact spec_AddReading.mono _ _ _ _ _
   | exact spec_BadReadings.mono _ _ _ _
   | exact spec_DrawAddReading.mono _ _
   | exact spec_DrawLongestAlarm.mono _ _
   | exact spec_DrawParseTenth.mono _ _
   | exact spec_LongestAlarm.mono _ _ _ _
   | exact spec_ParseTenth.mono _ _
   | exact spec_TenthText.mono _ _
   | exact LeO.none _
   | refine LeO.ite ?_ ?_
   | refine LeO.bind ?_ (fun _ => ?_)
  ·intro y0 y1 y2 y3 y4 y5 y6 y7
   unfold laws_FnReadings.j3
   repeat' first
   | (with_reducible exact ih0 _ _ _ _ _)
   | (with_reducible exact ih1 _ _)
   | (with_reducible exact ih2 _ _)
   | (with_reducible exact ih3 _ _ _ _ _ _ _ _)
   | (with_reducible exact ih4 _ _ _ _ _ _ _)
   | (with_reducible exact ih5 _ _)
   | (with_reducible exact impl_AddReading.mono _ _ _ _ _)
   | (with_reducible exact impl_BadReadings.mono _ _ _ _)
   | (with_reducible exact impl_IsValidReadings.mono _ _)
   | (with_reducible exact impl_LongestAlarm.mono _ _ _ _)
   | (with_reducible exact impl_ParseTenth.mono _ _)
   | (with_reducible exact laws_rHas.mono _ _ _)
   | (with_reducible exact laws_rInts.mono _ _ _)
   | (with_reducible exact laws_rReadings.mono _ _ _)
   | (with_reducible exact spec_AddReading.mono _ _ _ _ _)
   | (with_reducible exact spec_BadReadings.mono _ _ _ _)
   | (with_reducible exact spec_DrawAddReading.mono _ _)
   | (with_reducible exact spec_DrawLongestAlarm.mono _ _)
   | (with_reducible exact spec_DrawParseTenth.mono _ _)
   | (with_reducible exact spec_LongestAlarm.mono _ _ _ _)
   | (with_reducible exact spec_ParseTenth.mono _ _)
   | (with_reducible exact spec_TenthText.mono _ _)
   | (with_reducible exact LeO.refl _)
   | (with_reducible exact LeO.none _)
   | (with_reducible refine LeO.ite ?_ ?_)
   | (with_reducible refine LeO.bind ?_ (fun _ => ?_))
   | exact ih0 _ _ _ _ _
   | exact ih1 _ _
   | exact ih2 _ _
   | exact ih3 _ _ _ _ _ _ _ _
   | exact ih4 _ _ _ _ _ _ _
   | exact ih5 _ _
   | exact impl_AddReading.mono _ _ _ _ _
   | exact impl_BadReadings.mono _ _ _ _
   | exact impl_IsValidReadings.mono _ _
   | exact impl_LongestAlarm.mono _ _ _ _
   | exact impl_ParseTenth.mono _ _
   | exact laws_rHas.mono _ _ _
   | exact laws_rInts.mono _ _ _
   | exact laws_rReadings.mono _ _ _
   | exact spec_AddReading.mono _ _ _ _ _
   | exact spec_BadReadings.mono _ _ _ _
   | exact spec_DrawAddReading.mono _ _
   | exact spec_DrawLongestAlarm.mono _ _
   | exact spec_DrawParseTenth.mono _ _
   | exact spec_LongestAlarm.mono _ _ _ _
   | exact spec_ParseTenth.mono _ _
   | exact spec_TenthText.mono _ _
   | exact LeO.none _
   | refine LeO.ite ?_ ?_
   | refine LeO.bind ?_ (fun _ => ?_)
  ·intro y0 y1 y2 y3 y4 y5 y6
   unfold laws_FnReadings.j4
   repeat' first
   | (with_reducible exact ih0 _ _ _ _ _)
   | (with_reducible exact ih1 _ _)
   | (with_reducible exact ih2 _ _)
   | (with_reducible exact ih3 _ _ _ _ _ _ _ _)
   | (with_reducible exact ih4 _ _ _ _ _ _ _)
   | (with_reducible exact ih5 _ _)
   | (with_reducible exact impl_AddReading.mono _ _ _ _ _)
   | (with_reducible exact impl_BadReadings.mono _ _ _ _)
   | (with_reducible exact impl_IsValidReadings.mono _ _)
   | (with_reducible exact impl_LongestAlarm.mono _ _ _ _)
   | (with_reducible exact impl_ParseTenth.mono _ _)
   | (with_reducible exact laws_rHas.mono _ _ _)
   | (with_reducible exact laws_rInts.mono _ _ _)
   | (with_reducible exact laws_rReadings.mono _ _ _)
   | (with_reducible exact spec_AddReading.mono _ _ _ _ _)
   | (with_reducible exact spec_BadReadings.mono _ _ _ _)
   | (with_reducible exact spec_DrawAddReading.mono _ _)
   | (with_reducible exact spec_DrawLongestAlarm.mono _ _)
   | (with_reducible exact spec_DrawParseTenth.mono _ _)
   | (with_reducible exact spec_LongestAlarm.mono _ _ _ _)
   | (with_reducible exact spec_ParseTenth.mono _ _)
   | (with_reducible exact spec_TenthText.mono _ _)
   | (with_reducible exact LeO.refl _)
   | (with_reducible exact LeO.none _)
   | (with_reducible refine LeO.ite ?_ ?_)
   | (with_reducible refine LeO.bind ?_ (fun _ => ?_))
   | exact ih0 _ _ _ _ _
   | exact ih1 _ _
   | exact ih2 _ _
   | exact ih3 _ _ _ _ _ _ _ _
   | exact ih4 _ _ _ _ _ _ _
   | exact ih5 _ _
   | exact impl_AddReading.mono _ _ _ _ _
   | exact impl_BadReadings.mono _ _ _ _
   | exact impl_IsValidReadings.mono _ _
   | exact impl_LongestAlarm.mono _ _ _ _
   | exact impl_ParseTenth.mono _ _
   | exact laws_rHas.mono _ _ _
   | exact laws_rInts.mono _ _ _
   | exact laws_rReadings.mono _ _ _
   | exact spec_AddReading.mono _ _ _ _ _
   | exact spec_BadReadings.mono _ _ _ _
   | exact spec_DrawAddReading.mono _ _
   | exact spec_DrawLongestAlarm.mono _ _
   | exact spec_DrawParseTenth.mono _ _
   | exact spec_LongestAlarm.mono _ _ _ _
   | exact spec_ParseTenth.mono _ _
   | exact spec_TenthText.mono _ _
   | exact LeO.none _
   | refine LeO.ite ?_ ?_
   | refine LeO.bind ?_ (fun _ => ?_)
  ·intro y0 y1
   unfold laws_FnReadings.j5
   repeat' first
   | (with_reducible exact ih0 _ _ _ _ _)
   | (with_reducible exact ih1 _ _)
   | (with_reducible exact ih2 _ _)
   | (with_reducible exact ih3 _ _ _ _ _ _ _ _)
   | (with_reducible exact ih4 _ _ _ _ _ _ _)
   | (with_reducible exact ih5 _ _)
   | (with_reducible exact impl_AddReading.mono _ _ _ _ _)
   | (with_reducible exact impl_BadReadings.mono _ _ _ _)
   | (with_reducible exact impl_IsValidReadings.mono _ _)
   | (with_reducible exact impl_LongestAlarm.mono _ _ _ _)
   | (with_reducible exact impl_ParseTenth.mono _ _)
   | (with_reducible exact laws_rHas.mono _ _ _)
   | (with_reducible exact laws_rInts.mono _ _ _)
   | (with_reducible exact laws_rReadings.mono _ _ _)
   | (with_reducible exact spec_AddReading.mono _ _ _ _ _)
   | (with_reducible exact spec_BadReadings.mono _ _ _ _)
   | (with_reducible exact spec_DrawAddReading.mono _ _)
   | (with_reducible exact spec_DrawLongestAlarm.mono _ _)
   | (with_reducible exact spec_DrawParseTenth.mono _ _)
   | (with_reducible exact spec_LongestAlarm.mono _ _ _ _)
   | (with_reducible exact spec_ParseTenth.mono _ _)
   | (with_reducible exact spec_TenthText.mono _ _)
   | (with_reducible exact LeO.refl _)
   | (with_reducible exact LeO.none _)
   | (with_reducible refine LeO.ite ?_ ?_)
   | (with_reducible refine LeO.bind ?_ (fun _ => ?_))
   | exact ih0 _ _ _ _ _
   | exact ih1 _ _
   | exact ih2 _ _
   | exact ih3 _ _ _ _ _ _ _ _
   | exact ih4 _ _ _ _ _ _ _
   | exact ih5 _ _
   | exact impl_AddReading.mono _ _ _ _ _
   | exact impl_BadReadings.mono _ _ _ _
   | exact impl_IsValidReadings.mono _ _
   | exact impl_LongestAlarm.mono _ _ _ _
   | exact impl_ParseTenth.mono _ _
   | exact laws_rHas.mono _ _ _
   | exact laws_rInts.mono _ _ _
   | exact laws_rReadings.mono _ _ _
   | exact spec_AddReading.mono _ _ _ _ _
   | exact spec_BadReadings.mono _ _ _ _
   | exact spec_DrawAddReading.mono _ _
   | exact spec_DrawLongestAlarm.mono _ _
   | exact spec_DrawParseTenth.mono _ _
   | exact spec_LongestAlarm.mono _ _ _ _
   | exact spec_ParseTenth.mono _ _
   | exact spec_TenthText.mono _ _
   | exact LeO.none _
   | refine LeO.ite ?_ ?_
   | refine LeO.bind ?_ (fun _ => ?_)
theorem laws_FnReadings.mono : ∀ a0 k,LeO (laws_FnReadings.f k a0) (laws_FnReadings.f (k + 1) a0):=by
 intro a0 k
 obtain ⟨ih0,ih1,ih2,ih3,ih4,ih5⟩ := laws_FnReadings.mono_l k
 unfold laws_FnReadings.f
 repeat' first
   | (with_reducible exact ih0 _ _ _ _ _)
   | (with_reducible exact ih1 _ _)
   | (with_reducible exact ih2 _ _)
   | (with_reducible exact ih3 _ _ _ _ _ _ _ _)
   | (with_reducible exact ih4 _ _ _ _ _ _ _)
   | (with_reducible exact ih5 _ _)
   | (with_reducible exact impl_AddReading.mono _ _ _ _ _)
   | (with_reducible exact impl_BadReadings.mono _ _ _ _)
   | (with_reducible exact impl_IsValidReadings.mono _ _)
   | (with_reducible exact impl_LongestAlarm.mono _ _ _ _)
   | (with_reducible exact impl_ParseTenth.mono _ _)
   | (with_reducible exact laws_rHas.mono _ _ _)
   | (with_reducible exact laws_rInts.mono _ _ _)
   | (with_reducible exact laws_rReadings.mono _ _ _)
   | (with_reducible exact spec_AddReading.mono _ _ _ _ _)
   | (with_reducible exact spec_BadReadings.mono _ _ _ _)
   | (with_reducible exact spec_DrawAddReading.mono _ _)
   | (with_reducible exact spec_DrawLongestAlarm.mono _ _)
   | (with_reducible exact spec_DrawParseTenth.mono _ _)
   | (with_reducible exact spec_LongestAlarm.mono _ _ _ _)
   | (with_reducible exact spec_ParseTenth.mono _ _)
   | (with_reducible exact spec_TenthText.mono _ _)
   | (with_reducible exact LeO.refl _)
   | (with_reducible exact LeO.none _)
   | (with_reducible refine LeO.ite ?_ ?_)
   | (with_reducible refine LeO.bind ?_ (fun _ => ?_))
   | exact ih0 _ _ _ _ _
   | exact ih1 _ _
   | exact ih2 _ _
   | exact ih3 _ _ _ _ _ _ _ _
   | exact ih4 _ _ _ _ _ _ _
   | exact ih5 _ _
   | exact impl_AddReading.mono _ _ _ _ _
   | exact impl_BadReadings.mono _ _ _ _
   | exact impl_IsValidReadings.mono _ _
   | exact impl_LongestAlarm.mono _ _ _ _
   | exact impl_ParseTenth.mono _ _
   | exact laws_rHas.mono _ _ _
   | exact laws_rInts.mono _ _ _
   | exact laws_rReadings.mono _ _ _
   | exact spec_AddReading.mono _ _ _ _ _
   | exact spec_BadReadings.mono _ _ _ _
   | exact spec_DrawAddReading.mono _ _
   | exact spec_DrawLongestAlarm.mono _ _
   | exact spec_DrawParseTenth.mono _ _
   | exact spec_LongestAlarm.mono _ _ _ _
   | exact spec_ParseTenth.mono _ _
   | exact spec_TenthText.mono _ _
   | exact LeO.none _
   | refine LeO.ite ?_ ?_
   | refine LeO.bind ?_ (fun _ => ?_)
set_option maxHeartbeats 8000000 in
set_option maxRecDepth 100000 in
theorem laws_FnReadings.calls (k : Nat) (A0 : Option Addr) (c0 : Nat) (l0 : List Int) (r : Bool) (w : World) (hr0 : Kd.C (Kd.int .u8) w A0 l0.length l0) (hc0 : l0.length ≤ c0) (hT : Lib.TabIs Tryd.prog w "internal/strconv.uint64pow10" .u64 Lib.pow10Tab) (h : laws_FnReadings.f k l0 = some r) :
  Calls Tryd.prog 3 #[.slice A0 l0.length c0] w fun e w' => e = .returned (.bool r) ∧ Below w.heap.size w w':=by
 have hu41:=Tryd.underlying41
 have HR0:=Aside0.mk hr0
 have HC0:=Aside0.mk hc0
 clear hr0 hc0
 have HB:=Aside0.mk (Below.refl w.heap.size w)
 have H : ((laws_rBig.f l0).bind fun t406 => (if t406 = true then (some true) else ((spec_DrawTenthText.f l0).bind fun t407 => ((impl_TenthText.f t407).bind fun bt408 => ((spec_TenthText.f k t407).bind fun bt410 => (if bt408.1.toList = bt410.1.toList then (laws_FnReadings.j0 k l0 t407 bt408.1 bt408.2 (bt408.2 != bt410.2)) else (laws_FnReadings.j0 k l0 t407 bt408.1 bt408.2 true))))))) = some r:=h
 clear h
 replace H:=Option.bind_eq_some_iff.mp H
 obtain ⟨t406,A20,H⟩ := H
 replace H : (if t406 = true then (some true) else ((spec_DrawTenthText.f l0).bind fun t407 => ((impl_TenthText.f t407).bind fun bt408 => ((spec_TenthText.f k t407).bind fun bt410 => (if bt408.1.toList = bt410.1.toList then (laws_FnReadings.j0 k l0 t407 bt408.1 bt408.2 (bt408.2 != bt410.2)) else (laws_FnReadings.j0 k l0 t407 bt408.1 bt408.2 true)))))) = some r:=H
 have A2:=Aside0.mk A20
 clear A20
 by_cases c3 : t406 = true
 ·subst c3
  have H1 : (some true) = some r:=by rw [if_pos rfl] at H;exact H
  clear H
  have H:=H1
  clear H1
  obtain rfl:=Option.some.inj H
  go_enter Tryd.func3,Tryd.ntmps3
  as_aux_lemma =>
   go_wp2_with (((with_reducible refine gate_callee (f:=4) rfl ?_);refine goesL_ (some 35) rfl rfl Tryd.func4 (by kernel_rfl) rfl #[.slice A0 l0.length c0] rfl (by (try simp only [List.map_toArray,List.map_cons,List.map_nil]);rfl) ?_;(with_reducible refine (laws_rBig.calls _ _ l0 true _ ?side1 ?side2 A2.out).mono ?_);(case side1 => repeat (exact HR0.out));(case side2 => exact HC0.out);rintro e w' ⟨rfl,⟨nd,rfl⟩⟩;refine ⟨_,rfl, ?_⟩))
   go_ret
   exact ⟨by rfl,by repeat ((with_reducible first | exact HB.out | apply pw_below_drewN))⟩
 ·replace c3:=Bool.eq_false_iff.mpr c3
  subst c3
  have H1 : ((spec_DrawTenthText.f l0).bind fun t407 => ((impl_TenthText.f t407).bind fun bt408 => ((spec_TenthText.f k t407).bind fun bt410 => (if bt408.1.toList = bt410.1.toList then (laws_FnReadings.j0 k l0 t407 bt408.1 bt408.2 (bt408.2 != bt410.2)) else (laws_FnReadings.j0 k l0 t407 bt408.1 bt408.2 true))))) = some r:=by rw [if_neg (show ¬ (false = true) by decide)] at H;exact H
  clear H
  have H:=H1
  clear H1
  replace H:=Option.bind_eq_some_iff.mp H
  obtain ⟨t407,A40,H⟩ := H
  replace H : ((impl_TenthText.f t407).bind fun bt408 => ((spec_TenthText.f k t407).bind fun bt410 => (if bt408.1.toList = bt410.1.toList then (laws_FnReadings.j0 k l0 t407 bt408.1 bt408.2 (bt408.2 != bt410.2)) else (laws_FnReadings.j0 k l0 t407 bt408.1 bt408.2 true)))) = some r:=H
  have A4:=Aside0.mk A40
  clear A40
  replace H:=Option.bind_eq_some_iff.mp H
  obtain ⟨⟨t408,t409⟩,A50,H⟩ := H
  replace H : ((spec_TenthText.f k t407).bind fun bt410 => (if t408.toList = bt410.1.toList then (laws_FnReadings.j0 k l0 t407 t408 t409 (t409 != bt410.2)) else (laws_FnReadings.j0 k l0 t407 t408 t409 true))) = some r:=H
  have A5:=Aside0.mk A50
  clear A50
  replace H:=Option.bind_eq_some_iff.mp H
  obtain ⟨⟨t410,t411⟩,A60,H⟩ := H
  replace H : (if t408.toList = t410.toList then (laws_FnReadings.j0 k l0 t407 t408 t409 (t409 != t411)) else (laws_FnReadings.j0 k l0 t407 t408 t409 true)) = some r:=H
  have A6:=Aside0.mk A60
  clear A60
  have HC7:=Aside0.mk H
  clear H
  go_enter Tryd.func3,Tryd.ntmps3
  go_upto_region 6 with (first | ((with_reducible refine gate_callee (f:=4) rfl ?_);refine goesL_ (some 35) rfl rfl Tryd.func4 (by kernel_rfl) rfl #[.slice A0 l0.length c0] rfl (by (try simp only [List.map_toArray,List.map_cons,List.map_nil]);rfl) ?_;(with_reducible refine (laws_rBig.calls _ _ l0 false _ ?side1 ?side2 A2.out).mono ?_);(case side1 => repeat (exact HR0.out));(case side2 => exact HC0.out);rintro e w' ⟨rfl,⟨nd,rfl⟩⟩;refine ⟨_,rfl, ?_⟩) | ((with_reducible refine gate_callee (f:=5) rfl ?_);refine goesL_ (some 37) rfl rfl Tryd.func5 (by kernel_rfl) rfl #[.slice A0 l0.length c0] rfl (by (try simp only [List.map_toArray,List.map_cons,List.map_nil]);rfl) ?_;(with_reducible refine (spec_DrawTenthText.calls _ _ l0 t407 _ ?side1 ?side2 A4.out).mono ?_);(case side1 => repeat (exact HR0.out));(case side2 => exact HC0.out);rintro e w8 ⟨rfl,hb⟩;refine ⟨_,rfl, ?_⟩;have n0_:=Aside0.mk (below_step (by repeat ((with_reducible first | exact HB.out | apply pw_below_drewN))) hb);clear HB;have HB:=n0_;clear n0_;(try clear hb)) | ((with_reducible refine gate_callee (f:=6) rfl ?_);refine goesL_ (some 40) rfl rfl Tryd.func6 (by kernel_rfl) rfl #[.int .i64 t407] rfl (by (try simp only [List.map_toArray,List.map_cons,List.map_nil]);rfl) ?_;(with_reducible refine (impl_TenthText.calls (hT:=?sgT) t407 t408 t409 _ A5.out).mono ?_);(case sgT => exact TabIs_below hT (by exact HB.out));rintro e w9 ⟨rfl,hb⟩;refine ⟨_,rfl, ?_⟩;have n0_:=Aside0.mk (below_step (by exact HB.out) hb);clear HB;have HB:=n0_;clear n0_;(try clear hb)) | ((with_reducible refine gate_callee (f:=7) rfl ?_);refine goesL_ (some 45) rfl rfl Tryd.func7 (by kernel_rfl) rfl #[.int .i64 t407] rfl (by (try simp only [List.map_toArray,List.map_cons,List.map_nil]);rfl) ?_;(with_reducible refine (spec_TenthText.calls k t407 t410 t411 _ A6.out).mono ?_);rintro e w10 ⟨rfl,hb⟩;refine ⟨_,rfl, ?_⟩;have n0_:=Aside0.mk (below_step (by exact HB.out) hb);clear HB;have HB:=n0_;clear n0_;(try clear hb)))
  (skip)
  go_cut [55] (fun v55 wc => ∃ (kq : Nat) (x55_6 : Bool),v55 = .bool x55_6 ∧ Aside0 (laws_FnReadings.j0 kq l0 t407 t408 t409 x55_6 = some r) ∧ Aside0 (kq ≤ k) ∧ Aside0 (Below w.heap.size w wc))
  case first =>
   have H:=HC7.out
   clear HC7
   by_cases c11 : t408.toList = t410.toList
   ·rw [if_pos c11] at H
    have c11b0 : (t408.toList == t410.toList) = true:=beq_iff_eq.mpr c11
    have c11b1 : (t408.toList != t410.toList) = false:=bne_eq_false_iff_eq.mpr c11
    clear c11
    (skip)
    have H':=Aside0.mk H
    clear H
    go_wp2
    go_meet
    case rel => exact ⟨_,((t409 != t411)),(by rfl),H',⟨by omega⟩,⟨by exact HB.out⟩⟩
   ·rw [if_neg c11] at H
    have c11b0 : (t408.toList == t410.toList) = false:=beq_eq_false_iff_ne.mpr c11
    have c11b1 : (t408.toList != t410.toList) = true:=bne_iff_ne.mpr c11
    (skip)
    have H':=Aside0.mk H
    clear H
    go_wp2
    go_meet
    case rel => exact ⟨_,(true),(by rfl),H',⟨by omega⟩,⟨by exact HB.out⟩⟩
  case rest => as_aux_lemma =>
   clear HC7
   try clear c1
   try clear p2
   try clear c3
   try clear c4
   try clear c5
   try clear c6
   try clear c7
   try clear c11
   try clear c11b0
   try clear c11b1
   obtain ⟨kq,x55_6,rfl,HA,HJ6,HB⟩ := hcut
   cases kq with
   | zero => exact absurd HA.out (by simp [laws_FnReadings.j0])
   | succ kj6 =>
    have H:=HA.out
    clear HA
    simp only [laws_FnReadings.j0] at H
    by_cases c12 : x55_6 = true
    ·subst c12
     have H1 : (some false) = some r:=by rw [if_pos rfl] at H;exact H
     clear H
     have H:=H1
     clear H1
     obtain rfl:=Option.some.inj H
     as_aux_lemma =>
      go_wp2
      go_ret
      exact ⟨by rfl,by exact HB.out⟩
    ·replace c12:=Bool.eq_false_iff.mpr c12
     subst c12
     have H1 : ((impl_ParseTenth.f kj6 t408).bind fun bt412 => (if t409 = true then (if bt412.2 = true then (laws_FnReadings.j1 kj6 l0 (bt412.1 != t407)) else (laws_FnReadings.j1 kj6 l0 true)) else (laws_FnReadings.j1 kj6 l0 false))) = some r:=by rw [if_neg (show ¬ (false = true) by decide)] at H;exact H
     clear H
     have H:=H1
     clear H1
     replace H:=Option.bind_eq_some_iff.mp H
     obtain ⟨⟨t412,t413⟩,A130,H⟩ := H
     replace H : (if t409 = true then (if t413 = true then (laws_FnReadings.j1 kj6 l0 (t412 != t407)) else (laws_FnReadings.j1 kj6 l0 true)) else (laws_FnReadings.j1 kj6 l0 false)) = some r:=H
     have A13:=Aside0.mk A130
     clear A130
     have HC14:=Aside0.mk H
     clear H
     go_upto_region 9 with (((with_reducible refine gate_callee (f:=8) rfl ?_);refine goesL_ (some 58) rfl rfl Tryd.func8 (by kernel_rfl) rfl #[.string t408] rfl (by (try simp only [List.map_toArray,List.map_cons,List.map_nil]);rfl) ?_;(with_reducible refine (impl_ParseTenth.calls (hT:=?sgT) kj6 t408 t412 t413 _ A13.out).mono ?_);(case sgT => exact TabIs_below hT (by exact HB.out));rintro e w15 ⟨rfl,hb⟩;refine ⟨_,rfl, ?_⟩;have n0_:=Aside0.mk (below_step (by exact HB.out) hb);clear HB;have HB:=n0_;clear n0_;(try clear hb)))
     (skip)
     go_cut [70] (fun v70 wc => ∃ (kq : Nat) (x70_13 : Bool),v70 = .bool x70_13 ∧ Aside0 (laws_FnReadings.j1 kq l0 x70_13 = some r) ∧ Aside0 (kq ≤ kj6) ∧ Aside0 (Below w.heap.size w wc))
     case first =>
      have H:=HC14.out
      clear HC14
      by_cases c16 : t409 = true
      ·subst c16
       have H1 : (if t413 = true then (laws_FnReadings.j1 kj6 l0 (t412 != t407)) else (laws_FnReadings.j1 kj6 l0 true)) = some r:=by rw [if_pos rfl] at H;exact H
       clear H
       have H:=H1
       clear H1
       by_cases c17 : t413 = true
       ·subst c17
        have H1 : (laws_FnReadings.j1 kj6 l0 (t412 != t407)) = some r:=by rw [if_pos rfl] at H;exact H
        clear H
        have H:=H1
        clear H1
        have H':=Aside0.mk H
        clear H
        go_wp2
        go_meet
        case rel => exact ⟨_,((t412 != t407)),(by rfl),H',⟨by have:=HJ6.out;omega⟩,⟨by exact HB.out⟩⟩
       ·replace c17:=Bool.eq_false_iff.mpr c17
        subst c17
        have H1 : (laws_FnReadings.j1 kj6 l0 true) = some r:=by rw [if_neg (show ¬ (false = true) by decide)] at H;exact H
        clear H
        have H:=H1
        clear H1
        have H':=Aside0.mk H
        clear H
        go_wp2
        go_meet
        case rel => exact ⟨_,(true),(by rfl),H',⟨by have:=HJ6.out;omega⟩,⟨by exact HB.out⟩⟩
      ·replace c16:=Bool.eq_false_iff.mpr c16
       subst c16
       have H1 : (laws_FnReadings.j1 kj6 l0 false) = some r:=by rw [if_neg (show ¬ (false = true) by decide)] at H;exact H
       clear H
       have H:=H1
       clear H1
       have H':=Aside0.mk H
       clear H
       go_wp2
       go_meet
       case rel => exact ⟨_,(false),(by rfl),H',⟨by have:=HJ6.out;omega⟩,⟨by exact HB.out⟩⟩
     case rest => as_aux_lemma =>
      clear HC14
      try clear c1
      try clear p2
      try clear c3
      try clear c4
      try clear c5
      try clear c6
      try clear c7
      try clear c8
      try clear c11
      try clear c11b0
      try clear c11b1
      try clear c12
      try clear c16
      try clear c17
      try clear p2
      obtain ⟨kq,x70_13,rfl,HA,HJ13,HB⟩ := hcut
      cases kq with
      | zero => exact absurd HA.out (by simp [laws_FnReadings.j1])
      | succ kj13 =>
       have H:=HA.out
       clear HA
       simp only [laws_FnReadings.j1] at H
       by_cases c18 : x70_13 = true
       ·subst c18
        have H1 : (some false) = some r:=by rw [if_pos rfl] at H;exact H
        clear H
        have H:=H1
        clear H1
        obtain rfl:=Option.some.inj H
        as_aux_lemma =>
         go_wp2
         go_ret
         exact ⟨by rfl,by exact HB.out⟩
       ·replace c18:=Bool.eq_false_iff.mpr c18
        subst c18
        have H1 : ((spec_DrawParseTenth.f kj13 l0).bind fun t414 => ((impl_ParseTenth.f kj13 t414).bind fun bt415 => ((spec_ParseTenth.f kj13 t414).bind fun bt417 => (if bt415.1 = bt417.1 then (laws_FnReadings.j2 kj13 l0 (bt415.2 != bt417.2)) else (laws_FnReadings.j2 kj13 l0 true))))) = some r:=by rw [if_neg (show ¬ (false = true) by decide)] at H;exact H
        clear H
        have H:=H1
        clear H1
        replace H:=Option.bind_eq_some_iff.mp H
        obtain ⟨t414,A190,H⟩ := H
        replace H : ((impl_ParseTenth.f kj13 t414).bind fun bt415 => ((spec_ParseTenth.f kj13 t414).bind fun bt417 => (if bt415.1 = bt417.1 then (laws_FnReadings.j2 kj13 l0 (bt415.2 != bt417.2)) else (laws_FnReadings.j2 kj13 l0 true)))) = some r:=H
        have A19:=Aside0.mk A190
        clear A190
        replace H:=Option.bind_eq_some_iff.mp H
        obtain ⟨⟨t415,t416⟩,A200,H⟩ := H
        replace H : ((spec_ParseTenth.f kj13 t414).bind fun bt417 => (if t415 = bt417.1 then (laws_FnReadings.j2 kj13 l0 (t416 != bt417.2)) else (laws_FnReadings.j2 kj13 l0 true))) = some r:=H
        have A20:=Aside0.mk A200
        clear A200
        replace H:=Option.bind_eq_some_iff.mp H
        obtain ⟨⟨t417,t418⟩,A210,H⟩ := H
        replace H : (if t415 = t417 then (laws_FnReadings.j2 kj13 l0 (t416 != t418)) else (laws_FnReadings.j2 kj13 l0 true)) = some r:=H
        have A21:=Aside0.mk A210
        clear A210
        have HC22:=Aside0.mk H
        clear H
        go_upto_region 14 with (first | ((with_reducible refine gate_callee (f:=9) rfl ?_);refine goesL_ (some 72) rfl rfl Tryd.func9 (by kernel_rfl) rfl #[.slice A0 l0.length c0] rfl (by (try simp only [List.map_toArray,List.map_cons,List.map_nil]);rfl) ?_;(with_reducible refine (spec_DrawParseTenth.calls kj13 _ _ l0 t414 _ ?side1 ?side2 A19.out).mono ?_);(case side1 => repeat (exact (Kd.C_below HR0.out HB.out)));(case side2 => exact HC0.out);rintro e w23 ⟨rfl,hb⟩;refine ⟨_,rfl, ?_⟩;have n0_:=Aside0.mk (below_step (by exact HB.out) hb);clear HB;have HB:=n0_;clear n0_;(try clear hb)) | ((with_reducible refine gate_callee (f:=8) rfl ?_);refine goesL_ (some 75) rfl rfl Tryd.func8 (by kernel_rfl) rfl #[.string t414] rfl (by (try simp only [List.map_toArray,List.map_cons,List.map_nil]);rfl) ?_;(with_reducible refine (impl_ParseTenth.calls (hT:=?sgT) kj13 t414 t415 t416 _ A20.out).mono ?_);(case sgT => exact TabIs_below hT (by exact HB.out));rintro e w24 ⟨rfl,hb⟩;refine ⟨_,rfl, ?_⟩;have n0_:=Aside0.mk (below_step (by exact HB.out) hb);clear HB;have HB:=n0_;clear n0_;(try clear hb)) | ((with_reducible refine gate_callee (f:=10) rfl ?_);refine goesL_ (some 80) rfl rfl Tryd.func10 (by kernel_rfl) rfl #[.string t414] rfl (by (try simp only [List.map_toArray,List.map_cons,List.map_nil]);rfl) ?_;(with_reducible refine (spec_ParseTenth.calls kj13 t414 t417 t418 _ A21.out).mono ?_);rintro e w25 ⟨rfl,hb⟩;refine ⟨_,rfl, ?_⟩;have n0_:=Aside0.mk (below_step (by exact HB.out) hb);clear HB;have HB:=n0_;clear n0_;(try clear hb)))
        (skip)
        go_cut [90] (fun v90 wc => ∃ (kq : Nat) (x90_21 : Bool),v90 = .bool x90_21 ∧ Aside0 (laws_FnReadings.j2 kq l0 x90_21 = some r) ∧ Aside0 (kq ≤ kj13) ∧ Aside0 (Below w.heap.size w wc))
        case first =>
         have H:=HC22.out
         clear HC22
         by_cases c26 : t415 = t417
         ·rw [if_pos c26] at H
          have c26b0 : (t415 == t417) = true:=beq_iff_eq.mpr c26
          have c26b1 : (t415 != t417) = false:=bne_eq_false_iff_eq.mpr c26
          clear c26
          (skip)
          have H':=Aside0.mk H
          clear H
          go_wp2
          go_meet
          case rel => exact ⟨_,((t416 != t418)),(by rfl),H',⟨by have:=HJ6.out;have:=HJ13.out;omega⟩,⟨by exact HB.out⟩⟩
         ·rw [if_neg c26] at H
          have c26b0 : (t415 == t417) = false:=beq_eq_false_iff_ne.mpr c26
          have c26b1 : (t415 != t417) = true:=bne_iff_ne.mpr c26
          (skip)
          have H':=Aside0.mk H
          clear H
          go_wp2
          go_meet
          case rel => exact ⟨_,(true),(by rfl),H',⟨by have:=HJ6.out;have:=HJ13.out;omega⟩,⟨by exact HB.out⟩⟩
        case rest => as_aux_lemma =>
         clear HC22
         try clear c1
         try clear c2
         try clear p2
         try clear c3
         try clear c4
         try clear c5
         try clear c6
         try clear c7
         try clear c8
         try clear c9
         try clear c10
         try clear c11
         try clear c11b0
         try clear c11b1
         try clear c12
         try clear c16
         try clear c17
         try clear c18
         try clear c26
         try clear c26b0
         try clear c26b1
         try clear p2
         obtain ⟨kq,x90_21,rfl,HA,HJ21,HB⟩ := hcut
         cases kq with
         | zero => exact absurd HA.out (by simp [laws_FnReadings.j2])
         | succ kj21 =>
          have H:=HA.out
          clear HA
          simp only [laws_FnReadings.j2] at H
          by_cases c27 : x90_21 = true
          ·subst c27
           have H1 : (some false) = some r:=by rw [if_pos rfl] at H;exact H
           clear H
           have H:=H1
           clear H1
           obtain rfl:=Option.some.inj H
           as_aux_lemma =>
            go_wp2
            go_ret
            exact ⟨by rfl,by exact HB.out⟩
          ·replace c27:=Bool.eq_false_iff.mpr c27
           subst c27
           have H1 : ((spec_DrawLongestAlarm.f kj21 l0).bind fun bt419 => ((impl_LongestAlarm.f kj21 bt419.1 bt419.2.1 bt419.2.2).bind fun bt424 => ((spec_LongestAlarm.f kj21 bt419.1 bt419.2.1 bt419.2.2).bind fun bt427 => (if bt424.1 = bt427.1 then (if bt424.2.1 = bt427.2.1 then (laws_FnReadings.j3 kj21 l0 bt419.1 bt419.2.1 bt419.2.2 bt424.1 bt424.2.1 bt424.2.2 (bt424.2.2 != bt427.2.2)) else (laws_FnReadings.j3 kj21 l0 bt419.1 bt419.2.1 bt419.2.2 bt424.1 bt424.2.1 bt424.2.2 true)) else (laws_FnReadings.j3 kj21 l0 bt419.1 bt419.2.1 bt419.2.2 bt424.1 bt424.2.1 bt424.2.2 true))))) = some r:=by rw [if_neg (show ¬ (false = true) by decide)] at H;exact H
           clear H
           have H:=H1
           clear H1
           replace H:=Option.bind_eq_some_iff.mp H
           obtain ⟨⟨t419,t420,t421⟩,A280,H⟩ := H
           replace H : ((impl_LongestAlarm.f kj21 t419 t420 t421).bind fun bt424 => ((spec_LongestAlarm.f kj21 t419 t420 t421).bind fun bt427 => (if bt424.1 = bt427.1 then (if bt424.2.1 = bt427.2.1 then (laws_FnReadings.j3 kj21 l0 t419 t420 t421 bt424.1 bt424.2.1 bt424.2.2 (bt424.2.2 != bt427.2.2)) else (laws_FnReadings.j3 kj21 l0 t419 t420 t421 bt424.1 bt424.2.1 bt424.2.2 true)) else (laws_FnReadings.j3 kj21 l0 t419 t420 t421 bt424.1 bt424.2.1 bt424.2.2 true)))) = some r:=H
           have A28:=Aside0.mk A280
           clear A280
           replace H:=Option.bind_eq_some_iff.mp H
           obtain ⟨⟨t424,t425,t426⟩,A290,H⟩ := H
           replace H : ((spec_LongestAlarm.f kj21 t419 t420 t421).bind fun bt427 => (if t424 = bt427.1 then (if t425 = bt427.2.1 then (laws_FnReadings.j3 kj21 l0 t419 t420 t421 t424 t425 t426 (t426 != bt427.2.2)) else (laws_FnReadings.j3 kj21 l0 t419 t420 t421 t424 t425 t426 true)) else (laws_FnReadings.j3 kj21 l0 t419 t420 t421 t424 t425 t426 true))) = some r:=H
           have A29:=Aside0.mk A290
           clear A290
           replace H:=Option.bind_eq_some_iff.mp H
           obtain ⟨⟨t427,t428,t429⟩,A300,H⟩ := H
           replace H : (if t424 = t427 then (if t425 = t428 then (laws_FnReadings.j3 kj21 l0 t419 t420 t421 t424 t425 t426 (t426 != t429)) else (laws_FnReadings.j3 kj21 l0 t419 t420 t421 t424 t425 t426 true)) else (laws_FnReadings.j3 kj21 l0 t419 t420 t421 t424 t425 t426 true)) = some r:=H
           have A30:=Aside0.mk A300
           clear A300
           have HC31:=Aside0.mk H
           clear H
           go_upto_region 19 with (first | ((with_reducible refine gate_callee (f:=11) rfl ?_);refine goesL_ (some 93) rfl rfl Tryd.func11 (by kernel_rfl) rfl #[.slice A0 l0.length c0] rfl (by (try simp only [List.map_toArray,List.map_cons,List.map_nil]);rfl) ?_;(with_reducible refine (spec_DrawLongestAlarm.calls kj21 _ _ l0 t419 t420 t421 _ ?side1 ?side2 A28.out).mono ?_);(case side1 => repeat (exact (Kd.C_below HR0.out HB.out)));(case side2 => exact HC0.out);rintro e w32 ⟨v422,rfl,ho0,hb⟩;refine ⟨_,rfl, ?_⟩;have n0_:=Aside0.mk (Kd.R_lower ho0 (below_size (by exact HB.out)));have n1_:=Aside0.mk (below_step (by exact HB.out) hb);clear HB;have HO423:=n0_;have HB:=n1_;clear n0_ n1_;(try clear hb);(try clear ho0);obtain ⟨Ao33,co33,eo33⟩ := Kd.R_slice HO423.out;subst eo33) | ((with_reducible refine gate_callee (f:=12) rfl ?_);refine goesL_ (some 101) rfl rfl Tryd.func12 (by kernel_rfl) rfl #[.slice Ao33 t419.length co33, .int .i64 t420, .int .i64 t421] rfl (by (try simp only [List.map_toArray,List.map_cons,List.map_nil]);rfl) ?_;(with_reducible refine (impl_LongestAlarm.calls kj21 _ _ t419 t420 t421 t424 t425 t426 _ ?side1 ?side2 A29.out).mono ?_);(case side1 => repeat (exact (Kd.R_reads' HO423.out).2.2));(case side2 => exact (Kd.R_reads' HO423.out).2.1);rintro e w34 ⟨rfl,hb⟩;refine ⟨_,rfl, ?_⟩;have n0_:=Aside0.mk (Kd.R_below (by exact HO423.out) hb);have n1_:=Aside0.mk (below_step (by exact HB.out) hb);clear HO423;clear HB;have HO423:=n0_;have HB:=n1_;clear n0_ n1_;(try clear hb)) | ((with_reducible refine gate_callee (f:=13) rfl ?_);refine goesL_ (some 109) rfl rfl Tryd.func13 (by kernel_rfl) rfl #[.slice Ao33 t419.length co33, .int .i64 t420, .int .i64 t421] rfl (by (try simp only [List.map_toArray,List.map_cons,List.map_nil]);rfl) ?_;(with_reducible refine (spec_LongestAlarm.calls kj21 _ _ t419 t420 t421 t427 t428 t429 _ ?side1 ?side2 A30.out).mono ?_);(case side1 => repeat (exact (Kd.R_reads' HO423.out).2.2));(case side2 => exact (Kd.R_reads' HO423.out).2.1);rintro e w35 ⟨rfl,hb⟩;refine ⟨_,rfl, ?_⟩;have n0_:=Aside0.mk (Kd.R_below (by exact HO423.out) hb);have n1_:=Aside0.mk (below_step (by exact HB.out) hb);clear HO423;clear HB;have HO423:=n0_;have HB:=n1_;clear n0_ n1_;(try clear hb)))
           (skip)
           go_cut [125] (fun v125 wc => ∃ (kq : Nat) (x125_30 : Bool),v125 = .bool x125_30 ∧ Aside0 (laws_FnReadings.j3 kq l0 t419 t420 t421 t424 t425 t426 x125_30 = some r) ∧ Aside0 (kq ≤ kj21) ∧ Aside0 (Kd.R k41 41 wc w.heap.size (fun _ => True) (.slice Ao33 t419.length co33) t419) ∧ Aside0 (Below w.heap.size w wc))
           case first =>
            have H:=HC31.out
            clear HC31
            by_cases c36 : t424 = t427
            ·rw [if_pos c36] at H
             have c36b0 : (t424 == t427) = true:=beq_iff_eq.mpr c36
             have c36b1 : (t424 != t427) = false:=bne_eq_false_iff_eq.mpr c36
             clear c36
             (skip)
             by_cases c37 : t425 = t428
             ·rw [if_pos c37] at H
              have c37b0 : (t425 == t428) = true:=beq_iff_eq.mpr c37
              have c37b1 : (t425 != t428) = false:=bne_eq_false_iff_eq.mpr c37
              clear c37
              have H':=Aside0.mk H
              clear H
              go_wp2
              go_meet
              case rel => exact ⟨_,((t426 != t429)),(by rfl),H',⟨by have:=HJ6.out;have:=HJ13.out;have:=HJ21.out;omega⟩,⟨by exact HO423.out⟩,⟨by exact HB.out⟩⟩
             ·rw [if_neg c37] at H
              have c37b0 : (t425 == t428) = false:=beq_eq_false_iff_ne.mpr c37
              have c37b1 : (t425 != t428) = true:=bne_iff_ne.mpr c37
              have H':=Aside0.mk H
              clear H
              go_wp2
              go_meet
              case rel => exact ⟨_,(true),(by rfl),H',⟨by have:=HJ6.out;have:=HJ13.out;have:=HJ21.out;omega⟩,⟨by exact HO423.out⟩,⟨by exact HB.out⟩⟩
            ·rw [if_neg c36] at H
             have c36b0 : (t424 == t427) = false:=beq_eq_false_iff_ne.mpr c36
             have c36b1 : (t424 != t427) = true:=bne_iff_ne.mpr c36
             (skip)
             have H':=Aside0.mk H
             clear H
             go_wp2
             go_meet
             case rel => exact ⟨_,(true),(by rfl),H',⟨by have:=HJ6.out;have:=HJ13.out;have:=HJ21.out;omega⟩,⟨by exact HO423.out⟩,⟨by exact HB.out⟩⟩
           case rest => as_aux_lemma =>
            clear HC31
            try clear c1
            try clear c2
            try clear p2
            try clear c3
            try clear c4
            try clear c5
            try clear c6
            try clear c7
            try clear c8
            try clear c9
            try clear c10
            try clear c11
            try clear c11b0
            try clear c11b1
            try clear c12
            try clear c13
            try clear c16
            try clear c17
            try clear c18
            try clear c26
            try clear c26b0
            try clear c26b1
            try clear c27
            try clear c36
            try clear c36b0
            try clear c36b1
            try clear c37
            try clear c37b0
            try clear c37b1
            try clear p2
            obtain ⟨kq,x125_30,rfl,HA,HJ30,HO_15,HB⟩ := hcut
            cases kq with
            | zero => exact absurd HA.out (by simp [laws_FnReadings.j3])
            | succ kj30 =>
             have H:=HA.out
             clear HA
             simp only [laws_FnReadings.j3] at H
             by_cases c38 : x125_30 = true
             ·subst c38
              have H1 : (some false) = some r:=by rw [if_pos rfl] at H;exact H
              clear H
              have H:=H1
              clear H1
              obtain rfl:=Option.some.inj H
              as_aux_lemma =>
               go_wp2
               go_ret
               exact ⟨by rfl,by exact HB.out⟩
             ·replace c38:=Bool.eq_false_iff.mpr c38
              subst c38
              have H1 : ((impl_BadReadings.f kj30 t419 t420 t421).bind fun bt430 => ((spec_BadReadings.f kj30 t419 t420 t421).bind fun bt434 => (if (bt430.2 != bt434.2) = true then (laws_FnReadings.j4 kj30 l0 t424 t425 t426 bt430.1 bt430.2 true) else ((laws_rInts.f kj30 bt430.1 bt434.1).bind fun t438 => (laws_FnReadings.j4 kj30 l0 t424 t425 t426 bt430.1 bt430.2 (!t438)))))) = some r:=by rw [if_neg (show ¬ (false = true) by decide)] at H;exact H
              clear H
              have H:=H1
              clear H1
              replace H:=Option.bind_eq_some_iff.mp H
              obtain ⟨⟨t430,t431⟩,A390,H⟩ := H
              replace H : ((spec_BadReadings.f kj30 t419 t420 t421).bind fun bt434 => (if (t431 != bt434.2) = true then (laws_FnReadings.j4 kj30 l0 t424 t425 t426 t430 t431 true) else ((laws_rInts.f kj30 t430 bt434.1).bind fun t438 => (laws_FnReadings.j4 kj30 l0 t424 t425 t426 t430 t431 (!t438))))) = some r:=H
              have A39:=Aside0.mk A390
              clear A390
              replace H:=Option.bind_eq_some_iff.mp H
              obtain ⟨⟨t434,t435⟩,A400,H⟩ := H
              replace H : (if (t431 != t435) = true then (laws_FnReadings.j4 kj30 l0 t424 t425 t426 t430 t431 true) else ((laws_rInts.f kj30 t430 t434).bind fun t438 => (laws_FnReadings.j4 kj30 l0 t424 t425 t426 t430 t431 (!t438)))) = some r:=H
              have A40:=Aside0.mk A400
              clear A400
              have HC41:=Aside0.mk H
              clear H
              go_upto_region 23 with (first | ((with_reducible refine gate_callee (f:=14) rfl ?_);refine goesL_ (some 130) rfl rfl Tryd.func14 (by kernel_rfl) rfl #[.slice Ao33 t419.length co33, .int .i64 t420, .int .i64 t421] rfl (by (try simp only [List.map_toArray,List.map_cons,List.map_nil]);rfl) ?_;(with_reducible refine (impl_BadReadings.calls kj30 _ _ t419 t420 t421 t430 t431 _ ?side1 ?side2 A39.out).mono ?_);(case side1 => repeat (exact (Kd.R_reads' HO_15.out).2.2));(case side2 => exact (Kd.R_reads' HO_15.out).2.1);rintro e w42 ⟨v432,rfl,ho0,hb⟩;refine ⟨_,rfl, ?_⟩;have n0_:=Aside0.mk (Kd.R_below (by exact HO_15.out) hb);have n1_:=Aside0.mk (Kd.R_lower ho0 (below_size (by exact HB.out)));have n2_:=Aside0.mk (below_step (by exact HB.out) hb);clear HO_15;clear HB;have HO_15:=n0_;have HO433:=n1_;have HB:=n2_;clear n0_ n1_ n2_;(try clear hb);(try clear ho0)) | ((with_reducible refine gate_callee (f:=15) rfl ?_);refine goesL_ (some 137) rfl rfl Tryd.func15 (by kernel_rfl) rfl #[.slice Ao33 t419.length co33, .int .i64 t420, .int .i64 t421] rfl (by (try simp only [List.map_toArray,List.map_cons,List.map_nil]);rfl) ?_;(with_reducible refine (spec_BadReadings.calls kj30 _ _ t419 t420 t421 t434 t435 _ ?side1 ?side2 A40.out).mono ?_);(case side1 => repeat (exact (Kd.R_reads' HO_15.out).2.2));(case side2 => exact (Kd.R_reads' HO_15.out).2.1);rintro e w43 ⟨v436,rfl,ho0,hb⟩;refine ⟨_,rfl, ?_⟩;have n0_:=Aside0.mk (Kd.R_below (by exact HO_15.out) hb);have n1_:=Aside0.mk (Kd.R_elder' (by exact HO433.out) (Kd.R_base ho0) hb);have n2_:=Aside0.mk (Kd.R_lower (Kd.R_new' ho0 (Kd.R_lt (by exact HO433.out))) (below_size (by exact HB.out)));have n3_:=Aside0.mk (below_step (by exact HB.out) hb);clear HO_15;clear HO433;clear HB;have HO_15:=n0_;have HO433:=n1_;have HO437:=n2_;have HB:=n3_;clear n0_ n1_ n2_ n3_;(try clear hb);(try clear ho0)))
              (skip)
              go_cut [148] (fun v148 wc => ∃ (kq : Nat) (x148_40 : Bool),v148 = .bool x148_40 ∧ Aside0 (laws_FnReadings.j4 kq l0 t424 t425 t426 t430 t431 x148_40 = some r) ∧ Aside0 (kq ≤ kj30) ∧ Aside0 (Kd.R (Kd.int .i64) 3 wc w.heap.size (fun _ => True) v432 t430) ∧ Aside0 (Below w.heap.size w wc))
              case first =>
               have H:=HC41.out
               clear HC41
               by_cases c44 : (t431 != t435) = true
               ·rw [if_pos c44] at H
                have c44b0 : (t431 != t435) = true:=c44
                (try (have c44b1 : decide (t431 = t435) = false:=by simpa using c44))
                (try (have c44b2 : (t431 == t435) = false:=by simpa using c44))
                (try (have c44b3 : ¬ (t431 = t435):=by simpa using c44))
                clear c44
                (skip)
                have H':=Aside0.mk H
                clear H
                go_wp2
                go_meet
                case rel => exact ⟨_,(true),(by rfl),H',⟨by have:=HJ6.out;have:=HJ13.out;have:=HJ21.out;have:=HJ30.out;omega⟩,⟨by exact Kd.R_mono HO433.out (fun _ hk => trivial)⟩,⟨by exact HB.out⟩⟩
               ·rw [if_neg c44] at H
                have c44b0 : (t431 != t435) = false:=by simpa using c44
                (try (have c44b1 : decide (t431 = t435) = true:=by simpa using c44))
                (try (have c44b2 : (t431 == t435) = true:=by simpa using c44))
                clear c44
                (skip)
                replace H:=Option.bind_eq_some_iff.mp H
                obtain ⟨t438,A450,H⟩ := H
                replace H : (laws_FnReadings.j4 kj30 l0 t424 t425 t426 t430 t431 (!t438)) = some r:=H
                have A45:=Aside0.mk A450
                clear A450
                have H':=Aside0.mk H
                clear H
                obtain ⟨Ao46,co46,eo46⟩ := Kd.R_slice HO433.out
                subst eo46
                obtain ⟨Ao47,co47,eo47⟩ := Kd.R_slice HO437.out
                subst eo47
                go_wp2_with ((go_at_call 16;(with_reducible refine (laws_rInts.calls kj30 _ _ t430 _ _ t434 t438 _ ?side1 ?side2 ?side3 ?side4 A45.out).mono ?_);(case side1 => repeat (exact (Kd.R_reads' HO433.out).2.2));(case side2 => exact (Kd.R_reads' HO433.out).2.1);(case side3 => repeat (exact (Kd.R_reads' HO437.out).2.2));(case side4 => exact (Kd.R_reads' HO437.out).2.1);rintro e w' ⟨rfl,⟨nd,rfl⟩⟩))
                go_meet
                case rel => exact ⟨_,(!t438),(by rfl),H',⟨by have:=HJ6.out;have:=HJ13.out;have:=HJ21.out;have:=HJ30.out;omega⟩,⟨by (with_reducible repeat (apply Kd.R_drewN));exact Kd.R_mono HO433.out (fun _ hk => trivial)⟩,⟨by repeat ((with_reducible first | exact HB.out | apply pw_below_drewN))⟩⟩
              case rest => as_aux_lemma =>
               clear HC41
               try clear c1
               try clear c2
               try clear p2
               try clear c3
               try clear c4
               try clear c5
               try clear c6
               try clear c7
               try clear c8
               try clear c9
               try clear c10
               try clear c11
               try clear c11b0
               try clear c11b1
               try clear c12
               try clear c13
               try clear c14
               try clear c15
               try clear c16
               try clear c17
               try clear c18
               try clear c26
               try clear c26b0
               try clear c26b1
               try clear c27
               try clear c36
               try clear c36b0
               try clear c36b1
               try clear c37
               try clear c37b0
               try clear c37b1
               try clear c38
               try clear c44
               try clear c44b0
               try clear c44b1
               try clear c44b2
               try clear p2
               obtain ⟨kq,x148_40,rfl,HA,HJ40,HO_24,HB⟩ := hcut
               cases kq with
               | zero => exact absurd HA.out (by simp [laws_FnReadings.j4])
               | succ kj40 =>
                have H:=HA.out
                clear HA
                simp only [laws_FnReadings.j4] at H
                by_cases c48 : x148_40 = true
                ·subst c48
                 have H1 : (some false) = some r:=by rw [if_pos rfl] at H;exact H
                 clear H
                 have H:=H1
                 clear H1
                 obtain rfl:=Option.some.inj H
                 as_aux_lemma =>
                  go_wp2
                  go_ret
                  exact ⟨by rfl,by exact HB.out⟩
                ·replace c48:=Bool.eq_false_iff.mpr c48
                 subst c48
                 have H1 : (if t431 = true then (if (t426 != (decide ((t430.length : Int) > 0))) = true then (laws_FnReadings.j5 kj40 l0 true) else (if t426 = true then ((laws_rHas.f kj40 t430 t424).bind fun t439 => (if t439 = true then ((laws_rHas.f kj40 t430 t425).bind fun t440 => (if t440 = true then (laws_FnReadings.j5 kj40 l0 (decide (t424 > t425))) else (laws_FnReadings.j5 kj40 l0 true))) else (laws_FnReadings.j5 kj40 l0 true))) else (laws_FnReadings.j5 kj40 l0 false))) else (laws_FnReadings.j5 kj40 l0 false)) = some r:=by rw [if_neg (show ¬ (false = true) by decide)] at H;exact H
                 clear H
                 have H:=H1
                 clear H1
                 have HC49:=Aside0.mk H
                 clear H
                 go_upto_region 25 with (fail)
                 go_cut [176] (fun v176 wc => ∃ (kq : Nat) (x176_48 : Bool),v176 = .bool x176_48 ∧ Aside0 (laws_FnReadings.j5 kq l0 x176_48 = some r) ∧ Aside0 (kq ≤ kj40) ∧ Aside0 (Below w.heap.size w wc))
                 case first =>
                  have H:=HC49.out
                  clear HC49
                  by_cases c50 : t431 = true
                  ·subst c50
                   have H1 : (if (t426 != (decide ((t430.length : Int) > 0))) = true then (laws_FnReadings.j5 kj40 l0 true) else (if t426 = true then ((laws_rHas.f kj40 t430 t424).bind fun t439 => (if t439 = true then ((laws_rHas.f kj40 t430 t425).bind fun t440 => (if t440 = true then (laws_FnReadings.j5 kj40 l0 (decide (t424 > t425))) else (laws_FnReadings.j5 kj40 l0 true))) else (laws_FnReadings.j5 kj40 l0 true))) else (laws_FnReadings.j5 kj40 l0 false))) = some r:=by rw [if_pos rfl] at H;exact H
                   clear H
                   have H:=H1
                   clear H1
                   by_cases c51 : (t426 != (decide ((t430.length : Int) > 0))) = true
                   ·rw [if_pos c51] at H
                    by_cases c51l : (t430.length : Int) > 0
                    ·rw [decide_eq_true c51l] at c51
                     obtain rfl : t426 = false:=by cases t426 <;> first | rfl | exact absurd c51 (by decide)
                     clear c51
                     have c51m4 : (t430 = []) = False:=eq_false (fun h_ => by rw [h_] at c51l;exact absurd c51l (by decide))
                     have H':=Aside0.mk H
                     clear H
                     obtain ⟨Ao52,co52,eo52⟩ := Kd.R_slice HO_24.out
                     subst eo52
                     go_wp2
                     go_meet
                     case rel => exact ⟨_,(true),(by rfl),H',⟨by have:=HJ6.out;have:=HJ13.out;have:=HJ21.out;have:=HJ30.out;have:=HJ40.out;omega⟩,⟨by exact HB.out⟩⟩
                    ·rw [decide_eq_false c51l] at c51
                     obtain rfl : t426 = true:=by cases t426 <;> first | rfl | exact absurd c51 (by decide)
                     clear c51
                     obtain rfl : t430 = []:=List.eq_nil_of_length_eq_zero (by omega)
                     have H':=Aside0.mk H
                     clear H
                     obtain ⟨Ao52,co52,eo52⟩ := Kd.R_slice HO_24.out
                     subst eo52
                     go_wp2
                     go_meet
                     case rel => exact ⟨_,(true),(by rfl),H',⟨by have:=HJ6.out;have:=HJ13.out;have:=HJ21.out;have:=HJ30.out;have:=HJ40.out;omega⟩,⟨by exact HB.out⟩⟩
                   ·rw [if_neg c51] at H
                    have c51x:=Aside0.mk c51
                    clear c51
                    by_cases c53 : t426 = true
                    ·subst c53
                     have c51l : (t430.length : Int) > 0:=Decidable.byContradiction fun h_ => c51x.out (by rw [decide_eq_false h_];rfl)
                     clear c51x
                     have H1 : ((laws_rHas.f kj40 t430 t424).bind fun t439 => (if t439 = true then ((laws_rHas.f kj40 t430 t425).bind fun t440 => (if t440 = true then (laws_FnReadings.j5 kj40 l0 (decide (t424 > t425))) else (laws_FnReadings.j5 kj40 l0 true))) else (laws_FnReadings.j5 kj40 l0 true))) = some r:=by rw [if_pos rfl] at H;exact H
                     clear H
                     have H:=H1
                     clear H1
                     replace H:=Option.bind_eq_some_iff.mp H
                     obtain ⟨t439,A540,H⟩ := H
                     replace H : (if t439 = true then ((laws_rHas.f kj40 t430 t425).bind fun t440 => (if t440 = true then (laws_FnReadings.j5 kj40 l0 (decide (t424 > t425))) else (laws_FnReadings.j5 kj40 l0 true))) else (laws_FnReadings.j5 kj40 l0 true)) = some r:=H
                     have A54:=Aside0.mk A540
                     clear A540
                     by_cases c55 : t439 = true
                     ·subst c55
                      have H1 : ((laws_rHas.f kj40 t430 t425).bind fun t440 => (if t440 = true then (laws_FnReadings.j5 kj40 l0 (decide (t424 > t425))) else (laws_FnReadings.j5 kj40 l0 true))) = some r:=by rw [if_pos rfl] at H;exact H
                      clear H
                      have H:=H1
                      clear H1
                      replace H:=Option.bind_eq_some_iff.mp H
                      obtain ⟨t440,A560,H⟩ := H
                      replace H : (if t440 = true then (laws_FnReadings.j5 kj40 l0 (decide (t424 > t425))) else (laws_FnReadings.j5 kj40 l0 true)) = some r:=H
                      have A56:=Aside0.mk A560
                      clear A560
                      by_cases c57 : t440 = true
                      ·subst c57
                       have H1 : (laws_FnReadings.j5 kj40 l0 (decide (t424 > t425))) = some r:=by rw [if_pos rfl] at H;exact H
                       clear H
                       have H:=H1
                       clear H1
                       have H':=Aside0.mk H
                       clear H
                       obtain ⟨Ao58,co58,eo58⟩ := Kd.R_slice HO_24.out
                       subst eo58
                       go_wp2_with (first | (go_at_call 17;(with_reducible refine (laws_rHas.calls kj40 _ _ t430 t424 true _ ?side1 ?side2 A54.out).mono ?_);(case side1 => repeat (exact (Kd.R_reads' HO_24.out).2.2));(case side2 => exact (Kd.R_reads' HO_24.out).2.1);rintro e w' ⟨rfl,⟨nd,rfl⟩⟩) | (go_at_call 17;(with_reducible refine (laws_rHas.calls kj40 _ _ t430 t425 true _ ?side1 ?side2 A56.out).mono ?_);(case side1 => repeat (exact (Kd.R_reads' HO_24.out).2.2));(case side2 => exact (Kd.R_reads' HO_24.out).2.1);rintro e w' ⟨rfl,⟨nd,rfl⟩⟩))
                       go_meet
                       case rel => exact ⟨_,(decide (t424 > t425)),(by rfl),H',⟨by have:=HJ6.out;have:=HJ13.out;have:=HJ21.out;have:=HJ30.out;have:=HJ40.out;omega⟩,⟨by repeat ((with_reducible first | exact HB.out | apply pw_below_drewN))⟩⟩
                      ·replace c57:=Bool.eq_false_iff.mpr c57
                       subst c57
                       have H1 : (laws_FnReadings.j5 kj40 l0 true) = some r:=by rw [if_neg (show ¬ (false = true) by decide)] at H;exact H
                       clear H
                       have H:=H1
                       clear H1
                       have H':=Aside0.mk H
                       clear H
                       obtain ⟨Ao59,co59,eo59⟩ := Kd.R_slice HO_24.out
                       subst eo59
                       go_wp2_with (first | (go_at_call 17;(with_reducible refine (laws_rHas.calls kj40 _ _ t430 t424 true _ ?side1 ?side2 A54.out).mono ?_);(case side1 => repeat (exact (Kd.R_reads' HO_24.out).2.2));(case side2 => exact (Kd.R_reads' HO_24.out).2.1);rintro e w' ⟨rfl,⟨nd,rfl⟩⟩) | (go_at_call 17;(with_reducible refine (laws_rHas.calls kj40 _ _ t430 t425 false _ ?side1 ?side2 A56.out).mono ?_);(case side1 => repeat (exact (Kd.R_reads' HO_24.out).2.2));(case side2 => exact (Kd.R_reads' HO_24.out).2.1);rintro e w' ⟨rfl,⟨nd,rfl⟩⟩))
                       go_meet
                       case rel => exact ⟨_,(true),(by rfl),H',⟨by have:=HJ6.out;have:=HJ13.out;have:=HJ21.out;have:=HJ30.out;have:=HJ40.out;omega⟩,⟨by repeat ((with_reducible first | exact HB.out | apply pw_below_drewN))⟩⟩
                     ·replace c55:=Bool.eq_false_iff.mpr c55
                      subst c55
                      have H1 : (laws_FnReadings.j5 kj40 l0 true) = some r:=by rw [if_neg (show ¬ (false = true) by decide)] at H;exact H
                      clear H
                      have H:=H1
                      clear H1
                      have H':=Aside0.mk H
                      clear H
                      obtain ⟨Ao60,co60,eo60⟩ := Kd.R_slice HO_24.out
                      subst eo60
                      go_wp2_with ((go_at_call 17;(with_reducible refine (laws_rHas.calls kj40 _ _ t430 t424 false _ ?side1 ?side2 A54.out).mono ?_);(case side1 => repeat (exact (Kd.R_reads' HO_24.out).2.2));(case side2 => exact (Kd.R_reads' HO_24.out).2.1);rintro e w' ⟨rfl,⟨nd,rfl⟩⟩))
                      go_meet
                      case rel => exact ⟨_,(true),(by rfl),H',⟨by have:=HJ6.out;have:=HJ13.out;have:=HJ21.out;have:=HJ30.out;have:=HJ40.out;omega⟩,⟨by repeat ((with_reducible first | exact HB.out | apply pw_below_drewN))⟩⟩
                    ·replace c53:=Bool.eq_false_iff.mpr c53
                     subst c53
                     have c51l : ¬ ((t430.length : Int) > 0):=fun h_ => c51x.out (by rw [decide_eq_true h_];rfl)
                     clear c51x
                     obtain rfl : t430 = []:=List.eq_nil_of_length_eq_zero (by omega)
                     have H1 : (laws_FnReadings.j5 kj40 l0 false) = some r:=by rw [if_neg (show ¬ (false = true) by decide)] at H;exact H
                     clear H
                     have H:=H1
                     clear H1
                     have H':=Aside0.mk H
                     clear H
                     obtain ⟨Ao61,co61,eo61⟩ := Kd.R_slice HO_24.out
                     subst eo61
                     go_wp2
                     go_meet
                     case rel => exact ⟨_,(false),(by rfl),H',⟨by have:=HJ6.out;have:=HJ13.out;have:=HJ21.out;have:=HJ30.out;have:=HJ40.out;omega⟩,⟨by exact HB.out⟩⟩
                  ·replace c50:=Bool.eq_false_iff.mpr c50
                   subst c50
                   have H1 : (laws_FnReadings.j5 kj40 l0 false) = some r:=by rw [if_neg (show ¬ (false = true) by decide)] at H;exact H
                   clear H
                   have H:=H1
                   clear H1
                   have H':=Aside0.mk H
                   clear H
                   go_wp2
                   go_meet
                   case rel => exact ⟨_,(false),(by rfl),H',⟨by have:=HJ6.out;have:=HJ13.out;have:=HJ21.out;have:=HJ30.out;have:=HJ40.out;omega⟩,⟨by exact HB.out⟩⟩
                 case rest => as_aux_lemma =>
                  clear HC49
                  try clear c1
                  try clear c2
                  try clear p2
                  try clear c3
                  try clear c4
                  try clear c5
                  try clear c6
                  try clear c7
                  try clear c8
                  try clear c9
                  try clear c10
                  try clear c11
                  try clear c11b0
                  try clear c11b1
                  try clear c12
                  try clear c13
                  try clear c14
                  try clear c15
                  try clear c16
                  try clear c17
                  try clear c18
                  try clear c26
                  try clear c26b0
                  try clear c26b1
                  try clear c27
                  try clear c36
                  try clear c36b0
                  try clear c36b1
                  try clear c37
                  try clear c37b0
                  try clear c37b1
                  try clear c38
                  try clear c44
                  try clear c44b0
                  try clear c44b1
                  try clear c44b2
                  try clear c48
                  try clear c50
                  try clear c51
                  try clear c51b0
                  try clear c51b1
                  try clear c51b2
                  try clear c53
                  try clear c55
                  try clear c57
                  try clear p2
                  obtain ⟨kq,x176_48,rfl,HA,HJ48,HB⟩ := hcut
                  cases kq with
                  | zero => exact absurd HA.out (by simp [laws_FnReadings.j5])
                  | succ kj48 =>
                   have H:=HA.out
                   clear HA
                   simp only [laws_FnReadings.j5] at H
                   by_cases c62 : x176_48 = true
                   ·subst c62
                    have H1 : (some false) = some r:=by rw [if_pos rfl] at H;exact H
                    clear H
                    have H:=H1
                    clear H1
                    obtain rfl:=Option.some.inj H
                    as_aux_lemma =>
                     go_wp2
                     go_ret
                     exact ⟨by rfl,by exact HB.out⟩
                   ·replace c62:=Bool.eq_false_iff.mpr c62
                    subst c62
                    have H1 : ((spec_DrawAddReading.f kj48 l0).bind fun bt441 => ((impl_AddReading.f kj48 bt441.1 bt441.2.1 bt441.2.2.1 bt441.2.2.2).bind fun bt448 => ((spec_AddReading.f kj48 bt441.1 bt441.2.1 bt441.2.2.1 bt441.2.2.2).bind fun bt452 => (if (bt448.2 == bt452.2) = true then ((laws_rReadings.f kj48 bt448.1 bt452.1).bind fun t456 => (if t456 = true then (if bt448.2 = true then (if (bt448.1.length : Int) = (wrap64 ((bt441.1.length : Int) + 1)) then ((impl_IsValidReadings.f kj48 bt448.1).bind fun t457 => (some t457)) else (some false)) else (some true)) else (some false))) else (some false))))) = some r:=by rw [if_neg (show ¬ (false = true) by decide)] at H;exact H
                    clear H
                    have H:=H1
                    clear H1
                    replace H:=Option.bind_eq_some_iff.mp H
                    obtain ⟨⟨t441,t444,t445,t446⟩,A630,H⟩ := H
                    replace H : ((impl_AddReading.f kj48 t441 t444 t445 t446).bind fun bt448 => ((spec_AddReading.f kj48 t441 t444 t445 t446).bind fun bt452 => (if (bt448.2 == bt452.2) = true then ((laws_rReadings.f kj48 bt448.1 bt452.1).bind fun t456 => (if t456 = true then (if bt448.2 = true then (if (bt448.1.length : Int) = (wrap64 ((t441.length : Int) + 1)) then ((impl_IsValidReadings.f kj48 bt448.1).bind fun t457 => (some t457)) else (some false)) else (some true)) else (some false))) else (some false)))) = some r:=H
                    have A63:=Aside0.mk A630
                    clear A630
                    replace H:=Option.bind_eq_some_iff.mp H
                    obtain ⟨⟨t448,t451⟩,A640,H⟩ := H
                    replace H : ((spec_AddReading.f kj48 t441 t444 t445 t446).bind fun bt452 => (if (t451 == bt452.2) = true then ((laws_rReadings.f kj48 t448 bt452.1).bind fun t456 => (if t456 = true then (if t451 = true then (if (t448.length : Int) = (wrap64 ((t441.length : Int) + 1)) then ((impl_IsValidReadings.f kj48 t448).bind fun t457 => (some t457)) else (some false)) else (some true)) else (some false))) else (some false))) = some r:=H
                    have A64:=Aside0.mk A640
                    clear A640
                    replace H:=Option.bind_eq_some_iff.mp H
                    obtain ⟨⟨t452,t455⟩,A650,H⟩ := H
                    replace H : (if (t451 == t455) = true then ((laws_rReadings.f kj48 t448 t452).bind fun t456 => (if t456 = true then (if t451 = true then (if (t448.length : Int) = (wrap64 ((t441.length : Int) + 1)) then ((impl_IsValidReadings.f kj48 t448).bind fun t457 => (some t457)) else (some false)) else (some true)) else (some false))) else (some false)) = some r:=H
                    have A65:=Aside0.mk A650
                    clear A650
                    by_cases c66 : (t451 == t455) = true
                    ·rw [if_pos c66] at H
                     have c66b0 : (t451 == t455) = true:=c66
                     (try (have c66b1 : decide (t451 = t455) = true:=by simpa using c66))
                     (try (have c66b2 : (t451 == t455) = true:=by simpa using c66))
                     clear c66
                     replace H:=Option.bind_eq_some_iff.mp H
                     obtain ⟨t456,A670,H⟩ := H
                     replace H : (if t456 = true then (if t451 = true then (if (t448.length : Int) = (wrap64 ((t441.length : Int) + 1)) then ((impl_IsValidReadings.f kj48 t448).bind fun t457 => (some t457)) else (some false)) else (some true)) else (some false)) = some r:=H
                     have A67:=Aside0.mk A670
                     clear A670
                     by_cases c68 : t456 = true
                     ·subst c68
                      have H1 : (if t451 = true then (if (t448.length : Int) = (wrap64 ((t441.length : Int) + 1)) then ((impl_IsValidReadings.f kj48 t448).bind fun t457 => (some t457)) else (some false)) else (some true)) = some r:=by rw [if_pos rfl] at H;exact H
                      clear H
                      have H:=H1
                      clear H1
                      by_cases c69 : t451 = true
                      ·subst c69
                       have H1 : (if (t448.length : Int) = (wrap64 ((t441.length : Int) + 1)) then ((impl_IsValidReadings.f kj48 t448).bind fun t457 => (some t457)) else (some false)) = some r:=by rw [if_pos rfl] at H;exact H
                       clear H
                       have H:=H1
                       clear H1
                       by_cases c70 : (t448.length : Int) = (wrap64 ((t441.length : Int) + 1))
                       ·rw [if_pos c70] at H
                        have c70b0 : ((t448.length : Int) == (wrap64 ((t441.length : Int) + 1))) = true:=beq_iff_eq.mpr c70
                        have c70b1 : ((t448.length : Int) != (wrap64 ((t441.length : Int) + 1))) = false:=bne_eq_false_iff_eq.mpr c70
                        clear c70
                        replace H:=Option.bind_eq_some_iff.mp H
                        obtain ⟨t457,A710,H⟩ := H
                        replace H : (some t457) = some r:=H
                        have A71:=Aside0.mk A710
                        clear A710
                        obtain rfl:=Option.some.inj H
                        as_aux_lemma =>
                         go_wp2_with (first | ((with_reducible refine gate_callee (f:=18) rfl ?_);refine goesL_ (some 179) rfl rfl Tryd.func18 (by kernel_rfl) rfl #[.slice A0 l0.length c0] rfl (by (try simp only [List.map_toArray,List.map_cons,List.map_nil]);rfl) ?_;(with_reducible refine (spec_DrawAddReading.calls kj48 _ _ l0 t441 t444 t445 t446 _ ?side1 ?side2 A63.out).mono ?_);(case side1 => repeat (exact (Kd.C_below HR0.out HB.out)));(case side2 => exact HC0.out);rintro e w72 ⟨v442,rfl,ho0,hb⟩;refine ⟨_,rfl, ?_⟩;have n0_:=Aside0.mk (Kd.R_lower ho0 (below_size (by exact HB.out)));have n1_:=Aside0.mk (below_step (by exact HB.out) hb);clear HB;have HO443:=n0_;have HB:=n1_;clear n0_ n1_;(try clear hb);(try clear ho0)) | ((with_reducible refine gate_dst (N:=29) rfl ?_);(try (refine gate_guard (by rfl) ?_;dsimp only));refine box_event ?hg (N:=29) ?hd (cs:=#[.int .i64 0, .int .i64 0, .bool false]) (t:=41) ?hr ?_;(case hd => rfl);(case hg => rfl);(case hr => (go_simp;done));intro gb447 hg w73 hbox hb;have n0_:=Aside0.mk (Kd.R_below (Kd.R_elderB (by exact HO443.out) gb447 (Nat.le_of_eq hg.symm)) hb);have n1_:=Aside0.mk (below_step (by exact HB.out) hb);have n2_:=Aside0.mk (hbox);have n3_:=Aside0.mk ((by rw [hg];exact (below_size (by exact HB.out)) : w.heap.size ≤ gb447));have n4_:=Aside0.mk ((by rw [hg];exact (below_size (by exact HB.out)) : w.heap.size ≤ gb447));clear HO443;clear HB;have HO443:=n0_;have HB:=n1_;have BK447:=n2_;have GW447:=n3_;have GE447:=n4_;clear n0_ n1_ n2_ n3_ n4_;clear hb hbox hg;have hcz74_0 : w73.cell? ⟨gb447,0,none⟩ = some (.int .i64 0):=(blk_cell BK447.out 0).trans rfl;have hcz74_1 : w73.cell? ⟨gb447,1,none⟩ = some (.int .i64 0):=(blk_cell BK447.out 1).trans rfl;have hcz74_2 : w73.cell? ⟨gb447,2,none⟩ = some (.bool false):=(blk_cell BK447.out 2).trans rfl;have hfz74_0:=blk_frozen BK447.out 0;have hfz74_1:=blk_frozen BK447.out 1;have hfz74_2:=blk_frozen BK447.out 2;obtain ⟨Ao75,co75,eo75⟩ := Kd.R_slice HO443.out;subst eo75) | ((with_reducible refine gate_callee (f:=19) rfl ?_);refine goesL_ (some 185) rfl rfl Tryd.func19 (by kernel_rfl) rfl #[.slice Ao75 t441.length co75, .agg #[.int .i64 t444, .int .i64 t445, .bool t446]] rfl (by (try simp only [List.map_toArray,List.map_cons,List.map_nil]);rfl) ?_;(with_reducible refine (impl_AddReading.calls kj48 _ _ t441 t444 t445 t446 t448 true _ ?side1 ?side2 A64.out).mono ?_);(case side1 => refine (Kd.R_reads' (e:=41) (base:=w.heap.size) (ok:=fun k_ => (True ∧ k_ ≠ gb447)) (n:=t441.length) (c:=co75) ?_).2.2;exact (by exact (Kd.R_mono (Kd.R_far (p:=⟨gb447,2,none⟩) (Kd.R_far (p:=⟨gb447,1,none⟩) (Kd.R_far (p:=⟨gb447,0,none⟩) (Kd.R_mono HO443.out (fun k_ hk => (⟨hk,hk.2⟩ : _ ∧ k_ ≠ gb447))) (fun _ hk => hk.2) (.int .i64 t444)) (fun _ hk => hk.2) (.int .i64 t445)) (fun _ hk => hk.2) (.bool t446)) (fun _ h_ => h_.1))));(case side2 => exact (Kd.R_reads' HO443.out).2.1);rintro e w76 ⟨v449,rfl,ho0,hb⟩;refine ⟨_,rfl, ?_⟩;have n0_:=Aside0.mk (Kd.R_elder' (by exact (Kd.R_mono (Kd.R_far (p:=⟨gb447,2,none⟩) (Kd.R_far (p:=⟨gb447,1,none⟩) (Kd.R_far (p:=⟨gb447,0,none⟩) (Kd.R_mono HO443.out (fun k_ hk => (⟨hk,hk.2⟩ : _ ∧ k_ ≠ gb447))) (fun _ hk => hk.2) (.int .i64 t444)) (fun _ hk => hk.2) (.int .i64 t445)) (fun _ hk => hk.2) (.bool t446)) (fun _ h_ => h_.1))) (Kd.R_base ho0) hb);have n1_:=Aside0.mk (Kd.R_lower (Kd.R_newB (Kd.R_new' ho0 (Kd.R_lt (by exact (Kd.R_mono (Kd.R_far (p:=⟨gb447,2,none⟩) (Kd.R_far (p:=⟨gb447,1,none⟩) (Kd.R_far (p:=⟨gb447,0,none⟩) (Kd.R_mono HO443.out (fun k_ hk => (⟨hk,hk.2⟩ : _ ∧ k_ ≠ gb447))) (fun _ hk => hk.2) (.int .i64 t444)) (fun _ hk => hk.2) (.int .i64 t445)) (fun _ hk => hk.2) (.bool t446)) (fun _ h_ => h_.1))))) (g:=gb447) (o := .cells #[.int .i64 t444, .int .i64 t445, .bool t446] 41 (0,0)) (by refine blk_put (cs:=#[.int .i64 t444, .int .i64 t445, .bool false]) ?_ 2 _ rfl;refine blk_put (cs:=#[.int .i64 t444, .int .i64 0, .bool false]) ?_ 1 _ rfl;refine blk_put (cs:=#[.int .i64 0, .int .i64 0, .bool false]) ?_ 0 _ rfl;exact BK447.out)) (below_size (by repeat ((with_reducible first | exact HB.out | refine below_set ?_ GE447.out)))));have n2_:=Aside0.mk (blk_below (g:=gb447) (o := .cells #[.int .i64 t444, .int .i64 t445, .bool t446] 41 (0,0)) (by refine blk_put (cs:=#[.int .i64 t444, .int .i64 t445, .bool false]) ?_ 2 _ rfl;refine blk_put (cs:=#[.int .i64 t444, .int .i64 0, .bool false]) ?_ 1 _ rfl;refine blk_put (cs:=#[.int .i64 0, .int .i64 0, .bool false]) ?_ 0 _ rfl;exact BK447.out) hb);have n3_:=Aside0.mk (below_step (by repeat ((with_reducible first | exact HB.out | refine below_set ?_ GE447.out))) hb);clear HO443;clear BK447;clear HB;have HO443:=n0_;have HO450:=n1_;have BK447:=n2_;have HB:=n3_;clear n0_ n1_ n2_ n3_;(try clear hb);(try clear ho0);have hcz77_0 : w76.cell? ⟨gb447,0,none⟩ = some (.int .i64 t444):=(blk_cell BK447.out 0).trans rfl;have hcz77_1 : w76.cell? ⟨gb447,1,none⟩ = some (.int .i64 t445):=(blk_cell BK447.out 1).trans rfl;have hcz77_2 : w76.cell? ⟨gb447,2,none⟩ = some (.bool t446):=(blk_cell BK447.out 2).trans rfl;have hfz77_0:=blk_frozen BK447.out 0;have hfz77_1:=blk_frozen BK447.out 1;have hfz77_2:=blk_frozen BK447.out 2) | ((with_reducible refine gate_callee (f:=20) rfl ?_);refine goesL_ (some 191) rfl rfl Tryd.func20 (by kernel_rfl) rfl #[.slice Ao75 t441.length co75, .agg #[.int .i64 t444, .int .i64 t445, .bool t446]] rfl (by (try simp only [List.map_toArray,List.map_cons,List.map_nil]);rfl) ?_;(with_reducible refine (spec_AddReading.calls kj48 _ _ t441 t444 t445 t446 t452 t455 _ ?side1 ?side2 A65.out).mono ?_);(case side1 => repeat (exact (Kd.R_reads' HO443.out).2.2));(case side2 => exact (Kd.R_reads' HO443.out).2.1);rintro e w78 ⟨v453,rfl,ho0,hb⟩;refine ⟨_,rfl, ?_⟩;have n0_:=Aside0.mk (Kd.R_elder' (by exact HO443.out) (Kd.R_base ho0) hb);have n1_:=Aside0.mk (Kd.R_elder' (by exact HO450.out) (Kd.R_base ho0) hb);have n2_:=Aside0.mk (Kd.R_lower (Kd.R_newB (Kd.R_new' (Kd.R_new' ho0 (Kd.R_lt (by exact HO443.out))) (Kd.R_lt (by exact HO450.out))) (g:=gb447) (o := .cells #[.int .i64 t444, .int .i64 t445, .bool t446] 41 (0,0)) (by exact BK447.out)) (below_size (by exact HB.out)));have n3_:=Aside0.mk (blk_below (g:=gb447) (o := .cells #[.int .i64 t444, .int .i64 t445, .bool t446] 41 (0,0)) (by exact BK447.out) hb);have n4_:=Aside0.mk (below_step (by exact HB.out) hb);clear HO443;clear HO450;clear BK447;clear HB;have HO443:=n0_;have HO450:=n1_;have HO454:=n2_;have BK447:=n3_;have HB:=n4_;clear n0_ n1_ n2_ n3_ n4_;(try clear hb);(try clear ho0);obtain ⟨Ao79,co79,eo79⟩ := Kd.R_slice HO450.out;subst eo79;obtain ⟨Ao80,co80,eo80⟩ := Kd.R_slice HO454.out;subst eo80) | (go_at_call 21;(with_reducible refine (laws_rReadings.calls kj48 _ _ t448 _ _ t452 true _ ?side1 ?side2 ?side3 ?side4 A67.out).mono ?_);(case side1 => repeat (exact (Kd.R_reads' HO450.out).2.2));(case side2 => exact (Kd.R_reads' HO450.out).2.1);(case side3 => repeat (exact (Kd.R_reads' HO454.out).2.2));(case side4 => exact (Kd.R_reads' HO454.out).2.1);rintro e w' ⟨rfl,⟨nd,rfl⟩⟩) | (go_at_call 22;(with_reducible refine (impl_IsValidReadings.calls kj48 _ _ t448 t457 _ ?side1 ?side2 A71.out).mono ?_);(case side1 => repeat (exact (Kd.R_reads' HO450.out).2.2));(case side2 => exact (Kd.R_reads' HO450.out).2.1);rintro e w81 ⟨rfl,hb⟩;have n0_:=Aside0.mk (Kd.R_below (by (with_reducible repeat (apply Kd.R_drewN));exact HO443.out) hb);have n1_:=Aside0.mk (Kd.R_below (by (with_reducible repeat (apply Kd.R_drewN));exact HO450.out) hb);have n2_:=Aside0.mk (Kd.R_below (by (with_reducible repeat (apply Kd.R_drewN));exact HO454.out) hb);have n3_:=Aside0.mk (blk_below (g:=gb447) (o := .cells #[.int .i64 t444, .int .i64 t445, .bool t446] 41 (0,0)) (by (with_reducible repeat (refine blk_drewN ?_ _));exact BK447.out) hb);have n4_:=Aside0.mk (below_step (by repeat ((with_reducible first | exact HB.out | apply pw_below_drewN))) hb);clear HO443;clear HO450;clear HO454;clear BK447;clear HB;have HO443:=n0_;have HO450:=n1_;have HO454:=n2_;have BK447:=n3_;have HB:=n4_;clear n0_ n1_ n2_ n3_ n4_;(try clear hb)))
                         go_ret
                         exact ⟨by rfl,by exact HB.out⟩
                       ·rw [if_neg c70] at H
                        have c70b0 : ((t448.length : Int) == (wrap64 ((t441.length : Int) + 1))) = false:=beq_eq_false_iff_ne.mpr c70
                        have c70b1 : ((t448.length : Int) != (wrap64 ((t441.length : Int) + 1))) = true:=bne_iff_ne.mpr c70
                        obtain rfl:=Option.some.inj H
                        as_aux_lemma =>
                         go_wp2_with (first | ((with_reducible refine gate_callee (f:=18) rfl ?_);refine goesL_ (some 179) rfl rfl Tryd.func18 (by kernel_rfl) rfl #[.slice A0 l0.length c0] rfl (by (try simp only [List.map_toArray,List.map_cons,List.map_nil]);rfl) ?_;(with_reducible refine (spec_DrawAddReading.calls kj48 _ _ l0 t441 t444 t445 t446 _ ?side1 ?side2 A63.out).mono ?_);(case side1 => repeat (exact (Kd.C_below HR0.out HB.out)));(case side2 => exact HC0.out);rintro e w82 ⟨v442,rfl,ho0,hb⟩;refine ⟨_,rfl, ?_⟩;have n0_:=Aside0.mk (Kd.R_lower ho0 (below_size (by exact HB.out)));have n1_:=Aside0.mk (below_step (by exact HB.out) hb);clear HB;have HO443:=n0_;have HB:=n1_;clear n0_ n1_;(try clear hb);(try clear ho0)) | ((with_reducible refine gate_dst (N:=29) rfl ?_);(try (refine gate_guard (by rfl) ?_;dsimp only));refine box_event ?hg (N:=29) ?hd (cs:=#[.int .i64 0, .int .i64 0, .bool false]) (t:=41) ?hr ?_;(case hd => rfl);(case hg => rfl);(case hr => (go_simp;done));intro gb447 hg w83 hbox hb;have n0_:=Aside0.mk (Kd.R_below (Kd.R_elderB (by exact HO443.out) gb447 (Nat.le_of_eq hg.symm)) hb);have n1_:=Aside0.mk (below_step (by exact HB.out) hb);have n2_:=Aside0.mk (hbox);have n3_:=Aside0.mk ((by rw [hg];exact (below_size (by exact HB.out)) : w.heap.size ≤ gb447));have n4_:=Aside0.mk ((by rw [hg];exact (below_size (by exact HB.out)) : w.heap.size ≤ gb447));clear HO443;clear HB;have HO443:=n0_;have HB:=n1_;have BK447:=n2_;have GW447:=n3_;have GE447:=n4_;clear n0_ n1_ n2_ n3_ n4_;clear hb hbox hg;have hcz84_0 : w83.cell? ⟨gb447,0,none⟩ = some (.int .i64 0):=(blk_cell BK447.out 0).trans rfl;have hcz84_1 : w83.cell? ⟨gb447,1,none⟩ = some (.int .i64 0):=(blk_cell BK447.out 1).trans rfl;have hcz84_2 : w83.cell? ⟨gb447,2,none⟩ = some (.bool false):=(blk_cell BK447.out 2).trans rfl;have hfz84_0:=blk_frozen BK447.out 0;have hfz84_1:=blk_frozen BK447.out 1;have hfz84_2:=blk_frozen BK447.out 2;obtain ⟨Ao85,co85,eo85⟩ := Kd.R_slice HO443.out;subst eo85) | ((with_reducible refine gate_callee (f:=19) rfl ?_);refine goesL_ (some 185) rfl rfl Tryd.func19 (by kernel_rfl) rfl #[.slice Ao85 t441.length co85, .agg #[.int .i64 t444, .int .i64 t445, .bool t446]] rfl (by (try simp only [List.map_toArray,List.map_cons,List.map_nil]);rfl) ?_;(with_reducible refine (impl_AddReading.calls kj48 _ _ t441 t444 t445 t446 t448 true _ ?side1 ?side2 A64.out).mono ?_);(case side1 => refine (Kd.R_reads' (e:=41) (base:=w.heap.size) (ok:=fun k_ => (True ∧ k_ ≠ gb447)) (n:=t441.length) (c:=co85) ?_).2.2;exact (by exact (Kd.R_mono (Kd.R_far (p:=⟨gb447,2,none⟩) (Kd.R_far (p:=⟨gb447,1,none⟩) (Kd.R_far (p:=⟨gb447,0,none⟩) (Kd.R_mono HO443.out (fun k_ hk => (⟨hk,hk.2⟩ : _ ∧ k_ ≠ gb447))) (fun _ hk => hk.2) (.int .i64 t444)) (fun _ hk => hk.2) (.int .i64 t445)) (fun _ hk => hk.2) (.bool t446)) (fun _ h_ => h_.1))));(case side2 => exact (Kd.R_reads' HO443.out).2.1);rintro e w86 ⟨v449,rfl,ho0,hb⟩;refine ⟨_,rfl, ?_⟩;have n0_:=Aside0.mk (Kd.R_elder' (by exact (Kd.R_mono (Kd.R_far (p:=⟨gb447,2,none⟩) (Kd.R_far (p:=⟨gb447,1,none⟩) (Kd.R_far (p:=⟨gb447,0,none⟩) (Kd.R_mono HO443.out (fun k_ hk => (⟨hk,hk.2⟩ : _ ∧ k_ ≠ gb447))) (fun _ hk => hk.2) (.int .i64 t444)) (fun _ hk => hk.2) (.int .i64 t445)) (fun _ hk => hk.2) (.bool t446)) (fun _ h_ => h_.1))) (Kd.R_base ho0) hb);have n1_:=Aside0.mk (Kd.R_lower (Kd.R_newB (Kd.R_new' ho0 (Kd.R_lt (by exact (Kd.R_mono (Kd.R_far (p:=⟨gb447,2,none⟩) (Kd.R_far (p:=⟨gb447,1,none⟩) (Kd.R_far (p:=⟨gb447,0,none⟩) (Kd.R_mono HO443.out (fun k_ hk => (⟨hk,hk.2⟩ : _ ∧ k_ ≠ gb447))) (fun _ hk => hk.2) (.int .i64 t444)) (fun _ hk => hk.2) (.int .i64 t445)) (fun _ hk => hk.2) (.bool t446)) (fun _ h_ => h_.1))))) (g:=gb447) (o := .cells #[.int .i64 t444, .int .i64 t445, .bool t446] 41 (0,0)) (by refine blk_put (cs:=#[.int .i64 t444, .int .i64 t445, .bool false]) ?_ 2 _ rfl;refine blk_put (cs:=#[.int .i64 t444, .int .i64 0, .bool false]) ?_ 1 _ rfl;refine blk_put (cs:=#[.int .i64 0, .int .i64 0, .bool false]) ?_ 0 _ rfl;exact BK447.out)) (below_size (by repeat ((with_reducible first | exact HB.out | refine below_set ?_ GE447.out)))));have n2_:=Aside0.mk (blk_below (g:=gb447) (o := .cells #[.int .i64 t444, .int .i64 t445, .bool t446] 41 (0,0)) (by refine blk_put (cs:=#[.int .i64 t444, .int .i64 t445, .bool false]) ?_ 2 _ rfl;refine blk_put (cs:=#[.int .i64 t444, .int .i64 0, .bool false]) ?_ 1 _ rfl;refine blk_put (cs:=#[.int .i64 0, .int .i64 0, .bool false]) ?_ 0 _ rfl;exact BK447.out) hb);have n3_:=Aside0.mk (below_step (by repeat ((with_reducible first | exact HB.out | refine below_set ?_ GE447.out))) hb);clear HO443;clear BK447;clear HB;have HO443:=n0_;have HO450:=n1_;have BK447:=n2_;have HB:=n3_;clear n0_ n1_ n2_ n3_;(try clear hb);(try clear ho0);have hcz87_0 : w86.cell? ⟨gb447,0,none⟩ = some (.int .i64 t444):=(blk_cell BK447.out 0).trans rfl;have hcz87_1 : w86.cell? ⟨gb447,1,none⟩ = some (.int .i64 t445):=(blk_cell BK447.out 1).trans rfl;have hcz87_2 : w86.cell? ⟨gb447,2,none⟩ = some (.bool t446):=(blk_cell BK447.out 2).trans rfl;have hfz87_0:=blk_frozen BK447.out 0;have hfz87_1:=blk_frozen BK447.out 1;have hfz87_2:=blk_frozen BK447.out 2) | ((with_reducible refine gate_callee (f:=20) rfl ?_);refine goesL_ (some 191) rfl rfl Tryd.func20 (by kernel_rfl) rfl #[.slice Ao85 t441.length co85, .agg #[.int .i64 t444, .int .i64 t445, .bool t446]] rfl (by (try simp only [List.map_toArray,List.map_cons,List.map_nil]);rfl) ?_;(with_reducible refine (spec_AddReading.calls kj48 _ _ t441 t444 t445 t446 t452 t455 _ ?side1 ?side2 A65.out).mono ?_);(case side1 => repeat (exact (Kd.R_reads' HO443.out).2.2));(case side2 => exact (Kd.R_reads' HO443.out).2.1);rintro e w88 ⟨v453,rfl,ho0,hb⟩;refine ⟨_,rfl, ?_⟩;have n0_:=Aside0.mk (Kd.R_elder' (by exact HO443.out) (Kd.R_base ho0) hb);have n1_:=Aside0.mk (Kd.R_elder' (by exact HO450.out) (Kd.R_base ho0) hb);have n2_:=Aside0.mk (Kd.R_lower (Kd.R_newB (Kd.R_new' (Kd.R_new' ho0 (Kd.R_lt (by exact HO443.out))) (Kd.R_lt (by exact HO450.out))) (g:=gb447) (o := .cells #[.int .i64 t444, .int .i64 t445, .bool t446] 41 (0,0)) (by exact BK447.out)) (below_size (by exact HB.out)));have n3_:=Aside0.mk (blk_below (g:=gb447) (o := .cells #[.int .i64 t444, .int .i64 t445, .bool t446] 41 (0,0)) (by exact BK447.out) hb);have n4_:=Aside0.mk (below_step (by exact HB.out) hb);clear HO443;clear HO450;clear BK447;clear HB;have HO443:=n0_;have HO450:=n1_;have HO454:=n2_;have BK447:=n3_;have HB:=n4_;clear n0_ n1_ n2_ n3_ n4_;(try clear hb);(try clear ho0);obtain ⟨Ao89,co89,eo89⟩ := Kd.R_slice HO450.out;subst eo89;obtain ⟨Ao90,co90,eo90⟩ := Kd.R_slice HO454.out;subst eo90) | (go_at_call 21;(with_reducible refine (laws_rReadings.calls kj48 _ _ t448 _ _ t452 true _ ?side1 ?side2 ?side3 ?side4 A67.out).mono ?_);(case side1 => repeat (exact (Kd.R_reads' HO450.out).2.2));(case side2 => exact (Kd.R_reads' HO450.out).2.1);(case side3 => repeat (exact (Kd.R_reads' HO454.out).2.2));(case side4 => exact (Kd.R_reads' HO454.out).2.1);rintro e w' ⟨rfl,⟨nd,rfl⟩⟩))
                         go_ret
                         exact ⟨by rfl,by repeat ((with_reducible first | exact HB.out | apply pw_below_drewN))⟩
                      ·replace c69:=Bool.eq_false_iff.mpr c69
                       subst c69
                       have H1 : (some true) = some r:=by rw [if_neg (show ¬ (false = true) by decide)] at H;exact H
                       clear H
                       have H:=H1
                       clear H1
                       obtain rfl:=Option.some.inj H
                       as_aux_lemma =>
                        go_wp2_with (first | ((with_reducible refine gate_callee (f:=18) rfl ?_);refine goesL_ (some 179) rfl rfl Tryd.func18 (by kernel_rfl) rfl #[.slice A0 l0.length c0] rfl (by (try simp only [List.map_toArray,List.map_cons,List.map_nil]);rfl) ?_;(with_reducible refine (spec_DrawAddReading.calls kj48 _ _ l0 t441 t444 t445 t446 _ ?side1 ?side2 A63.out).mono ?_);(case side1 => repeat (exact (Kd.C_below HR0.out HB.out)));(case side2 => exact HC0.out);rintro e w91 ⟨v442,rfl,ho0,hb⟩;refine ⟨_,rfl, ?_⟩;have n0_:=Aside0.mk (Kd.R_lower ho0 (below_size (by exact HB.out)));have n1_:=Aside0.mk (below_step (by exact HB.out) hb);clear HB;have HO443:=n0_;have HB:=n1_;clear n0_ n1_;(try clear hb);(try clear ho0)) | ((with_reducible refine gate_dst (N:=29) rfl ?_);(try (refine gate_guard (by rfl) ?_;dsimp only));refine box_event ?hg (N:=29) ?hd (cs:=#[.int .i64 0, .int .i64 0, .bool false]) (t:=41) ?hr ?_;(case hd => rfl);(case hg => rfl);(case hr => (go_simp;done));intro gb447 hg w92 hbox hb;have n0_:=Aside0.mk (Kd.R_below (Kd.R_elderB (by exact HO443.out) gb447 (Nat.le_of_eq hg.symm)) hb);have n1_:=Aside0.mk (below_step (by exact HB.out) hb);have n2_:=Aside0.mk (hbox);have n3_:=Aside0.mk ((by rw [hg];exact (below_size (by exact HB.out)) : w.heap.size ≤ gb447));have n4_:=Aside0.mk ((by rw [hg];exact (below_size (by exact HB.out)) : w.heap.size ≤ gb447));clear HO443;clear HB;have HO443:=n0_;have HB:=n1_;have BK447:=n2_;have GW447:=n3_;have GE447:=n4_;clear n0_ n1_ n2_ n3_ n4_;clear hb hbox hg;have hcz93_0 : w92.cell? ⟨gb447,0,none⟩ = some (.int .i64 0):=(blk_cell BK447.out 0).trans rfl;have hcz93_1 : w92.cell? ⟨gb447,1,none⟩ = some (.int .i64 0):=(blk_cell BK447.out 1).trans rfl;have hcz93_2 : w92.cell? ⟨gb447,2,none⟩ = some (.bool false):=(blk_cell BK447.out 2).trans rfl;have hfz93_0:=blk_frozen BK447.out 0;have hfz93_1:=blk_frozen BK447.out 1;have hfz93_2:=blk_frozen BK447.out 2;obtain ⟨Ao94,co94,eo94⟩ := Kd.R_slice HO443.out;subst eo94) | ((with_reducible refine gate_callee (f:=19) rfl ?_);refine goesL_ (some 185) rfl rfl Tryd.func19 (by kernel_rfl) rfl #[.slice Ao94 t441.length co94, .agg #[.int .i64 t444, .int .i64 t445, .bool t446]] rfl (by (try simp only [List.map_toArray,List.map_cons,List.map_nil]);rfl) ?_;(with_reducible refine (impl_AddReading.calls kj48 _ _ t441 t444 t445 t446 t448 false _ ?side1 ?side2 A64.out).mono ?_);(case side1 => refine (Kd.R_reads' (e:=41) (base:=w.heap.size) (ok:=fun k_ => (True ∧ k_ ≠ gb447)) (n:=t441.length) (c:=co94) ?_).2.2;exact (by exact (Kd.R_mono (Kd.R_far (p:=⟨gb447,2,none⟩) (Kd.R_far (p:=⟨gb447,1,none⟩) (Kd.R_far (p:=⟨gb447,0,none⟩) (Kd.R_mono HO443.out (fun k_ hk => (⟨hk,hk.2⟩ : _ ∧ k_ ≠ gb447))) (fun _ hk => hk.2) (.int .i64 t444)) (fun _ hk => hk.2) (.int .i64 t445)) (fun _ hk => hk.2) (.bool t446)) (fun _ h_ => h_.1))));(case side2 => exact (Kd.R_reads' HO443.out).2.1);rintro e w95 ⟨v449,rfl,ho0,hb⟩;refine ⟨_,rfl, ?_⟩;have n0_:=Aside0.mk (Kd.R_elder' (by exact (Kd.R_mono (Kd.R_far (p:=⟨gb447,2,none⟩) (Kd.R_far (p:=⟨gb447,1,none⟩) (Kd.R_far (p:=⟨gb447,0,none⟩) (Kd.R_mono HO443.out (fun k_ hk => (⟨hk,hk.2⟩ : _ ∧ k_ ≠ gb447))) (fun _ hk => hk.2) (.int .i64 t444)) (fun _ hk => hk.2) (.int .i64 t445)) (fun _ hk => hk.2) (.bool t446)) (fun _ h_ => h_.1))) (Kd.R_base ho0) hb);have n1_:=Aside0.mk (Kd.R_lower (Kd.R_newB (Kd.R_new' ho0 (Kd.R_lt (by exact (Kd.R_mono (Kd.R_far (p:=⟨gb447,2,none⟩) (Kd.R_far (p:=⟨gb447,1,none⟩) (Kd.R_far (p:=⟨gb447,0,none⟩) (Kd.R_mono HO443.out (fun k_ hk => (⟨hk,hk.2⟩ : _ ∧ k_ ≠ gb447))) (fun _ hk => hk.2) (.int .i64 t444)) (fun _ hk => hk.2) (.int .i64 t445)) (fun _ hk => hk.2) (.bool t446)) (fun _ h_ => h_.1))))) (g:=gb447) (o := .cells #[.int .i64 t444, .int .i64 t445, .bool t446] 41 (0,0)) (by refine blk_put (cs:=#[.int .i64 t444, .int .i64 t445, .bool false]) ?_ 2 _ rfl;refine blk_put (cs:=#[.int .i64 t444, .int .i64 0, .bool false]) ?_ 1 _ rfl;refine blk_put (cs:=#[.int .i64 0, .int .i64 0, .bool false]) ?_ 0 _ rfl;exact BK447.out)) (below_size (by repeat ((with_reducible first | exact HB.out | refine below_set ?_ GE447.out)))));have n2_:=Aside0.mk (blk_below (g:=gb447) (o := .cells #[.int .i64 t444, .int .i64 t445, .bool t446] 41 (0,0)) (by refine blk_put (cs:=#[.int .i64 t444, .int .i64 t445, .bool false]) ?_ 2 _ rfl;refine blk_put (cs:=#[.int .i64 t444, .int .i64 0, .bool false]) ?_ 1 _ rfl;refine blk_put (cs:=#[.int .i64 0, .int .i64 0, .bool false]) ?_ 0 _ rfl;exact BK447.out) hb);have n3_:=Aside0.mk (below_step (by repeat ((with_reducible first | exact HB.out | refine below_set ?_ GE447.out))) hb);clear HO443;clear BK447;clear HB;have HO443:=n0_;have HO450:=n1_;have BK447:=n2_;have HB:=n3_;clear n0_ n1_ n2_ n3_;(try clear hb);(try clear ho0);have hcz96_0 : w95.cell? ⟨gb447,0,none⟩ = some (.int .i64 t444):=(blk_cell BK447.out 0).trans rfl;have hcz96_1 : w95.cell? ⟨gb447,1,none⟩ = some (.int .i64 t445):=(blk_cell BK447.out 1).trans rfl;have hcz96_2 : w95.cell? ⟨gb447,2,none⟩ = some (.bool t446):=(blk_cell BK447.out 2).trans rfl;have hfz96_0:=blk_frozen BK447.out 0;have hfz96_1:=blk_frozen BK447.out 1;have hfz96_2:=blk_frozen BK447.out 2) | ((with_reducible refine gate_callee (f:=20) rfl ?_);refine goesL_ (some 191) rfl rfl Tryd.func20 (by kernel_rfl) rfl #[.slice Ao94 t441.length co94, .agg #[.int .i64 t444, .int .i64 t445, .bool t446]] rfl (by (try simp only [List.map_toArray,List.map_cons,List.map_nil]);rfl) ?_;(with_reducible refine (spec_AddReading.calls kj48 _ _ t441 t444 t445 t446 t452 t455 _ ?side1 ?side2 A65.out).mono ?_);(case side1 => repeat (exact (Kd.R_reads' HO443.out).2.2));(case side2 => exact (Kd.R_reads' HO443.out).2.1);rintro e w97 ⟨v453,rfl,ho0,hb⟩;refine ⟨_,rfl, ?_⟩;have n0_:=Aside0.mk (Kd.R_elder' (by exact HO443.out) (Kd.R_base ho0) hb);have n1_:=Aside0.mk (Kd.R_elder' (by exact HO450.out) (Kd.R_base ho0) hb);have n2_:=Aside0.mk (Kd.R_lower (Kd.R_newB (Kd.R_new' (Kd.R_new' ho0 (Kd.R_lt (by exact HO443.out))) (Kd.R_lt (by exact HO450.out))) (g:=gb447) (o := .cells #[.int .i64 t444, .int .i64 t445, .bool t446] 41 (0,0)) (by exact BK447.out)) (below_size (by exact HB.out)));have n3_:=Aside0.mk (blk_below (g:=gb447) (o := .cells #[.int .i64 t444, .int .i64 t445, .bool t446] 41 (0,0)) (by exact BK447.out) hb);have n4_:=Aside0.mk (below_step (by exact HB.out) hb);clear HO443;clear HO450;clear BK447;clear HB;have HO443:=n0_;have HO450:=n1_;have HO454:=n2_;have BK447:=n3_;have HB:=n4_;clear n0_ n1_ n2_ n3_ n4_;(try clear hb);(try clear ho0);obtain ⟨Ao98,co98,eo98⟩ := Kd.R_slice HO450.out;subst eo98;obtain ⟨Ao99,co99,eo99⟩ := Kd.R_slice HO454.out;subst eo99) | (go_at_call 21;(with_reducible refine (laws_rReadings.calls kj48 _ _ t448 _ _ t452 true _ ?side1 ?side2 ?side3 ?side4 A67.out).mono ?_);(case side1 => repeat (exact (Kd.R_reads' HO450.out).2.2));(case side2 => exact (Kd.R_reads' HO450.out).2.1);(case side3 => repeat (exact (Kd.R_reads' HO454.out).2.2));(case side4 => exact (Kd.R_reads' HO454.out).2.1);rintro e w' ⟨rfl,⟨nd,rfl⟩⟩))
                        go_ret
                        exact ⟨by rfl,by repeat ((with_reducible first | exact HB.out | apply pw_below_drewN))⟩
                     ·replace c68:=Bool.eq_false_iff.mpr c68
                      subst c68
                      have H1 : (some false) = some r:=by rw [if_neg (show ¬ (false = true) by decide)] at H;exact H
                      clear H
                      have H:=H1
                      clear H1
                      obtain rfl:=Option.some.inj H
                      as_aux_lemma =>
                       go_wp2_with (first | ((with_reducible refine gate_callee (f:=18) rfl ?_);refine goesL_ (some 179) rfl rfl Tryd.func18 (by kernel_rfl) rfl #[.slice A0 l0.length c0] rfl (by (try simp only [List.map_toArray,List.map_cons,List.map_nil]);rfl) ?_;(with_reducible refine (spec_DrawAddReading.calls kj48 _ _ l0 t441 t444 t445 t446 _ ?side1 ?side2 A63.out).mono ?_);(case side1 => repeat (exact (Kd.C_below HR0.out HB.out)));(case side2 => exact HC0.out);rintro e w100 ⟨v442,rfl,ho0,hb⟩;refine ⟨_,rfl, ?_⟩;have n0_:=Aside0.mk (Kd.R_lower ho0 (below_size (by exact HB.out)));have n1_:=Aside0.mk (below_step (by exact HB.out) hb);clear HB;have HO443:=n0_;have HB:=n1_;clear n0_ n1_;(try clear hb);(try clear ho0)) | ((with_reducible refine gate_dst (N:=29) rfl ?_);(try (refine gate_guard (by rfl) ?_;dsimp only));refine box_event ?hg (N:=29) ?hd (cs:=#[.int .i64 0, .int .i64 0, .bool false]) (t:=41) ?hr ?_;(case hd => rfl);(case hg => rfl);(case hr => (go_simp;done));intro gb447 hg w101 hbox hb;have n0_:=Aside0.mk (Kd.R_below (Kd.R_elderB (by exact HO443.out) gb447 (Nat.le_of_eq hg.symm)) hb);have n1_:=Aside0.mk (below_step (by exact HB.out) hb);have n2_:=Aside0.mk (hbox);have n3_:=Aside0.mk ((by rw [hg];exact (below_size (by exact HB.out)) : w.heap.size ≤ gb447));have n4_:=Aside0.mk ((by rw [hg];exact (below_size (by exact HB.out)) : w.heap.size ≤ gb447));clear HO443;clear HB;have HO443:=n0_;have HB:=n1_;have BK447:=n2_;have GW447:=n3_;have GE447:=n4_;clear n0_ n1_ n2_ n3_ n4_;clear hb hbox hg;have hcz102_0 : w101.cell? ⟨gb447,0,none⟩ = some (.int .i64 0):=(blk_cell BK447.out 0).trans rfl;have hcz102_1 : w101.cell? ⟨gb447,1,none⟩ = some (.int .i64 0):=(blk_cell BK447.out 1).trans rfl;have hcz102_2 : w101.cell? ⟨gb447,2,none⟩ = some (.bool false):=(blk_cell BK447.out 2).trans rfl;have hfz102_0:=blk_frozen BK447.out 0;have hfz102_1:=blk_frozen BK447.out 1;have hfz102_2:=blk_frozen BK447.out 2;obtain ⟨Ao103,co103,eo103⟩ := Kd.R_slice HO443.out;subst eo103) | ((with_reducible refine gate_callee (f:=19) rfl ?_);refine goesL_ (some 185) rfl rfl Tryd.func19 (by kernel_rfl) rfl #[.slice Ao103 t441.length co103, .agg #[.int .i64 t444, .int .i64 t445, .bool t446]] rfl (by (try simp only [List.map_toArray,List.map_cons,List.map_nil]);rfl) ?_;(with_reducible refine (impl_AddReading.calls kj48 _ _ t441 t444 t445 t446 t448 t451 _ ?side1 ?side2 A64.out).mono ?_);(case side1 => refine (Kd.R_reads' (e:=41) (base:=w.heap.size) (ok:=fun k_ => (True ∧ k_ ≠ gb447)) (n:=t441.length) (c:=co103) ?_).2.2;exact (by exact (Kd.R_mono (Kd.R_far (p:=⟨gb447,2,none⟩) (Kd.R_far (p:=⟨gb447,1,none⟩) (Kd.R_far (p:=⟨gb447,0,none⟩) (Kd.R_mono HO443.out (fun k_ hk => (⟨hk,hk.2⟩ : _ ∧ k_ ≠ gb447))) (fun _ hk => hk.2) (.int .i64 t444)) (fun _ hk => hk.2) (.int .i64 t445)) (fun _ hk => hk.2) (.bool t446)) (fun _ h_ => h_.1))));(case side2 => exact (Kd.R_reads' HO443.out).2.1);rintro e w104 ⟨v449,rfl,ho0,hb⟩;refine ⟨_,rfl, ?_⟩;have n0_:=Aside0.mk (Kd.R_elder' (by exact (Kd.R_mono (Kd.R_far (p:=⟨gb447,2,none⟩) (Kd.R_far (p:=⟨gb447,1,none⟩) (Kd.R_far (p:=⟨gb447,0,none⟩) (Kd.R_mono HO443.out (fun k_ hk => (⟨hk,hk.2⟩ : _ ∧ k_ ≠ gb447))) (fun _ hk => hk.2) (.int .i64 t444)) (fun _ hk => hk.2) (.int .i64 t445)) (fun _ hk => hk.2) (.bool t446)) (fun _ h_ => h_.1))) (Kd.R_base ho0) hb);have n1_:=Aside0.mk (Kd.R_lower (Kd.R_newB (Kd.R_new' ho0 (Kd.R_lt (by exact (Kd.R_mono (Kd.R_far (p:=⟨gb447,2,none⟩) (Kd.R_far (p:=⟨gb447,1,none⟩) (Kd.R_far (p:=⟨gb447,0,none⟩) (Kd.R_mono HO443.out (fun k_ hk => (⟨hk,hk.2⟩ : _ ∧ k_ ≠ gb447))) (fun _ hk => hk.2) (.int .i64 t444)) (fun _ hk => hk.2) (.int .i64 t445)) (fun _ hk => hk.2) (.bool t446)) (fun _ h_ => h_.1))))) (g:=gb447) (o := .cells #[.int .i64 t444, .int .i64 t445, .bool t446] 41 (0,0)) (by refine blk_put (cs:=#[.int .i64 t444, .int .i64 t445, .bool false]) ?_ 2 _ rfl;refine blk_put (cs:=#[.int .i64 t444, .int .i64 0, .bool false]) ?_ 1 _ rfl;refine blk_put (cs:=#[.int .i64 0, .int .i64 0, .bool false]) ?_ 0 _ rfl;exact BK447.out)) (below_size (by repeat ((with_reducible first | exact HB.out | refine below_set ?_ GE447.out)))));have n2_:=Aside0.mk (blk_below (g:=gb447) (o := .cells #[.int .i64 t444, .int .i64 t445, .bool t446] 41 (0,0)) (by refine blk_put (cs:=#[.int .i64 t444, .int .i64 t445, .bool false]) ?_ 2 _ rfl;refine blk_put (cs:=#[.int .i64 t444, .int .i64 0, .bool false]) ?_ 1 _ rfl;refine blk_put (cs:=#[.int .i64 0, .int .i64 0, .bool false]) ?_ 0 _ rfl;exact BK447.out) hb);have n3_:=Aside0.mk (below_step (by repeat ((with_reducible first | exact HB.out | refine below_set ?_ GE447.out))) hb);clear HO443;clear BK447;clear HB;have HO443:=n0_;have HO450:=n1_;have BK447:=n2_;have HB:=n3_;clear n0_ n1_ n2_ n3_;(try clear hb);(try clear ho0);have hcz105_0 : w104.cell? ⟨gb447,0,none⟩ = some (.int .i64 t444):=(blk_cell BK447.out 0).trans rfl;have hcz105_1 : w104.cell? ⟨gb447,1,none⟩ = some (.int .i64 t445):=(blk_cell BK447.out 1).trans rfl;have hcz105_2 : w104.cell? ⟨gb447,2,none⟩ = some (.bool t446):=(blk_cell BK447.out 2).trans rfl;have hfz105_0:=blk_frozen BK447.out 0;have hfz105_1:=blk_frozen BK447.out 1;have hfz105_2:=blk_frozen BK447.out 2) | ((with_reducible refine gate_callee (f:=20) rfl ?_);refine goesL_ (some 191) rfl rfl Tryd.func20 (by kernel_rfl) rfl #[.slice Ao103 t441.length co103, .agg #[.int .i64 t444, .int .i64 t445, .bool t446]] rfl (by (try simp only [List.map_toArray,List.map_cons,List.map_nil]);rfl) ?_;(with_reducible refine (spec_AddReading.calls kj48 _ _ t441 t444 t445 t446 t452 t455 _ ?side1 ?side2 A65.out).mono ?_);(case side1 => repeat (exact (Kd.R_reads' HO443.out).2.2));(case side2 => exact (Kd.R_reads' HO443.out).2.1);rintro e w106 ⟨v453,rfl,ho0,hb⟩;refine ⟨_,rfl, ?_⟩;have n0_:=Aside0.mk (Kd.R_elder' (by exact HO443.out) (Kd.R_base ho0) hb);have n1_:=Aside0.mk (Kd.R_elder' (by exact HO450.out) (Kd.R_base ho0) hb);have n2_:=Aside0.mk (Kd.R_lower (Kd.R_newB (Kd.R_new' (Kd.R_new' ho0 (Kd.R_lt (by exact HO443.out))) (Kd.R_lt (by exact HO450.out))) (g:=gb447) (o := .cells #[.int .i64 t444, .int .i64 t445, .bool t446] 41 (0,0)) (by exact BK447.out)) (below_size (by exact HB.out)));have n3_:=Aside0.mk (blk_below (g:=gb447) (o := .cells #[.int .i64 t444, .int .i64 t445, .bool t446] 41 (0,0)) (by exact BK447.out) hb);have n4_:=Aside0.mk (below_step (by exact HB.out) hb);clear HO443;clear HO450;clear BK447;clear HB;have HO443:=n0_;have HO450:=n1_;have HO454:=n2_;have BK447:=n3_;have HB:=n4_;clear n0_ n1_ n2_ n3_ n4_;(try clear hb);(try clear ho0);obtain ⟨Ao107,co107,eo107⟩ := Kd.R_slice HO450.out;subst eo107;obtain ⟨Ao108,co108,eo108⟩ := Kd.R_slice HO454.out;subst eo108) | (go_at_call 21;(with_reducible refine (laws_rReadings.calls kj48 _ _ t448 _ _ t452 false _ ?side1 ?side2 ?side3 ?side4 A67.out).mono ?_);(case side1 => repeat (exact (Kd.R_reads' HO450.out).2.2));(case side2 => exact (Kd.R_reads' HO450.out).2.1);(case side3 => repeat (exact (Kd.R_reads' HO454.out).2.2));(case side4 => exact (Kd.R_reads' HO454.out).2.1);rintro e w' ⟨rfl,⟨nd,rfl⟩⟩))
                       go_ret
                       exact ⟨by rfl,by repeat ((with_reducible first | exact HB.out | apply pw_below_drewN))⟩
                    ·rw [if_neg c66] at H
                     have c66b0 : (t451 == t455) = false:=by simpa using c66
                     (try (have c66b1 : decide (t451 = t455) = false:=by simpa using c66))
                     (try (have c66b2 : (t451 == t455) = false:=by simpa using c66))
                     (try (have c66b3 : ¬ (t451 = t455):=by simpa using c66))
                     clear c66
                     obtain rfl:=Option.some.inj H
                     as_aux_lemma =>
                      go_wp2_with (first | ((with_reducible refine gate_callee (f:=18) rfl ?_);refine goesL_ (some 179) rfl rfl Tryd.func18 (by kernel_rfl) rfl #[.slice A0 l0.length c0] rfl (by (try simp only [List.map_toArray,List.map_cons,List.map_nil]);rfl) ?_;(with_reducible refine (spec_DrawAddReading.calls kj48 _ _ l0 t441 t444 t445 t446 _ ?side1 ?side2 A63.out).mono ?_);(case side1 => repeat (exact (Kd.C_below HR0.out HB.out)));(case side2 => exact HC0.out);rintro e w109 ⟨v442,rfl,ho0,hb⟩;refine ⟨_,rfl, ?_⟩;have n0_:=Aside0.mk (Kd.R_lower ho0 (below_size (by exact HB.out)));have n1_:=Aside0.mk (below_step (by exact HB.out) hb);clear HB;have HO443:=n0_;have HB:=n1_;clear n0_ n1_;(try clear hb);(try clear ho0)) | ((with_reducible refine gate_dst (N:=29) rfl ?_);(try (refine gate_guard (by rfl) ?_;dsimp only));refine box_event ?hg (N:=29) ?hd (cs:=#[.int .i64 0, .int .i64 0, .bool false]) (t:=41) ?hr ?_;(case hd => rfl);(case hg => rfl);(case hr => (go_simp;done));intro gb447 hg w110 hbox hb;have n0_:=Aside0.mk (Kd.R_below (Kd.R_elderB (by exact HO443.out) gb447 (Nat.le_of_eq hg.symm)) hb);have n1_:=Aside0.mk (below_step (by exact HB.out) hb);have n2_:=Aside0.mk (hbox);have n3_:=Aside0.mk ((by rw [hg];exact (below_size (by exact HB.out)) : w.heap.size ≤ gb447));have n4_:=Aside0.mk ((by rw [hg];exact (below_size (by exact HB.out)) : w.heap.size ≤ gb447));clear HO443;clear HB;have HO443:=n0_;have HB:=n1_;have BK447:=n2_;have GW447:=n3_;have GE447:=n4_;clear n0_ n1_ n2_ n3_ n4_;clear hb hbox hg;have hcz111_0 : w110.cell? ⟨gb447,0,none⟩ = some (.int .i64 0):=(blk_cell BK447.out 0).trans rfl;have hcz111_1 : w110.cell? ⟨gb447,1,none⟩ = some (.int .i64 0):=(blk_cell BK447.out 1).trans rfl;have hcz111_2 : w110.cell? ⟨gb447,2,none⟩ = some (.bool false):=(blk_cell BK447.out 2).trans rfl;have hfz111_0:=blk_frozen BK447.out 0;have hfz111_1:=blk_frozen BK447.out 1;have hfz111_2:=blk_frozen BK447.out 2;obtain ⟨Ao112,co112,eo112⟩ := Kd.R_slice HO443.out;subst eo112) | ((with_reducible refine gate_callee (f:=19) rfl ?_);refine goesL_ (some 185) rfl rfl Tryd.func19 (by kernel_rfl) rfl #[.slice Ao112 t441.length co112, .agg #[.int .i64 t444, .int .i64 t445, .bool t446]] rfl (by (try simp only [List.map_toArray,List.map_cons,List.map_nil]);rfl) ?_;(with_reducible refine (impl_AddReading.calls kj48 _ _ t441 t444 t445 t446 t448 t451 _ ?side1 ?side2 A64.out).mono ?_);(case side1 => refine (Kd.R_reads' (e:=41) (base:=w.heap.size) (ok:=fun k_ => (True ∧ k_ ≠ gb447)) (n:=t441.length) (c:=co112) ?_).2.2;exact (by exact (Kd.R_mono (Kd.R_far (p:=⟨gb447,2,none⟩) (Kd.R_far (p:=⟨gb447,1,none⟩) (Kd.R_far (p:=⟨gb447,0,none⟩) (Kd.R_mono HO443.out (fun k_ hk => (⟨hk,hk.2⟩ : _ ∧ k_ ≠ gb447))) (fun _ hk => hk.2) (.int .i64 t444)) (fun _ hk => hk.2) (.int .i64 t445)) (fun _ hk => hk.2) (.bool t446)) (fun _ h_ => h_.1))));(case side2 => exact (Kd.R_reads' HO443.out).2.1);rintro e w113 ⟨v449,rfl,ho0,hb⟩;refine ⟨_,rfl, ?_⟩;have n0_:=Aside0.mk (Kd.R_elder' (by exact (Kd.R_mono (Kd.R_far (p:=⟨gb447,2,none⟩) (Kd.R_far (p:=⟨gb447,1,none⟩) (Kd.R_far (p:=⟨gb447,0,none⟩) (Kd.R_mono HO443.out (fun k_ hk => (⟨hk,hk.2⟩ : _ ∧ k_ ≠ gb447))) (fun _ hk => hk.2) (.int .i64 t444)) (fun _ hk => hk.2) (.int .i64 t445)) (fun _ hk => hk.2) (.bool t446)) (fun _ h_ => h_.1))) (Kd.R_base ho0) hb);have n1_:=Aside0.mk (Kd.R_lower (Kd.R_newB (Kd.R_new' ho0 (Kd.R_lt (by exact (Kd.R_mono (Kd.R_far (p:=⟨gb447,2,none⟩) (Kd.R_far (p:=⟨gb447,1,none⟩) (Kd.R_far (p:=⟨gb447,0,none⟩) (Kd.R_mono HO443.out (fun k_ hk => (⟨hk,hk.2⟩ : _ ∧ k_ ≠ gb447))) (fun _ hk => hk.2) (.int .i64 t444)) (fun _ hk => hk.2) (.int .i64 t445)) (fun _ hk => hk.2) (.bool t446)) (fun _ h_ => h_.1))))) (g:=gb447) (o := .cells #[.int .i64 t444, .int .i64 t445, .bool t446] 41 (0,0)) (by refine blk_put (cs:=#[.int .i64 t444, .int .i64 t445, .bool false]) ?_ 2 _ rfl;refine blk_put (cs:=#[.int .i64 t444, .int .i64 0, .bool false]) ?_ 1 _ rfl;refine blk_put (cs:=#[.int .i64 0, .int .i64 0, .bool false]) ?_ 0 _ rfl;exact BK447.out)) (below_size (by repeat ((with_reducible first | exact HB.out | refine below_set ?_ GE447.out)))));have n2_:=Aside0.mk (blk_below (g:=gb447) (o := .cells #[.int .i64 t444, .int .i64 t445, .bool t446] 41 (0,0)) (by refine blk_put (cs:=#[.int .i64 t444, .int .i64 t445, .bool false]) ?_ 2 _ rfl;refine blk_put (cs:=#[.int .i64 t444, .int .i64 0, .bool false]) ?_ 1 _ rfl;refine blk_put (cs:=#[.int .i64 0, .int .i64 0, .bool false]) ?_ 0 _ rfl;exact BK447.out) hb);have n3_:=Aside0.mk (below_step (by repeat ((with_reducible first | exact HB.out | refine below_set ?_ GE447.out))) hb);clear HO443;clear BK447;clear HB;have HO443:=n0_;have HO450:=n1_;have BK447:=n2_;have HB:=n3_;clear n0_ n1_ n2_ n3_;(try clear hb);(try clear ho0);have hcz114_0 : w113.cell? ⟨gb447,0,none⟩ = some (.int .i64 t444):=(blk_cell BK447.out 0).trans rfl;have hcz114_1 : w113.cell? ⟨gb447,1,none⟩ = some (.int .i64 t445):=(blk_cell BK447.out 1).trans rfl;have hcz114_2 : w113.cell? ⟨gb447,2,none⟩ = some (.bool t446):=(blk_cell BK447.out 2).trans rfl;have hfz114_0:=blk_frozen BK447.out 0;have hfz114_1:=blk_frozen BK447.out 1;have hfz114_2:=blk_frozen BK447.out 2) | ((with_reducible refine gate_callee (f:=20) rfl ?_);refine goesL_ (some 191) rfl rfl Tryd.func20 (by kernel_rfl) rfl #[.slice Ao112 t441.length co112, .agg #[.int .i64 t444, .int .i64 t445, .bool t446]] rfl (by (try simp only [List.map_toArray,List.map_cons,List.map_nil]);rfl) ?_;(with_reducible refine (spec_AddReading.calls kj48 _ _ t441 t444 t445 t446 t452 t455 _ ?side1 ?side2 A65.out).mono ?_);(case side1 => repeat (exact (Kd.R_reads' HO443.out).2.2));(case side2 => exact (Kd.R_reads' HO443.out).2.1);rintro e w115 ⟨v453,rfl,ho0,hb⟩;refine ⟨_,rfl, ?_⟩;have n0_:=Aside0.mk (Kd.R_elder' (by exact HO443.out) (Kd.R_base ho0) hb);have n1_:=Aside0.mk (Kd.R_elder' (by exact HO450.out) (Kd.R_base ho0) hb);have n2_:=Aside0.mk (Kd.R_lower (Kd.R_newB (Kd.R_new' (Kd.R_new' ho0 (Kd.R_lt (by exact HO443.out))) (Kd.R_lt (by exact HO450.out))) (g:=gb447) (o := .cells #[.int .i64 t444, .int .i64 t445, .bool t446] 41 (0,0)) (by exact BK447.out)) (below_size (by exact HB.out)));have n3_:=Aside0.mk (blk_below (g:=gb447) (o := .cells #[.int .i64 t444, .int .i64 t445, .bool t446] 41 (0,0)) (by exact BK447.out) hb);have n4_:=Aside0.mk (below_step (by exact HB.out) hb);clear HO443;clear HO450;clear BK447;clear HB;have HO443:=n0_;have HO450:=n1_;have HO454:=n2_;have BK447:=n3_;have HB:=n4_;clear n0_ n1_ n2_ n3_ n4_;(try clear hb);(try clear ho0)))
                      go_ret
                      exact ⟨by rfl,by exact HB.out⟩

end Go.Proofs.YtpelcaijjdgnoaaDoor.PFnReadings
