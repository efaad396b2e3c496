-- Written by a program of this session, over the kit's print (wip/xprint.py)
import Derived.Test.YtafdafmoiocjgaaPFnChargesx0
import Derived.Test.YtafdafmoiocjgaaPFnChargesx1
import Derived.Test.YtafdafmoiocjgaaPFnChargesx3
import Derived.Test.YtafdafmoiocjgaaPFnChargesx4
import Derived.Test.YtafdafmoiocjgaaPFnChargesx5
import Derived.Test.YtafdafmoiocjgaaPFnChargesx6
import Derived.Test.YtafdafmoiocjgaaPFnChargesx7
import Derived.Test.YtafdafmoiocjgaaPFnChargesx8
namespace Go.Proofs.Ytafdafmoiocjgaa.PFnCharges
open Go.RowKit Go.Proofs.YtafdafmoiocjgaaW.PrintWords Go.Proofs.YtafdafmoiocjgaaW.PrintLast Go.Proofs.YtafdafmoiocjgaaW.PrintMore
attribute [local go_sem] max2_int min2_int max_two min_two max_three min_three max_four min_four   -- for this text's walks alone
set_option linter.unusedVariables false
set_option linter.unusedSimpArgs false

/-! ### laws_FnCharges: function 4 -/
mutual
def laws_FnCharges.j0 : Nat → List Int → Int → Int → Int → Bool → Bool → Int → List (S51) → Int → Option (Bool)
 | 0,_,_,_,_,_,_,_,_,_ => none
 | k + 1,x0,x4,x5,x6,x7,x72,x375000,x375001,x375002 => if x72 = true then (some false) else (if x7 = true then ((impl_StayCharge.f k x375000 x375001 x375002 x4 (wrap64 (x5 + 1))).bind fun bt380 => (if bt380.2 = true then (laws_FnCharges.j1 k x0 x5 (decide (bt380.1 < x6)) x375000 x375001 x375002) else (laws_FnCharges.j1 k x0 x5 false x375000 x375001 x375002))) else (laws_FnCharges.j2 k x0))
def laws_FnCharges.j2 : Nat → List Int → Option (Bool)
 | 0,_ => none
 | k + 1,x0 => (spec_DrawLongestStay.f k x0).bind fun bt388 => ((impl_LongestStay.f k bt388.1 bt388.2.1 bt388.2.2.1 bt388.2.2.2.1 bt388.2.2.2.2).bind fun bt396 => ((spec_LongestStay.f k bt388.1 bt388.2.1 bt388.2.2.1 bt388.2.2.2.1 bt388.2.2.2.2).bind fun bt398 => (if bt396.1 = bt398.1 then (laws_FnCharges.j3 k x0 bt388.2.2.2.1 bt388.2.2.2.2 bt396.1 bt396.2 (bt396.2 != bt398.2) bt388.1 bt388.2.1 bt388.2.2.1) else (laws_FnCharges.j3 k x0 bt388.2.2.2.1 bt388.2.2.2.2 bt396.1 bt396.2 true bt388.1 bt388.2.1 bt388.2.2.1))))
def laws_FnCharges.j3 : Nat → List Int → Int → Int → Int → Bool → Bool → Int → List (S51) → Int → Option (Bool)
 | 0,_,_,_,_,_,_,_,_,_ => none
 | k + 1,x0,x15,x16,x17,x18,x146,x396000,x396001,x396002 => if x146 = true then (some false) else (if x18 = true then ((impl_StayCharge.f k x396000 x396001 x396002 x15 x17).bind fun bt400 => (if bt400.2 = true then (laws_FnCharges.j4 k x0 x15 x16 x17 (decide (bt400.1 > x16)) x396000 x396001 x396002) else (laws_FnCharges.j4 k x0 x15 x16 x17 true x396000 x396001 x396002))) else (laws_FnCharges.j5 k x0))
def laws_FnCharges.j5 : Nat → List Int → Option (Bool)
 | 0,_ => none
 | k + 1,x0 => (spec_DrawRateOn.f k x0).bind fun bt404 => ((impl_RateOn.f k bt404.1 bt404.2.1 bt404.2.2.1 bt404.2.2.2).bind fun bt411 => ((impl_StepOn.f k bt404.1 bt404.2.1 bt404.2.2.1 bt404.2.2.2).bind fun bt413 => ((spec_RateOn.f k bt404.1 bt404.2.1 bt404.2.2.1 bt404.2.2.2).bind fun bt415 => ((spec_StepOn.f k bt404.1 bt404.2.1 bt404.2.2.1 bt404.2.2.2).bind fun bt417 => (if bt411.1 = bt415.1 then (if (bt411.2 != bt415.2) = true then (some false) else (if bt413.1 = bt417.1 then (if (bt413.2 != bt415.2) = true then (some false) else (if bt411.2 = true then (if bt413.1 < 0 then (if bt411.1 = 0 then (some true) else (if bt413.1 ≥ 0 then (if 0 ≤ bt413.1 then (if bt413.1 < (bt404.2.1.length : Int) then (some (bt411.1 == ((rd_T51 bt404.2.1 bt413.1).f1))) else (none)) else (none)) else (some false))) else (if bt413.1 ≥ 0 then (if 0 ≤ bt413.1 then (if bt413.1 < (bt404.2.1.length : Int) then (some (bt411.1 == ((rd_T51 bt404.2.1 bt413.1).f1))) else (none)) else (none)) else (some false))) else (some true))) else (some false))) else (some false))))))
def laws_FnCharges.j4 : Nat → List Int → Int → Int → Int → Bool → Int → List (S51) → Int → Option (Bool)
 | 0,_,_,_,_,_,_,_,_ => none
 | k + 1,x0,x15,x16,x17,x161,x396000,x396001,x396002 => if x161 = true then (some false) else ((impl_StayCharge.f k x396000 x396001 x396002 x15 (wrap64 (x17 + 1))).bind fun bt402 => (if bt402.2 = true then (if bt402.1 ≤ x16 then (some false) else (laws_FnCharges.j5 k x0)) else (laws_FnCharges.j5 k x0)))
def laws_FnCharges.j1 : Nat → List Int → Int → Bool → Int → List (S51) → Int → Option (Bool)
 | 0,_,_,_,_,_,_ => none
 | k + 1,x0,x5,x87,x375000,x375001,x375002 => if x87 = true then (some false) else ((impl_SplitStay.f k x375000 x375001 x375002 x5).bind fun bt382 => (if bt382.2 = true then ((laws_rSum.f k bt382.1).bind fun t386 => (if t386 = x5 then (if (bt382.1.length : Int) = (wrap64 ((x375001.length : Int) + 1)) then (if 0 < (bt382.1.length : Int) then (if (rd bt382.1 0) > x375000 then (some false) else (laws_FnCharges.j2 k x0)) else (none)) else (some false)) else (some false))) else (some false)))
end
def laws_FnCharges.f (k : Nat) (l0 : List Int) : Option (Bool):=(laws_rBig.f l0).bind fun t366 => (if t366 = true then (some true) else ((spec_DrawStayCharge.f k l0).bind fun bt367 => ((impl_StayCharge.f k bt367.1 bt367.2.1 bt367.2.2.1 bt367.2.2.2.1 bt367.2.2.2.2).bind fun bt375 => ((spec_StayCharge.f k bt367.1 bt367.2.1 bt367.2.2.1 bt367.2.2.2.1 bt367.2.2.2.2).bind fun bt377 => (if bt375.1 = bt377.1 then (if (bt375.2 != bt377.2) = true then (laws_FnCharges.j0 k l0 bt367.2.2.2.1 bt367.2.2.2.2 bt375.1 bt375.2 true bt367.1 bt367.2.1 bt367.2.2.1) else (if bt375.2 = true then ((impl_IsValidCharge.f k bt367.1 bt367.2.1 bt367.2.2.1).bind fun t379 => (laws_FnCharges.j0 k l0 bt367.2.2.2.1 bt367.2.2.2.2 bt375.1 bt375.2 (!t379) bt367.1 bt367.2.1 bt367.2.2.1)) else (laws_FnCharges.j0 k l0 bt367.2.2.2.1 bt367.2.2.2.2 bt375.1 bt375.2 false bt367.1 bt367.2.1 bt367.2.2.1))) else (laws_FnCharges.j0 k l0 bt367.2.2.2.1 bt367.2.2.2.2 bt375.1 bt375.2 true bt367.1 bt367.2.1 bt367.2.2.1))))))
theorem laws_FnCharges.mono_l : ∀ k,(∀ y0 y1 y2 y3 y4 y5 y6 y7 y8,LeO (laws_FnCharges.j0 k y0 y1 y2 y3 y4 y5 y6 y7 y8) (laws_FnCharges.j0 (k + 1) y0 y1 y2 y3 y4 y5 y6 y7 y8)) ∧ (∀ y0,LeO (laws_FnCharges.j2 k y0) (laws_FnCharges.j2 (k + 1) y0)) ∧ (∀ y0 y1 y2 y3 y4 y5 y6 y7 y8,LeO (laws_FnCharges.j3 k y0 y1 y2 y3 y4 y5 y6 y7 y8) (laws_FnCharges.j3 (k + 1) y0 y1 y2 y3 y4 y5 y6 y7 y8)) ∧ (∀ y0,LeO (laws_FnCharges.j5 k y0) (laws_FnCharges.j5 (k + 1) y0)) ∧ (∀ y0 y1 y2 y3 y4 y5 y6 y7,LeO (laws_FnCharges.j4 k y0 y1 y2 y3 y4 y5 y6 y7) (laws_FnCharges.j4 (k + 1) y0 y1 y2 y3 y4 y5 y6 y7)) ∧ (∀ y0 y1 y2 y3 y4 y5,LeO (laws_FnCharges.j1 k y0 y1 y2 y3 y4 y5) (laws_FnCharges.j1 (k + 1) y0 y1 y2 y3 y4 y5))
 | 0 => ⟨fun _ _ _ _ _ _ _ _ _ r h => by simp [laws_FnCharges.j0] at h,fun _ r h => by simp [laws_FnCharges.j2] at h,fun _ _ _ _ _ _ _ _ _ r h => by simp [laws_FnCharges.j3] at h,fun _ r h => by simp [laws_FnCharges.j5] at h,fun _ _ _ _ _ _ _ _ r h => by simp [laws_FnCharges.j4] at h,fun _ _ _ _ _ _ r h => by simp [laws_FnCharges.j1] at h⟩
 | k + 1 => by
  obtain ⟨ih0,ih1,ih2,ih3,ih4,ih5⟩ := laws_FnCharges.mono_l k
  refine ⟨?_, ?_, ?_, ?_, ?_, ?_⟩
  ·intro y0 y1 y2 y3 y4 y5 y6 y7 y8
   unfold laws_FnCharges.j0
   repeat' first
   | (with_reducible exact ih0 _ _ _ _ _ _ _ _ _)
   | (with_reducible exact ih1 _)
   | (with_reducible exact ih2 _ _ _ _ _ _ _ _ _)
   | (with_reducible exact ih3 _)
   | (with_reducible exact ih4 _ _ _ _ _ _ _ _)
   | (with_reducible exact ih5 _ _ _ _ _ _)
   | (with_reducible exact impl_IsValidCharge.mono _ _ _ _)
   | (with_reducible exact impl_LongestStay.mono _ _ _ _ _ _)
   | (with_reducible exact impl_RateOn.mono _ _ _ _ _)
   | (with_reducible exact impl_SplitStay.mono _ _ _ _ _)
   | (with_reducible exact impl_StayCharge.mono _ _ _ _ _ _)
   | (with_reducible exact impl_StepOn.mono _ _ _ _ _)
   | (with_reducible exact laws_rSum.mono _ _)
   | (with_reducible exact spec_DrawLongestStay.mono _ _)
   | (with_reducible exact spec_DrawRateOn.mono _ _)
   | (with_reducible exact spec_DrawStayCharge.mono _ _)
   | (with_reducible exact spec_LongestStay.mono _ _ _ _ _ _)
   | (with_reducible exact spec_RateOn.mono _ _ _ _ _)
   | (with_reducible exact spec_StayCharge.mono _ _ _ _ _ _)
   | (with_reducible exact spec_StepOn.mono _ _ _ _ _)
   | (with_reducible exact LeO.refl _)
   | (with_reducible exact LeO.none _)
   | (with_reducible refine LeO.ite ?_ ?_)
   | (with_reducible refine LeO.bind ?_ (fun _ => ?_))
   | exact ih0 _ _ _ _ _ _ _ _ _
   | exact ih1 _
   | exact ih2 _ _ _ _ _ _ _ _ _
   | exact ih3 _
   | exact ih4 _ _ _ _ _ _ _ _
   | exact ih5 _ _ _ _ _ _
   | exact impl_IsValidCharge.mono _ _ _ _
   | exact impl_LongestStay.mono _ _ _ _ _ _
   | exact impl_RateOn.mono _ _ _ _ _
   | exact impl_SplitStay.mono _ _ _ _ _
   | exact impl_StayCharge.mono _ _ _ _ _ _
   | exact impl_StepOn.mono _ _ _ _ _
   | exact laws_rSum.mono _ _
   | exact spec_DrawLongestStay.mono _ _
   | exact spec_DrawRateOn.mono _ _
   | exact spec_DrawStayCharge.mono _ _
   | exact spec_LongestStay.mono _ _ _ _ _ _
   | exact spec_RateOn.mono _ _ _ _ _
   | exact spec_StayCharge.mono _ _ _ _ _ _
   | exact spec_StepOn.mono _ _ _ _ _
   | exact LeO.none _
   | refine LeO.ite ?_ ?_
   | refine LeO.bind ?_ (fun _ => ?_)
  ·intro y0
   unfold laws_FnCharges.j2
   repeat' first
   | (with_reducible exact ih0 _ _ _ _ _ _ _ _ _)
   | (with_reducible exact ih1 _)
   | (with_reducible exact ih2 _ _ _ _ _ _ _ _ _)
   | (with_reducible exact ih3 _)
   | (with_reducible exact ih4 _ _ _ _ _ _ _ _)
   | (with_reducible exact ih5 _ _ _ _ _ _)
   | (with_reducible exact impl_IsValidCharge.mono _ _ _ _)
   | (with_reducible exact impl_LongestStay.mono _ _ _ _ _ _)
   | (with_reducible exact impl_RateOn.mono _ _ _ _ _)
   | (with_reducible exact impl_SplitStay.mono _ _ _ _ _)
   | (with_reducible exact impl_StayCharge.mono _ _ _ _ _ _)
   | (with_reducible exact impl_StepOn.mono _ _ _ _ _)
   | (with_reducible exact laws_rSum.mono _ _)
   | (with_reducible exact spec_DrawLongestStay.mono _ _)
   | (with_reducible exact spec_DrawRateOn.mono _ _)
   | (with_reducible exact spec_DrawStayCharge.mono _ _)
   | (with_reducible exact spec_LongestStay.mono _ _ _ _ _ _)
   | (with_reducible exact spec_RateOn.mono _ _ _ _ _)
   | (with_reducible exact spec_StayCharge.mono _ _ _ _ _ _)
   | (with_reducible exact spec_StepOn.mono _ _ _ _ _)
   | (with_reducible exact LeO.refl _)
   | (with_reducible exact LeO.none _)
   | (with_reducible refine LeO.ite ?_ ?_)
   | (with_reducible refine LeO.bind ?_ (fun _ => ?_))
   | exact ih0 _ _ _ _ _ _ _ _ _
   | exact ih1 _
   | exact ih2 _ _ _ _ _ _ _ _ _
   | exact ih3 _
   | exact ih4 _ _ _ _ _ _ _ _
   | exact ih5 _ _ _ _ _ _
   | exact impl_IsValidCharge.mono _ _ _ _
   | exact impl_LongestStay.mono _ _ _ _ _ _
   | exact impl_RateOn.mono _ _ _ _ _
   | exact impl_SplitStay.mono _ _ _ _ _
   | exact impl_StayCharge.mono _ _ _ _ _ _
   | exact impl_StepOn.mono _ _ _ _ _
   | exact laws_rSum.mono _ _
   | exact spec_DrawLongestStay.mono _ _
   | exact spec_DrawRateOn.mono _ _
   | exact spec_DrawStayCharge.mono _ _
   | exact spec_LongestStay.mono _ _ _ _ _ _
   | exact spec_RateOn.mono _ _ _ _ _
   | exact spec_StayCharge.mono _ _ _ _ _ _
   | exact spec_StepOn.mono _ _ _ _ _
   | exact LeO.none _
   | refine LeO.ite ?_ ?_
   | refine LeO.bind ?_ (fun _ => ?_)
  ·intro y0 y1 y2 y3 y4 y5 y6 y7 y8
   unfold laws_FnCharges.j3
   repeat' first
   | (with_reducible exact ih0 _ _ _ _ _ _ _ _ _)
   | (with_reducible exact ih1 _)
   | (with_reducible exact ih2 _ _ _ _ _ _ _ _ _)
   | (with_reducible exact ih3 _)
   | (with_reducible exact ih4 _ _ _ _ _ _ _ _)
   | (with_reducible exact ih5 _ _ _ _ _ _)
   | (with_reducible exact impl_IsValidCharge.mono _ _ _ _)
   | (with_reducible exact impl_LongestStay.mono _ _ _ _ _ _)
   | (with_reducible exact impl_RateOn.mono _ _ _ _ _)
   | (with_reducible exact impl_SplitStay.mono _ _ _ _ _)
   | (with_reducible exact impl_StayCharge.mono _ _ _ _ _ _)
   | (with_reducible exact impl_StepOn.mono _ _ _ _ _)
   | (with_reducible exact laws_rSum.mono _ _)
   | (with_reducible exact spec_DrawLongestStay.mono _ _)
   | (with_reducible exact spec_DrawRateOn.mono _ _)
   | (with_reducible exact spec_DrawStayCharge.mono _ _)
   | (with_reducible exact spec_LongestStay.mono _ _ _ _ _ _)
   | (with_reducible exact spec_RateOn.mono _ _ _ _ _)
   | (with_reducible exact spec_StayCharge.mono _ _ _ _ _ _)
   | (with_reducible exact spec_StepOn.mono _ _ _ _ _)
   | (with_reducible exact LeO.refl _)
   | (with_reducible exact LeO.none _)
   | (with_reducible refine LeO.ite ?_ ?_)
   | (with_reducible refine LeO.bind ?_ (fun _ => ?_))
   | exact ih0 _ _ _ _ _ _ _ _ _
   | exact ih1 _
   | exact ih2 _ _ _ _ _ _ _ _ _
   | exact ih3 _
   | exact ih4 _ _ _ _ _ _ _ _
   | exact ih5 _ _ _ _ _ _
   | exact impl_IsValidCharge.mono _ _ _ _
   | exact impl_LongestStay.mono _ _ _ _ _ _
   | exact impl_RateOn.mono _ _ _ _ _
   | exact impl_SplitStay.mono _ _ _ _ _
   | exact impl_StayCharge.mono _ _ _ _ _ _
   | exact impl_StepOn.mono _ _ _ _ _
   | exact laws_rSum.mono _ _
   | exact spec_DrawLongestStay.mono _ _
   | exact spec_DrawRateOn.mono _ _
   | exact spec_DrawStayCharge.mono _ _
   | exact spec_LongestStay.mono _ _ _ _ _ _
   | exact spec_RateOn.mono _ _ _ _ _
   | exact spec_StayCharge.mono _ _ _ _ _ _
   | exact spec_StepOn.mono _ _ _ _ _
   | exact LeO.none _
   | refine LeO.ite ?_ ?_
   | refine LeO.bind ?_ (fun _ => ?_)
  ·intro y0
   unfold laws_FnCharges.j5
   repeat' first
   | (with_reducible exact ih0 _ _ _ _ _ _ _ _ _)
   | (with_reducible exact ih1 _)
   | (with_reducible exact ih2 _ _ _ _ _ _ _ _ _)
   | (with_reducible exact ih3 _)
   | (with_reducible exact ih4 _ _ _ _ _ _ _ _)
   | (with_reducible exact ih5 _ _ _ _ _ _)
   | (with_reducible exact impl_IsValidCharge.mono _ _ _ _)
   | (with_reducible exact impl_LongestStay.mono _ _ _ _ _ _)
   | (with_reducible exact impl_RateOn.mono _ _ _ _ _)
   | (with_reducible exact impl_SplitStay.mono _ _ _ _ _)
   | (with_reducible exact impl_StayCharge.mono _ _ _ _ _ _)
   | (with_reducible exact impl_StepOn.mono _ _ _ _ _)
   | (with_reducible exact laws_rSum.mono _ _)
   | (with_reducible exact spec_DrawLongestStay.mono _ _)
   | (with_reducible exact spec_DrawRateOn.mono _ _)
   | (with_reducible exact spec_DrawStayCharge.mono _ _)
   | (with_reducible exact spec_LongestStay.mono _ _ _ _ _ _)
   | (with_reducible exact spec_RateOn.mono _ _ _ _ _)
   | (with_reducible exact spec_StayCharge.mono _ _ _ _ _ _)
   | (with_reducible exact spec_StepOn.mono _ _ _ _ _)
   | (with_reducible exact LeO.refl _)
   | (with_reducible exact LeO.none _)
   | (with_reducible refine LeO.ite ?_ ?_)
   | (with_reducible refine LeO.bind ?_ (fun _ => ?_))
   | exact ih0 _ _ _ _ _ _ _ _ _
   | exact ih1 _
   | exact ih2 _ _ _ _ _ _ _ _ _
   | exact ih3 _
   | exact ih4 _ _ _ _ _ _ _ _
   | exact ih5 _ _ _ _ _ _
   | exact impl_IsValidCharge.mono _ _ _ _
   | exact impl_LongestStay.mono _ _ _ _ _ _
   | exact impl_RateOn.mono _ _ _ _ _
   | exact impl_SplitStay.mono _ _ _ _ _
   | exact impl_StayCharge.mono _ _ _ _ _ _
   | exact impl_StepOn.mono _ _ _ _ _
   | exact laws_rSum.mono _ _
   | exact spec_DrawLongestStay.mono _ _
   | exact spec_DrawRateOn.mono _ _
   | exact spec_DrawStayCharge.mono _ _
   | exact spec_LongestStay.mono _ _ _ _ _ _
   | exact spec_RateOn.mono _ _ _ _ _
   | exact spec_StayCharge.mono _ _ _ _ _ _
   | exact spec_StepOn.mono _ _ _ _ _
   | exact LeO.none _
   | refine LeO.ite ?_ ?_
   | refine LeO.bind ?_ (fun _ => ?_)
  ·intro y0 y1 y2 y3 y4 y5 y6 y7
   unfold laws_FnCharges.j4
   repeat' first
   | (with_reducible exact ih0 _ _ _ _ _ _ _ _ _)
   | (with_reducible exact ih1 _)
   | (with_reducible exact ih2 _ _ _ _ _ _ _ _ _)
   | (with_reducible exact ih3 _)
   | (with_reducible exact ih4 _ _ _ _ _ _ _ _)
   | (with_reducible exact ih5 _ _ _ _ _ _)
   | (with_reducible exact impl_IsValidCharge.mono _ _ _ _)
   | (with_reducible exact impl_LongestStay.mono _ _ _ _ _ _)
   | (with_reducible exact impl_RateOn.mono _ _ _ _ _)
   | (with_reducible exact impl_SplitStay.mono _ _ _ _ _)
   | (with_reducible exact impl_StayCharge.mono _ _ _ _ _ _)
   | (with_reducible exact impl_StepOn.mono _ _ _ _ _)
   | (with_reducible exact laws_rSum.mono _ _)
   | (with_reducible exact spec_DrawLongestStay.mono _ _)
   | (with_reducible exact spec_DrawRateOn.mono _ _)
   | (with_reducible exact spec_DrawStayCharge.mono _ _)
   | (with_reducible exact spec_LongestStay.mono _ _ _ _ _ _)
   | (with_reducible exact spec_RateOn.mono _ _ _ _ _)
   | (with_reducible exact spec_StayCharge.mono _ _ _ _ _ _)
   | (with_reducible exact spec_StepOn.mono _ _ _ _ _)
   | (with_reducible exact LeO.refl _)
   | (with_reducible exact LeO.none _)
   | (with_reducible refine LeO.ite ?_ ?_)
   | (with_reducible refine LeO.bind ?_ (fun _ => ?_))
   | exact ih0 _ _ _ _ _ _ _ _ _
   | exact ih1 _
   | exact ih2 _ _ _ _ _ _ _ _ _
   | exact ih3 _
   | exact ih4 _ _ _ _ _ _ _ _
   | exact ih5 _ _ _ _ _ _
   | exact impl_IsValidCharge.mono _ _ _ _
   | exact impl_LongestStay.mono _ _ _ _ _ _
   | exact impl_RateOn.mono _ _ _ _ _
   | exact impl_SplitStay.mono _ _ _ _ _
   | exact impl_StayCharge.mono _ _ _ _ _ _
   | exact impl_StepOn.mono _ _ _ _ _
   | exact laws_rSum.mono _ _
   | exact spec_DrawLongestStay.mono _ _
   | exact spec_DrawRateOn.mono _ _
   | exact spec_DrawStayCharge.mono _ _
   | exact spec_LongestStay.mono _ _ _ _ _ _
   | exact spec_RateOn.mono _ _ _ _ _
   | exact spec_StayCharge.mono _ _ _ _ _ _
   | exact spec_StepOn.mono _ _ _ _ _
   | exact LeO.none _
   | refine LeO.ite ?_ ?_
   | refine LeO.bind ?_ (fun _ => ?_)
  ·intro y0 y1 y2 y3 y4 y5
   unfold laws_FnCharges.j1
   repeat' first
   | (with_reducible exact ih0 _ _ _ _ _ _ _ _ _)
   | (with_reducible exact ih1 _)
   | (with_reducible exact ih2 _ _ _ _ _ _ _ _ _)
   | (with_reducible exact ih3 _)
   | (with_reducible exact ih4 _ _ _ _ _ _ _ _)
   | (with_reducible exact ih5 _ _ _ _ _ _)
   | (with_reducible exact impl_IsValidCharge.mono _ _ _ _)
   | (with_reducible exact impl_LongestStay.mono _ _ _ _ _ _)
   | (with_reducible exact impl_RateOn.mono _ _ _ _ _)
   | (with_reducible exact impl_SplitStay.mono _ _ _ _ _)
   | (with_reducible exact impl_StayCharge.mono _ _ _ _ _ _)
   | (with_reducible exact impl_StepOn.mono _ _ _ _ _)
   | (with_reducible exact laws_rSum.mono _ _)
   | (with_reducible exact spec_DrawLongestStay.mono _ _)
   | (with_reducible exact spec_DrawRateOn.mono _ _)
   | (with_reducible exact spec_DrawStayCharge.mono _ _)
   | (with_reducible exact spec_LongestStay.mono _ _ _ _ _ _)
   | (with_reducible exact spec_RateOn.mono _ _ _ _ _)
   | (with_reducible exact spec_StayCharge.mono _ _ _ _ _ _)
   | (with_reducible exact spec_StepOn.mono _ _ _ _ _)
   | (with_reducible exact LeO.refl _)
   | (with_reducible exact LeO.none _)
   | (with_reducible refine LeO.ite ?_ ?_)
   | (with_reducible refine LeO.bind ?_ (fun _ => ?_))
   | exact ih0 _ _ _ _ _ _ _ _ _
   | exact ih1 _
   | exact ih2 _ _ _ _ _ _ _ _ _
   | exact ih3 _
   | exact ih4 _ _ _ _ _ _ _ _
   | exact ih5 _ _ _ _ _ _
   | exact impl_IsValidCharge.mono _ _ _ _
   | exact impl_LongestStay.mono _ _ _ _ _ _
   | exact impl_RateOn.mono _ _ _ _ _
   | exact impl_SplitStay.mono _ _ _ _ _
   | exact impl_StayCharge.mono _ _ _ _ _ _
   | exact impl_StepOn.mono _ _ _ _ _
   | exact laws_rSum.mono _ _
   | exact spec_DrawLongestStay.mono _ _
   | exact spec_DrawRateOn.mono _ _
   | exact spec_DrawStayCharge.mono _ _
   | exact spec_LongestStay.mono _ _ _ _ _ _
   | exact spec_RateOn.mono _ _ _ _ _
   | exact spec_StayCharge.mono _ _ _ _ _ _
   | exact spec_StepOn.mono _ _ _ _ _
   | exact LeO.none _
   | refine LeO.ite ?_ ?_
   | refine LeO.bind ?_ (fun _ => ?_)
theorem laws_FnCharges.mono : ∀ a0 k,LeO (laws_FnCharges.f k a0) (laws_FnCharges.f (k + 1) a0):=by
 intro a0 k
 obtain ⟨ih0,ih1,ih2,ih3,ih4,ih5⟩ := laws_FnCharges.mono_l k
 unfold laws_FnCharges.f
 repeat' first
   | (with_reducible exact ih0 _ _ _ _ _ _ _ _ _)
   | (with_reducible exact ih1 _)
   | (with_reducible exact ih2 _ _ _ _ _ _ _ _ _)
   | (with_reducible exact ih3 _)
   | (with_reducible exact ih4 _ _ _ _ _ _ _ _)
   | (with_reducible exact ih5 _ _ _ _ _ _)
   | (with_reducible exact impl_IsValidCharge.mono _ _ _ _)
   | (with_reducible exact impl_LongestStay.mono _ _ _ _ _ _)
   | (with_reducible exact impl_RateOn.mono _ _ _ _ _)
   | (with_reducible exact impl_SplitStay.mono _ _ _ _ _)
   | (with_reducible exact impl_StayCharge.mono _ _ _ _ _ _)
   | (with_reducible exact impl_StepOn.mono _ _ _ _ _)
   | (with_reducible exact laws_rSum.mono _ _)
   | (with_reducible exact spec_DrawLongestStay.mono _ _)
   | (with_reducible exact spec_DrawRateOn.mono _ _)
   | (with_reducible exact spec_DrawStayCharge.mono _ _)
   | (with_reducible exact spec_LongestStay.mono _ _ _ _ _ _)
   | (with_reducible exact spec_RateOn.mono _ _ _ _ _)
   | (with_reducible exact spec_StayCharge.mono _ _ _ _ _ _)
   | (with_reducible exact spec_StepOn.mono _ _ _ _ _)
   | (with_reducible exact LeO.refl _)
   | (with_reducible exact LeO.none _)
   | (with_reducible refine LeO.ite ?_ ?_)
   | (with_reducible refine LeO.bind ?_ (fun _ => ?_))
   | exact ih0 _ _ _ _ _ _ _ _ _
   | exact ih1 _
   | exact ih2 _ _ _ _ _ _ _ _ _
   | exact ih3 _
   | exact ih4 _ _ _ _ _ _ _ _
   | exact ih5 _ _ _ _ _ _
   | exact impl_IsValidCharge.mono _ _ _ _
   | exact impl_LongestStay.mono _ _ _ _ _ _
   | exact impl_RateOn.mono _ _ _ _ _
   | exact impl_SplitStay.mono _ _ _ _ _
   | exact impl_StayCharge.mono _ _ _ _ _ _
   | exact impl_StepOn.mono _ _ _ _ _
   | exact laws_rSum.mono _ _
   | exact spec_DrawLongestStay.mono _ _
   | exact spec_DrawRateOn.mono _ _
   | exact spec_DrawStayCharge.mono _ _
   | exact spec_LongestStay.mono _ _ _ _ _ _
   | exact spec_RateOn.mono _ _ _ _ _
   | exact spec_StayCharge.mono _ _ _ _ _ _
   | exact spec_StepOn.mono _ _ _ _ _
   | exact LeO.none _
   | refine LeO.ite ?_ ?_
   | refine LeO.bind ?_ (fun _ => ?_)
end Go.Proofs.Ytafdafmoiocjgaa.PFnCharges
