-- Written by a program of this session, over the kit's print (wip/xprint.py)
import Derived.Test.YthbibjfnmljpkaaPFnTrainLoadingx0
import Derived.Test.YthbibjfnmljpkaaPFnTrainLoadingx3
import Derived.Test.YthbibjfnmljpkaaPFnTrainLoadingx6
import Derived.Test.YthbibjfnmljpkaaPFnTrainLoadingx9
import Derived.Test.YthbibjfnmljpkaaPFnTrainLoadingx10
import Derived.Test.YthbibjfnmljpkaaPFnTrainLoadingx11
import Derived.Test.YthbibjfnmljpkaaPFnTrainLoadingx12
import Derived.Test.YthbibjfnmljpkaaPFnTrainLoadingx13
import Derived.Test.YthbibjfnmljpkaaPFnTrainLoadingx14
namespace Go.Proofs.Ythbibjfnmljpkaa.PFnTrainLoading
open Go.RowKit Go.Proofs.YthbibjfnmljpkaaW.PrintWords Go.Proofs.YthbibjfnmljpkaaW.PrintLast Go.Proofs.YthbibjfnmljpkaaW.PrintMore
attribute [local go_sem] max2_int min2_int max_two min_two max_three min_three max_four min_four   -- for this text's walks alone
set_option linter.unusedVariables false
set_option linter.unusedSimpArgs false

/-! ### laws_FnTrainLoading: function 4 -/
mutual
def laws_FnTrainLoading.j0 : Nat → List Int → List (S54) → List (S64) → List Int → Bool → Bool → Option (Bool)
 | 0,_,_,_,_,_,_ => none
 | k + 1,x0,x3,x4,x5,x6,x60 => if x60 = true then (some false) else ((impl_MostContainers.f k x3 x4).bind fun bt642 => ((spec_MostContainers.f k x3 x4).bind fun bt644 => (if bt642.1 = bt644.1 then (laws_FnTrainLoading.j1 k x0 x3 x4 x5 x6 bt642.1 bt642.2 (bt642.2 != bt644.2)) else (laws_FnTrainLoading.j1 k x0 x3 x4 x5 x6 bt642.1 bt642.2 true))))
def laws_FnTrainLoading.j1 : Nat → List Int → List (S54) → List (S64) → List Int → Bool → Int → Bool → Bool → Option (Bool)
 | 0,_,_,_,_,_,_,_,_ => none
 | k + 1,x0,x3,x4,x5,x6,x9,x10,x80 => if x80 = true then (some false) else (if x6 = true then ((impl_LeftBehindContainers.f k x3 x4 x5).bind fun bt646 => (if bt646.2 = true then ((impl_IsValidLoading.f k x3 x4 x5).bind fun t650 => (if t650 = true then ((impl_IsValidTrain.f k x3).bind fun t651 => (if t651 = true then (if x10 = true then (if (wrap64 ((x4.length : Int) - (bt646.1.length : Int))) > x9 then (some false) else (laws_FnTrainLoading.j2 k x0)) else (laws_FnTrainLoading.j2 k x0)) else (some false))) else (some false))) else (some false))) else (laws_FnTrainLoading.j2 k x0))
def laws_FnTrainLoading.j2 : Nat → List Int → Option (Bool)
 | 0,_ => none
 | k + 1,x0 => (spec_DrawFreeLengths.f k x0).bind fun bt652 => ((impl_FreeLengths.f k bt652.1 bt652.2.1 bt652.2.2).bind fun bt661 => ((impl_WagonWeights.f k bt652.1 bt652.2.1 bt652.2.2).bind fun bt665 => ((impl_EmptyWagons.f k bt652.1 bt652.2.1 bt652.2.2).bind fun bt670 => ((spec_FreeLengths.f k bt652.1 bt652.2.1 bt652.2.2).bind fun bt674 => ((spec_WagonWeights.f k bt652.1 bt652.2.1 bt652.2.2).bind fun bt678 => ((spec_EmptyWagons.f k bt652.1 bt652.2.1 bt652.2.2).bind fun bt683 => (if (bt661.2 != bt674.2) = true then (laws_FnTrainLoading.j3 k bt652.1 bt661.1 bt665.1 bt665.2.1 bt670.1 true) else (if (bt665.2.2 != bt674.2) = true then (laws_FnTrainLoading.j3 k bt652.1 bt661.1 bt665.1 bt665.2.1 bt670.1 true) else (if (bt670.2 != bt674.2) = true then (laws_FnTrainLoading.j3 k bt652.1 bt661.1 bt665.1 bt665.2.1 bt670.1 true) else ((laws_rInts.f k bt661.1 bt674.1).bind fun t687 => (if t687 = true then ((laws_rInts.f k bt665.1 bt678.1).bind fun t688 => (if t688 = true then (if bt665.2.1 = bt678.2.1 then ((laws_rInts.f k bt670.1 bt683.1).bind fun t689 => (laws_FnTrainLoading.j3 k bt652.1 bt661.1 bt665.1 bt665.2.1 bt670.1 (!t689))) else (laws_FnTrainLoading.j3 k bt652.1 bt661.1 bt665.1 bt665.2.1 bt670.1 true)) else (laws_FnTrainLoading.j3 k bt652.1 bt661.1 bt665.1 bt665.2.1 bt670.1 true))) else (laws_FnTrainLoading.j3 k bt652.1 bt661.1 bt665.1 bt665.2.1 bt670.1 true))))))))))))
def laws_FnTrainLoading.j3 : Nat → List (S54) → List Int → List Int → Int → List Int → Bool → Option (Bool)
 | 0,_,_,_,_,_,_ => none
 | k + 1,x15,x18,x20,x21,x23,x200 => if x200 = true then (some false) else (laws_FnTrainLoading.l0 k x15 x18 x20 x21 x23 0)
def laws_FnTrainLoading.l0 : Nat → List (S54) → List Int → List Int → Int → List Int → Int → Option (Bool)
 | 0,_,_,_,_,_,_ => none
 | k + 1,x15,x18,x20,x21,x23,x32 => if x32 < (x18.length : Int) then (if 0 ≤ x32 then (if (rd x18 x32) < 0 then (some false) else (if x32 < (x20.length : Int) then (if x32 < (x15.length : Int) then (if (rd x20 x32) > ((rd_T54 x15 x32).f1) then (some false) else ((laws_rHas.f k x23 x32).bind fun t694 => (if (((rd x20 x32) == 0) != t694) = true then (some false) else (laws_FnTrainLoading.l0 k x15 x18 x20 x21 x23 (wrap64 (x32 + 1)))))) else (none)) else (none))) else (none)) else ((laws_rSum.f k x20).bind fun t695 => (some (t695 == x21)))
end
def laws_FnTrainLoading.f (k : Nat) (l0 : List Int) : Option (Bool):=(laws_rBig.f l0).bind fun t626 => (if t626 = true then (some true) else ((spec_DrawMostContainers.f k l0).bind fun bt627 => ((impl_LoadInOrder.f k bt627.1 bt627.2).bind fun bt633 => ((spec_LoadInOrder.f k bt627.1 bt627.2).bind fun bt637 => (if (bt633.2 != bt637.2) = true then (laws_FnTrainLoading.j0 k l0 bt627.1 bt627.2 bt633.1 bt633.2 true) else ((laws_rInts.f k bt633.1 bt637.1).bind fun t641 => (laws_FnTrainLoading.j0 k l0 bt627.1 bt627.2 bt633.1 bt633.2 (!t641))))))))
theorem laws_FnTrainLoading.mono_l : ∀ k,(∀ y0 y1 y2 y3 y4 y5,LeO (laws_FnTrainLoading.j0 k y0 y1 y2 y3 y4 y5) (laws_FnTrainLoading.j0 (k + 1) y0 y1 y2 y3 y4 y5)) ∧ (∀ y0 y1 y2 y3 y4 y5 y6 y7,LeO (laws_FnTrainLoading.j1 k y0 y1 y2 y3 y4 y5 y6 y7) (laws_FnTrainLoading.j1 (k + 1) y0 y1 y2 y3 y4 y5 y6 y7)) ∧ (∀ y0,LeO (laws_FnTrainLoading.j2 k y0) (laws_FnTrainLoading.j2 (k + 1) y0)) ∧ (∀ y0 y1 y2 y3 y4 y5,LeO (laws_FnTrainLoading.j3 k y0 y1 y2 y3 y4 y5) (laws_FnTrainLoading.j3 (k + 1) y0 y1 y2 y3 y4 y5)) ∧ (∀ y0 y1 y2 y3 y4 y5,LeO (laws_FnTrainLoading.l0 k y0 y1 y2 y3 y4 y5) (laws_FnTrainLoading.l0 (k + 1) y0 y1 y2 y3 y4 y5))
 | 0 => ⟨fun _ _ _ _ _ _ r h => by simp [laws_FnTrainLoading.j0] at h,fun _ _ _ _ _ _ _ _ r h => by simp [laws_FnTrainLoading.j1] at h,fun _ r h => by simp [laws_FnTrainLoading.j2] at h,fun _ _ _ _ _ _ r h => by simp [laws_FnTrainLoading.j3] at h,fun _ _ _ _ _ _ r h => by simp [laws_FnTrainLoading.l0] at h⟩
 | k + 1 => by
  obtain ⟨ih0,ih1,ih2,ih3,ih4⟩ := laws_FnTrainLoading.mono_l k;refine ⟨?_, ?_, ?_, ?_, ?_⟩
  ·intro y0 y1 y2 y3 y4 y5
   unfold laws_FnTrainLoading.j0
   repeat' first
   | (with_reducible exact ih0 _ _ _ _ _ _)
   | (with_reducible exact ih1 _ _ _ _ _ _ _ _)
   | (with_reducible exact ih2 _)
   | (with_reducible exact ih3 _ _ _ _ _ _)
   | (with_reducible exact ih4 _ _ _ _ _ _)
   | (with_reducible exact impl_EmptyWagons.mono _ _ _ _)
   | (with_reducible exact impl_FreeLengths.mono _ _ _ _)
   | (with_reducible exact impl_IsValidLoading.mono _ _ _ _)
   | (with_reducible exact impl_IsValidTrain.mono _ _)
   | (with_reducible exact impl_LeftBehindContainers.mono _ _ _ _)
   | (with_reducible exact impl_LoadInOrder.mono _ _ _)
   | (with_reducible exact impl_MostContainers.mono _ _ _)
   | (with_reducible exact impl_WagonWeights.mono _ _ _ _)
   | (with_reducible exact laws_rHas.mono _ _ _)
   | (with_reducible exact laws_rInts.mono _ _ _)
   | (with_reducible exact laws_rSum.mono _ _)
   | (with_reducible exact spec_DrawFreeLengths.mono _ _)
   | (with_reducible exact spec_DrawMostContainers.mono _ _)
   | (with_reducible exact spec_EmptyWagons.mono _ _ _ _)
   | (with_reducible exact spec_FreeLengths.mono _ _ _ _)
   | (with_reducible exact spec_LoadInOrder.mono _ _ _)
   | (with_reducible exact spec_MostContainers.mono _ _ _)
   | (with_reducible exact spec_WagonWeights.mono _ _ _ _)
   | (with_reducible exact LeO.refl _)
   | (with_reducible exact LeO.none _)
   | (with_reducible refine LeO.ite ?_ ?_)
   | (with_reducible refine LeO.bind ?_ (fun _ => ?_))
   | exact ih0 _ _ _ _ _ _
   | exact ih1 _ _ _ _ _ _ _ _
   | exact ih2 _
   | exact ih3 _ _ _ _ _ _
   | exact ih4 _ _ _ _ _ _
   | exact impl_EmptyWagons.mono _ _ _ _
   | exact impl_FreeLengths.mono _ _ _ _
   | exact impl_IsValidLoading.mono _ _ _ _
   | exact impl_IsValidTrain.mono _ _
   | exact impl_LeftBehindContainers.mono _ _ _ _
   | exact impl_LoadInOrder.mono _ _ _
   | exact impl_MostContainers.mono _ _ _
   | exact impl_WagonWeights.mono _ _ _ _
   | exact laws_rHas.mono _ _ _
   | exact laws_rInts.mono _ _ _
   | exact laws_rSum.mono _ _
   | exact spec_DrawFreeLengths.mono _ _
   | exact spec_DrawMostContainers.mono _ _
   | exact spec_EmptyWagons.mono _ _ _ _
   | exact spec_FreeLengths.mono _ _ _ _
   | exact spec_LoadInOrder.mono _ _ _
   | exact spec_MostContainers.mono _ _ _
   | exact spec_WagonWeights.mono _ _ _ _
   | exact LeO.none _
   | refine LeO.ite ?_ ?_
   | refine LeO.bind ?_ (fun _ => ?_)
  ·intro y0 y1 y2 y3 y4 y5 y6 y7
   unfold laws_FnTrainLoading.j1
   repeat' first
   | (with_reducible exact ih0 _ _ _ _ _ _)
   | (with_reducible exact ih1 _ _ _ _ _ _ _ _)
   | (with_reducible exact ih2 _)
   | (with_reducible exact ih3 _ _ _ _ _ _)
   | (with_reducible exact ih4 _ _ _ _ _ _)
   | (with_reducible exact impl_EmptyWagons.mono _ _ _ _)
   | (with_reducible exact impl_FreeLengths.mono _ _ _ _)
   | (with_reducible exact impl_IsValidLoading.mono _ _ _ _)
   | (with_reducible exact impl_IsValidTrain.mono _ _)
   | (with_reducible exact impl_LeftBehindContainers.mono _ _ _ _)
   | (with_reducible exact impl_LoadInOrder.mono _ _ _)
   | (with_reducible exact impl_MostContainers.mono _ _ _)
   | (with_reducible exact impl_WagonWeights.mono _ _ _ _)
   | (with_reducible exact laws_rHas.mono _ _ _)
   | (with_reducible exact laws_rInts.mono _ _ _)
   | (with_reducible exact laws_rSum.mono _ _)
   | (with_reducible exact spec_DrawFreeLengths.mono _ _)
   | (with_reducible exact spec_DrawMostContainers.mono _ _)
   | (with_reducible exact spec_EmptyWagons.mono _ _ _ _)
   | (with_reducible exact spec_FreeLengths.mono _ _ _ _)
   | (with_reducible exact spec_LoadInOrder.mono _ _ _)
   | (with_reducible exact spec_MostContainers.mono _ _ _)
   | (with_reducible exact spec_WagonWeights.mono _ _ _ _)
   | (with_reducible exact LeO.refl _)
   | (with_reducible exact LeO.none _)
   | (with_reducible refine LeO.ite ?_ ?_)
   | (with_reducible refine LeO.bind ?_ (fun _ => ?_))
   | exact ih0 _ _ _ _ _ _
   | exact ih1 _ _ _ _ _ _ _ _
   | exact ih2 _
   | exact ih3 _ _ _ _ _ _
   | exact ih4 _ _ _ _ _ _
   | exact impl_EmptyWagons.mono _ _ _ _
   | exact impl_FreeLengths.mono _ _ _ _
   | exact impl_IsValidLoading.mono _ _ _ _
   | exact impl_IsValidTrain.mono _ _
   | exact impl_LeftBehindContainers.mono _ _ _ _
   | exact impl_LoadInOrder.mono _ _ _
   | exact impl_MostContainers.mono _ _ _
   | exact impl_WagonWeights.mono _ _ _ _
   | exact laws_rHas.mono _ _ _
   | exact laws_rInts.mono _ _ _
   | exact laws_rSum.mono _ _
   | exact spec_DrawFreeLengths.mono _ _
   | exact spec_DrawMostContainers.mono _ _
   | exact spec_EmptyWagons.mono _ _ _ _
   | exact spec_FreeLengths.mono _ _ _ _
   | exact spec_LoadInOrder.mono _ _ _
   | exact spec_MostContainers.mono _ _ _
   | exact spec_WagonWeights.mono _ _ _ _
   | exact LeO.none _
   | refine LeO.ite ?_ ?_
   | refine LeO.bind ?_ (fun _ => ?_)
  ·intro y0
   unfold laws_FnTrainLoading.j2
   repeat' first
   | (with_reducible exact ih0 _ _ _ _ _ _)
   | (with_reducible exact ih1 _ _ _ _ _ _ _ _)
   | (with_reducible exact ih2 _)
   | (with_reducible exact ih3 _ _ _ _ _ _)
   | (with_reducible exact ih4 _ _ _ _ _ _)
   | (with_reducible exact impl_EmptyWagons.mono _ _ _ _)
   | (with_reducible exact impl_FreeLengths.mono _ _ _ _)
   | (with_reducible exact impl_IsValidLoading.mono _ _ _ _)
   | (with_reducible exact impl_IsValidTrain.mono _ _)
   | (with_reducible exact impl_LeftBehindContainers.mono _ _ _ _)
   | (with_reducible exact impl_LoadInOrder.mono _ _ _)
   | (with_reducible exact impl_MostContainers.mono _ _ _)
   | (with_reducible exact impl_WagonWeights.mono _ _ _ _)
   | (with_reducible exact laws_rHas.mono _ _ _)
   | (with_reducible exact laws_rInts.mono _ _ _)
   | (with_reducible exact laws_rSum.mono _ _)
   | (with_reducible exact spec_DrawFreeLengths.mono _ _)
   | (with_reducible exact spec_DrawMostContainers.mono _ _)
   | (with_reducible exact spec_EmptyWagons.mono _ _ _ _)
   | (with_reducible exact spec_FreeLengths.mono _ _ _ _)
   | (with_reducible exact spec_LoadInOrder.mono _ _ _)
   | (with_reducible exact spec_MostContainers.mono _ _ _)
   | (with_reducible exact spec_WagonWeights.mono _ _ _ _)
   | (with_reducible exact LeO.refl _)
   | (with_reducible exact LeO.none _)
   | (with_reducible refine LeO.ite ?_ ?_)
   | (with_reducible refine LeO.bind ?_ (fun _ => ?_))
   | exact ih0 _ _ _ _ _ _
   | exact ih1 _ _ _ _ _ _ _ _
   | exact ih2 _
   | exact ih3 _ _ _ _ _ _
   | exact ih4 _ _ _ _ _ _
   | exact impl_EmptyWagons.mono _ _ _ _
   | exact impl_FreeLengths.mono _ _ _ _
   | exact impl_IsValidLoading.mono _ _ _ _
   | exact impl_IsValidTrain.mono _ _
   | exact impl_LeftBehindContainers.mono _ _ _ _
   | exact impl_LoadInOrder.mono _ _ _
   | exact impl_MostContainers.mono _ _ _
   | exact impl_WagonWeights.mono _ _ _ _
   | exact laws_rHas.mono _ _ _
   | exact laws_rInts.mono _ _ _
   | exact laws_rSum.mono _ _
   | exact spec_DrawFreeLengths.mono _ _
   | exact spec_DrawMostContainers.mono _ _
   | exact spec_EmptyWagons.mono _ _ _ _
   | exact spec_FreeLengths.mono _ _ _ _
   | exact spec_LoadInOrder.mono _ _ _
   | exact spec_MostContainers.mono _ _ _
   | exact spec_WagonWeights.mono _ _ _ _
   | exact LeO.none _
   | refine LeO.ite ?_ ?_
   | refine LeO.bind ?_ (fun _ => ?_)
  ·intro y0 y1 y2 y3 y4 y5
   unfold laws_FnTrainLoading.j3
   repeat' first
   | (with_reducible exact ih0 _ _ _ _ _ _)
   | (with_reducible exact ih1 _ _ _ _ _ _ _ _)
   | (with_reducible exact ih2 _)
   | (with_reducible exact ih3 _ _ _ _ _ _)
   | (with_reducible exact ih4 _ _ _ _ _ _)
   | (with_reducible exact impl_EmptyWagons.mono _ _ _ _)
   | (with_reducible exact impl_FreeLengths.mono _ _ _ _)
   | (with_reducible exact impl_IsValidLoading.mono _ _ _ _)
   | (with_reducible exact impl_IsValidTrain.mono _ _)
   | (with_reducible exact impl_LeftBehindContainers.mono _ _ _ _)
   | (with_reducible exact impl_LoadInOrder.mono _ _ _)
   | (with_reducible exact impl_MostContainers.mono _ _ _)
   | (with_reducible exact impl_WagonWeights.mono _ _ _ _)
   | (with_reducible exact laws_rHas.mono _ _ _)
   | (with_reducible exact laws_rInts.mono _ _ _)
   | (with_reducible exact laws_rSum.mono _ _)
   | (with_reducible exact spec_DrawFreeLengths.mono _ _)
   | (with_reducible exact spec_DrawMostContainers.mono _ _)
   | (with_reducible exact spec_EmptyWagons.mono _ _ _ _)
   | (with_reducible exact spec_FreeLengths.mono _ _ _ _)
   | (with_reducible exact spec_LoadInOrder.mono _ _ _)
   | (with_reducible exact spec_MostContainers.mono _ _ _)
   | (with_reducible exact spec_WagonWeights.mono _ _ _ _)
   | (with_reducible exact LeO.refl _)
   | (with_reducible exact LeO.none _)
   | (with_reducible refine LeO.ite ?_ ?_)
   | (with_reducible refine LeO.bind ?_ (fun _ => ?_))
   | exact ih0 _ _ _ _ _ _
   | exact ih1 _ _ _ _ _ _ _ _
   | exact ih2 _
   | exact ih3 _ _ _ _ _ _
   | exact ih4 _ _ _ _ _ _
   | exact impl_EmptyWagons.mono _ _ _ _
   | exact impl_FreeLengths.mono _ _ _ _
   | exact impl_IsValidLoading.mono _ _ _ _
   | exact impl_IsValidTrain.mono _ _
   | exact impl_LeftBehindContainers.mono _ _ _ _
   | exact impl_LoadInOrder.mono _ _ _
   | exact impl_MostContainers.mono _ _ _
   | exact impl_WagonWeights.mono _ _ _ _
   | exact laws_rHas.mono _ _ _
   | exact laws_rInts.mono _ _ _
   | exact laws_rSum.mono _ _
   | exact spec_DrawFreeLengths.mono _ _
   | exact spec_DrawMostContainers.mono _ _
   | exact spec_EmptyWagons.mono _ _ _ _
   | exact spec_FreeLengths.mono _ _ _ _
   | exact spec_LoadInOrder.mono _ _ _
   | exact spec_MostContainers.mono _ _ _
   | exact spec_WagonWeights.mono _ _ _ _
   | exact LeO.none _
   | refine LeO.ite ?_ ?_
   | refine LeO.bind ?_ (fun _ => ?_)
  ·intro y0 y1 y2 y3 y4 y5
   unfold laws_FnTrainLoading.l0
   repeat' first
   | (with_reducible exact ih0 _ _ _ _ _ _)
   | (with_reducible exact ih1 _ _ _ _ _ _ _ _)
   | (with_reducible exact ih2 _)
   | (with_reducible exact ih3 _ _ _ _ _ _)
   | (with_reducible exact ih4 _ _ _ _ _ _)
   | (with_reducible exact impl_EmptyWagons.mono _ _ _ _)
   | (with_reducible exact impl_FreeLengths.mono _ _ _ _)
   | (with_reducible exact impl_IsValidLoading.mono _ _ _ _)
   | (with_reducible exact impl_IsValidTrain.mono _ _)
   | (with_reducible exact impl_LeftBehindContainers.mono _ _ _ _)
   | (with_reducible exact impl_LoadInOrder.mono _ _ _)
   | (with_reducible exact impl_MostContainers.mono _ _ _)
   | (with_reducible exact impl_WagonWeights.mono _ _ _ _)
   | (with_reducible exact laws_rHas.mono _ _ _)
   | (with_reducible exact laws_rInts.mono _ _ _)
   | (with_reducible exact laws_rSum.mono _ _)
   | (with_reducible exact spec_DrawFreeLengths.mono _ _)
   | (with_reducible exact spec_DrawMostContainers.mono _ _)
   | (with_reducible exact spec_EmptyWagons.mono _ _ _ _)
   | (with_reducible exact spec_FreeLengths.mono _ _ _ _)
   | (with_reducible exact spec_LoadInOrder.mono _ _ _)
   | (with_reducible exact spec_MostContainers.mono _ _ _)
   | (with_reducible exact spec_WagonWeights.mono _ _ _ _)
   | (with_reducible exact LeO.refl _)
   | (with_reducible exact LeO.none _)
   | (with_reducible refine LeO.ite ?_ ?_)
   | (with_reducible refine LeO.bind ?_ (fun _ => ?_))
   | exact ih0 _ _ _ _ _ _
   | exact ih1 _ _ _ _ _ _ _ _
   | exact ih2 _
   | exact ih3 _ _ _ _ _ _
   | exact ih4 _ _ _ _ _ _
   | exact impl_EmptyWagons.mono _ _ _ _
   | exact impl_FreeLengths.mono _ _ _ _
   | exact impl_IsValidLoading.mono _ _ _ _
   | exact impl_IsValidTrain.mono _ _
   | exact impl_LeftBehindContainers.mono _ _ _ _
   | exact impl_LoadInOrder.mono _ _ _
   | exact impl_MostContainers.mono _ _ _
   | exact impl_WagonWeights.mono _ _ _ _
   | exact laws_rHas.mono _ _ _
   | exact laws_rInts.mono _ _ _
   | exact laws_rSum.mono _ _
   | exact spec_DrawFreeLengths.mono _ _
   | exact spec_DrawMostContainers.mono _ _
   | exact spec_EmptyWagons.mono _ _ _ _
   | exact spec_FreeLengths.mono _ _ _ _
   | exact spec_LoadInOrder.mono _ _ _
   | exact spec_MostContainers.mono _ _ _
   | exact spec_WagonWeights.mono _ _ _ _
   | exact LeO.none _
   | refine LeO.ite ?_ ?_
   | refine LeO.bind ?_ (fun _ => ?_)
theorem laws_FnTrainLoading.mono : ∀ a0 k,LeO (laws_FnTrainLoading.f k a0) (laws_FnTrainLoading.f (k + 1) a0):=by
 intro a0 k;obtain ⟨ih0,ih1,ih2,ih3,ih4⟩ := laws_FnTrainLoading.mono_l k
 unfold laws_FnTrainLoading.f
 repeat' first
   | (with_reducible exact ih0 _ _ _ _ _ _)
   | (with_reducible exact ih1 _ _ _ _ _ _ _ _)
   | (with_reducible exact ih2 _)
   | (with_reducible exact ih3 _ _ _ _ _ _)
   | (with_reducible exact ih4 _ _ _ _ _ _)
   | (with_reducible exact impl_EmptyWagons.mono _ _ _ _)
   | (with_reducible exact impl_FreeLengths.mono _ _ _ _)
   | (with_reducible exact impl_IsValidLoading.mono _ _ _ _)
   | (with_reducible exact impl_IsValidTrain.mono _ _)
   | (with_reducible exact impl_LeftBehindContainers.mono _ _ _ _)
   | (with_reducible exact impl_LoadInOrder.mono _ _ _)
   | (with_reducible exact impl_MostContainers.mono _ _ _)
   | (with_reducible exact impl_WagonWeights.mono _ _ _ _)
   | (with_reducible exact laws_rHas.mono _ _ _)
   | (with_reducible exact laws_rInts.mono _ _ _)
   | (with_reducible exact laws_rSum.mono _ _)
   | (with_reducible exact spec_DrawFreeLengths.mono _ _)
   | (with_reducible exact spec_DrawMostContainers.mono _ _)
   | (with_reducible exact spec_EmptyWagons.mono _ _ _ _)
   | (with_reducible exact spec_FreeLengths.mono _ _ _ _)
   | (with_reducible exact spec_LoadInOrder.mono _ _ _)
   | (with_reducible exact spec_MostContainers.mono _ _ _)
   | (with_reducible exact spec_WagonWeights.mono _ _ _ _)
   | (with_reducible exact LeO.refl _)
   | (with_reducible exact LeO.none _)
   | (with_reducible refine LeO.ite ?_ ?_)
   | (with_reducible refine LeO.bind ?_ (fun _ => ?_))
   | exact ih0 _ _ _ _ _ _
   | exact ih1 _ _ _ _ _ _ _ _
   | exact ih2 _
   | exact ih3 _ _ _ _ _ _
   | exact ih4 _ _ _ _ _ _
   | exact impl_EmptyWagons.mono _ _ _ _
   | exact impl_FreeLengths.mono _ _ _ _
   | exact impl_IsValidLoading.mono _ _ _ _
   | exact impl_IsValidTrain.mono _ _
   | exact impl_LeftBehindContainers.mono _ _ _ _
   | exact impl_LoadInOrder.mono _ _ _
   | exact impl_MostContainers.mono _ _ _
   | exact impl_WagonWeights.mono _ _ _ _
   | exact laws_rHas.mono _ _ _
   | exact laws_rInts.mono _ _ _
   | exact laws_rSum.mono _ _
   | exact spec_DrawFreeLengths.mono _ _
   | exact spec_DrawMostContainers.mono _ _
   | exact spec_EmptyWagons.mono _ _ _ _
   | exact spec_FreeLengths.mono _ _ _ _
   | exact spec_LoadInOrder.mono _ _ _
   | exact spec_MostContainers.mono _ _ _
   | exact spec_WagonWeights.mono _ _ _ _
   | exact LeO.none _
   | refine LeO.ite ?_ ?_
   | refine LeO.bind ?_ (fun _ => ?_)
set_option maxHeartbeats 8000000 in
set_option maxRecDepth 100000 in
theorem laws_FnTrainLoading.calls (k : Nat) (A0 : Option Addr) (c0 : Nat) (l0 : List Int) (r : Bool) (w : World) (hr0 : Kd.C (Kd.int .u8) w A0 l0.length l0) (hc0 : l0.length ≤ c0) (h : laws_FnTrainLoading.f k l0 = some r) :
  Calls Try.prog 4 #[.slice A0 l0.length c0] w fun e w' => e = .returned (.bool r) ∧ Below w.heap.size w w':=by
 have HR0:=am_ hr0;have HC0:=am_ hc0;clear hr0 hc0;have HB:=am_ (Below.refl w.heap.size w);have H : ((laws_rBig.f l0).bind fun t626 => (if t626 = true then (some true) else ((spec_DrawMostContainers.f k l0).bind fun bt627 => ((impl_LoadInOrder.f k bt627.1 bt627.2).bind fun bt633 => ((spec_LoadInOrder.f k bt627.1 bt627.2).bind fun bt637 => (if (bt633.2 != bt637.2) = true then (laws_FnTrainLoading.j0 k l0 bt627.1 bt627.2 bt633.1 bt633.2 true) else ((laws_rInts.f k bt633.1 bt637.1).bind fun t641 => (laws_FnTrainLoading.j0 k l0 bt627.1 bt627.2 bt633.1 bt633.2 (!t641))))))))) = some r:=h;clear h;replace H:=Option.bind_eq_some_iff.mp H;obtain ⟨t626,A20,H⟩ := H;replace H : (if t626 = true then (some true) else ((spec_DrawMostContainers.f k l0).bind fun bt627 => ((impl_LoadInOrder.f k bt627.1 bt627.2).bind fun bt633 => ((spec_LoadInOrder.f k bt627.1 bt627.2).bind fun bt637 => (if (bt633.2 != bt637.2) = true then (laws_FnTrainLoading.j0 k l0 bt627.1 bt627.2 bt633.1 bt633.2 true) else ((laws_rInts.f k bt633.1 bt637.1).bind fun t641 => (laws_FnTrainLoading.j0 k l0 bt627.1 bt627.2 bt633.1 bt633.2 (!t641)))))))) = some r:=H;have A2:=am_ A20;clear A20
 by_cases c3 : t626 = true
 ·subst c3
  have H1 : (some true) = some r:=by rw [if_pos rfl] at H;exact H
  clear H;have H:=H1;clear H1;obtain rfl:=Option.some.inj H
  go_enter Try.func4,Try.ntmps4
  as_aux_lemma =>
   go_wp2_with ((go_at_call 13;(with_reducible refine (laws_rBig.calls _ _ l0 true _ ?side1 ?side2 A2.out).mono ?_);(case side1 => repeat (exact HR0.out));(case side2 => exact HC0.out);rintro e w' ⟨rfl,⟨nd,rfl⟩⟩;(try first | exact ⟨rfl,_,World.drewN_drewN _ _ _⟩ | exact ⟨rfl,_,Eq.trans (World.drewN_drewN _ _ _) (congrArg (World.drewN _) (Nat.add_assoc _ _ _))⟩)))
   repeat (go_quiet (fail);try go_wp2_with (fail))
   go_ret
   exact ⟨by rfl,by repeat ((with_reducible first | exact HB.out | apply pw_below_drewN))⟩
 ·replace c3:=Bool.eq_false_iff.mpr c3;subst c3
  have H1 : ((spec_DrawMostContainers.f k l0).bind fun bt627 => ((impl_LoadInOrder.f k bt627.1 bt627.2).bind fun bt633 => ((spec_LoadInOrder.f k bt627.1 bt627.2).bind fun bt637 => (if (bt633.2 != bt637.2) = true then (laws_FnTrainLoading.j0 k l0 bt627.1 bt627.2 bt633.1 bt633.2 true) else ((laws_rInts.f k bt633.1 bt637.1).bind fun t641 => (laws_FnTrainLoading.j0 k l0 bt627.1 bt627.2 bt633.1 bt633.2 (!t641))))))) = some r:=by rw [if_neg (show ¬ (false = true) by decide)] at H;exact H
  clear H;have H:=H1;clear H1;replace H:=Option.bind_eq_some_iff.mp H;obtain ⟨⟨t627,t628⟩,A40,H⟩ := H;replace H : ((impl_LoadInOrder.f k t627 t628).bind fun bt633 => ((spec_LoadInOrder.f k t627 t628).bind fun bt637 => (if (bt633.2 != bt637.2) = true then (laws_FnTrainLoading.j0 k l0 t627 t628 bt633.1 bt633.2 true) else ((laws_rInts.f k bt633.1 bt637.1).bind fun t641 => (laws_FnTrainLoading.j0 k l0 t627 t628 bt633.1 bt633.2 (!t641)))))) = some r:=H;have A4:=am_ A40;clear A40;replace H:=Option.bind_eq_some_iff.mp H;obtain ⟨⟨t633,t634⟩,A50,H⟩ := H;replace H : ((spec_LoadInOrder.f k t627 t628).bind fun bt637 => (if (t634 != bt637.2) = true then (laws_FnTrainLoading.j0 k l0 t627 t628 t633 t634 true) else ((laws_rInts.f k t633 bt637.1).bind fun t641 => (laws_FnTrainLoading.j0 k l0 t627 t628 t633 t634 (!t641))))) = some r:=H;have A5:=am_ A50;clear A50;replace H:=Option.bind_eq_some_iff.mp H;obtain ⟨⟨t637,t638⟩,A60,H⟩ := H;replace H : (if (t634 != t638) = true then (laws_FnTrainLoading.j0 k l0 t627 t628 t633 t634 true) else ((laws_rInts.f k t633 t637).bind fun t641 => (laws_FnTrainLoading.j0 k l0 t627 t628 t633 t634 (!t641)))) = some r:=H;have A6:=am_ A60;clear A60;have HC7:=am_ H;clear H
  go_enter Try.func4,Try.ntmps4
  go_upto_region 6 with (first | (go_at_call 13;(with_reducible refine (laws_rBig.calls _ _ l0 false _ ?side1 ?side2 A2.out).mono ?_);(case side1 => repeat (exact HR0.out));(case side2 => exact HC0.out);rintro e w' ⟨rfl,⟨nd,rfl⟩⟩;(try first | exact ⟨rfl,_,World.drewN_drewN _ _ _⟩ | exact ⟨rfl,_,Eq.trans (World.drewN_drewN _ _ _) (congrArg (World.drewN _) (Nat.add_assoc _ _ _))⟩)) | (go_at_call 14;(with_reducible refine (spec_DrawMostContainers.calls k _ _ l0 t627 t628 _ ?side1 ?side2 A4.out).mono ?_);(case side1 => repeat (exact HR0.out));(case side2 => exact HC0.out);rintro e w8 ⟨v629,v631,rfl,ho0,ho1,hb⟩;have n0_:=am_ (Kd.R_lower ho0 (below_size (by repeat ((with_reducible first | exact HB.out | apply pw_below_drewN)))));have n1_:=am_ (Kd.R_lower ho1 (below_size (by repeat ((with_reducible first | exact HB.out | apply pw_below_drewN)))));have n2_:=am_ (below_step (by repeat ((with_reducible first | exact HB.out | apply pw_below_drewN))) hb);clear HB;have HO630:=n0_;have HO632:=n1_;have HB:=n2_;clear n0_ n1_ n2_;(try clear hb);(try clear ho0);(try clear ho1);obtain ⟨Ao9,co9,eo9⟩ := Kd.R_slice HO630.out;subst eo9;obtain ⟨Ao10,co10,eo10⟩ := Kd.R_slice HO632.out;subst eo10) | (go_at_call 15;(with_reducible refine (impl_LoadInOrder.calls k _ _ t627 _ _ t628 t633 t634 _ ?side1 ?side2 ?side3 ?side4 A5.out).mono ?_);(case side1 => repeat (exact (Kd.R_reads' HO630.out).2.2));(case side2 => exact (Kd.R_reads' HO630.out).2.1);(case side3 => repeat (exact (Kd.R_reads' HO632.out).2.2));(case side4 => exact (Kd.R_reads' HO632.out).2.1);rintro e w11 ⟨v635,rfl,ho0,hb⟩;have n0_:=am_ (Kd.R_below (by exact HO630.out) hb);have n1_:=am_ (Kd.R_below (by exact HO632.out) hb);have n2_:=am_ (Kd.R_lower ho0 (below_size (by exact HB.out)));have n3_:=am_ (below_step (by exact HB.out) hb);clear HO630;clear HO632;clear HB;have HO630:=n0_;have HO632:=n1_;have HO636:=n2_;have HB:=n3_;clear n0_ n1_ n2_ n3_;(try clear hb);(try clear ho0)) | (go_at_call 16;(with_reducible refine (spec_LoadInOrder.calls k _ _ t627 _ _ t628 t637 t638 _ ?side1 ?side2 ?side3 ?side4 A6.out).mono ?_);(case side1 => repeat (exact (Kd.R_reads' HO630.out).2.2));(case side2 => exact (Kd.R_reads' HO630.out).2.1);(case side3 => repeat (exact (Kd.R_reads' HO632.out).2.2));(case side4 => exact (Kd.R_reads' HO632.out).2.1);rintro e w12 ⟨v639,rfl,ho0,hb⟩;have n0_:=am_ (Kd.R_below (by exact HO630.out) hb);have n1_:=am_ (Kd.R_below (by exact HO632.out) hb);have n2_:=am_ (Kd.R_elder' (by exact HO636.out) (Kd.R_base ho0) hb);have n3_:=am_ (Kd.R_lower (Kd.R_new' ho0 (Kd.R_lt (by exact HO636.out))) (below_size (by exact HB.out)));have n4_:=am_ (below_step (by exact HB.out) hb);clear HO630;clear HO632;clear HO636;clear HB;have HO630:=n0_;have HO632:=n1_;have HO636:=n2_;have HO640:=n3_;have HB:=n4_;clear n0_ n1_ n2_ n3_ n4_;(try clear hb);(try clear ho0)))
  repeat (go_quiet (fail);go_upto_region 6 with (first | (go_at_call 13;(with_reducible refine (laws_rBig.calls _ _ l0 false _ ?side1 ?side2 A2.out).mono ?_);(case side1 => repeat (first | exact HR0.out | (with_reducible refine Kd.C_alloc ?_ _) | (with_reducible refine Kd.C_drewN ?_ _) | (with_reducible refine Kd.C_drew ?_)));(case side2 => exact HC0.out);rintro e w' ⟨rfl,⟨nd,rfl⟩⟩;(try first | exact ⟨rfl,_,World.drewN_drewN _ _ _⟩ | exact ⟨rfl,_,Eq.trans (World.drewN_drewN _ _ _) (congrArg (World.drewN _) (Nat.add_assoc _ _ _))⟩)) | (go_at_call 14;(with_reducible refine (spec_DrawMostContainers.calls k _ _ l0 t627 t628 _ ?side1 ?side2 A4.out).mono ?_);(case side1 => repeat (first | exact HR0.out | (with_reducible refine Kd.C_alloc ?_ _) | (with_reducible refine Kd.C_drewN ?_ _) | (with_reducible refine Kd.C_drew ?_)));(case side2 => exact HC0.out);rintro e w8 ⟨v629,v631,rfl,ho0,ho1,hb⟩;have n0_:=am_ (Kd.R_lower ho0 (below_size (by repeat (first | (with_reducible first | exact HB.out | apply below_alloc | apply pw_below_drewN | apply below_drew1) | exact HB.out))));have n1_:=am_ (Kd.R_lower ho1 (below_size (by repeat (first | (with_reducible first | exact HB.out | apply below_alloc | apply pw_below_drewN | apply below_drew1) | exact HB.out))));have n2_:=am_ (below_step (by repeat (first | (with_reducible first | exact HB.out | apply below_alloc | apply pw_below_drewN | apply below_drew1) | exact HB.out)) hb);clear HB;have HO630:=n0_;have HO632:=n1_;have HB:=n2_;clear n0_ n1_ n2_;(try clear hb);(try clear hb2);(try clear hk);(try clear hi);(try clear ho0);(try clear ho1);obtain ⟨Ao9,co9,eo9⟩ := Kd.R_slice HO630.out;subst eo9;obtain ⟨Ao10,co10,eo10⟩ := Kd.R_slice HO632.out;subst eo10) | (go_at_call 15;(with_reducible refine (impl_LoadInOrder.calls k _ _ t627 _ _ t628 t633 t634 _ ?side1 ?side2 ?side3 ?side4 A5.out).mono ?_);(case side1 => repeat (first | exact (Kd.R_reads' HO630.out).2.2 | (with_reducible refine Kd.C_alloc ?_ _) | (with_reducible refine Kd.C_drewN ?_ _) | (with_reducible refine Kd.C_drew ?_)));(case side2 => exact (Kd.R_reads' HO630.out).2.1);(case side3 => repeat (first | exact (Kd.R_reads' HO632.out).2.2 | (with_reducible refine Kd.C_alloc ?_ _) | (with_reducible refine Kd.C_drewN ?_ _) | (with_reducible refine Kd.C_drew ?_)));(case side4 => exact (Kd.R_reads' HO632.out).2.1);rintro e w11 ⟨v635,rfl,ho0,hb⟩;have n0_:=am_ (Kd.R_below (by (with_reducible repeat (first | apply Kd.R_alloc | apply Kd.R_drewN | apply Kd.R_drew));exact HO630.out) hb);have n1_:=am_ (Kd.R_below (by (with_reducible repeat (first | apply Kd.R_alloc | apply Kd.R_drewN | apply Kd.R_drew));exact HO632.out) hb);have n2_:=am_ (Kd.R_lower ho0 (below_size (by repeat (first | (with_reducible first | exact HB.out | apply below_alloc | apply pw_below_drewN | apply below_drew1) | exact HB.out))));have n3_:=am_ (below_step (by repeat (first | (with_reducible first | exact HB.out | apply below_alloc | apply pw_below_drewN | apply below_drew1) | exact HB.out)) hb);clear HO630;clear HO632;clear HB;have HO630:=n0_;have HO632:=n1_;have HO636:=n2_;have HB:=n3_;clear n0_ n1_ n2_ n3_;(try clear hb);(try clear hb2);(try clear hk);(try clear hi);(try clear ho0)) | (go_at_call 16;(with_reducible refine (spec_LoadInOrder.calls k _ _ t627 _ _ t628 t637 t638 _ ?side1 ?side2 ?side3 ?side4 A6.out).mono ?_);(case side1 => repeat (first | exact (Kd.R_reads' HO630.out).2.2 | (with_reducible refine Kd.C_alloc ?_ _) | (with_reducible refine Kd.C_drewN ?_ _) | (with_reducible refine Kd.C_drew ?_)));(case side2 => exact (Kd.R_reads' HO630.out).2.1);(case side3 => repeat (first | exact (Kd.R_reads' HO632.out).2.2 | (with_reducible refine Kd.C_alloc ?_ _) | (with_reducible refine Kd.C_drewN ?_ _) | (with_reducible refine Kd.C_drew ?_)));(case side4 => exact (Kd.R_reads' HO632.out).2.1);rintro e w12 ⟨v639,rfl,ho0,hb⟩;have n0_:=am_ (Kd.R_below (by (with_reducible repeat (first | apply Kd.R_alloc | apply Kd.R_drewN | apply Kd.R_drew));exact HO630.out) hb);have n1_:=am_ (Kd.R_below (by (with_reducible repeat (first | apply Kd.R_alloc | apply Kd.R_drewN | apply Kd.R_drew));exact HO632.out) hb);have n2_:=am_ (Kd.R_elder' (by (with_reducible repeat (first | apply Kd.R_alloc | apply Kd.R_drewN | apply Kd.R_drew));exact HO636.out) (Kd.R_base ho0) hb);have n3_:=am_ (Kd.R_lower (Kd.R_new' ho0 (Kd.R_lt (by (with_reducible repeat (first | apply Kd.R_alloc | apply Kd.R_drewN | apply Kd.R_drew));exact HO636.out))) (below_size (by repeat (first | (with_reducible first | exact HB.out | apply below_alloc | apply pw_below_drewN | apply below_drew1) | exact HB.out))));have n4_:=am_ (below_step (by repeat (first | (with_reducible first | exact HB.out | apply below_alloc | apply pw_below_drewN | apply below_drew1) | exact HB.out)) hb);clear HO630;clear HO632;clear HO636;clear HB;have HO630:=n0_;have HO632:=n1_;have HO636:=n2_;have HO640:=n3_;have HB:=n4_;clear n0_ n1_ n2_ n3_ n4_;(try clear hb);(try clear hb2);(try clear hk);(try clear hi);(try clear ho0))))
  (skip)
  go_cut [60] (fun v60 wc => ∃ (kq : Nat) (x60_6 : Bool),v60 = .bool x60_6 ∧ Aside0 (laws_FnTrainLoading.j0 kq l0 t627 t628 t633 t634 x60_6 = some r) ∧ Aside0 (kq ≤ k) ∧ Aside0 (Kd.R k54 54 wc w.heap.size (fun _ => True) (.slice Ao9 t627.length co9) t627) ∧ Aside0 (Kd.R k64 64 wc w.heap.size (fun _ => True) (.slice Ao10 t628.length co10) t628) ∧ Aside0 (Kd.R (Kd.int .i64) 3 wc w.heap.size (fun _ => True) v635 t633) ∧ Aside0 (Below w.heap.size w wc))
  case first =>
   have H:=HC7.out;clear HC7
   by_cases c13 : (t634 != t638) = true
   ·rw [if_pos c13] at H;have c13b0 : (t634 != t638) = true:=c13;(try (have c13b1 : decide (t634 = t638) = false:=by simpa using c13));(try (have c13b2 : (t634 == t638) = false:=by simpa using c13));(try (have c13b3 : ¬ (t634 = t638):=by simpa using c13));clear c13
    (skip)
    have H':=am_ H;clear H
    go_wp2
    repeat (go_quiet (fail);try go_wp2)
    go_meet
    case rel => exact ⟨_,(true),(by rfl),H',⟨by omega⟩,⟨by exact HO630.out⟩,⟨by exact HO632.out⟩,⟨by exact Kd.R_mono HO636.out (fun _ hk => trivial)⟩,⟨by exact HB.out⟩⟩
   ·rw [if_neg c13] at H
    have c13b0 : (t634 != t638) = false:=by simpa using c13
    (try (have c13b1 : decide (t634 = t638) = true:=by simpa using c13));(try (have c13b2 : (t634 == t638) = true:=by simpa using c13));clear c13
    (skip)
    replace H:=Option.bind_eq_some_iff.mp H;obtain ⟨t641,A140,H⟩ := H;replace H : (laws_FnTrainLoading.j0 k l0 t627 t628 t633 t634 (!t641)) = some r:=H;have A14:=am_ A140;clear A140;have H':=am_ H;clear H;obtain ⟨Ao15,co15,eo15⟩ := Kd.R_slice HO636.out;subst eo15;obtain ⟨Ao16,co16,eo16⟩ := Kd.R_slice HO640.out;subst eo16
    go_wp2_with ((go_at_call 17;(with_reducible refine (laws_rInts.calls k _ _ t633 _ _ t637 t641 _ ?side1 ?side2 ?side3 ?side4 A14.out).mono ?_);(case side1 => repeat (exact (Kd.R_reads' HO636.out).2.2));(case side2 => exact (Kd.R_reads' HO636.out).2.1);(case side3 => repeat (exact (Kd.R_reads' HO640.out).2.2));(case side4 => exact (Kd.R_reads' HO640.out).2.1);rintro e w' ⟨rfl,⟨nd,rfl⟩⟩;(try first | exact ⟨rfl,_,World.drewN_drewN _ _ _⟩ | exact ⟨rfl,_,Eq.trans (World.drewN_drewN _ _ _) (congrArg (World.drewN _) (Nat.add_assoc _ _ _))⟩)))
    repeat (go_quiet (fail);try go_wp2_with (fail))
    go_meet
    case rel => exact ⟨_,(!t641),(by rfl),H',⟨by omega⟩,⟨by (with_reducible repeat (apply Kd.R_drewN));exact HO630.out⟩,⟨by (with_reducible repeat (apply Kd.R_drewN));exact HO632.out⟩,⟨by (with_reducible repeat (apply Kd.R_drewN));exact Kd.R_mono HO636.out (fun _ hk => trivial)⟩,⟨by repeat ((with_reducible first | exact HB.out | apply pw_below_drewN))⟩⟩
  case rest => as_aux_lemma =>
   clear HC7;(try clear c1);(try clear p2);(try clear c3);(try clear c4);(try clear c13);(try clear c13b0);(try clear c13b1);(try clear c13b2);obtain ⟨kq,x60_6,rfl,HA,HJ6,HO_3,HO_4,HO_5,HB⟩ := hcut
   cases kq with
   | zero => exact absurd HA.out (by simp [laws_FnTrainLoading.j0])
   | succ kj6 =>
    have H:=HA.out;clear HA;simp only [laws_FnTrainLoading.j0] at H
    by_cases c17 : x60_6 = true
    ·subst c17
     have H1 : (some false) = some r:=by rw [if_pos rfl] at H;exact H
     clear H;have H:=H1;clear H1;obtain rfl:=Option.some.inj H
     as_aux_lemma =>
      go_wp2
      repeat (go_quiet (fail);try go_wp2)
      go_ret
      exact ⟨by rfl,by exact HB.out⟩
    ·replace c17:=Bool.eq_false_iff.mpr c17;subst c17
     have H1 : ((impl_MostContainers.f kj6 t627 t628).bind fun bt642 => ((spec_MostContainers.f kj6 t627 t628).bind fun bt644 => (if bt642.1 = bt644.1 then (laws_FnTrainLoading.j1 kj6 l0 t627 t628 t633 t634 bt642.1 bt642.2 (bt642.2 != bt644.2)) else (laws_FnTrainLoading.j1 kj6 l0 t627 t628 t633 t634 bt642.1 bt642.2 true)))) = some r:=by rw [if_neg (show ¬ (false = true) by decide)] at H;exact H
     clear H;have H:=H1;clear H1;replace H:=Option.bind_eq_some_iff.mp H;obtain ⟨⟨t642,t643⟩,A180,H⟩ := H;replace H : ((spec_MostContainers.f kj6 t627 t628).bind fun bt644 => (if t642 = bt644.1 then (laws_FnTrainLoading.j1 kj6 l0 t627 t628 t633 t634 t642 t643 (t643 != bt644.2)) else (laws_FnTrainLoading.j1 kj6 l0 t627 t628 t633 t634 t642 t643 true))) = some r:=H;have A18:=am_ A180;clear A180;replace H:=Option.bind_eq_some_iff.mp H;obtain ⟨⟨t644,t645⟩,A190,H⟩ := H;replace H : (if t642 = t644 then (laws_FnTrainLoading.j1 kj6 l0 t627 t628 t633 t634 t642 t643 (t643 != t645)) else (laws_FnTrainLoading.j1 kj6 l0 t627 t628 t633 t634 t642 t643 true)) = some r:=H;have A19:=am_ A190;clear A190;have HC20:=am_ H;clear H
     go_upto_region 10 with (first | (go_at_call 10;(with_reducible refine (impl_MostContainers.calls kj6 _ _ t627 _ _ t628 t642 t643 _ ?side1 ?side2 ?side3 ?side4 A18.out).mono ?_);(case side1 => repeat (exact (Kd.R_reads' HO_3.out).2.2));(case side2 => exact (Kd.R_reads' HO_3.out).2.1);(case side3 => repeat (exact (Kd.R_reads' HO_4.out).2.2));(case side4 => exact (Kd.R_reads' HO_4.out).2.1);rintro e w21 ⟨rfl,hb⟩;have n0_:=am_ (Kd.R_below (by exact HO_3.out) hb);have n1_:=am_ (Kd.R_below (by exact HO_4.out) hb);have n2_:=am_ (Kd.R_below (by exact HO_5.out) hb);have n3_:=am_ (below_step (by exact HB.out) hb);clear HO_3;clear HO_4;clear HO_5;clear HB;have HO_3:=n0_;have HO_4:=n1_;have HO_5:=n2_;have HB:=n3_;clear n0_ n1_ n2_ n3_;(try clear hb)) | (go_at_call 7;(with_reducible refine (spec_MostContainers.calls kj6 _ _ t627 _ _ t628 t644 t645 _ ?side1 ?side2 ?side3 ?side4 A19.out).mono ?_);(case side1 => repeat (exact (Kd.R_reads' HO_3.out).2.2));(case side2 => exact (Kd.R_reads' HO_3.out).2.1);(case side3 => repeat (exact (Kd.R_reads' HO_4.out).2.2));(case side4 => exact (Kd.R_reads' HO_4.out).2.1);rintro e w22 ⟨rfl,hb⟩;have n0_:=am_ (Kd.R_below (by exact HO_3.out) hb);have n1_:=am_ (Kd.R_below (by exact HO_4.out) hb);have n2_:=am_ (Kd.R_below (by exact HO_5.out) hb);have n3_:=am_ (below_step (by exact HB.out) hb);clear HO_3;clear HO_4;clear HO_5;clear HB;have HO_3:=n0_;have HO_4:=n1_;have HO_5:=n2_;have HB:=n3_;clear n0_ n1_ n2_ n3_;(try clear hb)))
     repeat (go_quiet (fail);go_upto_region 10 with (first | (go_at_call 10;(with_reducible refine (impl_MostContainers.calls kj6 _ _ t627 _ _ t628 t642 t643 _ ?side1 ?side2 ?side3 ?side4 A18.out).mono ?_);(case side1 => repeat (first | exact (Kd.R_reads' HO_3.out).2.2 | (with_reducible refine Kd.C_alloc ?_ _) | (with_reducible refine Kd.C_drewN ?_ _) | (with_reducible refine Kd.C_drew ?_)));(case side2 => exact (Kd.R_reads' HO_3.out).2.1);(case side3 => repeat (first | exact (Kd.R_reads' HO_4.out).2.2 | (with_reducible refine Kd.C_alloc ?_ _) | (with_reducible refine Kd.C_drewN ?_ _) | (with_reducible refine Kd.C_drew ?_)));(case side4 => exact (Kd.R_reads' HO_4.out).2.1);rintro e w21 ⟨rfl,hb⟩;have n0_:=am_ (Kd.R_below (by (with_reducible repeat (first | apply Kd.R_alloc | apply Kd.R_drewN | apply Kd.R_drew));exact HO_3.out) hb);have n1_:=am_ (Kd.R_below (by (with_reducible repeat (first | apply Kd.R_alloc | apply Kd.R_drewN | apply Kd.R_drew));exact HO_4.out) hb);have n2_:=am_ (Kd.R_below (by (with_reducible repeat (first | apply Kd.R_alloc | apply Kd.R_drewN | apply Kd.R_drew));exact HO_5.out) hb);have n3_:=am_ (below_step (by repeat (first | (with_reducible first | exact HB.out | apply below_alloc | apply pw_below_drewN | apply below_drew1) | exact HB.out)) hb);clear HO_3;clear HO_4;clear HO_5;clear HB;have HO_3:=n0_;have HO_4:=n1_;have HO_5:=n2_;have HB:=n3_;clear n0_ n1_ n2_ n3_;(try clear hb);(try clear hb2);(try clear hk);(try clear hi)) | (go_at_call 7;(with_reducible refine (spec_MostContainers.calls kj6 _ _ t627 _ _ t628 t644 t645 _ ?side1 ?side2 ?side3 ?side4 A19.out).mono ?_);(case side1 => repeat (first | exact (Kd.R_reads' HO_3.out).2.2 | (with_reducible refine Kd.C_alloc ?_ _) | (with_reducible refine Kd.C_drewN ?_ _) | (with_reducible refine Kd.C_drew ?_)));(case side2 => exact (Kd.R_reads' HO_3.out).2.1);(case side3 => repeat (first | exact (Kd.R_reads' HO_4.out).2.2 | (with_reducible refine Kd.C_alloc ?_ _) | (with_reducible refine Kd.C_drewN ?_ _) | (with_reducible refine Kd.C_drew ?_)));(case side4 => exact (Kd.R_reads' HO_4.out).2.1);rintro e w22 ⟨rfl,hb⟩;have n0_:=am_ (Kd.R_below (by (with_reducible repeat (first | apply Kd.R_alloc | apply Kd.R_drewN | apply Kd.R_drew));exact HO_3.out) hb);have n1_:=am_ (Kd.R_below (by (with_reducible repeat (first | apply Kd.R_alloc | apply Kd.R_drewN | apply Kd.R_drew));exact HO_4.out) hb);have n2_:=am_ (Kd.R_below (by (with_reducible repeat (first | apply Kd.R_alloc | apply Kd.R_drewN | apply Kd.R_drew));exact HO_5.out) hb);have n3_:=am_ (below_step (by repeat (first | (with_reducible first | exact HB.out | apply below_alloc | apply pw_below_drewN | apply below_drew1) | exact HB.out)) hb);clear HO_3;clear HO_4;clear HO_5;clear HB;have HO_3:=n0_;have HO_4:=n1_;have HO_5:=n2_;have HB:=n3_;clear n0_ n1_ n2_ n3_;(try clear hb);(try clear hb2);(try clear hk);(try clear hi))))
     (skip)
     go_cut [80] (fun v80 wc => ∃ (kq : Nat) (x80_19 : Bool),v80 = .bool x80_19 ∧ Aside0 (laws_FnTrainLoading.j1 kq l0 t627 t628 t633 t634 t642 t643 x80_19 = some r) ∧ Aside0 (kq ≤ kj6) ∧ Aside0 (Kd.R k54 54 wc w.heap.size (fun _ => True) (.slice Ao9 t627.length co9) t627) ∧ Aside0 (Kd.R k64 64 wc w.heap.size (fun _ => True) (.slice Ao10 t628.length co10) t628) ∧ Aside0 (Kd.R (Kd.int .i64) 3 wc w.heap.size (fun _ => True) v635 t633) ∧ Aside0 (Below w.heap.size w wc))
     case first =>
      have H:=HC20.out;clear HC20
      by_cases c23 : t642 = t644
      ·rw [if_pos c23] at H;have c23b0 : (t642 == t644) = true:=beq_iff_eq.mpr c23;have c23b1 : (t642 != t644) = false:=bne_eq_false_iff_eq.mpr c23;clear c23
       (skip)
       have H':=am_ H;clear H
       go_wp2
       repeat (go_quiet (fail);try go_wp2)
       go_meet
       case rel => exact ⟨_,((t643 != t645)),(by rfl),H',⟨by have:=HJ6.out;omega⟩,⟨by exact HO_3.out⟩,⟨by exact HO_4.out⟩,⟨by exact HO_5.out⟩,⟨by exact HB.out⟩⟩
      ·rw [if_neg c23] at H;have c23b0 : (t642 == t644) = false:=beq_eq_false_iff_ne.mpr c23;have c23b1 : (t642 != t644) = true:=bne_iff_ne.mpr c23
       (skip)
       have H':=am_ H;clear H
       go_wp2
       repeat (go_quiet (fail);try go_wp2)
       go_meet
       case rel => exact ⟨_,(true),(by rfl),H',⟨by have:=HJ6.out;omega⟩,⟨by exact HO_3.out⟩,⟨by exact HO_4.out⟩,⟨by exact HO_5.out⟩,⟨by exact HB.out⟩⟩
     case rest => as_aux_lemma =>
      clear HC20;(try clear c1);(try clear c2);(try clear p2);(try clear c3);(try clear c4);(try clear c13);(try clear c13b0);(try clear c13b1);(try clear c13b2);(try clear c17);(try clear c23);(try clear c23b0);(try clear c23b1);(try clear p2);obtain ⟨kq,x80_19,rfl,HA,HJ19,HO_3,HO_4,HO_5,HB⟩ := hcut
      cases kq with
      | zero => exact absurd HA.out (by simp [laws_FnTrainLoading.j1])
      | succ kj19 =>
       have H:=HA.out;clear HA;simp only [laws_FnTrainLoading.j1] at H
       by_cases c24 : x80_19 = true
       ·subst c24
        have H1 : (some false) = some r:=by rw [if_pos rfl] at H;exact H
        clear H;have H:=H1;clear H1;obtain rfl:=Option.some.inj H
        as_aux_lemma =>
         go_wp2
         repeat (go_quiet (fail);try go_wp2)
         go_ret
         exact ⟨by rfl,by exact HB.out⟩
       ·replace c24:=Bool.eq_false_iff.mpr c24;subst c24
        have H1 : (if t634 = true then ((impl_LeftBehindContainers.f kj19 t627 t628 t633).bind fun bt646 => (if bt646.2 = true then ((impl_IsValidLoading.f kj19 t627 t628 t633).bind fun t650 => (if t650 = true then ((impl_IsValidTrain.f kj19 t627).bind fun t651 => (if t651 = true then (if t643 = true then (if (wrap64 ((t628.length : Int) - (bt646.1.length : Int))) > t642 then (some false) else (laws_FnTrainLoading.j2 kj19 l0)) else (laws_FnTrainLoading.j2 kj19 l0)) else (some false))) else (some false))) else (some false))) else (laws_FnTrainLoading.j2 kj19 l0)) = some r:=by rw [if_neg (show ¬ (false = true) by decide)] at H;exact H
        clear H;have H:=H1;clear H1;have HC25:=am_ H;clear H
        go_upto_if 81 with (fail)
        repeat (go_quiet (fail);go_upto_if 81 with (fail))
        go_cut [] (fun wc => ∃ (kq : Nat),Aside0 (laws_FnTrainLoading.j2 kq l0 = some r) ∧ Aside0 (kq ≤ kj19) ∧ Aside0 (Below w.heap.size w wc))
        case first =>
         have H:=HC25.out;clear HC25
         by_cases c26 : t634 = true
         ·subst c26
          have H1 : ((impl_LeftBehindContainers.f kj19 t627 t628 t633).bind fun bt646 => (if bt646.2 = true then ((impl_IsValidLoading.f kj19 t627 t628 t633).bind fun t650 => (if t650 = true then ((impl_IsValidTrain.f kj19 t627).bind fun t651 => (if t651 = true then (if t643 = true then (if (wrap64 ((t628.length : Int) - (bt646.1.length : Int))) > t642 then (some false) else (laws_FnTrainLoading.j2 kj19 l0)) else (laws_FnTrainLoading.j2 kj19 l0)) else (some false))) else (some false))) else (some false))) = some r:=by rw [if_pos rfl] at H;exact H
          clear H;have H:=H1;clear H1;replace H:=Option.bind_eq_some_iff.mp H;obtain ⟨⟨t646,t647⟩,A270,H⟩ := H;replace H : (if t647 = true then ((impl_IsValidLoading.f kj19 t627 t628 t633).bind fun t650 => (if t650 = true then ((impl_IsValidTrain.f kj19 t627).bind fun t651 => (if t651 = true then (if t643 = true then (if (wrap64 ((t628.length : Int) - (t646.length : Int))) > t642 then (some false) else (laws_FnTrainLoading.j2 kj19 l0)) else (laws_FnTrainLoading.j2 kj19 l0)) else (some false))) else (some false))) else (some false)) = some r:=H;have A27:=am_ A270;clear A270
          by_cases c28 : t647 = true
          ·subst c28
           have H1 : ((impl_IsValidLoading.f kj19 t627 t628 t633).bind fun t650 => (if t650 = true then ((impl_IsValidTrain.f kj19 t627).bind fun t651 => (if t651 = true then (if t643 = true then (if (wrap64 ((t628.length : Int) - (t646.length : Int))) > t642 then (some false) else (laws_FnTrainLoading.j2 kj19 l0)) else (laws_FnTrainLoading.j2 kj19 l0)) else (some false))) else (some false))) = some r:=by rw [if_pos rfl] at H;exact H
           clear H;have H:=H1;clear H1;replace H:=Option.bind_eq_some_iff.mp H;obtain ⟨t650,A290,H⟩ := H;replace H : (if t650 = true then ((impl_IsValidTrain.f kj19 t627).bind fun t651 => (if t651 = true then (if t643 = true then (if (wrap64 ((t628.length : Int) - (t646.length : Int))) > t642 then (some false) else (laws_FnTrainLoading.j2 kj19 l0)) else (laws_FnTrainLoading.j2 kj19 l0)) else (some false))) else (some false)) = some r:=H;have A29:=am_ A290;clear A290
           by_cases c30 : t650 = true
           ·subst c30
            have H1 : ((impl_IsValidTrain.f kj19 t627).bind fun t651 => (if t651 = true then (if t643 = true then (if (wrap64 ((t628.length : Int) - (t646.length : Int))) > t642 then (some false) else (laws_FnTrainLoading.j2 kj19 l0)) else (laws_FnTrainLoading.j2 kj19 l0)) else (some false))) = some r:=by rw [if_pos rfl] at H;exact H
            clear H;have H:=H1;clear H1;replace H:=Option.bind_eq_some_iff.mp H;obtain ⟨t651,A310,H⟩ := H;replace H : (if t651 = true then (if t643 = true then (if (wrap64 ((t628.length : Int) - (t646.length : Int))) > t642 then (some false) else (laws_FnTrainLoading.j2 kj19 l0)) else (laws_FnTrainLoading.j2 kj19 l0)) else (some false)) = some r:=H;have A31:=am_ A310;clear A310
            by_cases c32 : t651 = true
            ·subst c32
             have H1 : (if t643 = true then (if (wrap64 ((t628.length : Int) - (t646.length : Int))) > t642 then (some false) else (laws_FnTrainLoading.j2 kj19 l0)) else (laws_FnTrainLoading.j2 kj19 l0)) = some r:=by rw [if_pos rfl] at H;exact H
             clear H;have H:=H1;clear H1
             by_cases c33 : t643 = true
             ·subst c33
              have H1 : (if (wrap64 ((t628.length : Int) - (t646.length : Int))) > t642 then (some false) else (laws_FnTrainLoading.j2 kj19 l0)) = some r:=by rw [if_pos rfl] at H;exact H
              clear H;have H:=H1;clear H1
              by_cases c34 : (wrap64 ((t628.length : Int) - (t646.length : Int))) > t642
              ·rw [if_pos c34] at H;have c34b0 : decide (t642 < (wrap64 ((t628.length : Int) - (t646.length : Int)))) = true:=decide_eq_true c34;clear c34
               (skip)
               obtain rfl:=Option.some.inj H;obtain ⟨Ao35,co35,eo35⟩ := Kd.R_slice HO_5.out;subst eo35
               as_aux_lemma =>
                go_wp2_with (first | (go_at_call 18;(with_reducible refine (impl_LeftBehindContainers.calls kj19 _ _ t627 _ _ t628 _ _ t633 t646 true _ ?side1 ?side2 ?side3 ?side4 ?side5 ?side6 A27.out).mono ?_);(case side1 => repeat (exact (Kd.R_reads' HO_3.out).2.2));(case side2 => exact (Kd.R_reads' HO_3.out).2.1);(case side3 => repeat (exact (Kd.R_reads' HO_4.out).2.2));(case side4 => exact (Kd.R_reads' HO_4.out).2.1);(case side5 => repeat (exact (Kd.R_reads' HO_5.out).2.2));(case side6 => exact (Kd.R_reads' HO_5.out).2.1);rintro e w36 ⟨v648,rfl,ho0,hb⟩;have n0_:=am_ (Kd.R_below (by exact HO_3.out) hb);have n1_:=am_ (Kd.R_below (by exact HO_4.out) hb);have n2_:=am_ (Kd.R_below (by exact HO_5.out) hb);have n3_:=am_ (Kd.R_lower ho0 (below_size (by exact HB.out)));have n4_:=am_ (below_step (by exact HB.out) hb);clear HO_3;clear HO_4;clear HO_5;clear HB;have HO_3:=n0_;have HO_4:=n1_;have HO_5:=n2_;have HO649:=n3_;have HB:=n4_;clear n0_ n1_ n2_ n3_ n4_;(try clear hb);(try clear ho0)) | (go_at_call 19;(with_reducible refine (impl_IsValidLoading.calls kj19 _ _ t627 _ _ t628 _ _ t633 true _ ?side1 ?side2 ?side3 ?side4 ?side5 ?side6 A29.out).mono ?_);(case side1 => repeat (exact (Kd.R_reads' HO_3.out).2.2));(case side2 => exact (Kd.R_reads' HO_3.out).2.1);(case side3 => repeat (exact (Kd.R_reads' HO_4.out).2.2));(case side4 => exact (Kd.R_reads' HO_4.out).2.1);(case side5 => repeat (exact (Kd.R_reads' HO_5.out).2.2));(case side6 => exact (Kd.R_reads' HO_5.out).2.1);rintro e w37 ⟨rfl,hb⟩;have n0_:=am_ (Kd.R_below (by exact HO_3.out) hb);have n1_:=am_ (Kd.R_below (by exact HO_4.out) hb);have n2_:=am_ (Kd.R_below (by exact HO_5.out) hb);have n3_:=am_ (Kd.R_below (by exact HO649.out) hb);have n4_:=am_ (below_step (by exact HB.out) hb);clear HO_3;clear HO_4;clear HO_5;clear HO649;clear HB;have HO_3:=n0_;have HO_4:=n1_;have HO_5:=n2_;have HO649:=n3_;have HB:=n4_;clear n0_ n1_ n2_ n3_ n4_;(try clear hb)) | (go_at_call 20;(with_reducible refine (impl_IsValidTrain.calls kj19 _ _ t627 true _ ?side1 ?side2 A31.out).mono ?_);(case side1 => repeat (exact (Kd.R_reads' HO_3.out).2.2));(case side2 => exact (Kd.R_reads' HO_3.out).2.1);rintro e w38 ⟨rfl,hb⟩;have n0_:=am_ (Kd.R_below (by exact HO_3.out) hb);have n1_:=am_ (Kd.R_below (by exact HO_4.out) hb);have n2_:=am_ (Kd.R_below (by exact HO_5.out) hb);have n3_:=am_ (Kd.R_below (by exact HO649.out) hb);have n4_:=am_ (below_step (by exact HB.out) hb);clear HO_3;clear HO_4;clear HO_5;clear HO649;clear HB;have HO_3:=n0_;have HO_4:=n1_;have HO_5:=n2_;have HO649:=n3_;have HB:=n4_;clear n0_ n1_ n2_ n3_ n4_;(try clear hb);obtain ⟨Ao39,co39,eo39⟩ := Kd.R_slice HO649.out;subst eo39))
                repeat (go_quiet (fail);try go_wp2_with (fail))
                go_ret
                exact ⟨by rfl,by exact HB.out⟩
              ·rw [if_neg c34] at H;have c34b0 : decide (t642 < (wrap64 ((t628.length : Int) - (t646.length : Int)))) = false:=decide_eq_false c34;clear c34
               (skip)
               have H':=am_ H;clear H;obtain ⟨Ao40,co40,eo40⟩ := Kd.R_slice HO_5.out;subst eo40
               go_wp2_with (first | (go_at_call 18;(with_reducible refine (impl_LeftBehindContainers.calls kj19 _ _ t627 _ _ t628 _ _ t633 t646 true _ ?side1 ?side2 ?side3 ?side4 ?side5 ?side6 A27.out).mono ?_);(case side1 => repeat (exact (Kd.R_reads' HO_3.out).2.2));(case side2 => exact (Kd.R_reads' HO_3.out).2.1);(case side3 => repeat (exact (Kd.R_reads' HO_4.out).2.2));(case side4 => exact (Kd.R_reads' HO_4.out).2.1);(case side5 => repeat (exact (Kd.R_reads' HO_5.out).2.2));(case side6 => exact (Kd.R_reads' HO_5.out).2.1);rintro e w41 ⟨v648,rfl,ho0,hb⟩;have n0_:=am_ (Kd.R_below (by exact HO_3.out) hb);have n1_:=am_ (Kd.R_below (by exact HO_4.out) hb);have n2_:=am_ (Kd.R_below (by exact HO_5.out) hb);have n3_:=am_ (Kd.R_lower ho0 (below_size (by exact HB.out)));have n4_:=am_ (below_step (by exact HB.out) hb);clear HO_3;clear HO_4;clear HO_5;clear HB;have HO_3:=n0_;have HO_4:=n1_;have HO_5:=n2_;have HO649:=n3_;have HB:=n4_;clear n0_ n1_ n2_ n3_ n4_;(try clear hb);(try clear ho0)) | (go_at_call 19;(with_reducible refine (impl_IsValidLoading.calls kj19 _ _ t627 _ _ t628 _ _ t633 true _ ?side1 ?side2 ?side3 ?side4 ?side5 ?side6 A29.out).mono ?_);(case side1 => repeat (exact (Kd.R_reads' HO_3.out).2.2));(case side2 => exact (Kd.R_reads' HO_3.out).2.1);(case side3 => repeat (exact (Kd.R_reads' HO_4.out).2.2));(case side4 => exact (Kd.R_reads' HO_4.out).2.1);(case side5 => repeat (exact (Kd.R_reads' HO_5.out).2.2));(case side6 => exact (Kd.R_reads' HO_5.out).2.1);rintro e w42 ⟨rfl,hb⟩;have n0_:=am_ (Kd.R_below (by exact HO_3.out) hb);have n1_:=am_ (Kd.R_below (by exact HO_4.out) hb);have n2_:=am_ (Kd.R_below (by exact HO_5.out) hb);have n3_:=am_ (Kd.R_below (by exact HO649.out) hb);have n4_:=am_ (below_step (by exact HB.out) hb);clear HO_3;clear HO_4;clear HO_5;clear HO649;clear HB;have HO_3:=n0_;have HO_4:=n1_;have HO_5:=n2_;have HO649:=n3_;have HB:=n4_;clear n0_ n1_ n2_ n3_ n4_;(try clear hb)) | (go_at_call 20;(with_reducible refine (impl_IsValidTrain.calls kj19 _ _ t627 true _ ?side1 ?side2 A31.out).mono ?_);(case side1 => repeat (exact (Kd.R_reads' HO_3.out).2.2));(case side2 => exact (Kd.R_reads' HO_3.out).2.1);rintro e w43 ⟨rfl,hb⟩;have n0_:=am_ (Kd.R_below (by exact HO_3.out) hb);have n1_:=am_ (Kd.R_below (by exact HO_4.out) hb);have n2_:=am_ (Kd.R_below (by exact HO_5.out) hb);have n3_:=am_ (Kd.R_below (by exact HO649.out) hb);have n4_:=am_ (below_step (by exact HB.out) hb);clear HO_3;clear HO_4;clear HO_5;clear HO649;clear HB;have HO_3:=n0_;have HO_4:=n1_;have HO_5:=n2_;have HO649:=n3_;have HB:=n4_;clear n0_ n1_ n2_ n3_ n4_;(try clear hb);obtain ⟨Ao44,co44,eo44⟩ := Kd.R_slice HO649.out;subst eo44))
               repeat (go_quiet (fail);try go_wp2_with (fail))
               go_meet
               case rel => exact ⟨_,H',⟨by have:=HJ6.out;have:=HJ19.out;omega⟩,⟨by exact HB.out⟩⟩
             ·replace c33:=Bool.eq_false_iff.mpr c33;subst c33
              have H1 : (laws_FnTrainLoading.j2 kj19 l0) = some r:=by rw [if_neg (show ¬ (false = true) by decide)] at H;exact H
              clear H;have H:=H1;clear H1;have H':=am_ H;clear H;obtain ⟨Ao45,co45,eo45⟩ := Kd.R_slice HO_5.out;subst eo45
              go_wp2_with (first | (go_at_call 18;(with_reducible refine (impl_LeftBehindContainers.calls kj19 _ _ t627 _ _ t628 _ _ t633 t646 true _ ?side1 ?side2 ?side3 ?side4 ?side5 ?side6 A27.out).mono ?_);(case side1 => repeat (exact (Kd.R_reads' HO_3.out).2.2));(case side2 => exact (Kd.R_reads' HO_3.out).2.1);(case side3 => repeat (exact (Kd.R_reads' HO_4.out).2.2));(case side4 => exact (Kd.R_reads' HO_4.out).2.1);(case side5 => repeat (exact (Kd.R_reads' HO_5.out).2.2));(case side6 => exact (Kd.R_reads' HO_5.out).2.1);rintro e w46 ⟨v648,rfl,ho0,hb⟩;have n0_:=am_ (Kd.R_below (by exact HO_3.out) hb);have n1_:=am_ (Kd.R_below (by exact HO_4.out) hb);have n2_:=am_ (Kd.R_below (by exact HO_5.out) hb);have n3_:=am_ (Kd.R_lower ho0 (below_size (by exact HB.out)));have n4_:=am_ (below_step (by exact HB.out) hb);clear HO_3;clear HO_4;clear HO_5;clear HB;have HO_3:=n0_;have HO_4:=n1_;have HO_5:=n2_;have HO649:=n3_;have HB:=n4_;clear n0_ n1_ n2_ n3_ n4_;(try clear hb);(try clear ho0)) | (go_at_call 19;(with_reducible refine (impl_IsValidLoading.calls kj19 _ _ t627 _ _ t628 _ _ t633 true _ ?side1 ?side2 ?side3 ?side4 ?side5 ?side6 A29.out).mono ?_);(case side1 => repeat (exact (Kd.R_reads' HO_3.out).2.2));(case side2 => exact (Kd.R_reads' HO_3.out).2.1);(case side3 => repeat (exact (Kd.R_reads' HO_4.out).2.2));(case side4 => exact (Kd.R_reads' HO_4.out).2.1);(case side5 => repeat (exact (Kd.R_reads' HO_5.out).2.2));(case side6 => exact (Kd.R_reads' HO_5.out).2.1);rintro e w47 ⟨rfl,hb⟩;have n0_:=am_ (Kd.R_below (by exact HO_3.out) hb);have n1_:=am_ (Kd.R_below (by exact HO_4.out) hb);have n2_:=am_ (Kd.R_below (by exact HO_5.out) hb);have n3_:=am_ (Kd.R_below (by exact HO649.out) hb);have n4_:=am_ (below_step (by exact HB.out) hb);clear HO_3;clear HO_4;clear HO_5;clear HO649;clear HB;have HO_3:=n0_;have HO_4:=n1_;have HO_5:=n2_;have HO649:=n3_;have HB:=n4_;clear n0_ n1_ n2_ n3_ n4_;(try clear hb)) | (go_at_call 20;(with_reducible refine (impl_IsValidTrain.calls kj19 _ _ t627 true _ ?side1 ?side2 A31.out).mono ?_);(case side1 => repeat (exact (Kd.R_reads' HO_3.out).2.2));(case side2 => exact (Kd.R_reads' HO_3.out).2.1);rintro e w48 ⟨rfl,hb⟩;have n0_:=am_ (Kd.R_below (by exact HO_3.out) hb);have n1_:=am_ (Kd.R_below (by exact HO_4.out) hb);have n2_:=am_ (Kd.R_below (by exact HO_5.out) hb);have n3_:=am_ (Kd.R_below (by exact HO649.out) hb);have n4_:=am_ (below_step (by exact HB.out) hb);clear HO_3;clear HO_4;clear HO_5;clear HO649;clear HB;have HO_3:=n0_;have HO_4:=n1_;have HO_5:=n2_;have HO649:=n3_;have HB:=n4_;clear n0_ n1_ n2_ n3_ n4_;(try clear hb)))
              repeat (go_quiet (fail);try go_wp2_with (fail))
              go_meet
              case rel => exact ⟨_,H',⟨by have:=HJ6.out;have:=HJ19.out;omega⟩,⟨by exact HB.out⟩⟩
            ·replace c32:=Bool.eq_false_iff.mpr c32;subst c32
             have H1 : (some false) = some r:=by rw [if_neg (show ¬ (false = true) by decide)] at H;exact H
             clear H;have H:=H1;clear H1;obtain rfl:=Option.some.inj H;obtain ⟨Ao49,co49,eo49⟩ := Kd.R_slice HO_5.out;subst eo49
             as_aux_lemma =>
              go_wp2_with (first | (go_at_call 18;(with_reducible refine (impl_LeftBehindContainers.calls kj19 _ _ t627 _ _ t628 _ _ t633 t646 true _ ?side1 ?side2 ?side3 ?side4 ?side5 ?side6 A27.out).mono ?_);(case side1 => repeat (exact (Kd.R_reads' HO_3.out).2.2));(case side2 => exact (Kd.R_reads' HO_3.out).2.1);(case side3 => repeat (exact (Kd.R_reads' HO_4.out).2.2));(case side4 => exact (Kd.R_reads' HO_4.out).2.1);(case side5 => repeat (exact (Kd.R_reads' HO_5.out).2.2));(case side6 => exact (Kd.R_reads' HO_5.out).2.1);rintro e w50 ⟨v648,rfl,ho0,hb⟩;have n0_:=am_ (Kd.R_below (by exact HO_3.out) hb);have n1_:=am_ (Kd.R_below (by exact HO_4.out) hb);have n2_:=am_ (Kd.R_below (by exact HO_5.out) hb);have n3_:=am_ (Kd.R_lower ho0 (below_size (by exact HB.out)));have n4_:=am_ (below_step (by exact HB.out) hb);clear HO_3;clear HO_4;clear HO_5;clear HB;have HO_3:=n0_;have HO_4:=n1_;have HO_5:=n2_;have HO649:=n3_;have HB:=n4_;clear n0_ n1_ n2_ n3_ n4_;(try clear hb);(try clear ho0)) | (go_at_call 19;(with_reducible refine (impl_IsValidLoading.calls kj19 _ _ t627 _ _ t628 _ _ t633 true _ ?side1 ?side2 ?side3 ?side4 ?side5 ?side6 A29.out).mono ?_);(case side1 => repeat (exact (Kd.R_reads' HO_3.out).2.2));(case side2 => exact (Kd.R_reads' HO_3.out).2.1);(case side3 => repeat (exact (Kd.R_reads' HO_4.out).2.2));(case side4 => exact (Kd.R_reads' HO_4.out).2.1);(case side5 => repeat (exact (Kd.R_reads' HO_5.out).2.2));(case side6 => exact (Kd.R_reads' HO_5.out).2.1);rintro e w51 ⟨rfl,hb⟩;have n0_:=am_ (Kd.R_below (by exact HO_3.out) hb);have n1_:=am_ (Kd.R_below (by exact HO_4.out) hb);have n2_:=am_ (Kd.R_below (by exact HO_5.out) hb);have n3_:=am_ (Kd.R_below (by exact HO649.out) hb);have n4_:=am_ (below_step (by exact HB.out) hb);clear HO_3;clear HO_4;clear HO_5;clear HO649;clear HB;have HO_3:=n0_;have HO_4:=n1_;have HO_5:=n2_;have HO649:=n3_;have HB:=n4_;clear n0_ n1_ n2_ n3_ n4_;(try clear hb)) | (go_at_call 20;(with_reducible refine (impl_IsValidTrain.calls kj19 _ _ t627 false _ ?side1 ?side2 A31.out).mono ?_);(case side1 => repeat (exact (Kd.R_reads' HO_3.out).2.2));(case side2 => exact (Kd.R_reads' HO_3.out).2.1);rintro e w52 ⟨rfl,hb⟩;have n0_:=am_ (Kd.R_below (by exact HO_3.out) hb);have n1_:=am_ (Kd.R_below (by exact HO_4.out) hb);have n2_:=am_ (Kd.R_below (by exact HO_5.out) hb);have n3_:=am_ (Kd.R_below (by exact HO649.out) hb);have n4_:=am_ (below_step (by exact HB.out) hb);clear HO_3;clear HO_4;clear HO_5;clear HO649;clear HB;have HO_3:=n0_;have HO_4:=n1_;have HO_5:=n2_;have HO649:=n3_;have HB:=n4_;clear n0_ n1_ n2_ n3_ n4_;(try clear hb)))
              repeat (go_quiet (fail);try go_wp2_with (fail))
              go_ret
              exact ⟨by rfl,by exact HB.out⟩
           ·replace c30:=Bool.eq_false_iff.mpr c30;subst c30
            have H1 : (some false) = some r:=by rw [if_neg (show ¬ (false = true) by decide)] at H;exact H
            clear H;have H:=H1;clear H1;obtain rfl:=Option.some.inj H;obtain ⟨Ao53,co53,eo53⟩ := Kd.R_slice HO_5.out;subst eo53
            as_aux_lemma =>
             go_wp2_with (first | (go_at_call 18;(with_reducible refine (impl_LeftBehindContainers.calls kj19 _ _ t627 _ _ t628 _ _ t633 t646 true _ ?side1 ?side2 ?side3 ?side4 ?side5 ?side6 A27.out).mono ?_);(case side1 => repeat (exact (Kd.R_reads' HO_3.out).2.2));(case side2 => exact (Kd.R_reads' HO_3.out).2.1);(case side3 => repeat (exact (Kd.R_reads' HO_4.out).2.2));(case side4 => exact (Kd.R_reads' HO_4.out).2.1);(case side5 => repeat (exact (Kd.R_reads' HO_5.out).2.2));(case side6 => exact (Kd.R_reads' HO_5.out).2.1);rintro e w54 ⟨v648,rfl,ho0,hb⟩;have n0_:=am_ (Kd.R_below (by exact HO_3.out) hb);have n1_:=am_ (Kd.R_below (by exact HO_4.out) hb);have n2_:=am_ (Kd.R_below (by exact HO_5.out) hb);have n3_:=am_ (Kd.R_lower ho0 (below_size (by exact HB.out)));have n4_:=am_ (below_step (by exact HB.out) hb);clear HO_3;clear HO_4;clear HO_5;clear HB;have HO_3:=n0_;have HO_4:=n1_;have HO_5:=n2_;have HO649:=n3_;have HB:=n4_;clear n0_ n1_ n2_ n3_ n4_;(try clear hb);(try clear ho0)) | (go_at_call 19;(with_reducible refine (impl_IsValidLoading.calls kj19 _ _ t627 _ _ t628 _ _ t633 false _ ?side1 ?side2 ?side3 ?side4 ?side5 ?side6 A29.out).mono ?_);(case side1 => repeat (exact (Kd.R_reads' HO_3.out).2.2));(case side2 => exact (Kd.R_reads' HO_3.out).2.1);(case side3 => repeat (exact (Kd.R_reads' HO_4.out).2.2));(case side4 => exact (Kd.R_reads' HO_4.out).2.1);(case side5 => repeat (exact (Kd.R_reads' HO_5.out).2.2));(case side6 => exact (Kd.R_reads' HO_5.out).2.1);rintro e w55 ⟨rfl,hb⟩;have n0_:=am_ (Kd.R_below (by exact HO_3.out) hb);have n1_:=am_ (Kd.R_below (by exact HO_4.out) hb);have n2_:=am_ (Kd.R_below (by exact HO_5.out) hb);have n3_:=am_ (Kd.R_below (by exact HO649.out) hb);have n4_:=am_ (below_step (by exact HB.out) hb);clear HO_3;clear HO_4;clear HO_5;clear HO649;clear HB;have HO_3:=n0_;have HO_4:=n1_;have HO_5:=n2_;have HO649:=n3_;have HB:=n4_;clear n0_ n1_ n2_ n3_ n4_;(try clear hb)))
             repeat (go_quiet (fail);try go_wp2_with (fail))
             go_ret
             exact ⟨by rfl,by exact HB.out⟩
          ·replace c28:=Bool.eq_false_iff.mpr c28;subst c28
           have H1 : (some false) = some r:=by rw [if_neg (show ¬ (false = true) by decide)] at H;exact H
           clear H;have H:=H1;clear H1;obtain rfl:=Option.some.inj H;obtain ⟨Ao56,co56,eo56⟩ := Kd.R_slice HO_5.out;subst eo56
           as_aux_lemma =>
            go_wp2_with ((go_at_call 18;(with_reducible refine (impl_LeftBehindContainers.calls kj19 _ _ t627 _ _ t628 _ _ t633 t646 false _ ?side1 ?side2 ?side3 ?side4 ?side5 ?side6 A27.out).mono ?_);(case side1 => repeat (exact (Kd.R_reads' HO_3.out).2.2));(case side2 => exact (Kd.R_reads' HO_3.out).2.1);(case side3 => repeat (exact (Kd.R_reads' HO_4.out).2.2));(case side4 => exact (Kd.R_reads' HO_4.out).2.1);(case side5 => repeat (exact (Kd.R_reads' HO_5.out).2.2));(case side6 => exact (Kd.R_reads' HO_5.out).2.1);rintro e w57 ⟨v648,rfl,ho0,hb⟩;have n0_:=am_ (Kd.R_below (by exact HO_3.out) hb);have n1_:=am_ (Kd.R_below (by exact HO_4.out) hb);have n2_:=am_ (Kd.R_below (by exact HO_5.out) hb);have n3_:=am_ (Kd.R_lower ho0 (below_size (by exact HB.out)));have n4_:=am_ (below_step (by exact HB.out) hb);clear HO_3;clear HO_4;clear HO_5;clear HB;have HO_3:=n0_;have HO_4:=n1_;have HO_5:=n2_;have HO649:=n3_;have HB:=n4_;clear n0_ n1_ n2_ n3_ n4_;(try clear hb);(try clear ho0)))
            repeat (go_quiet (fail);try go_wp2_with (fail))
            go_ret
            exact ⟨by rfl,by exact HB.out⟩
         ·replace c26:=Bool.eq_false_iff.mpr c26;subst c26
          have H1 : (laws_FnTrainLoading.j2 kj19 l0) = some r:=by rw [if_neg (show ¬ (false = true) by decide)] at H;exact H
          clear H;have H:=H1;clear H1;have H':=am_ H;clear H
          go_wp2
          repeat (go_quiet (fail);try go_wp2)
          go_meet
          case rel => exact ⟨_,H',⟨by have:=HJ6.out;have:=HJ19.out;omega⟩,⟨by exact HB.out⟩⟩
        case rest => as_aux_lemma =>
         clear HC25;(try clear c1);(try clear c2);(try clear p2);(try clear c3);(try clear c4);(try clear p6);(try clear c13);(try clear c13b0);(try clear c13b1);(try clear c13b2);(try clear c17);(try clear c23);(try clear c23b0);(try clear c23b1);(try clear c24);(try clear c26);(try clear c28);(try clear c30);(try clear c32);(try clear c33);(try clear c34);(try clear c34b0);(try clear p2);obtain ⟨kq,HA,HJ24,HB⟩ := hcut
         cases kq with
         | zero => exact absurd HA.out (by simp [laws_FnTrainLoading.j2])
         | succ kj24 =>
          have H:=HA.out;clear HA;simp only [laws_FnTrainLoading.j2] at H;replace H:=Option.bind_eq_some_iff.mp H;obtain ⟨⟨t652,t653,t654⟩,A580,H⟩ := H;replace H : ((impl_FreeLengths.f kj24 t652 t653 t654).bind fun bt661 => ((impl_WagonWeights.f kj24 t652 t653 t654).bind fun bt665 => ((impl_EmptyWagons.f kj24 t652 t653 t654).bind fun bt670 => ((spec_FreeLengths.f kj24 t652 t653 t654).bind fun bt674 => ((spec_WagonWeights.f kj24 t652 t653 t654).bind fun bt678 => ((spec_EmptyWagons.f kj24 t652 t653 t654).bind fun bt683 => (if (bt661.2 != bt674.2) = true then (laws_FnTrainLoading.j3 kj24 t652 bt661.1 bt665.1 bt665.2.1 bt670.1 true) else (if (bt665.2.2 != bt674.2) = true then (laws_FnTrainLoading.j3 kj24 t652 bt661.1 bt665.1 bt665.2.1 bt670.1 true) else (if (bt670.2 != bt674.2) = true then (laws_FnTrainLoading.j3 kj24 t652 bt661.1 bt665.1 bt665.2.1 bt670.1 true) else ((laws_rInts.f kj24 bt661.1 bt674.1).bind fun t687 => (if t687 = true then ((laws_rInts.f kj24 bt665.1 bt678.1).bind fun t688 => (if t688 = true then (if bt665.2.1 = bt678.2.1 then ((laws_rInts.f kj24 bt670.1 bt683.1).bind fun t689 => (laws_FnTrainLoading.j3 kj24 t652 bt661.1 bt665.1 bt665.2.1 bt670.1 (!t689))) else (laws_FnTrainLoading.j3 kj24 t652 bt661.1 bt665.1 bt665.2.1 bt670.1 true)) else (laws_FnTrainLoading.j3 kj24 t652 bt661.1 bt665.1 bt665.2.1 bt670.1 true))) else (laws_FnTrainLoading.j3 kj24 t652 bt661.1 bt665.1 bt665.2.1 bt670.1 true)))))))))))) = some r:=H;have A58:=am_ A580;clear A580;replace H:=Option.bind_eq_some_iff.mp H;obtain ⟨⟨t661,t662⟩,A590,H⟩ := H;replace H : ((impl_WagonWeights.f kj24 t652 t653 t654).bind fun bt665 => ((impl_EmptyWagons.f kj24 t652 t653 t654).bind fun bt670 => ((spec_FreeLengths.f kj24 t652 t653 t654).bind fun bt674 => ((spec_WagonWeights.f kj24 t652 t653 t654).bind fun bt678 => ((spec_EmptyWagons.f kj24 t652 t653 t654).bind fun bt683 => (if (t662 != bt674.2) = true then (laws_FnTrainLoading.j3 kj24 t652 t661 bt665.1 bt665.2.1 bt670.1 true) else (if (bt665.2.2 != bt674.2) = true then (laws_FnTrainLoading.j3 kj24 t652 t661 bt665.1 bt665.2.1 bt670.1 true) else (if (bt670.2 != bt674.2) = true then (laws_FnTrainLoading.j3 kj24 t652 t661 bt665.1 bt665.2.1 bt670.1 true) else ((laws_rInts.f kj24 t661 bt674.1).bind fun t687 => (if t687 = true then ((laws_rInts.f kj24 bt665.1 bt678.1).bind fun t688 => (if t688 = true then (if bt665.2.1 = bt678.2.1 then ((laws_rInts.f kj24 bt670.1 bt683.1).bind fun t689 => (laws_FnTrainLoading.j3 kj24 t652 t661 bt665.1 bt665.2.1 bt670.1 (!t689))) else (laws_FnTrainLoading.j3 kj24 t652 t661 bt665.1 bt665.2.1 bt670.1 true)) else (laws_FnTrainLoading.j3 kj24 t652 t661 bt665.1 bt665.2.1 bt670.1 true))) else (laws_FnTrainLoading.j3 kj24 t652 t661 bt665.1 bt665.2.1 bt670.1 true))))))))))) = some r:=H;have A59:=am_ A590;clear A590;replace H:=Option.bind_eq_some_iff.mp H;obtain ⟨⟨t665,t666,t667⟩,A600,H⟩ := H;replace H : ((impl_EmptyWagons.f kj24 t652 t653 t654).bind fun bt670 => ((spec_FreeLengths.f kj24 t652 t653 t654).bind fun bt674 => ((spec_WagonWeights.f kj24 t652 t653 t654).bind fun bt678 => ((spec_EmptyWagons.f kj24 t652 t653 t654).bind fun bt683 => (if (t662 != bt674.2) = true then (laws_FnTrainLoading.j3 kj24 t652 t661 t665 t666 bt670.1 true) else (if (t667 != bt674.2) = true then (laws_FnTrainLoading.j3 kj24 t652 t661 t665 t666 bt670.1 true) else (if (bt670.2 != bt674.2) = true then (laws_FnTrainLoading.j3 kj24 t652 t661 t665 t666 bt670.1 true) else ((laws_rInts.f kj24 t661 bt674.1).bind fun t687 => (if t687 = true then ((laws_rInts.f kj24 t665 bt678.1).bind fun t688 => (if t688 = true then (if t666 = bt678.2.1 then ((laws_rInts.f kj24 bt670.1 bt683.1).bind fun t689 => (laws_FnTrainLoading.j3 kj24 t652 t661 t665 t666 bt670.1 (!t689))) else (laws_FnTrainLoading.j3 kj24 t652 t661 t665 t666 bt670.1 true)) else (laws_FnTrainLoading.j3 kj24 t652 t661 t665 t666 bt670.1 true))) else (laws_FnTrainLoading.j3 kj24 t652 t661 t665 t666 bt670.1 true)))))))))) = some r:=H;have A60:=am_ A600;clear A600;replace H:=Option.bind_eq_some_iff.mp H;obtain ⟨⟨t670,t671⟩,A610,H⟩ := H;replace H : ((spec_FreeLengths.f kj24 t652 t653 t654).bind fun bt674 => ((spec_WagonWeights.f kj24 t652 t653 t654).bind fun bt678 => ((spec_EmptyWagons.f kj24 t652 t653 t654).bind fun bt683 => (if (t662 != bt674.2) = true then (laws_FnTrainLoading.j3 kj24 t652 t661 t665 t666 t670 true) else (if (t667 != bt674.2) = true then (laws_FnTrainLoading.j3 kj24 t652 t661 t665 t666 t670 true) else (if (t671 != bt674.2) = true then (laws_FnTrainLoading.j3 kj24 t652 t661 t665 t666 t670 true) else ((laws_rInts.f kj24 t661 bt674.1).bind fun t687 => (if t687 = true then ((laws_rInts.f kj24 t665 bt678.1).bind fun t688 => (if t688 = true then (if t666 = bt678.2.1 then ((laws_rInts.f kj24 t670 bt683.1).bind fun t689 => (laws_FnTrainLoading.j3 kj24 t652 t661 t665 t666 t670 (!t689))) else (laws_FnTrainLoading.j3 kj24 t652 t661 t665 t666 t670 true)) else (laws_FnTrainLoading.j3 kj24 t652 t661 t665 t666 t670 true))) else (laws_FnTrainLoading.j3 kj24 t652 t661 t665 t666 t670 true))))))))) = some r:=H;have A61:=am_ A610;clear A610;replace H:=Option.bind_eq_some_iff.mp H;obtain ⟨⟨t674,t675⟩,A620,H⟩ := H;replace H : ((spec_WagonWeights.f kj24 t652 t653 t654).bind fun bt678 => ((spec_EmptyWagons.f kj24 t652 t653 t654).bind fun bt683 => (if (t662 != t675) = true then (laws_FnTrainLoading.j3 kj24 t652 t661 t665 t666 t670 true) else (if (t667 != t675) = true then (laws_FnTrainLoading.j3 kj24 t652 t661 t665 t666 t670 true) else (if (t671 != t675) = true then (laws_FnTrainLoading.j3 kj24 t652 t661 t665 t666 t670 true) else ((laws_rInts.f kj24 t661 t674).bind fun t687 => (if t687 = true then ((laws_rInts.f kj24 t665 bt678.1).bind fun t688 => (if t688 = true then (if t666 = bt678.2.1 then ((laws_rInts.f kj24 t670 bt683.1).bind fun t689 => (laws_FnTrainLoading.j3 kj24 t652 t661 t665 t666 t670 (!t689))) else (laws_FnTrainLoading.j3 kj24 t652 t661 t665 t666 t670 true)) else (laws_FnTrainLoading.j3 kj24 t652 t661 t665 t666 t670 true))) else (laws_FnTrainLoading.j3 kj24 t652 t661 t665 t666 t670 true)))))))) = some r:=H;have A62:=am_ A620;clear A620;replace H:=Option.bind_eq_some_iff.mp H;obtain ⟨⟨t678,t679,t680⟩,A630,H⟩ := H;replace H : ((spec_EmptyWagons.f kj24 t652 t653 t654).bind fun bt683 => (if (t662 != t675) = true then (laws_FnTrainLoading.j3 kj24 t652 t661 t665 t666 t670 true) else (if (t667 != t675) = true then (laws_FnTrainLoading.j3 kj24 t652 t661 t665 t666 t670 true) else (if (t671 != t675) = true then (laws_FnTrainLoading.j3 kj24 t652 t661 t665 t666 t670 true) else ((laws_rInts.f kj24 t661 t674).bind fun t687 => (if t687 = true then ((laws_rInts.f kj24 t665 t678).bind fun t688 => (if t688 = true then (if t666 = t679 then ((laws_rInts.f kj24 t670 bt683.1).bind fun t689 => (laws_FnTrainLoading.j3 kj24 t652 t661 t665 t666 t670 (!t689))) else (laws_FnTrainLoading.j3 kj24 t652 t661 t665 t666 t670 true)) else (laws_FnTrainLoading.j3 kj24 t652 t661 t665 t666 t670 true))) else (laws_FnTrainLoading.j3 kj24 t652 t661 t665 t666 t670 true))))))) = some r:=H;have A63:=am_ A630;clear A630;replace H:=Option.bind_eq_some_iff.mp H;obtain ⟨⟨t683,t684⟩,A640,H⟩ := H;replace H : (if (t662 != t675) = true then (laws_FnTrainLoading.j3 kj24 t652 t661 t665 t666 t670 true) else (if (t667 != t675) = true then (laws_FnTrainLoading.j3 kj24 t652 t661 t665 t666 t670 true) else (if (t671 != t675) = true then (laws_FnTrainLoading.j3 kj24 t652 t661 t665 t666 t670 true) else ((laws_rInts.f kj24 t661 t674).bind fun t687 => (if t687 = true then ((laws_rInts.f kj24 t665 t678).bind fun t688 => (if t688 = true then (if t666 = t679 then ((laws_rInts.f kj24 t670 t683).bind fun t689 => (laws_FnTrainLoading.j3 kj24 t652 t661 t665 t666 t670 (!t689))) else (laws_FnTrainLoading.j3 kj24 t652 t661 t665 t666 t670 true)) else (laws_FnTrainLoading.j3 kj24 t652 t661 t665 t666 t670 true))) else (laws_FnTrainLoading.j3 kj24 t652 t661 t665 t666 t670 true)))))) = some r:=H;have A64:=am_ A640;clear A640;have HC65:=am_ H;clear H
          go_upto_region 23 with (first | (go_at_call 21;(with_reducible refine (spec_DrawFreeLengths.calls kj24 _ _ l0 t652 t653 t654 _ ?side1 ?side2 A58.out).mono ?_);(case side1 => repeat (exact (Kd.C_below HR0.out HB.out)));(case side2 => exact HC0.out);rintro e w66 ⟨v655,v657,v659,rfl,ho0,ho1,ho2,hb⟩;have n0_:=am_ (Kd.R_lower ho0 (below_size (by exact HB.out)));have n1_:=am_ (Kd.R_lower ho1 (below_size (by exact HB.out)));have n2_:=am_ (Kd.R_lower ho2 (below_size (by exact HB.out)));have n3_:=am_ (below_step (by exact HB.out) hb);clear HB;have HO656:=n0_;have HO658:=n1_;have HO660:=n2_;have HB:=n3_;clear n0_ n1_ n2_ n3_;(try clear hb);(try clear ho0);(try clear ho1);(try clear ho2);obtain ⟨Ao67,co67,eo67⟩ := Kd.R_slice HO656.out;subst eo67;obtain ⟨Ao68,co68,eo68⟩ := Kd.R_slice HO658.out;subst eo68;obtain ⟨Ao69,co69,eo69⟩ := Kd.R_slice HO660.out;subst eo69) | (go_at_call 22;(with_reducible refine (impl_FreeLengths.calls kj24 _ _ t652 _ _ t653 _ _ t654 t661 t662 _ ?side1 ?side2 ?side3 ?side4 ?side5 ?side6 A59.out).mono ?_);(case side1 => repeat (exact (Kd.R_reads' HO656.out).2.2));(case side2 => exact (Kd.R_reads' HO656.out).2.1);(case side3 => repeat (exact (Kd.R_reads' HO658.out).2.2));(case side4 => exact (Kd.R_reads' HO658.out).2.1);(case side5 => repeat (exact (Kd.R_reads' HO660.out).2.2));(case side6 => exact (Kd.R_reads' HO660.out).2.1);rintro e w70 ⟨v663,rfl,ho0,hb⟩;have n0_:=am_ (Kd.R_below (by exact HO656.out) hb);have n1_:=am_ (Kd.R_below (by exact HO658.out) hb);have n2_:=am_ (Kd.R_elder' (by exact HO660.out) (Kd.R_base ho0) hb);have n3_:=am_ (Kd.R_lower (Kd.R_new' ho0 (Kd.R_lt (by exact HO660.out))) (below_size (by exact HB.out)));have n4_:=am_ (below_step (by exact HB.out) hb);clear HO656;clear HO658;clear HO660;clear HB;have HO656:=n0_;have HO658:=n1_;have HO660:=n2_;have HO664:=n3_;have HB:=n4_;clear n0_ n1_ n2_ n3_ n4_;(try clear hb);(try clear ho0)) | (go_at_call 23;(with_reducible refine (impl_WagonWeights.calls kj24 _ _ t652 _ _ t653 _ _ t654 t665 t666 t667 _ ?side1 ?side2 ?side3 ?side4 ?side5 ?side6 A60.out).mono ?_);(case side1 => repeat (exact (Kd.R_reads' HO656.out).2.2));(case side2 => exact (Kd.R_reads' HO656.out).2.1);(case side3 => repeat (exact (Kd.R_reads' HO658.out).2.2));(case side4 => exact (Kd.R_reads' HO658.out).2.1);(case side5 => repeat (exact (Kd.R_reads' HO660.out).2.2));(case side6 => exact (Kd.R_reads' HO660.out).2.1);rintro e w71 ⟨v668,rfl,ho0,hb⟩;have n0_:=am_ (Kd.R_below (by exact HO656.out) hb);have n1_:=am_ (Kd.R_below (by exact HO658.out) hb);have n2_:=am_ (Kd.R_elder' (by exact HO660.out) (Kd.R_base ho0) hb);have n3_:=am_ (Kd.R_elder' (by exact HO664.out) (Kd.R_base ho0) hb);have n4_:=am_ (Kd.R_lower (Kd.R_new' (Kd.R_new' ho0 (Kd.R_lt (by exact HO660.out))) (Kd.R_lt (by exact HO664.out))) (below_size (by exact HB.out)));have n5_:=am_ (below_step (by exact HB.out) hb);clear HO656;clear HO658;clear HO660;clear HO664;clear HB;have HO656:=n0_;have HO658:=n1_;have HO660:=n2_;have HO664:=n3_;have HO669:=n4_;have HB:=n5_;clear n0_ n1_ n2_ n3_ n4_ n5_;(try clear hb);(try clear ho0)) | (go_at_call 24;(with_reducible refine (impl_EmptyWagons.calls kj24 _ _ t652 _ _ t653 _ _ t654 t670 t671 _ ?side1 ?side2 ?side3 ?side4 ?side5 ?side6 A61.out).mono ?_);(case side1 => repeat (exact (Kd.R_reads' HO656.out).2.2));(case side2 => exact (Kd.R_reads' HO656.out).2.1);(case side3 => repeat (exact (Kd.R_reads' HO658.out).2.2));(case side4 => exact (Kd.R_reads' HO658.out).2.1);(case side5 => repeat (exact (Kd.R_reads' HO660.out).2.2));(case side6 => exact (Kd.R_reads' HO660.out).2.1);rintro e w72 ⟨v672,rfl,ho0,hb⟩;have n0_:=am_ (Kd.R_below (by exact HO656.out) hb);have n1_:=am_ (Kd.R_below (by exact HO658.out) hb);have n2_:=am_ (Kd.R_elder' (by exact HO660.out) (Kd.R_base ho0) hb);have n3_:=am_ (Kd.R_elder' (by exact HO664.out) (Kd.R_base ho0) hb);have n4_:=am_ (Kd.R_elder' (by exact HO669.out) (Kd.R_base ho0) hb);have n5_:=am_ (Kd.R_lower (Kd.R_new' (Kd.R_new' (Kd.R_new' ho0 (Kd.R_lt (by exact HO660.out))) (Kd.R_lt (by exact HO664.out))) (Kd.R_lt (by exact HO669.out))) (below_size (by exact HB.out)));have n6_:=am_ (below_step (by exact HB.out) hb);clear HO656;clear HO658;clear HO660;clear HO664;clear HO669;clear HB;have HO656:=n0_;have HO658:=n1_;have HO660:=n2_;have HO664:=n3_;have HO669:=n4_;have HO673:=n5_;have HB:=n6_;clear n0_ n1_ n2_ n3_ n4_ n5_ n6_;(try clear hb);(try clear ho0)) | (go_at_call 25;(with_reducible refine (spec_FreeLengths.calls kj24 _ _ t652 _ _ t653 _ _ t654 t674 t675 _ ?side1 ?side2 ?side3 ?side4 ?side5 ?side6 A62.out).mono ?_);(case side1 => repeat (exact (Kd.R_reads' HO656.out).2.2));(case side2 => exact (Kd.R_reads' HO656.out).2.1);(case side3 => repeat (exact (Kd.R_reads' HO658.out).2.2));(case side4 => exact (Kd.R_reads' HO658.out).2.1);(case side5 => repeat (exact (Kd.R_reads' HO660.out).2.2));(case side6 => exact (Kd.R_reads' HO660.out).2.1);rintro e w73 ⟨v676,rfl,ho0,hb⟩;have n0_:=am_ (Kd.R_below (by exact HO656.out) hb);have n1_:=am_ (Kd.R_below (by exact HO658.out) hb);have n2_:=am_ (Kd.R_elder' (by exact HO660.out) (Kd.R_base ho0) hb);have n3_:=am_ (Kd.R_elder' (by exact HO664.out) (Kd.R_base ho0) hb);have n4_:=am_ (Kd.R_elder' (by exact HO669.out) (Kd.R_base ho0) hb);have n5_:=am_ (Kd.R_elder' (by exact HO673.out) (Kd.R_base ho0) hb);have n6_:=am_ (Kd.R_lower (Kd.R_new' (Kd.R_new' (Kd.R_new' (Kd.R_new' ho0 (Kd.R_lt (by exact HO660.out))) (Kd.R_lt (by exact HO664.out))) (Kd.R_lt (by exact HO669.out))) (Kd.R_lt (by exact HO673.out))) (below_size (by exact HB.out)));have n7_:=am_ (below_step (by exact HB.out) hb);clear HO656;clear HO658;clear HO660;clear HO664;clear HO669;clear HO673;clear HB;have HO656:=n0_;have HO658:=n1_;have HO660:=n2_;have HO664:=n3_;have HO669:=n4_;have HO673:=n5_;have HO677:=n6_;have HB:=n7_;clear n0_ n1_ n2_ n3_ n4_ n5_ n6_ n7_;(try clear hb);(try clear ho0)) | (go_at_call 26;(with_reducible refine (spec_WagonWeights.calls kj24 _ _ t652 _ _ t653 _ _ t654 t678 t679 t680 _ ?side1 ?side2 ?side3 ?side4 ?side5 ?side6 A63.out).mono ?_);(case side1 => repeat (exact (Kd.R_reads' HO656.out).2.2));(case side2 => exact (Kd.R_reads' HO656.out).2.1);(case side3 => repeat (exact (Kd.R_reads' HO658.out).2.2));(case side4 => exact (Kd.R_reads' HO658.out).2.1);(case side5 => repeat (exact (Kd.R_reads' HO660.out).2.2));(case side6 => exact (Kd.R_reads' HO660.out).2.1);rintro e w74 ⟨v681,rfl,ho0,hb⟩;have n0_:=am_ (Kd.R_below (by exact HO656.out) hb);have n1_:=am_ (Kd.R_below (by exact HO658.out) hb);have n2_:=am_ (Kd.R_elder' (by exact HO660.out) (Kd.R_base ho0) hb);have n3_:=am_ (Kd.R_elder' (by exact HO664.out) (Kd.R_base ho0) hb);have n4_:=am_ (Kd.R_elder' (by exact HO669.out) (Kd.R_base ho0) hb);have n5_:=am_ (Kd.R_elder' (by exact HO673.out) (Kd.R_base ho0) hb);have n6_:=am_ (Kd.R_elder' (by exact HO677.out) (Kd.R_base ho0) hb);have n7_:=am_ (Kd.R_lower (Kd.R_new' (Kd.R_new' (Kd.R_new' (Kd.R_new' (Kd.R_new' ho0 (Kd.R_lt (by exact HO660.out))) (Kd.R_lt (by exact HO664.out))) (Kd.R_lt (by exact HO669.out))) (Kd.R_lt (by exact HO673.out))) (Kd.R_lt (by exact HO677.out))) (below_size (by exact HB.out)));have n8_:=am_ (below_step (by exact HB.out) hb);clear HO656;clear HO658;clear HO660;clear HO664;clear HO669;clear HO673;clear HO677;clear HB;have HO656:=n0_;have HO658:=n1_;have HO660:=n2_;have HO664:=n3_;have HO669:=n4_;have HO673:=n5_;have HO677:=n6_;have HO682:=n7_;have HB:=n8_;clear n0_ n1_ n2_ n3_ n4_ n5_ n6_ n7_ n8_;(try clear hb);(try clear ho0)) | (go_at_call 27;(with_reducible refine (spec_EmptyWagons.calls kj24 _ _ t652 _ _ t653 _ _ t654 t683 t684 _ ?side1 ?side2 ?side3 ?side4 ?side5 ?side6 A64.out).mono ?_);(case side1 => repeat (exact (Kd.R_reads' HO656.out).2.2));(case side2 => exact (Kd.R_reads' HO656.out).2.1);(case side3 => repeat (exact (Kd.R_reads' HO658.out).2.2));(case side4 => exact (Kd.R_reads' HO658.out).2.1);(case side5 => repeat (exact (Kd.R_reads' HO660.out).2.2));(case side6 => exact (Kd.R_reads' HO660.out).2.1);rintro e w75 ⟨v685,rfl,ho0,hb⟩;have n0_:=am_ (Kd.R_below (by exact HO656.out) hb);have n1_:=am_ (Kd.R_below (by exact HO658.out) hb);have n2_:=am_ (Kd.R_elder' (by exact HO660.out) (Kd.R_base ho0) hb);have n3_:=am_ (Kd.R_elder' (by exact HO664.out) (Kd.R_base ho0) hb);have n4_:=am_ (Kd.R_elder' (by exact HO669.out) (Kd.R_base ho0) hb);have n5_:=am_ (Kd.R_elder' (by exact HO673.out) (Kd.R_base ho0) hb);have n6_:=am_ (Kd.R_elder' (by exact HO677.out) (Kd.R_base ho0) hb);have n7_:=am_ (Kd.R_elder' (by exact HO682.out) (Kd.R_base ho0) hb);have n8_:=am_ (Kd.R_lower (Kd.R_new' (Kd.R_new' (Kd.R_new' (Kd.R_new' (Kd.R_new' (Kd.R_new' ho0 (Kd.R_lt (by exact HO660.out))) (Kd.R_lt (by exact HO664.out))) (Kd.R_lt (by exact HO669.out))) (Kd.R_lt (by exact HO673.out))) (Kd.R_lt (by exact HO677.out))) (Kd.R_lt (by exact HO682.out))) (below_size (by exact HB.out)));have n9_:=am_ (below_step (by exact HB.out) hb);clear HO656;clear HO658;clear HO660;clear HO664;clear HO669;clear HO673;clear HO677;clear HO682;clear HB;have HO656:=n0_;have HO658:=n1_;have HO660:=n2_;have HO664:=n3_;have HO669:=n4_;have HO673:=n5_;have HO677:=n6_;have HO682:=n7_;have HO686:=n8_;have HB:=n9_;clear n0_ n1_ n2_ n3_ n4_ n5_ n6_ n7_ n8_ n9_;(try clear hb);(try clear ho0)))
          repeat (go_quiet (fail);go_upto_region 23 with (first | (go_at_call 21;(with_reducible refine (spec_DrawFreeLengths.calls kj24 _ _ l0 t652 t653 t654 _ ?side1 ?side2 A58.out).mono ?_);(case side1 => repeat (first | exact (Kd.C_below HR0.out HB.out) | (with_reducible refine Kd.C_alloc ?_ _) | (with_reducible refine Kd.C_drewN ?_ _) | (with_reducible refine Kd.C_drew ?_)));(case side2 => exact HC0.out);rintro e w66 ⟨v655,v657,v659,rfl,ho0,ho1,ho2,hb⟩;have n0_:=am_ (Kd.R_lower ho0 (below_size (by repeat (first | (with_reducible first | exact HB.out | apply below_alloc | apply pw_below_drewN | apply below_drew1) | exact HB.out))));have n1_:=am_ (Kd.R_lower ho1 (below_size (by repeat (first | (with_reducible first | exact HB.out | apply below_alloc | apply pw_below_drewN | apply below_drew1) | exact HB.out))));have n2_:=am_ (Kd.R_lower ho2 (below_size (by repeat (first | (with_reducible first | exact HB.out | apply below_alloc | apply pw_below_drewN | apply below_drew1) | exact HB.out))));have n3_:=am_ (below_step (by repeat (first | (with_reducible first | exact HB.out | apply below_alloc | apply pw_below_drewN | apply below_drew1) | exact HB.out)) hb);clear HB;have HO656:=n0_;have HO658:=n1_;have HO660:=n2_;have HB:=n3_;clear n0_ n1_ n2_ n3_;(try clear hb);(try clear hb2);(try clear hk);(try clear hi);(try clear ho0);(try clear ho1);(try clear ho2);obtain ⟨Ao67,co67,eo67⟩ := Kd.R_slice HO656.out;subst eo67;obtain ⟨Ao68,co68,eo68⟩ := Kd.R_slice HO658.out;subst eo68;obtain ⟨Ao69,co69,eo69⟩ := Kd.R_slice HO660.out;subst eo69) | (go_at_call 22;(with_reducible refine (impl_FreeLengths.calls kj24 _ _ t652 _ _ t653 _ _ t654 t661 t662 _ ?side1 ?side2 ?side3 ?side4 ?side5 ?side6 A59.out).mono ?_);(case side1 => repeat (first | exact (Kd.R_reads' HO656.out).2.2 | (with_reducible refine Kd.C_alloc ?_ _) | (with_reducible refine Kd.C_drewN ?_ _) | (with_reducible refine Kd.C_drew ?_)));(case side2 => exact (Kd.R_reads' HO656.out).2.1);(case side3 => repeat (first | exact (Kd.R_reads' HO658.out).2.2 | (with_reducible refine Kd.C_alloc ?_ _) | (with_reducible refine Kd.C_drewN ?_ _) | (with_reducible refine Kd.C_drew ?_)));(case side4 => exact (Kd.R_reads' HO658.out).2.1);(case side5 => repeat (first | exact (Kd.R_reads' HO660.out).2.2 | (with_reducible refine Kd.C_alloc ?_ _) | (with_reducible refine Kd.C_drewN ?_ _) | (with_reducible refine Kd.C_drew ?_)));(case side6 => exact (Kd.R_reads' HO660.out).2.1);rintro e w70 ⟨v663,rfl,ho0,hb⟩;have n0_:=am_ (Kd.R_below (by (with_reducible repeat (first | apply Kd.R_alloc | apply Kd.R_drewN | apply Kd.R_drew));exact HO656.out) hb);have n1_:=am_ (Kd.R_below (by (with_reducible repeat (first | apply Kd.R_alloc | apply Kd.R_drewN | apply Kd.R_drew));exact HO658.out) hb);have n2_:=am_ (Kd.R_elder' (by (with_reducible repeat (first | apply Kd.R_alloc | apply Kd.R_drewN | apply Kd.R_drew));exact HO660.out) (Kd.R_base ho0) hb);have n3_:=am_ (Kd.R_lower (Kd.R_new' ho0 (Kd.R_lt (by (with_reducible repeat (first | apply Kd.R_alloc | apply Kd.R_drewN | apply Kd.R_drew));exact HO660.out))) (below_size (by repeat (first | (with_reducible first | exact HB.out | apply below_alloc | apply pw_below_drewN | apply below_drew1) | exact HB.out))));have n4_:=am_ (below_step (by repeat (first | (with_reducible first | exact HB.out | apply below_alloc | apply pw_below_drewN | apply below_drew1) | exact HB.out)) hb);clear HO656;clear HO658;clear HO660;clear HB;have HO656:=n0_;have HO658:=n1_;have HO660:=n2_;have HO664:=n3_;have HB:=n4_;clear n0_ n1_ n2_ n3_ n4_;(try clear hb);(try clear hb2);(try clear hk);(try clear hi);(try clear ho0)) | (go_at_call 23;(with_reducible refine (impl_WagonWeights.calls kj24 _ _ t652 _ _ t653 _ _ t654 t665 t666 t667 _ ?side1 ?side2 ?side3 ?side4 ?side5 ?side6 A60.out).mono ?_);(case side1 => repeat (first | exact (Kd.R_reads' HO656.out).2.2 | (with_reducible refine Kd.C_alloc ?_ _) | (with_reducible refine Kd.C_drewN ?_ _) | (with_reducible refine Kd.C_drew ?_)));(case side2 => exact (Kd.R_reads' HO656.out).2.1);(case side3 => repeat (first | exact (Kd.R_reads' HO658.out).2.2 | (with_reducible refine Kd.C_alloc ?_ _) | (with_reducible refine Kd.C_drewN ?_ _) | (with_reducible refine Kd.C_drew ?_)));(case side4 => exact (Kd.R_reads' HO658.out).2.1);(case side5 => repeat (first | exact (Kd.R_reads' HO660.out).2.2 | (with_reducible refine Kd.C_alloc ?_ _) | (with_reducible refine Kd.C_drewN ?_ _) | (with_reducible refine Kd.C_drew ?_)));(case side6 => exact (Kd.R_reads' HO660.out).2.1);rintro e w71 ⟨v668,rfl,ho0,hb⟩;have n0_:=am_ (Kd.R_below (by (with_reducible repeat (first | apply Kd.R_alloc | apply Kd.R_drewN | apply Kd.R_drew));exact HO656.out) hb);have n1_:=am_ (Kd.R_below (by (with_reducible repeat (first | apply Kd.R_alloc | apply Kd.R_drewN | apply Kd.R_drew));exact HO658.out) hb);have n2_:=am_ (Kd.R_elder' (by (with_reducible repeat (first | apply Kd.R_alloc | apply Kd.R_drewN | apply Kd.R_drew));exact HO660.out) (Kd.R_base ho0) hb);have n3_:=am_ (Kd.R_elder' (by (with_reducible repeat (first | apply Kd.R_alloc | apply Kd.R_drewN | apply Kd.R_drew));exact HO664.out) (Kd.R_base ho0) hb);have n4_:=am_ (Kd.R_lower (Kd.R_new' (Kd.R_new' ho0 (Kd.R_lt (by (with_reducible repeat (first | apply Kd.R_alloc | apply Kd.R_drewN | apply Kd.R_drew));exact HO660.out))) (Kd.R_lt (by (with_reducible repeat (first | apply Kd.R_alloc | apply Kd.R_drewN | apply Kd.R_drew));exact HO664.out))) (below_size (by repeat (first | (with_reducible first | exact HB.out | apply below_alloc | apply pw_below_drewN | apply below_drew1) | exact HB.out))));have n5_:=am_ (below_step (by repeat (first | (with_reducible first | exact HB.out | apply below_alloc | apply pw_below_drewN | apply below_drew1) | exact HB.out)) hb);clear HO656;clear HO658;clear HO660;clear HO664;clear HB;have HO656:=n0_;have HO658:=n1_;have HO660:=n2_;have HO664:=n3_;have HO669:=n4_;have HB:=n5_;clear n0_ n1_ n2_ n3_ n4_ n5_;(try clear hb);(try clear hb2);(try clear hk);(try clear hi);(try clear ho0)) | (go_at_call 24;(with_reducible refine (impl_EmptyWagons.calls kj24 _ _ t652 _ _ t653 _ _ t654 t670 t671 _ ?side1 ?side2 ?side3 ?side4 ?side5 ?side6 A61.out).mono ?_);(case side1 => repeat (first | exact (Kd.R_reads' HO656.out).2.2 | (with_reducible refine Kd.C_alloc ?_ _) | (with_reducible refine Kd.C_drewN ?_ _) | (with_reducible refine Kd.C_drew ?_)));(case side2 => exact (Kd.R_reads' HO656.out).2.1);(case side3 => repeat (first | exact (Kd.R_reads' HO658.out).2.2 | (with_reducible refine Kd.C_alloc ?_ _) | (with_reducible refine Kd.C_drewN ?_ _) | (with_reducible refine Kd.C_drew ?_)));(case side4 => exact (Kd.R_reads' HO658.out).2.1);(case side5 => repeat (first | exact (Kd.R_reads' HO660.out).2.2 | (with_reducible refine Kd.C_alloc ?_ _) | (with_reducible refine Kd.C_drewN ?_ _) | (with_reducible refine Kd.C_drew ?_)));(case side6 => exact (Kd.R_reads' HO660.out).2.1);rintro e w72 ⟨v672,rfl,ho0,hb⟩;have n0_:=am_ (Kd.R_below (by (with_reducible repeat (first | apply Kd.R_alloc | apply Kd.R_drewN | apply Kd.R_drew));exact HO656.out) hb);have n1_:=am_ (Kd.R_below (by (with_reducible repeat (first | apply Kd.R_alloc | apply Kd.R_drewN | apply Kd.R_drew));exact HO658.out) hb);have n2_:=am_ (Kd.R_elder' (by (with_reducible repeat (first | apply Kd.R_alloc | apply Kd.R_drewN | apply Kd.R_drew));exact HO660.out) (Kd.R_base ho0) hb);have n3_:=am_ (Kd.R_elder' (by (with_reducible repeat (first | apply Kd.R_alloc | apply Kd.R_drewN | apply Kd.R_drew));exact HO664.out) (Kd.R_base ho0) hb);have n4_:=am_ (Kd.R_elder' (by (with_reducible repeat (first | apply Kd.R_alloc | apply Kd.R_drewN | apply Kd.R_drew));exact HO669.out) (Kd.R_base ho0) hb);have n5_:=am_ (Kd.R_lower (Kd.R_new' (Kd.R_new' (Kd.R_new' ho0 (Kd.R_lt (by (with_reducible repeat (first | apply Kd.R_alloc | apply Kd.R_drewN | apply Kd.R_drew));exact HO660.out))) (Kd.R_lt (by (with_reducible repeat (first | apply Kd.R_alloc | apply Kd.R_drewN | apply Kd.R_drew));exact HO664.out))) (Kd.R_lt (by (with_reducible repeat (first | apply Kd.R_alloc | apply Kd.R_drewN | apply Kd.R_drew));exact HO669.out))) (below_size (by repeat (first | (with_reducible first | exact HB.out | apply below_alloc | apply pw_below_drewN | apply below_drew1) | exact HB.out))));have n6_:=am_ (below_step (by repeat (first | (with_reducible first | exact HB.out | apply below_alloc | apply pw_below_drewN | apply below_drew1) | exact HB.out)) hb);clear HO656;clear HO658;clear HO660;clear HO664;clear HO669;clear HB;have HO656:=n0_;have HO658:=n1_;have HO660:=n2_;have HO664:=n3_;have HO669:=n4_;have HO673:=n5_;have HB:=n6_;clear n0_ n1_ n2_ n3_ n4_ n5_ n6_;(try clear hb);(try clear hb2);(try clear hk);(try clear hi);(try clear ho0)) | (go_at_call 25;(with_reducible refine (spec_FreeLengths.calls kj24 _ _ t652 _ _ t653 _ _ t654 t674 t675 _ ?side1 ?side2 ?side3 ?side4 ?side5 ?side6 A62.out).mono ?_);(case side1 => repeat (first | exact (Kd.R_reads' HO656.out).2.2 | (with_reducible refine Kd.C_alloc ?_ _) | (with_reducible refine Kd.C_drewN ?_ _) | (with_reducible refine Kd.C_drew ?_)));(case side2 => exact (Kd.R_reads' HO656.out).2.1);(case side3 => repeat (first | exact (Kd.R_reads' HO658.out).2.2 | (with_reducible refine Kd.C_alloc ?_ _) | (with_reducible refine Kd.C_drewN ?_ _) | (with_reducible refine Kd.C_drew ?_)));(case side4 => exact (Kd.R_reads' HO658.out).2.1);(case side5 => repeat (first | exact (Kd.R_reads' HO660.out).2.2 | (with_reducible refine Kd.C_alloc ?_ _) | (with_reducible refine Kd.C_drewN ?_ _) | (with_reducible refine Kd.C_drew ?_)));(case side6 => exact (Kd.R_reads' HO660.out).2.1);rintro e w73 ⟨v676,rfl,ho0,hb⟩;have n0_:=am_ (Kd.R_below (by (with_reducible repeat (first | apply Kd.R_alloc | apply Kd.R_drewN | apply Kd.R_drew));exact HO656.out) hb);have n1_:=am_ (Kd.R_below (by (with_reducible repeat (first | apply Kd.R_alloc | apply Kd.R_drewN | apply Kd.R_drew));exact HO658.out) hb);have n2_:=am_ (Kd.R_elder' (by (with_reducible repeat (first | apply Kd.R_alloc | apply Kd.R_drewN | apply Kd.R_drew));exact HO660.out) (Kd.R_base ho0) hb);have n3_:=am_ (Kd.R_elder' (by (with_reducible repeat (first | apply Kd.R_alloc | apply Kd.R_drewN | apply Kd.R_drew));exact HO664.out) (Kd.R_base ho0) hb);have n4_:=am_ (Kd.R_elder' (by (with_reducible repeat (first | apply Kd.R_alloc | apply Kd.R_drewN | apply Kd.R_drew));exact HO669.out) (Kd.R_base ho0) hb);have n5_:=am_ (Kd.R_elder' (by (with_reducible repeat (first | apply Kd.R_alloc | apply Kd.R_drewN | apply Kd.R_drew));exact HO673.out) (Kd.R_base ho0) hb);have n6_:=am_ (Kd.R_lower (Kd.R_new' (Kd.R_new' (Kd.R_new' (Kd.R_new' ho0 (Kd.R_lt (by (with_reducible repeat (first | apply Kd.R_alloc | apply Kd.R_drewN | apply Kd.R_drew));exact HO660.out))) (Kd.R_lt (by (with_reducible repeat (first | apply Kd.R_alloc | apply Kd.R_drewN | apply Kd.R_drew));exact HO664.out))) (Kd.R_lt (by (with_reducible repeat (first | apply Kd.R_alloc | apply Kd.R_drewN | apply Kd.R_drew));exact HO669.out))) (Kd.R_lt (by (with_reducible repeat (first | apply Kd.R_alloc | apply Kd.R_drewN | apply Kd.R_drew));exact HO673.out))) (below_size (by repeat (first | (with_reducible first | exact HB.out | apply below_alloc | apply pw_below_drewN | apply below_drew1) | exact HB.out))));have n7_:=am_ (below_step (by repeat (first | (with_reducible first | exact HB.out | apply below_alloc | apply pw_below_drewN | apply below_drew1) | exact HB.out)) hb);clear HO656;clear HO658;clear HO660;clear HO664;clear HO669;clear HO673;clear HB;have HO656:=n0_;have HO658:=n1_;have HO660:=n2_;have HO664:=n3_;have HO669:=n4_;have HO673:=n5_;have HO677:=n6_;have HB:=n7_;clear n0_ n1_ n2_ n3_ n4_ n5_ n6_ n7_;(try clear hb);(try clear hb2);(try clear hk);(try clear hi);(try clear ho0)) | (go_at_call 26;(with_reducible refine (spec_WagonWeights.calls kj24 _ _ t652 _ _ t653 _ _ t654 t678 t679 t680 _ ?side1 ?side2 ?side3 ?side4 ?side5 ?side6 A63.out).mono ?_);(case side1 => repeat (first | exact (Kd.R_reads' HO656.out).2.2 | (with_reducible refine Kd.C_alloc ?_ _) | (with_reducible refine Kd.C_drewN ?_ _) | (with_reducible refine Kd.C_drew ?_)));(case side2 => exact (Kd.R_reads' HO656.out).2.1);(case side3 => repeat (first | exact (Kd.R_reads' HO658.out).2.2 | (with_reducible refine Kd.C_alloc ?_ _) | (with_reducible refine Kd.C_drewN ?_ _) | (with_reducible refine Kd.C_drew ?_)));(case side4 => exact (Kd.R_reads' HO658.out).2.1);(case side5 => repeat (first | exact (Kd.R_reads' HO660.out).2.2 | (with_reducible refine Kd.C_alloc ?_ _) | (with_reducible refine Kd.C_drewN ?_ _) | (with_reducible refine Kd.C_drew ?_)));(case side6 => exact (Kd.R_reads' HO660.out).2.1);rintro e w74 ⟨v681,rfl,ho0,hb⟩;have n0_:=am_ (Kd.R_below (by (with_reducible repeat (first | apply Kd.R_alloc | apply Kd.R_drewN | apply Kd.R_drew));exact HO656.out) hb);have n1_:=am_ (Kd.R_below (by (with_reducible repeat (first | apply Kd.R_alloc | apply Kd.R_drewN | apply Kd.R_drew));exact HO658.out) hb);have n2_:=am_ (Kd.R_elder' (by (with_reducible repeat (first | apply Kd.R_alloc | apply Kd.R_drewN | apply Kd.R_drew));exact HO660.out) (Kd.R_base ho0) hb);have n3_:=am_ (Kd.R_elder' (by (with_reducible repeat (first | apply Kd.R_alloc | apply Kd.R_drewN | apply Kd.R_drew));exact HO664.out) (Kd.R_base ho0) hb);have n4_:=am_ (Kd.R_elder' (by (with_reducible repeat (first | apply Kd.R_alloc | apply Kd.R_drewN | apply Kd.R_drew));exact HO669.out) (Kd.R_base ho0) hb);have n5_:=am_ (Kd.R_elder' (by (with_reducible repeat (first | apply Kd.R_alloc | apply Kd.R_drewN | apply Kd.R_drew));exact HO673.out) (Kd.R_base ho0) hb);have n6_:=am_ (Kd.R_elder' (by (with_reducible repeat (first | apply Kd.R_alloc | apply Kd.R_drewN | apply Kd.R_drew));exact HO677.out) (Kd.R_base ho0) hb);have n7_:=am_ (Kd.R_lower (Kd.R_new' (Kd.R_new' (Kd.R_new' (Kd.R_new' (Kd.R_new' ho0 (Kd.R_lt (by (with_reducible repeat (first | apply Kd.R_alloc | apply Kd.R_drewN | apply Kd.R_drew));exact HO660.out))) (Kd.R_lt (by (with_reducible repeat (first | apply Kd.R_alloc | apply Kd.R_drewN | apply Kd.R_drew));exact HO664.out))) (Kd.R_lt (by (with_reducible repeat (first | apply Kd.R_alloc | apply Kd.R_drewN | apply Kd.R_drew));exact HO669.out))) (Kd.R_lt (by (with_reducible repeat (first | apply Kd.R_alloc | apply Kd.R_drewN | apply Kd.R_drew));exact HO673.out))) (Kd.R_lt (by (with_reducible repeat (first | apply Kd.R_alloc | apply Kd.R_drewN | apply Kd.R_drew));exact HO677.out))) (below_size (by repeat (first | (with_reducible first | exact HB.out | apply below_alloc | apply pw_below_drewN | apply below_drew1) | exact HB.out))));have n8_:=am_ (below_step (by repeat (first | (with_reducible first | exact HB.out | apply below_alloc | apply pw_below_drewN | apply below_drew1) | exact HB.out)) hb);clear HO656;clear HO658;clear HO660;clear HO664;clear HO669;clear HO673;clear HO677;clear HB;have HO656:=n0_;have HO658:=n1_;have HO660:=n2_;have HO664:=n3_;have HO669:=n4_;have HO673:=n5_;have HO677:=n6_;have HO682:=n7_;have HB:=n8_;clear n0_ n1_ n2_ n3_ n4_ n5_ n6_ n7_ n8_;(try clear hb);(try clear hb2);(try clear hk);(try clear hi);(try clear ho0)) | (go_at_call 27;(with_reducible refine (spec_EmptyWagons.calls kj24 _ _ t652 _ _ t653 _ _ t654 t683 t684 _ ?side1 ?side2 ?side3 ?side4 ?side5 ?side6 A64.out).mono ?_);(case side1 => repeat (first | exact (Kd.R_reads' HO656.out).2.2 | (with_reducible refine Kd.C_alloc ?_ _) | (with_reducible refine Kd.C_drewN ?_ _) | (with_reducible refine Kd.C_drew ?_)));(case side2 => exact (Kd.R_reads' HO656.out).2.1);(case side3 => repeat (first | exact (Kd.R_reads' HO658.out).2.2 | (with_reducible refine Kd.C_alloc ?_ _) | (with_reducible refine Kd.C_drewN ?_ _) | (with_reducible refine Kd.C_drew ?_)));(case side4 => exact (Kd.R_reads' HO658.out).2.1);(case side5 => repeat (first | exact (Kd.R_reads' HO660.out).2.2 | (with_reducible refine Kd.C_alloc ?_ _) | (with_reducible refine Kd.C_drewN ?_ _) | (with_reducible refine Kd.C_drew ?_)));(case side6 => exact (Kd.R_reads' HO660.out).2.1);rintro e w75 ⟨v685,rfl,ho0,hb⟩;have n0_:=am_ (Kd.R_below (by (with_reducible repeat (first | apply Kd.R_alloc | apply Kd.R_drewN | apply Kd.R_drew));exact HO656.out) hb);have n1_:=am_ (Kd.R_below (by (with_reducible repeat (first | apply Kd.R_alloc | apply Kd.R_drewN | apply Kd.R_drew));exact HO658.out) hb);have n2_:=am_ (Kd.R_elder' (by (with_reducible repeat (first | apply Kd.R_alloc | apply Kd.R_drewN | apply Kd.R_drew));exact HO660.out) (Kd.R_base ho0) hb);have n3_:=am_ (Kd.R_elder' (by (with_reducible repeat (first | apply Kd.R_alloc | apply Kd.R_drewN | apply Kd.R_drew));exact HO664.out) (Kd.R_base ho0) hb);have n4_:=am_ (Kd.R_elder' (by (with_reducible repeat (first | apply Kd.R_alloc | apply Kd.R_drewN | apply Kd.R_drew));exact HO669.out) (Kd.R_base ho0) hb);have n5_:=am_ (Kd.R_elder' (by (with_reducible repeat (first | apply Kd.R_alloc | apply Kd.R_drewN | apply Kd.R_drew));exact HO673.out) (Kd.R_base ho0) hb);have n6_:=am_ (Kd.R_elder' (by (with_reducible repeat (first | apply Kd.R_alloc | apply Kd.R_drewN | apply Kd.R_drew));exact HO677.out) (Kd.R_base ho0) hb);have n7_:=am_ (Kd.R_elder' (by (with_reducible repeat (first | apply Kd.R_alloc | apply Kd.R_drewN | apply Kd.R_drew));exact HO682.out) (Kd.R_base ho0) hb);have n8_:=am_ (Kd.R_lower (Kd.R_new' (Kd.R_new' (Kd.R_new' (Kd.R_new' (Kd.R_new' (Kd.R_new' ho0 (Kd.R_lt (by (with_reducible repeat (first | apply Kd.R_alloc | apply Kd.R_drewN | apply Kd.R_drew));exact HO660.out))) (Kd.R_lt (by (with_reducible repeat (first | apply Kd.R_alloc | apply Kd.R_drewN | apply Kd.R_drew));exact HO664.out))) (Kd.R_lt (by (with_reducible repeat (first | apply Kd.R_alloc | apply Kd.R_drewN | apply Kd.R_drew));exact HO669.out))) (Kd.R_lt (by (with_reducible repeat (first | apply Kd.R_alloc | apply Kd.R_drewN | apply Kd.R_drew));exact HO673.out))) (Kd.R_lt (by (with_reducible repeat (first | apply Kd.R_alloc | apply Kd.R_drewN | apply Kd.R_drew));exact HO677.out))) (Kd.R_lt (by (with_reducible repeat (first | apply Kd.R_alloc | apply Kd.R_drewN | apply Kd.R_drew));exact HO682.out))) (below_size (by repeat (first | (with_reducible first | exact HB.out | apply below_alloc | apply pw_below_drewN | apply below_drew1) | exact HB.out))));have n9_:=am_ (below_step (by repeat (first | (with_reducible first | exact HB.out | apply below_alloc | apply pw_below_drewN | apply below_drew1) | exact HB.out)) hb);clear HO656;clear HO658;clear HO660;clear HO664;clear HO669;clear HO673;clear HO677;clear HO682;clear HB;have HO656:=n0_;have HO658:=n1_;have HO660:=n2_;have HO664:=n3_;have HO669:=n4_;have HO673:=n5_;have HO677:=n6_;have HO682:=n7_;have HO686:=n8_;have HB:=n9_;clear n0_ n1_ n2_ n3_ n4_ n5_ n6_ n7_ n8_ n9_;(try clear hb);(try clear hb2);(try clear hk);(try clear hi);(try clear ho0))))
          (skip)
          go_cut [200] (fun v200 wc => ∃ (kq : Nat) (x200_64 : Bool),v200 = .bool x200_64 ∧ Aside0 (laws_FnTrainLoading.j3 kq t652 t661 t665 t666 t670 x200_64 = some r) ∧ Aside0 (kq ≤ kj24) ∧ Aside0 (Kd.R k54 54 wc w.heap.size (fun _ => True) (.slice Ao67 t652.length co67) t652) ∧ Aside0 (Kd.R (Kd.int .i64) 3 wc w.heap.size (fun k_ => some k_ ≠ (v668 : Value).ownBlock ∧ some k_ ≠ (v672 : Value).ownBlock) v663 t661) ∧ Aside0 (Kd.R (Kd.int .i64) 3 wc w.heap.size (fun k_ => some k_ ≠ (v663 : Value).ownBlock ∧ some k_ ≠ (v672 : Value).ownBlock) v668 t665) ∧ Aside0 (Kd.R (Kd.int .i64) 3 wc w.heap.size (fun k_ => some k_ ≠ (v663 : Value).ownBlock ∧ some k_ ≠ (v668 : Value).ownBlock) v672 t670) ∧ Aside0 (Below w.heap.size w wc))
          case first =>
           have H:=HC65.out;clear HC65
           by_cases c76 : (t662 != t675) = true
           ·rw [if_pos c76] at H;have c76b0 : (t662 != t675) = true:=c76;(try (have c76b1 : decide (t662 = t675) = false:=by simpa using c76));(try (have c76b2 : (t662 == t675) = false:=by simpa using c76));(try (have c76b3 : ¬ (t662 = t675):=by simpa using c76));clear c76
            (skip)
            have H':=am_ H;clear H
            as_aux_lemma =>
             go_wp2
             repeat (go_quiet (fail);try go_wp2)
             go_meet
             case rel => exact ⟨_,(true),(by rfl),H',⟨by have:=HJ6.out;have:=HJ19.out;have:=HJ24.out;omega⟩,⟨by exact HO656.out⟩,⟨by exact Kd.R_mono HO664.out (fun _ hk => ⟨hk.1.1.1.1.2,hk.1.1.1.2⟩)⟩,⟨by exact Kd.R_mono HO669.out (fun _ hk => ⟨hk.1.1.1.1.2,hk.1.1.1.2⟩)⟩,⟨by exact Kd.R_mono HO673.out (fun _ hk => ⟨hk.1.1.1.1.2,hk.1.1.1.2⟩)⟩,⟨by exact HB.out⟩⟩
           ·rw [if_neg c76] at H
            have c76b0 : (t662 != t675) = false:=by simpa using c76
            (try (have c76b1 : decide (t662 = t675) = true:=by simpa using c76));(try (have c76b2 : (t662 == t675) = true:=by simpa using c76));clear c76
            (skip)
            by_cases c77 : (t667 != t675) = true
            ·rw [if_pos c77] at H;have c77b0 : (t667 != t675) = true:=c77;(try (have c77b1 : decide (t667 = t675) = false:=by simpa using c77));(try (have c77b2 : (t667 == t675) = false:=by simpa using c77));(try (have c77b3 : ¬ (t667 = t675):=by simpa using c77));clear c77;have H':=am_ H;clear H
             as_aux_lemma =>
              go_wp2
              repeat (go_quiet (fail);try go_wp2)
              go_meet
              case rel => exact ⟨_,(true),(by rfl),H',⟨by have:=HJ6.out;have:=HJ19.out;have:=HJ24.out;omega⟩,⟨by exact HO656.out⟩,⟨by exact Kd.R_mono HO664.out (fun _ hk => ⟨hk.1.1.1.1.2,hk.1.1.1.2⟩)⟩,⟨by exact Kd.R_mono HO669.out (fun _ hk => ⟨hk.1.1.1.1.2,hk.1.1.1.2⟩)⟩,⟨by exact Kd.R_mono HO673.out (fun _ hk => ⟨hk.1.1.1.1.2,hk.1.1.1.2⟩)⟩,⟨by exact HB.out⟩⟩
            ·rw [if_neg c77] at H
             have c77b0 : (t667 != t675) = false:=by simpa using c77
             (try (have c77b1 : decide (t667 = t675) = true:=by simpa using c77));(try (have c77b2 : (t667 == t675) = true:=by simpa using c77));clear c77
             by_cases c78 : (t671 != t675) = true
             ·rw [if_pos c78] at H;have c78b0 : (t671 != t675) = true:=c78;(try (have c78b1 : decide (t671 = t675) = false:=by simpa using c78));(try (have c78b2 : (t671 == t675) = false:=by simpa using c78));(try (have c78b3 : ¬ (t671 = t675):=by simpa using c78));clear c78;have H':=am_ H;clear H
              as_aux_lemma =>
               go_wp2
               repeat (go_quiet (fail);try go_wp2)
               go_meet
               case rel => exact ⟨_,(true),(by rfl),H',⟨by have:=HJ6.out;have:=HJ19.out;have:=HJ24.out;omega⟩,⟨by exact HO656.out⟩,⟨by exact Kd.R_mono HO664.out (fun _ hk => ⟨hk.1.1.1.1.2,hk.1.1.1.2⟩)⟩,⟨by exact Kd.R_mono HO669.out (fun _ hk => ⟨hk.1.1.1.1.2,hk.1.1.1.2⟩)⟩,⟨by exact Kd.R_mono HO673.out (fun _ hk => ⟨hk.1.1.1.1.2,hk.1.1.1.2⟩)⟩,⟨by exact HB.out⟩⟩
             ·rw [if_neg c78] at H
              have c78b0 : (t671 != t675) = false:=by simpa using c78
              (try (have c78b1 : decide (t671 = t675) = true:=by simpa using c78));(try (have c78b2 : (t671 == t675) = true:=by simpa using c78));clear c78;replace H:=Option.bind_eq_some_iff.mp H;obtain ⟨t687,A790,H⟩ := H;replace H : (if t687 = true then ((laws_rInts.f kj24 t665 t678).bind fun t688 => (if t688 = true then (if t666 = t679 then ((laws_rInts.f kj24 t670 t683).bind fun t689 => (laws_FnTrainLoading.j3 kj24 t652 t661 t665 t666 t670 (!t689))) else (laws_FnTrainLoading.j3 kj24 t652 t661 t665 t666 t670 true)) else (laws_FnTrainLoading.j3 kj24 t652 t661 t665 t666 t670 true))) else (laws_FnTrainLoading.j3 kj24 t652 t661 t665 t666 t670 true)) = some r:=H;have A79:=am_ A790;clear A790
              by_cases c80 : t687 = true
              ·subst c80
               have H1 : ((laws_rInts.f kj24 t665 t678).bind fun t688 => (if t688 = true then (if t666 = t679 then ((laws_rInts.f kj24 t670 t683).bind fun t689 => (laws_FnTrainLoading.j3 kj24 t652 t661 t665 t666 t670 (!t689))) else (laws_FnTrainLoading.j3 kj24 t652 t661 t665 t666 t670 true)) else (laws_FnTrainLoading.j3 kj24 t652 t661 t665 t666 t670 true))) = some r:=by rw [if_pos rfl] at H;exact H
               clear H;have H:=H1;clear H1;replace H:=Option.bind_eq_some_iff.mp H;obtain ⟨t688,A810,H⟩ := H;replace H : (if t688 = true then (if t666 = t679 then ((laws_rInts.f kj24 t670 t683).bind fun t689 => (laws_FnTrainLoading.j3 kj24 t652 t661 t665 t666 t670 (!t689))) else (laws_FnTrainLoading.j3 kj24 t652 t661 t665 t666 t670 true)) else (laws_FnTrainLoading.j3 kj24 t652 t661 t665 t666 t670 true)) = some r:=H;have A81:=am_ A810;clear A810
               by_cases c82 : t688 = true
               ·subst c82
                have H1 : (if t666 = t679 then ((laws_rInts.f kj24 t670 t683).bind fun t689 => (laws_FnTrainLoading.j3 kj24 t652 t661 t665 t666 t670 (!t689))) else (laws_FnTrainLoading.j3 kj24 t652 t661 t665 t666 t670 true)) = some r:=by rw [if_pos rfl] at H;exact H
                clear H;have H:=H1;clear H1
                by_cases c83 : t666 = t679
                ·rw [if_pos c83] at H;have c83b0 : (t666 == t679) = true:=beq_iff_eq.mpr c83;have c83b1 : (t666 != t679) = false:=bne_eq_false_iff_eq.mpr c83;clear c83;replace H:=Option.bind_eq_some_iff.mp H;obtain ⟨t689,A840,H⟩ := H;replace H : (laws_FnTrainLoading.j3 kj24 t652 t661 t665 t666 t670 (!t689)) = some r:=H;have A84:=am_ A840;clear A840;have H':=am_ H;clear H;obtain ⟨Ao85,co85,eo85⟩ := Kd.R_slice HO664.out;subst eo85;obtain ⟨Ao86,co86,eo86⟩ := Kd.R_slice HO677.out;subst eo86
                 as_aux_lemma =>
                  go_wp2_with (first | (go_at_call 17;(with_reducible refine (laws_rInts.calls kj24 _ _ t661 _ _ t674 true _ ?side1 ?side2 ?side3 ?side4 A79.out).mono ?_);(case side1 => repeat (exact (Kd.R_reads' HO664.out).2.2));(case side2 => exact (Kd.R_reads' HO664.out).2.1);(case side3 => repeat (exact (Kd.R_reads' HO677.out).2.2));(case side4 => exact (Kd.R_reads' HO677.out).2.1);rintro e w' ⟨rfl,⟨nd,rfl⟩⟩;(try first | exact ⟨rfl,_,World.drewN_drewN _ _ _⟩ | exact ⟨rfl,_,Eq.trans (World.drewN_drewN _ _ _) (congrArg (World.drewN _) (Nat.add_assoc _ _ _))⟩);obtain ⟨Ao87,co87,eo87⟩ := Kd.R_slice HO669.out;subst eo87;obtain ⟨Ao88,co88,eo88⟩ := Kd.R_slice HO682.out;subst eo88) | (go_at_call 17;(with_reducible refine (laws_rInts.calls kj24 _ _ t665 _ _ t678 true _ ?side1 ?side2 ?side3 ?side4 A81.out).mono ?_);(case side1 => repeat (exact (Kd.R_reads' HO669.out).2.2));(case side2 => exact (Kd.R_reads' HO669.out).2.1);(case side3 => repeat (exact (Kd.R_reads' HO682.out).2.2));(case side4 => exact (Kd.R_reads' HO682.out).2.1);rintro e w' ⟨rfl,⟨nd,rfl⟩⟩;(try first | exact ⟨rfl,_,World.drewN_drewN _ _ _⟩ | exact ⟨rfl,_,Eq.trans (World.drewN_drewN _ _ _) (congrArg (World.drewN _) (Nat.add_assoc _ _ _))⟩);obtain ⟨Ao89,co89,eo89⟩ := Kd.R_slice HO673.out;subst eo89;obtain ⟨Ao90,co90,eo90⟩ := Kd.R_slice HO686.out;subst eo90) | (go_at_call 17;(with_reducible refine (laws_rInts.calls kj24 _ _ t670 _ _ t683 t689 _ ?side1 ?side2 ?side3 ?side4 A84.out).mono ?_);(case side1 => repeat (exact (Kd.R_reads' HO673.out).2.2));(case side2 => exact (Kd.R_reads' HO673.out).2.1);(case side3 => repeat (exact (Kd.R_reads' HO686.out).2.2));(case side4 => exact (Kd.R_reads' HO686.out).2.1);rintro e w' ⟨rfl,⟨nd,rfl⟩⟩;(try first | exact ⟨rfl,_,World.drewN_drewN _ _ _⟩ | exact ⟨rfl,_,Eq.trans (World.drewN_drewN _ _ _) (congrArg (World.drewN _) (Nat.add_assoc _ _ _))⟩)))
                  repeat (go_quiet (fail);try go_wp2_with (fail))
                  go_meet
                  case rel => exact ⟨_,(!t689),(by rfl),H',⟨by have:=HJ6.out;have:=HJ19.out;have:=HJ24.out;omega⟩,⟨by (with_reducible repeat (apply Kd.R_drewN));exact HO656.out⟩,⟨by (with_reducible repeat (apply Kd.R_drewN));exact Kd.R_mono HO664.out (fun _ hk => ⟨hk.1.1.1.1.2,hk.1.1.1.2⟩)⟩,⟨by (with_reducible repeat (apply Kd.R_drewN));exact Kd.R_mono HO669.out (fun _ hk => ⟨hk.1.1.1.1.2,hk.1.1.1.2⟩)⟩,⟨by (with_reducible repeat (apply Kd.R_drewN));exact Kd.R_mono HO673.out (fun _ hk => ⟨hk.1.1.1.1.2,hk.1.1.1.2⟩)⟩,⟨by repeat ((with_reducible first | exact HB.out | apply pw_below_drewN))⟩⟩
                ·rw [if_neg c83] at H;have c83b0 : (t666 == t679) = false:=beq_eq_false_iff_ne.mpr c83;have c83b1 : (t666 != t679) = true:=bne_iff_ne.mpr c83;have H':=am_ H;clear H;obtain ⟨Ao91,co91,eo91⟩ := Kd.R_slice HO664.out;subst eo91;obtain ⟨Ao92,co92,eo92⟩ := Kd.R_slice HO677.out;subst eo92
                 as_aux_lemma =>
                  go_wp2_with (first | (go_at_call 17;(with_reducible refine (laws_rInts.calls kj24 _ _ t661 _ _ t674 true _ ?side1 ?side2 ?side3 ?side4 A79.out).mono ?_);(case side1 => repeat (exact (Kd.R_reads' HO664.out).2.2));(case side2 => exact (Kd.R_reads' HO664.out).2.1);(case side3 => repeat (exact (Kd.R_reads' HO677.out).2.2));(case side4 => exact (Kd.R_reads' HO677.out).2.1);rintro e w' ⟨rfl,⟨nd,rfl⟩⟩;(try first | exact ⟨rfl,_,World.drewN_drewN _ _ _⟩ | exact ⟨rfl,_,Eq.trans (World.drewN_drewN _ _ _) (congrArg (World.drewN _) (Nat.add_assoc _ _ _))⟩);obtain ⟨Ao93,co93,eo93⟩ := Kd.R_slice HO669.out;subst eo93;obtain ⟨Ao94,co94,eo94⟩ := Kd.R_slice HO682.out;subst eo94) | (go_at_call 17;(with_reducible refine (laws_rInts.calls kj24 _ _ t665 _ _ t678 true _ ?side1 ?side2 ?side3 ?side4 A81.out).mono ?_);(case side1 => repeat (exact (Kd.R_reads' HO669.out).2.2));(case side2 => exact (Kd.R_reads' HO669.out).2.1);(case side3 => repeat (exact (Kd.R_reads' HO682.out).2.2));(case side4 => exact (Kd.R_reads' HO682.out).2.1);rintro e w' ⟨rfl,⟨nd,rfl⟩⟩;(try first | exact ⟨rfl,_,World.drewN_drewN _ _ _⟩ | exact ⟨rfl,_,Eq.trans (World.drewN_drewN _ _ _) (congrArg (World.drewN _) (Nat.add_assoc _ _ _))⟩)))
                  repeat (go_quiet (fail);try go_wp2_with (fail))
                  go_meet
                  case rel => exact ⟨_,(true),(by rfl),H',⟨by have:=HJ6.out;have:=HJ19.out;have:=HJ24.out;omega⟩,⟨by (with_reducible repeat (apply Kd.R_drewN));exact HO656.out⟩,⟨by (with_reducible repeat (apply Kd.R_drewN));exact Kd.R_mono HO664.out (fun _ hk => ⟨hk.1.1.1.1.2,hk.1.1.1.2⟩)⟩,⟨by (with_reducible repeat (apply Kd.R_drewN));exact Kd.R_mono HO669.out (fun _ hk => ⟨hk.1.1.1.1.2,hk.1.1.1.2⟩)⟩,⟨by (with_reducible repeat (apply Kd.R_drewN));exact Kd.R_mono HO673.out (fun _ hk => ⟨hk.1.1.1.1.2,hk.1.1.1.2⟩)⟩,⟨by repeat ((with_reducible first | exact HB.out | apply pw_below_drewN))⟩⟩
               ·replace c82:=Bool.eq_false_iff.mpr c82;subst c82
                have H1 : (laws_FnTrainLoading.j3 kj24 t652 t661 t665 t666 t670 true) = some r:=by rw [if_neg (show ¬ (false = true) by decide)] at H;exact H
                clear H;have H:=H1;clear H1;have H':=am_ H;clear H;obtain ⟨Ao95,co95,eo95⟩ := Kd.R_slice HO664.out;subst eo95;obtain ⟨Ao96,co96,eo96⟩ := Kd.R_slice HO677.out;subst eo96
                as_aux_lemma =>
                 go_wp2_with (first | (go_at_call 17;(with_reducible refine (laws_rInts.calls kj24 _ _ t661 _ _ t674 true _ ?side1 ?side2 ?side3 ?side4 A79.out).mono ?_);(case side1 => repeat (exact (Kd.R_reads' HO664.out).2.2));(case side2 => exact (Kd.R_reads' HO664.out).2.1);(case side3 => repeat (exact (Kd.R_reads' HO677.out).2.2));(case side4 => exact (Kd.R_reads' HO677.out).2.1);rintro e w' ⟨rfl,⟨nd,rfl⟩⟩;(try first | exact ⟨rfl,_,World.drewN_drewN _ _ _⟩ | exact ⟨rfl,_,Eq.trans (World.drewN_drewN _ _ _) (congrArg (World.drewN _) (Nat.add_assoc _ _ _))⟩);obtain ⟨Ao97,co97,eo97⟩ := Kd.R_slice HO669.out;subst eo97;obtain ⟨Ao98,co98,eo98⟩ := Kd.R_slice HO682.out;subst eo98) | (go_at_call 17;(with_reducible refine (laws_rInts.calls kj24 _ _ t665 _ _ t678 false _ ?side1 ?side2 ?side3 ?side4 A81.out).mono ?_);(case side1 => repeat (exact (Kd.R_reads' HO669.out).2.2));(case side2 => exact (Kd.R_reads' HO669.out).2.1);(case side3 => repeat (exact (Kd.R_reads' HO682.out).2.2));(case side4 => exact (Kd.R_reads' HO682.out).2.1);rintro e w' ⟨rfl,⟨nd,rfl⟩⟩;(try first | exact ⟨rfl,_,World.drewN_drewN _ _ _⟩ | exact ⟨rfl,_,Eq.trans (World.drewN_drewN _ _ _) (congrArg (World.drewN _) (Nat.add_assoc _ _ _))⟩)))
                 repeat (go_quiet (fail);try go_wp2_with (fail))
                 go_meet
                 case rel => exact ⟨_,(true),(by rfl),H',⟨by have:=HJ6.out;have:=HJ19.out;have:=HJ24.out;omega⟩,⟨by (with_reducible repeat (apply Kd.R_drewN));exact HO656.out⟩,⟨by (with_reducible repeat (apply Kd.R_drewN));exact Kd.R_mono HO664.out (fun _ hk => ⟨hk.1.1.1.1.2,hk.1.1.1.2⟩)⟩,⟨by (with_reducible repeat (apply Kd.R_drewN));exact Kd.R_mono HO669.out (fun _ hk => ⟨hk.1.1.1.1.2,hk.1.1.1.2⟩)⟩,⟨by (with_reducible repeat (apply Kd.R_drewN));exact Kd.R_mono HO673.out (fun _ hk => ⟨hk.1.1.1.1.2,hk.1.1.1.2⟩)⟩,⟨by repeat ((with_reducible first | exact HB.out | apply pw_below_drewN))⟩⟩
              ·replace c80:=Bool.eq_false_iff.mpr c80;subst c80
               have H1 : (laws_FnTrainLoading.j3 kj24 t652 t661 t665 t666 t670 true) = some r:=by rw [if_neg (show ¬ (false = true) by decide)] at H;exact H
               clear H;have H:=H1;clear H1;have H':=am_ H;clear H;obtain ⟨Ao99,co99,eo99⟩ := Kd.R_slice HO664.out;subst eo99;obtain ⟨Ao100,co100,eo100⟩ := Kd.R_slice HO677.out;subst eo100
               as_aux_lemma =>
                go_wp2_with ((go_at_call 17;(with_reducible refine (laws_rInts.calls kj24 _ _ t661 _ _ t674 false _ ?side1 ?side2 ?side3 ?side4 A79.out).mono ?_);(case side1 => repeat (exact (Kd.R_reads' HO664.out).2.2));(case side2 => exact (Kd.R_reads' HO664.out).2.1);(case side3 => repeat (exact (Kd.R_reads' HO677.out).2.2));(case side4 => exact (Kd.R_reads' HO677.out).2.1);rintro e w' ⟨rfl,⟨nd,rfl⟩⟩;(try first | exact ⟨rfl,_,World.drewN_drewN _ _ _⟩ | exact ⟨rfl,_,Eq.trans (World.drewN_drewN _ _ _) (congrArg (World.drewN _) (Nat.add_assoc _ _ _))⟩)))
                repeat (go_quiet (fail);try go_wp2_with (fail))
                go_meet
                case rel => exact ⟨_,(true),(by rfl),H',⟨by have:=HJ6.out;have:=HJ19.out;have:=HJ24.out;omega⟩,⟨by (with_reducible repeat (apply Kd.R_drewN));exact HO656.out⟩,⟨by (with_reducible repeat (apply Kd.R_drewN));exact Kd.R_mono HO664.out (fun _ hk => ⟨hk.1.1.1.1.2,hk.1.1.1.2⟩)⟩,⟨by (with_reducible repeat (apply Kd.R_drewN));exact Kd.R_mono HO669.out (fun _ hk => ⟨hk.1.1.1.1.2,hk.1.1.1.2⟩)⟩,⟨by (with_reducible repeat (apply Kd.R_drewN));exact Kd.R_mono HO673.out (fun _ hk => ⟨hk.1.1.1.1.2,hk.1.1.1.2⟩)⟩,⟨by repeat ((with_reducible first | exact HB.out | apply pw_below_drewN))⟩⟩
          case rest => as_aux_lemma =>
           clear HC65;(try clear c1);(try clear c2);(try clear p2);(try clear c3);(try clear c4);(try clear p6);(try clear c7);(try clear c8);(try clear c13);(try clear c13b0);(try clear c13b1);(try clear c13b2);(try clear c17);(try clear c23);(try clear c23b0);(try clear c23b1);(try clear c24);(try clear c26);(try clear c28);(try clear c30);(try clear c32);(try clear c33);(try clear c34);(try clear c34b0);(try clear p64);(try clear c76);(try clear c76b0);(try clear c76b1);(try clear c76b2);(try clear c77);(try clear c77b0);(try clear c77b1);(try clear c77b2);(try clear c78);(try clear c78b0);(try clear c78b1);(try clear c78b2);(try clear c80);(try clear c82);(try clear c83);(try clear c83b0);(try clear c83b1);(try clear p2);(try clear p6);obtain ⟨kq,x200_64,rfl,HA,HJ64,HO_15,HO_18,HO_20,HO_23,HB⟩ := hcut
           cases kq with
           | zero => exact absurd HA.out (by simp [laws_FnTrainLoading.j3])
           | succ kj64 =>
            have H:=HA.out;clear HA;simp only [laws_FnTrainLoading.j3] at H
            by_cases c101 : x200_64 = true
            ·subst c101
             have H1 : (some false) = some r:=by rw [if_pos rfl] at H;exact H
             clear H;have H:=H1;clear H1;obtain rfl:=Option.some.inj H
             as_aux_lemma =>
              go_wp2
              repeat (go_quiet (fail);try go_wp2)
              go_ret
              exact ⟨by rfl,by exact HB.out⟩
            ·replace c101:=Bool.eq_false_iff.mpr c101;subst c101
             have H1 : (laws_FnTrainLoading.l0 kj64 t652 t661 t665 t666 t670 0) = some r:=by rw [if_neg (show ¬ (false = true) by decide)] at H;exact H
             clear H;have H:=H1;clear H1;have H':=am_ H;clear H
             go_wp2
             repeat (go_quiet (fail);try go_wp2)
             (skip)
             go_loopg [32] kj64 (fun kq v32 w' => ∃ (x32_5 : Int),v32 = .int .i64 x32_5 ∧ Aside0 (laws_FnTrainLoading.l0 kq t652 t661 t665 t666 t670 x32_5 = some r) ∧ Aside0 (kq ≤ kj64) ∧ Aside0 (Kd.R k54 54 w' w.heap.size (fun _ => True) (.slice Ao67 t652.length co67) t652) ∧ Aside0 (Kd.R (Kd.int .i64) 3 w' w.heap.size (fun k_ => some k_ ≠ (v668 : Value).ownBlock ∧ some k_ ≠ (v672 : Value).ownBlock) v663 t661) ∧ Aside0 (Kd.R (Kd.int .i64) 3 w' w.heap.size (fun k_ => some k_ ≠ (v663 : Value).ownBlock ∧ some k_ ≠ (v672 : Value).ownBlock) v668 t665) ∧ Aside0 (Kd.R (Kd.int .i64) 3 w' w.heap.size (fun k_ => some k_ ≠ (v663 : Value).ownBlock ∧ some k_ ≠ (v668 : Value).ownBlock) v672 t670) ∧ Aside0 (Below w.heap.size w w'))
             case atStart => exact ⟨(0),(by rfl),H',⟨Nat.le_refl _⟩,⟨by exact HO_15.out⟩,⟨by exact HO_18.out⟩,⟨by exact HO_20.out⟩,⟨by exact HO_23.out⟩,⟨by exact HB.out⟩⟩
             case round =>
              clear H';(try clear c1);(try clear c2);(try clear p2);(try clear c3);(try clear c4);(try clear p6);(try clear c7);(try clear c8);(try clear c10);(try clear c13);(try clear c13b0);(try clear c13b1);(try clear c13b2);(try clear c17);(try clear c23);(try clear c23b0);(try clear c23b1);(try clear c24);(try clear c26);(try clear c28);(try clear c30);(try clear c32);(try clear c33);(try clear c34);(try clear c34b0);(try clear p64);(try clear c76);(try clear c76b0);(try clear c76b1);(try clear c76b2);(try clear c77);(try clear c77b0);(try clear c77b1);(try clear c77b2);(try clear c78);(try clear c78b0);(try clear c78b1);(try clear c78b2);(try clear c80);(try clear c82);(try clear c83);(try clear c83b0);(try clear c83b1);(try clear c101);(try clear p2);(try clear p6);(try clear p64);obtain ⟨x32_5,rfl,HA,HK5,HO_15,HO_18,HO_20,HO_23,HB⟩ := hrel
              cases gk with
              | zero => exact absurd HA.out (by simp [laws_FnTrainLoading.l0])
              | succ k5 =>
               have H:=HA.out;clear HA;simp only [laws_FnTrainLoading.l0] at H
               by_cases c102 : x32_5 < (t661.length : Int)
               ·rw [if_pos c102] at H;have c102b0 : decide (x32_5 < (t661.length : Int)) = true:=decide_eq_true c102;clear c102
                by_cases c103 : 0 ≤ x32_5
                ·rw [if_pos c103] at H;have c103b0 : decide (0 ≤ x32_5) = true:=decide_eq_true c103;clear c103
                 by_cases c104 : (rd t661 x32_5) < 0
                 ·rw [if_pos c104] at H;have c104b0 : decide ((rd t661 x32_5) < 0) = true:=decide_eq_true c104;clear c104;obtain rfl:=Option.some.inj H;obtain ⟨Ao105,co105,eo105⟩ := Kd.R_slice HO_18.out;subst eo105;have p690 : 0 ≤ (x32_5 : Int):=of_decide_eq_true (by (with_reducible assumption));have q690 : x32_5 < (t661.length : Int):=of_decide_eq_true (by (with_reducible assumption));obtain ⟨ad690,e690,hx690_0⟩ := Kd.at_int (Kd.R_reads' HO_18.out).2.2 x32_5 p690 q690;cases e690;replace p690:=eq_true p690;replace q690:=eq_true q690
                  as_aux_lemma =>
                   go_wp2
                   repeat (go_quiet (fail);try go_wp2)
                   go_ret
                   exact ⟨by rfl,by repeat ((with_reducible first | exact HB.out | apply pw_below_drewN))⟩
                 ·rw [if_neg c104] at H;have c104b0 : decide ((rd t661 x32_5) < 0) = false:=decide_eq_false c104;clear c104
                  by_cases c106 : x32_5 < (t665.length : Int)
                  ·rw [if_pos c106] at H;have c106b0 : decide (x32_5 < (t665.length : Int)) = true:=decide_eq_true c106;clear c106
                   by_cases c107 : x32_5 < (t652.length : Int)
                   ·rw [if_pos c107] at H;have c107b0 : decide (x32_5 < (t652.length : Int)) = true:=decide_eq_true c107;clear c107
                    by_cases c108 : (rd t665 x32_5) > ((rd_T54 t652 x32_5).f1)
                    ·rw [if_pos c108] at H;have c108b0 : decide (((rd_T54 t652 x32_5).f1) < (rd t665 x32_5)) = true:=decide_eq_true c108;clear c108;obtain rfl:=Option.some.inj H;obtain ⟨Ao109,co109,eo109⟩ := Kd.R_slice HO_18.out;subst eo109;have p690 : 0 ≤ (x32_5 : Int):=of_decide_eq_true (by (with_reducible assumption));have q690 : x32_5 < (t661.length : Int):=of_decide_eq_true (by (with_reducible assumption));obtain ⟨ad690,e690,hx690_0⟩ := Kd.at_int (Kd.R_reads' HO_18.out).2.2 x32_5 p690 q690;cases e690;replace p690:=eq_true p690;replace q690:=eq_true q690;obtain ⟨Ao110,co110,eo110⟩ := Kd.R_slice HO_20.out;subst eo110;have p691 : 0 ≤ (x32_5 : Int):=of_decide_eq_true (by (with_reducible assumption));have q691 : x32_5 < (t665.length : Int):=of_decide_eq_true (by (with_reducible assumption));obtain ⟨ad691,e691,hx691_0⟩ := Kd.at_int (Kd.R_reads' HO_20.out).2.2 x32_5 p691 q691;cases e691;replace p691:=eq_true p691;replace q691:=eq_true q691;have p692 : 0 ≤ (x32_5 : Int):=of_decide_eq_true (by (with_reducible assumption));have q692 : x32_5 < (t652.length : Int):=of_decide_eq_true (by (with_reducible assumption));obtain ⟨ad692,e692,hx692_0,hx692_1⟩ := at_T54 (Kd.R_reads' HO_15.out).2.2 x32_5 p692 q692;cases e692;replace p692:=eq_true p692;replace q692:=eq_true q692
                     as_aux_lemma =>
                      go_wp2
                      repeat (go_quiet (fail);try go_wp2)
                      go_ret
                      exact ⟨by rfl,by repeat ((with_reducible first | exact HB.out | apply pw_below_drewN))⟩
                    ·rw [if_neg c108] at H;have c108b0 : decide (((rd_T54 t652 x32_5).f1) < (rd t665 x32_5)) = false:=decide_eq_false c108;clear c108;replace H:=Option.bind_eq_some_iff.mp H;obtain ⟨t694,A1110,H⟩ := H;replace H : (if (((rd t665 x32_5) == 0) != t694) = true then (some false) else (laws_FnTrainLoading.l0 k5 t652 t661 t665 t666 t670 (wrap64 (x32_5 + 1)))) = some r:=H;have A111:=am_ A1110;clear A1110
                     by_cases c112 : (((rd t665 x32_5) == 0) != t694) = true
                     ·rw [if_pos c112] at H;have c112b0 : (((rd t665 x32_5) == 0) != t694) = true:=c112;(try (have c112b1 : decide (((rd t665 x32_5) == 0) = t694) = false:=by simpa using c112));(try (have c112b2 : (((rd t665 x32_5) == 0) == t694) = false:=by simpa using c112));(try (have c112b3 : ¬ (((rd t665 x32_5) == 0) = t694):=by simpa using c112));clear c112;obtain rfl:=Option.some.inj H;obtain ⟨Ao113,co113,eo113⟩ := Kd.R_slice HO_18.out;subst eo113;have p690 : 0 ≤ (x32_5 : Int):=of_decide_eq_true (by (with_reducible assumption));have q690 : x32_5 < (t661.length : Int):=of_decide_eq_true (by (with_reducible assumption));obtain ⟨ad690,e690,hx690_0⟩ := Kd.at_int (Kd.R_reads' HO_18.out).2.2 x32_5 p690 q690;cases e690;replace p690:=eq_true p690;replace q690:=eq_true q690;obtain ⟨Ao114,co114,eo114⟩ := Kd.R_slice HO_20.out;subst eo114;have p691 : 0 ≤ (x32_5 : Int):=of_decide_eq_true (by (with_reducible assumption));have q691 : x32_5 < (t665.length : Int):=of_decide_eq_true (by (with_reducible assumption));obtain ⟨ad691,e691,hx691_0⟩ := Kd.at_int (Kd.R_reads' HO_20.out).2.2 x32_5 p691 q691;cases e691;replace p691:=eq_true p691;replace q691:=eq_true q691;have p692 : 0 ≤ (x32_5 : Int):=of_decide_eq_true (by (with_reducible assumption));have q692 : x32_5 < (t652.length : Int):=of_decide_eq_true (by (with_reducible assumption));obtain ⟨ad692,e692,hx692_0,hx692_1⟩ := at_T54 (Kd.R_reads' HO_15.out).2.2 x32_5 p692 q692;cases e692;replace p692:=eq_true p692;replace q692:=eq_true q692;have p693 : 0 ≤ (x32_5 : Int):=of_decide_eq_true (by (with_reducible assumption));have q693 : x32_5 < (t665.length : Int):=of_decide_eq_true (by (with_reducible assumption));obtain ⟨ad693,e693,hx693_0⟩ := Kd.at_int (Kd.R_reads' HO_20.out).2.2 x32_5 p693 q693;obtain rfl : ad691 = ad693:=(by injection e693);replace p693:=eq_true p693;replace q693:=eq_true q693;obtain ⟨Ao115,co115,eo115⟩ := Kd.R_slice HO_23.out;subst eo115
                      as_aux_lemma =>
                       go_wp2_with (fail)
                       repeat (go_quiet ((go_at_call 28;(with_reducible refine (laws_rHas.calls k5 _ _ t670 x32_5 t694 _ ?side1 ?side2 A111.out).mono ?_);(case side1 => repeat (exact (Kd.R_reads' HO_23.out).2.2));(case side2 => exact (Kd.R_reads' HO_23.out).2.1);rintro e w' ⟨rfl,⟨nd,rfl⟩⟩;(try first | exact ⟨rfl,_,World.drewN_drewN _ _ _⟩ | exact ⟨rfl,_,Eq.trans (World.drewN_drewN _ _ _) (congrArg (World.drewN _) (Nat.add_assoc _ _ _))⟩)));try go_wp2_with (fail))
                       go_ret
                       exact ⟨by rfl,by repeat ((with_reducible first | exact HB.out | apply pw_below_drewN))⟩
                     ·rw [if_neg c112] at H
                      have c112b0 : (((rd t665 x32_5) == 0) != t694) = false:=by simpa using c112
                      (try (have c112b1 : decide (((rd t665 x32_5) == 0) = t694) = true:=by simpa using c112));(try (have c112b2 : (((rd t665 x32_5) == 0) == t694) = true:=by simpa using c112));clear c112;have H':=am_ H;clear H;obtain ⟨Ao116,co116,eo116⟩ := Kd.R_slice HO_18.out;subst eo116;have p690 : 0 ≤ (x32_5 : Int):=of_decide_eq_true (by (with_reducible assumption));have q690 : x32_5 < (t661.length : Int):=of_decide_eq_true (by (with_reducible assumption));obtain ⟨ad690,e690,hx690_0⟩ := Kd.at_int (Kd.R_reads' HO_18.out).2.2 x32_5 p690 q690;cases e690;replace p690:=eq_true p690;replace q690:=eq_true q690;obtain ⟨Ao117,co117,eo117⟩ := Kd.R_slice HO_20.out;subst eo117;have p691 : 0 ≤ (x32_5 : Int):=of_decide_eq_true (by (with_reducible assumption));have q691 : x32_5 < (t665.length : Int):=of_decide_eq_true (by (with_reducible assumption));obtain ⟨ad691,e691,hx691_0⟩ := Kd.at_int (Kd.R_reads' HO_20.out).2.2 x32_5 p691 q691;cases e691;replace p691:=eq_true p691;replace q691:=eq_true q691;have p692 : 0 ≤ (x32_5 : Int):=of_decide_eq_true (by (with_reducible assumption));have q692 : x32_5 < (t652.length : Int):=of_decide_eq_true (by (with_reducible assumption));obtain ⟨ad692,e692,hx692_0,hx692_1⟩ := at_T54 (Kd.R_reads' HO_15.out).2.2 x32_5 p692 q692;cases e692;replace p692:=eq_true p692;replace q692:=eq_true q692;have p693 : 0 ≤ (x32_5 : Int):=of_decide_eq_true (by (with_reducible assumption));have q693 : x32_5 < (t665.length : Int):=of_decide_eq_true (by (with_reducible assumption));obtain ⟨ad693,e693,hx693_0⟩ := Kd.at_int (Kd.R_reads' HO_20.out).2.2 x32_5 p693 q693;obtain rfl : ad691 = ad693:=(by injection e693);replace p693:=eq_true p693;replace q693:=eq_true q693;obtain ⟨Ao118,co118,eo118⟩ := Kd.R_slice HO_23.out;subst eo118
                      go_wp2_with (fail)
                      repeat (go_quiet ((go_at_call 28;(with_reducible refine (laws_rHas.calls k5 _ _ t670 x32_5 t694 _ ?side1 ?side2 A111.out).mono ?_);(case side1 => repeat (exact (Kd.R_reads' HO_23.out).2.2));(case side2 => exact (Kd.R_reads' HO_23.out).2.1);rintro e w' ⟨rfl,⟨nd,rfl⟩⟩;(try first | exact ⟨rfl,_,World.drewN_drewN _ _ _⟩ | exact ⟨rfl,_,Eq.trans (World.drewN_drewN _ _ _) (congrArg (World.drewN _) (Nat.add_assoc _ _ _))⟩)));try go_wp2_with (fail))
                      go_roundg k5
                      case measure => have:=HJ6.out;have:=HJ19.out;have:=HJ24.out;have:=HJ64.out;have:=HK5.out;omega
                      case rel => exact ⟨(wrap64 (x32_5 + 1)),(by rfl),H',⟨by have:=HJ6.out;have:=HJ19.out;have:=HJ24.out;have:=HJ64.out;have:=HK5.out;omega⟩,⟨by (with_reducible repeat (apply Kd.R_drewN));exact HO_15.out⟩,⟨by (with_reducible repeat (apply Kd.R_drewN));exact HO_18.out⟩,⟨by (with_reducible repeat (apply Kd.R_drewN));exact HO_20.out⟩,⟨by (with_reducible repeat (apply Kd.R_drewN));exact HO_23.out⟩,⟨by repeat ((with_reducible first | exact HB.out | apply pw_below_drewN))⟩⟩
                   ·rw [if_neg c107] at H
                    exact absurd H (by simp)
                  ·rw [if_neg c106] at H
                   exact absurd H (by simp)
                ·rw [if_neg c103] at H
                 exact absurd H (by simp)
               ·rw [if_neg c102] at H;have c102b0 : decide (x32_5 < (t661.length : Int)) = false:=decide_eq_false c102;clear c102;replace H:=Option.bind_eq_some_iff.mp H;obtain ⟨t695,A1190,H⟩ := H;replace H : (some (t695 == t666)) = some r:=H;have A119:=am_ A1190;clear A1190;obtain rfl:=Option.some.inj H;obtain ⟨Ao120,co120,eo120⟩ := Kd.R_slice HO_18.out;subst eo120;obtain ⟨Ao121,co121,eo121⟩ := Kd.R_slice HO_20.out;subst eo121
                as_aux_lemma =>
                 go_wp2_with ((go_at_call 29;(with_reducible refine (laws_rSum.calls k5 _ _ t665 t695 _ ?side1 ?side2 A119.out).mono ?_);(case side1 => repeat (exact (Kd.R_reads' HO_20.out).2.2));(case side2 => exact (Kd.R_reads' HO_20.out).2.1);rintro e w' ⟨rfl,⟨nd,rfl⟩⟩;(try first | exact ⟨rfl,_,World.drewN_drewN _ _ _⟩ | exact ⟨rfl,_,Eq.trans (World.drewN_drewN _ _ _) (congrArg (World.drewN _) (Nat.add_assoc _ _ _))⟩)))
                 repeat (go_quiet (fail);try go_wp2_with (fail))
                 go_ret
                 exact ⟨by rfl,by repeat ((with_reducible first | exact HB.out | apply pw_below_drewN))⟩

/-- THE ONE PURE STATEMENT of laws_FnTrainLoading: yours. -/
def laws_FnTrainLoading.Pure : Prop := ∀ (l0 : List Int),l0.length ≤ maxLen → l0.length * 1 ≤ 140737488351232 → (∀ x ∈ l0,(Lit.int .u8 x).wf = true) → ∃ k,laws_FnTrainLoading.f k l0 = some true
theorem laws_FnTrainLoading.walk (P : laws_FnTrainLoading.Pure) (a0 : Option Addr) (len0 cap0 : Nat) (z0 : List Int) (w : World) (w0 : (a0 = none ∧ len0 = 0 ∧ cap0 = 0 ∧ z0 = []) ∨ ∃ x,a0 = some x ∧ len0 ≤ cap0 ∧ cap0 ≤ maxLen ∧ z0.length = cap0 ∧ (∀ i,i < z0.length → w.cell? (x.add i) = some (.int .u8 (z0.getD i 0))) ∧ ∀ n ∈ z0,(Lit.int .u8 n).wf = true) (y0 : len0 * 1 ≤ 140737488351232) :
  Calls Try.prog 4 #[.slice a0 len0 cap0] w fun e w' => e = .returned (.bool true) ∧ Below w.heap.size w w':=by
 obtain ⟨l0,rfl,hr0,hm0,hw0,hc0⟩ := ReadsInt.ofRowC w0;obtain ⟨k,h⟩ := P l0 hm0 y0 hw0;refine (laws_FnTrainLoading.calls k _ _ l0 true w (Kd.C_of_reads (d:=(0 : Int)) (h1:=fun _ => rfl) hr0) hc0 h).mono ?_;rintro e w' ⟨rfl,hd⟩
 exact ⟨rfl,hd⟩

end Go.Proofs.Ythbibjfnmljpkaa.PFnTrainLoading
