-- Written by a program of this session, over the kit's print (wip/xprint.py)
import Derived.Test.YtempmebpbbbkmaaPFnWagonsx0
import Derived.Test.YtempmebpbbbkmaaPFnWagonsx1
import Derived.Test.YtempmebpbbbkmaaPFnWagonsx4
import Derived.Test.YtempmebpbbbkmaaPFnWagonsx8
import Derived.Test.YtempmebpbbbkmaaPFnWagonsx10
import Derived.Test.YtempmebpbbbkmaaPFnWagonsx11
import Derived.Test.YtempmebpbbbkmaaPFnWagonsx12
namespace Go.Proofs.Ytempmebpbbbkmaa.PFnWagons
open Go.RowKit Go.Proofs.YtempmebpbbbkmaaW.PrintWords Go.Proofs.YtempmebpbbbkmaaW.PrintLast Go.Proofs.YtempmebpbbbkmaaW.PrintMore
attribute [local go_sem] max2_int min2_int max_two min_two max_three min_three max_four min_four   -- for this text's walks alone
set_option linter.unusedVariables false
set_option linter.unusedSimpArgs false

/-! ### laws_FnWagons: function 3 -/
mutual
def laws_FnWagons.j0 : Nat → List Int → List (S60) → List (S33) → List Int → ByteArray → Int → List Int → Bool → Bool → Option (Bool)
 | 0,_,_,_,_,_,_,_,_,_ => none
 | k + 1,x0,x3,x4,x5,x6,x7,x8,x9,x66 => if x66 = true then (some false) else (if x9 = true then (laws_FnWagons.l0 k x0 x3 x4 x5 x6 x7 x8 0 0) else (laws_FnWagons.j2 k x0))
def laws_FnWagons.j2 : Nat → List Int → Option (Bool)
 | 0,_ => none
 | k + 1,x0 => (spec_DrawByDestination.f k x0).bind fun bt605 => ((impl_ByDestination.f k bt605.1 bt605.2.1 bt605.2.2).bind fun bt614 => ((spec_ByDestination.f k bt605.1 bt605.2.1 bt605.2.2).bind fun bt616 => (if (bt614.1 != bt616.1) = true then (laws_FnWagons.j3 k x0 bt605.2.1 bt614.1 bt614.2 true) else (laws_FnWagons.j3 k x0 bt605.2.1 bt614.1 bt614.2 (bt614.2 != bt616.2)))))
def laws_FnWagons.j3 : Nat → List Int → List (S33) → Bool → Bool → Bool → Option (Bool)
 | 0,_,_,_,_,_ => none
 | k + 1,x0,x15,x17,x18,x136 => if x136 = true then (some false) else (laws_FnWagons.l1 k x0 x15 x17 x18 true 0)
def laws_FnWagons.l1 : Nat → List Int → List (S33) → Bool → Bool → Bool → Int → Option (Bool)
 | 0,_,_,_,_,_,_ => none
 | k + 1,x0,x15,x17,x18,x21,x22 => if x22 < (x15.length : Int) then (if x21 = true then (if 0 ≤ x22 then (if 0 < (x15.length : Int) then (laws_FnWagons.l1 k x0 x15 x17 x18 (((rd_T33 x15 x22).f4) == ((rd_T33 x15 0).f4)) (wrap64 (x22 + 1))) else (none)) else (none)) else (laws_FnWagons.l1 k x0 x15 x17 x18 false (wrap64 (x22 + 1)))) else (if x18 = true then (if x21 = true then (laws_FnWagons.j5 k x0 (!x17)) else (laws_FnWagons.j5 k x0 false)) else (laws_FnWagons.j5 k x0 false))
def laws_FnWagons.j5 : Nat → List Int → Bool → Option (Bool)
 | 0,_,_ => none
 | k + 1,x0,x163 => if x163 = true then (some false) else ((spec_DrawLeftBehindContainers.f k x0).bind fun bt620 => ((impl_LeftBehindContainers.f k bt620.1 bt620.2.1 bt620.2.2).bind fun bt629 => ((spec_LeftBehindContainers.f k bt620.1 bt620.2.1 bt620.2.2).bind fun bt633 => (if (bt629.2 == bt633.2) = true then ((laws_rTexts.f k bt629.1 bt633.1).bind fun t637 => (some t637)) else (some false)))))
def laws_FnWagons.l0 : Nat → List Int → List (S60) → List (S33) → List Int → ByteArray → Int → List Int → Int → Int → Option (Bool)
 | 0,_,_,_,_,_,_,_,_,_ => none
 | k + 1,x0,x3,x4,x5,x6,x7,x8,x12,x13 => if x13 < (x4.length : Int) then (if 0 ≤ x13 then (if x13 < (x8.length : Int) then (if x13 < (x5.length : Int) then (if (rd x8 x13) = (rd x5 x13) then (if ((rd_T33 x4 x13).f0).toList = x6.toList then (if (rd x8 x13) = x7 then (laws_FnWagons.l0 k x0 x3 x4 x5 x6 x7 x8 x12 (wrap64 (x13 + 1))) else (some false)) else (laws_FnWagons.l0 k x0 x3 x4 x5 x6 x7 x8 x12 (wrap64 (x13 + 1)))) else (if ((rd_T33 x4 x13).f0).toList = x6.toList then (if (rd x8 x13) = x7 then (laws_FnWagons.l0 k x0 x3 x4 x5 x6 x7 x8 (wrap64 (x12 + 1)) (wrap64 (x13 + 1))) else (some false)) else (laws_FnWagons.l0 k x0 x3 x4 x5 x6 x7 x8 (wrap64 (x12 + 1)) (wrap64 (x13 + 1))))) else (none)) else (none)) else (none)) else (if x12 > 1 then (some false) else ((impl_IsValidLoading.f k x3 x4 x8).bind fun t598 => (if t598 = true then (laws_FnWagons.j2 k x0) else (some false))))
end
def laws_FnWagons.f (k : Nat) (l0 : List Int) : Option (Bool):=(laws_rBig.f l0).bind fun t577 => (if t577 = true then (some true) else ((spec_DrawMoveToWagon.f k l0).bind fun bt578 => ((impl_MoveToWagon.f k bt578.1 bt578.2.1 bt578.2.2.1 bt578.2.2.2.1 bt578.2.2.2.2).bind fun bt589 => ((spec_MoveToWagon.f k bt578.1 bt578.2.1 bt578.2.2.1 bt578.2.2.2.1 bt578.2.2.2.2).bind fun bt593 => (if (bt589.2 != bt593.2) = true then (laws_FnWagons.j0 k l0 bt578.1 bt578.2.1 bt578.2.2.1 bt578.2.2.2.1 bt578.2.2.2.2 bt589.1 bt589.2 true) else ((laws_rInts.f k bt589.1 bt593.1).bind fun t597 => (laws_FnWagons.j0 k l0 bt578.1 bt578.2.1 bt578.2.2.1 bt578.2.2.2.1 bt578.2.2.2.2 bt589.1 bt589.2 (!t597))))))))
theorem laws_FnWagons.mono_l : ∀ k,(∀ y0 y1 y2 y3 y4 y5 y6 y7 y8,LeO (laws_FnWagons.j0 k y0 y1 y2 y3 y4 y5 y6 y7 y8) (laws_FnWagons.j0 (k + 1) y0 y1 y2 y3 y4 y5 y6 y7 y8)) ∧ (∀ y0,LeO (laws_FnWagons.j2 k y0) (laws_FnWagons.j2 (k + 1) y0)) ∧ (∀ y0 y1 y2 y3 y4,LeO (laws_FnWagons.j3 k y0 y1 y2 y3 y4) (laws_FnWagons.j3 (k + 1) y0 y1 y2 y3 y4)) ∧ (∀ y0 y1 y2 y3 y4 y5,LeO (laws_FnWagons.l1 k y0 y1 y2 y3 y4 y5) (laws_FnWagons.l1 (k + 1) y0 y1 y2 y3 y4 y5)) ∧ (∀ y0 y1,LeO (laws_FnWagons.j5 k y0 y1) (laws_FnWagons.j5 (k + 1) y0 y1)) ∧ (∀ y0 y1 y2 y3 y4 y5 y6 y7 y8,LeO (laws_FnWagons.l0 k y0 y1 y2 y3 y4 y5 y6 y7 y8) (laws_FnWagons.l0 (k + 1) y0 y1 y2 y3 y4 y5 y6 y7 y8))
 | 0 => ⟨fun _ _ _ _ _ _ _ _ _ r h => by simp [laws_FnWagons.j0] at h,fun _ r h => by simp [laws_FnWagons.j2] at h,fun _ _ _ _ _ r h => by simp [laws_FnWagons.j3] at h,fun _ _ _ _ _ _ r h => by simp [laws_FnWagons.l1] at h,fun _ _ r h => by simp [laws_FnWagons.j5] at h,fun _ _ _ _ _ _ _ _ _ r h => by simp [laws_FnWagons.l0] at h⟩
 | k + 1 => by
  obtain ⟨ih0,ih1,ih2,ih3,ih4,ih5⟩ := laws_FnWagons.mono_l k
  refine ⟨?_, ?_, ?_, ?_, ?_, ?_⟩
  ·intro y0 y1 y2 y3 y4 y5 y6 y7 y8
   unfold laws_FnWagons.j0
   repeat' first
   | (with_reducible exact ih0 _ _ _ _ _ _ _ _ _)
   | (with_reducible exact ih1 _)
   | (with_reducible exact ih2 _ _ _ _ _)
   | (with_reducible exact ih3 _ _ _ _ _ _)
   | (with_reducible exact ih4 _ _)
   | (with_reducible exact ih5 _ _ _ _ _ _ _ _ _)
   | (with_reducible exact impl_ByDestination.mono _ _ _ _)
   | (with_reducible exact impl_IsValidLoading.mono _ _ _ _)
   | (with_reducible exact impl_LeftBehindContainers.mono _ _ _ _)
   | (with_reducible exact impl_MoveToWagon.mono _ _ _ _ _ _)
   | (with_reducible exact laws_rInts.mono _ _ _)
   | (with_reducible exact laws_rTexts.mono _ _ _)
   | (with_reducible exact spec_ByDestination.mono _ _ _ _)
   | (with_reducible exact spec_DrawByDestination.mono _ _)
   | (with_reducible exact spec_DrawLeftBehindContainers.mono _ _)
   | (with_reducible exact spec_DrawMoveToWagon.mono _ _)
   | (with_reducible exact spec_LeftBehindContainers.mono _ _ _ _)
   | (with_reducible exact spec_MoveToWagon.mono _ _ _ _ _ _)
   | (with_reducible exact LeO.refl _)
   | (with_reducible exact LeO.none _)
   | (with_reducible refine LeO.ite ?_ ?_)
   | (with_reducible refine LeO.bind ?_ (fun _ => ?_))
   | exact ih0 _ _ _ _ _ _ _ _ _
   | exact ih1 _
   | exact ih2 _ _ _ _ _
   | exact ih3 _ _ _ _ _ _
   | exact ih4 _ _
   | exact ih5 _ _ _ _ _ _ _ _ _
   | exact impl_ByDestination.mono _ _ _ _
   | exact impl_IsValidLoading.mono _ _ _ _
   | exact impl_LeftBehindContainers.mono _ _ _ _
   | exact impl_MoveToWagon.mono _ _ _ _ _ _
   | exact laws_rInts.mono _ _ _
   | exact laws_rTexts.mono _ _ _
   | exact spec_ByDestination.mono _ _ _ _
   | exact spec_DrawByDestination.mono _ _
   | exact spec_DrawLeftBehindContainers.mono _ _
   | exact spec_DrawMoveToWagon.mono _ _
   | exact spec_LeftBehindContainers.mono _ _ _ _
   | exact spec_MoveToWagon.mono _ _ _ _ _ _
   | exact LeO.none _
   | refine LeO.ite ?_ ?_
   | refine LeO.bind ?_ (fun _ => ?_)
  ·intro y0
   unfold laws_FnWagons.j2
   repeat' first
   | (with_reducible exact ih0 _ _ _ _ _ _ _ _ _)
   | (with_reducible exact ih1 _)
   | (with_reducible exact ih2 _ _ _ _ _)
   | (with_reducible exact ih3 _ _ _ _ _ _)
   | (with_reducible exact ih4 _ _)
   | (with_reducible exact ih5 _ _ _ _ _ _ _ _ _)
   | (with_reducible exact impl_ByDestination.mono _ _ _ _)
   | (with_reducible exact impl_IsValidLoading.mono _ _ _ _)
   | (with_reducible exact impl_LeftBehindContainers.mono _ _ _ _)
   | (with_reducible exact impl_MoveToWagon.mono _ _ _ _ _ _)
   | (with_reducible exact laws_rInts.mono _ _ _)
   | (with_reducible exact laws_rTexts.mono _ _ _)
   | (with_reducible exact spec_ByDestination.mono _ _ _ _)
   | (with_reducible exact spec_DrawByDestination.mono _ _)
   | (with_reducible exact spec_DrawLeftBehindContainers.mono _ _)
   | (with_reducible exact spec_DrawMoveToWagon.mono _ _)
   | (with_reducible exact spec_LeftBehindContainers.mono _ _ _ _)
   | (with_reducible exact spec_MoveToWagon.mono _ _ _ _ _ _)
   | (with_reducible exact LeO.refl _)
   | (with_reducible exact LeO.none _)
   | (with_reducible refine LeO.ite ?_ ?_)
   | (with_reducible refine LeO.bind ?_ (fun _ => ?_))
   | exact ih0 _ _ _ _ _ _ _ _ _
   | exact ih1 _
   | exact ih2 _ _ _ _ _
   | exact ih3 _ _ _ _ _ _
   | exact ih4 _ _
   | exact ih5 _ _ _ _ _ _ _ _ _
   | exact impl_ByDestination.mono _ _ _ _
   | exact impl_IsValidLoading.mono _ _ _ _
   | exact impl_LeftBehindContainers.mono _ _ _ _
   | exact impl_MoveToWagon.mono _ _ _ _ _ _
   | exact laws_rInts.mono _ _ _
   | exact laws_rTexts.mono _ _ _
   | exact spec_ByDestination.mono _ _ _ _
   | exact spec_DrawByDestination.mono _ _
   | exact spec_DrawLeftBehindContainers.mono _ _
   | exact spec_DrawMoveToWagon.mono _ _
   | exact spec_LeftBehindContainers.mono _ _ _ _
   | exact spec_MoveToWagon.mono _ _ _ _ _ _
   | exact LeO.none _
   | refine LeO.ite ?_ ?_
   | refine LeO.bind ?_ (fun _ => ?_)
  ·intro y0 y1 y2 y3 y4
   unfold laws_FnWagons.j3
   repeat' first
   | (with_reducible exact ih0 _ _ _ _ _ _ _ _ _)
   | (with_reducible exact ih1 _)
   | (with_reducible exact ih2 _ _ _ _ _)
   | (with_reducible exact ih3 _ _ _ _ _ _)
   | (with_reducible exact ih4 _ _)
   | (with_reducible exact ih5 _ _ _ _ _ _ _ _ _)
   | (with_reducible exact impl_ByDestination.mono _ _ _ _)
   | (with_reducible exact impl_IsValidLoading.mono _ _ _ _)
   | (with_reducible exact impl_LeftBehindContainers.mono _ _ _ _)
   | (with_reducible exact impl_MoveToWagon.mono _ _ _ _ _ _)
   | (with_reducible exact laws_rInts.mono _ _ _)
   | (with_reducible exact laws_rTexts.mono _ _ _)
   | (with_reducible exact spec_ByDestination.mono _ _ _ _)
   | (with_reducible exact spec_DrawByDestination.mono _ _)
   | (with_reducible exact spec_DrawLeftBehindContainers.mono _ _)
   | (with_reducible exact spec_DrawMoveToWagon.mono _ _)
   | (with_reducible exact spec_LeftBehindContainers.mono _ _ _ _)
   | (with_reducible exact spec_MoveToWagon.mono _ _ _ _ _ _)
   | (with_reducible exact LeO.refl _)
   | (with_reducible exact LeO.none _)
   | (with_reducible refine LeO.ite ?_ ?_)
   | (with_reducible refine LeO.bind ?_ (fun _ => ?_))
   | exact ih0 _ _ _ _ _ _ _ _ _
   | exact ih1 _
   | exact ih2 _ _ _ _ _
   | exact ih3 _ _ _ _ _ _
   | exact ih4 _ _
   | exact ih5 _ _ _ _ _ _ _ _ _
   | exact impl_ByDestination.mono _ _ _ _
   | exact impl_IsValidLoading.mono _ _ _ _
   | exact impl_LeftBehindContainers.mono _ _ _ _
   | exact impl_MoveToWagon.mono _ _ _ _ _ _
   | exact laws_rInts.mono _ _ _
   | exact laws_rTexts.mono _ _ _
   | exact spec_ByDestination.mono _ _ _ _
   | exact spec_DrawByDestination.mono _ _
   | exact spec_DrawLeftBehindContainers.mono _ _
   | exact spec_DrawMoveToWagon.mono _ _
   | exact spec_LeftBehindContainers.mono _ _ _ _
   | exact spec_MoveToWagon.mono _ _ _ _ _ _
   | exact LeO.none _
   | refine LeO.ite ?_ ?_
   | refine LeO.bind ?_ (fun _ => ?_)
  ·intro y0 y1 y2 y3 y4 y5
   unfold laws_FnWagons.l1
   repeat' first
   | (with_reducible exact ih0 _ _ _ _ _ _ _ _ _)
   | (with_reducible exact ih1 _)
   | (with_reducible exact ih2 _ _ _ _ _)
   | (with_reducible exact ih3 _ _ _ _ _ _)
   | (with_reducible exact ih4 _ _)
   | (with_reducible exact ih5 _ _ _ _ _ _ _ _ _)
   | (with_reducible exact impl_ByDestination.mono _ _ _ _)
   | (with_reducible exact impl_IsValidLoading.mono _ _ _ _)
   | (with_reducible exact impl_LeftBehindContainers.mono _ _ _ _)
   | (with_reducible exact impl_MoveToWagon.mono _ _ _ _ _ _)
   | (with_reducible exact laws_rInts.mono _ _ _)
   | (with_reducible exact laws_rTexts.mono _ _ _)
   | (with_reducible exact spec_ByDestination.mono _ _ _ _)
   | (with_reducible exact spec_DrawByDestination.mono _ _)
   | (with_reducible exact spec_DrawLeftBehindContainers.mono _ _)
   | (with_reducible exact spec_DrawMoveToWagon.mono _ _)
   | (with_reducible exact spec_LeftBehindContainers.mono _ _ _ _)
   | (with_reducible exact spec_MoveToWagon.mono _ _ _ _ _ _)
   | (with_reducible exact LeO.refl _)
   | (with_reducible exact LeO.none _)
   | (with_reducible refine LeO.ite ?_ ?_)
   | (with_reducible refine LeO.bind ?_ (fun _ => ?_))
   | exact ih0 _ _ _ _ _ _ _ _ _
   | exact ih1 _
   | exact ih2 _ _ _ _ _
   | exact ih3 _ _ _ _ _ _
   | exact ih4 _ _
   | exact ih5 _ _ _ _ _ _ _ _ _
   | exact impl_ByDestination.mono _ _ _ _
   | exact impl_IsValidLoading.mono _ _ _ _
   | exact impl_LeftBehindContainers.mono _ _ _ _
   | exact impl_MoveToWagon.mono _ _ _ _ _ _
   | exact laws_rInts.mono _ _ _
   | exact laws_rTexts.mono _ _ _
   | exact spec_ByDestination.mono _ _ _ _
   | exact spec_DrawByDestination.mono _ _
   | exact spec_DrawLeftBehindContainers.mono _ _
   | exact spec_DrawMoveToWagon.mono _ _
   | exact spec_LeftBehindContainers.mono _ _ _ _
   | exact spec_MoveToWagon.mono _ _ _ _ _ _
   | exact LeO.none _
   | refine LeO.ite ?_ ?_
   | refine LeO.bind ?_ (fun _ => ?_)
  ·intro y0 y1
   unfold laws_FnWagons.j5
   repeat' first
   | (with_reducible exact ih0 _ _ _ _ _ _ _ _ _)
   | (with_reducible exact ih1 _)
   | (with_reducible exact ih2 _ _ _ _ _)
   | (with_reducible exact ih3 _ _ _ _ _ _)
   | (with_reducible exact ih4 _ _)
   | (with_reducible exact ih5 _ _ _ _ _ _ _ _ _)
   | (with_reducible exact impl_ByDestination.mono _ _ _ _)
   | (with_reducible exact impl_IsValidLoading.mono _ _ _ _)
   | (with_reducible exact impl_LeftBehindContainers.mono _ _ _ _)
   | (with_reducible exact impl_MoveToWagon.mono _ _ _ _ _ _)
   | (with_reducible exact laws_rInts.mono _ _ _)
   | (with_reducible exact laws_rTexts.mono _ _ _)
   | (with_reducible exact spec_ByDestination.mono _ _ _ _)
   | (with_reducible exact spec_DrawByDestination.mono _ _)
   | (with_reducible exact spec_DrawLeftBehindContainers.mono _ _)
   | (with_reducible exact spec_DrawMoveToWagon.mono _ _)
   | (with_reducible exact spec_LeftBehindContainers.mono _ _ _ _)
   | (with_reducible exact spec_MoveToWagon.mono _ _ _ _ _ _)
   | (with_reducible exact LeO.refl _)
   | (with_reducible exact LeO.none _)
   | (with_reducible refine LeO.ite ?_ ?_)
   | (with_reducible refine LeO.bind ?_ (fun _ => ?_))
   | exact ih0 _ _ _ _ _ _ _ _ _
   | exact ih1 _
   | exact ih2 _ _ _ _ _
   | exact ih3 _ _ _ _ _ _
   | exact ih4 _ _
   | exact ih5 _ _ _ _ _ _ _ _ _
   | exact impl_ByDestination.mono _ _ _ _
   | exact impl_IsValidLoading.mono _ _ _ _
   | exact impl_LeftBehindContainers.mono _ _ _ _
   | exact impl_MoveToWagon.mono _ _ _ _ _ _
   | exact laws_rInts.mono _ _ _
   | exact laws_rTexts.mono _ _ _
   | exact spec_ByDestination.mono _ _ _ _
   | exact spec_DrawByDestination.mono _ _
   | exact spec_DrawLeftBehindContainers.mono _ _
   | exact spec_DrawMoveToWagon.mono _ _
   | exact spec_LeftBehindContainers.mono _ _ _ _
   | exact spec_MoveToWagon.mono _ _ _ _ _ _
   | exact LeO.none _
   | refine LeO.ite ?_ ?_
   | refine LeO.bind ?_ (fun _ => ?_)
  ·intro y0 y1 y2 y3 y4 y5 y6 y7 y8
   unfold laws_FnWagons.l0
   repeat' first
   | (with_reducible exact ih0 _ _ _ _ _ _ _ _ _)
   | (with_reducible exact ih1 _)
   | (with_reducible exact ih2 _ _ _ _ _)
   | (with_reducible exact ih3 _ _ _ _ _ _)
   | (with_reducible exact ih4 _ _)
   | (with_reducible exact ih5 _ _ _ _ _ _ _ _ _)
   | (with_reducible exact impl_ByDestination.mono _ _ _ _)
   | (with_reducible exact impl_IsValidLoading.mono _ _ _ _)
   | (with_reducible exact impl_LeftBehindContainers.mono _ _ _ _)
   | (with_reducible exact impl_MoveToWagon.mono _ _ _ _ _ _)
   | (with_reducible exact laws_rInts.mono _ _ _)
   | (with_reducible exact laws_rTexts.mono _ _ _)
   | (with_reducible exact spec_ByDestination.mono _ _ _ _)
   | (with_reducible exact spec_DrawByDestination.mono _ _)
   | (with_reducible exact spec_DrawLeftBehindContainers.mono _ _)
   | (with_reducible exact spec_DrawMoveToWagon.mono _ _)
   | (with_reducible exact spec_LeftBehindContainers.mono _ _ _ _)
   | (with_reducible exact spec_MoveToWagon.mono _ _ _ _ _ _)
   | (with_reducible exact LeO.refl _)
   | (with_reducible exact LeO.none _)
   | (with_reducible refine LeO.ite ?_ ?_)
   | (with_reducible refine LeO.bind ?_ (fun _ => ?_))
   | exact ih0 _ _ _ _ _ _ _ _ _
   | exact ih1 _
   | exact ih2 _ _ _ _ _
   | exact ih3 _ _ _ _ _ _
   | exact ih4 _ _
   | exact ih5 _ _ _ _ _ _ _ _ _
   | exact impl_ByDestination.mono _ _ _ _
   | exact impl_IsValidLoading.mono _ _ _ _
   | exact impl_LeftBehindContainers.mono _ _ _ _
   | exact impl_MoveToWagon.mono _ _ _ _ _ _
   | exact laws_rInts.mono _ _ _
   | exact laws_rTexts.mono _ _ _
   | exact spec_ByDestination.mono _ _ _ _
   | exact spec_DrawByDestination.mono _ _
   | exact spec_DrawLeftBehindContainers.mono _ _
   | exact spec_DrawMoveToWagon.mono _ _
   | exact spec_LeftBehindContainers.mono _ _ _ _
   | exact spec_MoveToWagon.mono _ _ _ _ _ _
   | exact LeO.none _
   | refine LeO.ite ?_ ?_
   | refine LeO.bind ?_ (fun _ => ?_)
theorem laws_FnWagons.mono : ∀ a0 k,LeO (laws_FnWagons.f k a0) (laws_FnWagons.f (k + 1) a0):=by
 intro a0 k
 obtain ⟨ih0,ih1,ih2,ih3,ih4,ih5⟩ := laws_FnWagons.mono_l k
 unfold laws_FnWagons.f
 repeat' first
   | (with_reducible exact ih0 _ _ _ _ _ _ _ _ _)
   | (with_reducible exact ih1 _)
   | (with_reducible exact ih2 _ _ _ _ _)
   | (with_reducible exact ih3 _ _ _ _ _ _)
   | (with_reducible exact ih4 _ _)
   | (with_reducible exact ih5 _ _ _ _ _ _ _ _ _)
   | (with_reducible exact impl_ByDestination.mono _ _ _ _)
   | (with_reducible exact impl_IsValidLoading.mono _ _ _ _)
   | (with_reducible exact impl_LeftBehindContainers.mono _ _ _ _)
   | (with_reducible exact impl_MoveToWagon.mono _ _ _ _ _ _)
   | (with_reducible exact laws_rInts.mono _ _ _)
   | (with_reducible exact laws_rTexts.mono _ _ _)
   | (with_reducible exact spec_ByDestination.mono _ _ _ _)
   | (with_reducible exact spec_DrawByDestination.mono _ _)
   | (with_reducible exact spec_DrawLeftBehindContainers.mono _ _)
   | (with_reducible exact spec_DrawMoveToWagon.mono _ _)
   | (with_reducible exact spec_LeftBehindContainers.mono _ _ _ _)
   | (with_reducible exact spec_MoveToWagon.mono _ _ _ _ _ _)
   | (with_reducible exact LeO.refl _)
   | (with_reducible exact LeO.none _)
   | (with_reducible refine LeO.ite ?_ ?_)
   | (with_reducible refine LeO.bind ?_ (fun _ => ?_))
   | exact ih0 _ _ _ _ _ _ _ _ _
   | exact ih1 _
   | exact ih2 _ _ _ _ _
   | exact ih3 _ _ _ _ _ _
   | exact ih4 _ _
   | exact ih5 _ _ _ _ _ _ _ _ _
   | exact impl_ByDestination.mono _ _ _ _
   | exact impl_IsValidLoading.mono _ _ _ _
   | exact impl_LeftBehindContainers.mono _ _ _ _
   | exact impl_MoveToWagon.mono _ _ _ _ _ _
   | exact laws_rInts.mono _ _ _
   | exact laws_rTexts.mono _ _ _
   | exact spec_ByDestination.mono _ _ _ _
   | exact spec_DrawByDestination.mono _ _
   | exact spec_DrawLeftBehindContainers.mono _ _
   | exact spec_DrawMoveToWagon.mono _ _
   | exact spec_LeftBehindContainers.mono _ _ _ _
   | exact spec_MoveToWagon.mono _ _ _ _ _ _
   | exact LeO.none _
   | refine LeO.ite ?_ ?_
   | refine LeO.bind ?_ (fun _ => ?_)
set_option maxHeartbeats 8000000 in
set_option maxRecDepth 100000 in
theorem laws_FnWagons.calls (k : Nat) (A0 : Option Addr) (c0 : Nat) (l0 : List Int) (r : Bool) (w : World) (hr0 : Kd.C (Kd.int .u8) w A0 l0.length l0) (hc0 : l0.length ≤ c0) (h : laws_FnWagons.f k l0 = some r) :
  Calls Try.prog 3 #[.slice A0 l0.length c0] w fun e w' => e = .returned (.bool r) ∧ Below w.heap.size w w':=by
 have HR0:=Aside0.mk hr0
 have HC0:=Aside0.mk hc0
 clear hr0 hc0
 have HB:=Aside0.mk (Below.refl w.heap.size w)
 have H : ((laws_rBig.f l0).bind fun t577 => (if t577 = true then (some true) else ((spec_DrawMoveToWagon.f k l0).bind fun bt578 => ((impl_MoveToWagon.f k bt578.1 bt578.2.1 bt578.2.2.1 bt578.2.2.2.1 bt578.2.2.2.2).bind fun bt589 => ((spec_MoveToWagon.f k bt578.1 bt578.2.1 bt578.2.2.1 bt578.2.2.2.1 bt578.2.2.2.2).bind fun bt593 => (if (bt589.2 != bt593.2) = true then (laws_FnWagons.j0 k l0 bt578.1 bt578.2.1 bt578.2.2.1 bt578.2.2.2.1 bt578.2.2.2.2 bt589.1 bt589.2 true) else ((laws_rInts.f k bt589.1 bt593.1).bind fun t597 => (laws_FnWagons.j0 k l0 bt578.1 bt578.2.1 bt578.2.2.1 bt578.2.2.2.1 bt578.2.2.2.2 bt589.1 bt589.2 (!t597))))))))) = some r:=h
 clear h
 replace H:=Option.bind_eq_some_iff.mp H
 obtain ⟨t577,A20,H⟩ := H
 replace H : (if t577 = true then (some true) else ((spec_DrawMoveToWagon.f k l0).bind fun bt578 => ((impl_MoveToWagon.f k bt578.1 bt578.2.1 bt578.2.2.1 bt578.2.2.2.1 bt578.2.2.2.2).bind fun bt589 => ((spec_MoveToWagon.f k bt578.1 bt578.2.1 bt578.2.2.1 bt578.2.2.2.1 bt578.2.2.2.2).bind fun bt593 => (if (bt589.2 != bt593.2) = true then (laws_FnWagons.j0 k l0 bt578.1 bt578.2.1 bt578.2.2.1 bt578.2.2.2.1 bt578.2.2.2.2 bt589.1 bt589.2 true) else ((laws_rInts.f k bt589.1 bt593.1).bind fun t597 => (laws_FnWagons.j0 k l0 bt578.1 bt578.2.1 bt578.2.2.1 bt578.2.2.2.1 bt578.2.2.2.2 bt589.1 bt589.2 (!t597)))))))) = some r:=H
 have A2:=Aside0.mk A20
 clear A20
 by_cases c3 : t577 = true
 ·subst c3
  have H1 : (some true) = some r:=by rw [if_pos rfl] at H;exact H
  clear H
  have H:=H1
  clear H1
  obtain rfl:=Option.some.inj H
  go_enter Try.func3,Try.ntmps3
  as_aux_lemma =>
   go_wp2_with ((go_at_call 4;(with_reducible refine (laws_rBig.calls _ _ l0 true _ ?side1 ?side2 A2.out).mono ?_);(case side1 => repeat (exact HR0.out));(case side2 => exact HC0.out);rintro e w' ⟨rfl,⟨nd,rfl⟩⟩;(try first | exact ⟨rfl,_,World.drewN_drewN _ _ _⟩ | exact ⟨rfl,_,Eq.trans (World.drewN_drewN _ _ _) (congrArg (World.drewN _) (Nat.add_assoc _ _ _))⟩)))
   repeat (go_quiet (fail);try go_wp2_with (fail))
   go_ret
   exact ⟨by rfl,by repeat ((with_reducible first | exact HB.out | apply pw_below_drewN))⟩
 ·replace c3:=Bool.eq_false_iff.mpr c3
  subst c3
  have H1 : ((spec_DrawMoveToWagon.f k l0).bind fun bt578 => ((impl_MoveToWagon.f k bt578.1 bt578.2.1 bt578.2.2.1 bt578.2.2.2.1 bt578.2.2.2.2).bind fun bt589 => ((spec_MoveToWagon.f k bt578.1 bt578.2.1 bt578.2.2.1 bt578.2.2.2.1 bt578.2.2.2.2).bind fun bt593 => (if (bt589.2 != bt593.2) = true then (laws_FnWagons.j0 k l0 bt578.1 bt578.2.1 bt578.2.2.1 bt578.2.2.2.1 bt578.2.2.2.2 bt589.1 bt589.2 true) else ((laws_rInts.f k bt589.1 bt593.1).bind fun t597 => (laws_FnWagons.j0 k l0 bt578.1 bt578.2.1 bt578.2.2.1 bt578.2.2.2.1 bt578.2.2.2.2 bt589.1 bt589.2 (!t597))))))) = some r:=by rw [if_neg (show ¬ (false = true) by decide)] at H;exact H
  clear H
  have H:=H1
  clear H1
  replace H:=Option.bind_eq_some_iff.mp H
  obtain ⟨⟨t578,t579,t580,t581,t582⟩,A40,H⟩ := H
  replace H : ((impl_MoveToWagon.f k t578 t579 t580 t581 t582).bind fun bt589 => ((spec_MoveToWagon.f k t578 t579 t580 t581 t582).bind fun bt593 => (if (bt589.2 != bt593.2) = true then (laws_FnWagons.j0 k l0 t578 t579 t580 t581 t582 bt589.1 bt589.2 true) else ((laws_rInts.f k bt589.1 bt593.1).bind fun t597 => (laws_FnWagons.j0 k l0 t578 t579 t580 t581 t582 bt589.1 bt589.2 (!t597)))))) = some r:=H
  have A4:=Aside0.mk A40
  clear A40
  replace H:=Option.bind_eq_some_iff.mp H
  obtain ⟨⟨t589,t590⟩,A50,H⟩ := H
  replace H : ((spec_MoveToWagon.f k t578 t579 t580 t581 t582).bind fun bt593 => (if (t590 != bt593.2) = true then (laws_FnWagons.j0 k l0 t578 t579 t580 t581 t582 t589 t590 true) else ((laws_rInts.f k t589 bt593.1).bind fun t597 => (laws_FnWagons.j0 k l0 t578 t579 t580 t581 t582 t589 t590 (!t597))))) = some r:=H
  have A5:=Aside0.mk A50
  clear A50
  replace H:=Option.bind_eq_some_iff.mp H
  obtain ⟨⟨t593,t594⟩,A60,H⟩ := H
  replace H : (if (t590 != t594) = true then (laws_FnWagons.j0 k l0 t578 t579 t580 t581 t582 t589 t590 true) else ((laws_rInts.f k t589 t593).bind fun t597 => (laws_FnWagons.j0 k l0 t578 t579 t580 t581 t582 t589 t590 (!t597)))) = some r:=H
  have A6:=Aside0.mk A60
  clear A60
  have HC7:=Aside0.mk H
  clear H
  go_enter Try.func3,Try.ntmps3
  go_upto_region 6 with (first | (go_at_call 4;(with_reducible refine (laws_rBig.calls _ _ l0 false _ ?side1 ?side2 A2.out).mono ?_);(case side1 => repeat (exact HR0.out));(case side2 => exact HC0.out);rintro e w' ⟨rfl,⟨nd,rfl⟩⟩;(try first | exact ⟨rfl,_,World.drewN_drewN _ _ _⟩ | exact ⟨rfl,_,Eq.trans (World.drewN_drewN _ _ _) (congrArg (World.drewN _) (Nat.add_assoc _ _ _))⟩)) | (go_at_call 5;(with_reducible refine (spec_DrawMoveToWagon.calls k _ _ l0 t578 t579 t580 t581 t582 _ ?side1 ?side2 A4.out).mono ?_);(case side1 => repeat (exact HR0.out));(case side2 => exact HC0.out);rintro e w8 ⟨v583,v585,v587,rfl,ho0,ho1,ho2,hb⟩;have n0_:=Aside0.mk (Kd.R_lower ho0 (below_size (by repeat ((with_reducible first | exact HB.out | apply pw_below_drewN)))));have n1_:=Aside0.mk (Kd.R_lower ho1 (below_size (by repeat ((with_reducible first | exact HB.out | apply pw_below_drewN)))));have n2_:=Aside0.mk (Kd.R_lower ho2 (below_size (by repeat ((with_reducible first | exact HB.out | apply pw_below_drewN)))));have n3_:=Aside0.mk (below_step (by repeat ((with_reducible first | exact HB.out | apply pw_below_drewN))) hb);clear HB;have HO584:=n0_;have HO586:=n1_;have HO588:=n2_;have HB:=n3_;clear n0_ n1_ n2_ n3_;(try clear hb);(try clear ho0);(try clear ho1);(try clear ho2);obtain ⟨Ao9,co9,eo9⟩ := Kd.R_slice HO584.out;subst eo9;obtain ⟨Ao10,co10,eo10⟩ := Kd.R_slice HO586.out;subst eo10;obtain ⟨Ao11,co11,eo11⟩ := Kd.R_slice HO588.out;subst eo11) | (go_at_call 6;(with_reducible refine (impl_MoveToWagon.calls k _ _ t578 _ _ t579 _ _ t580 t581 t582 t589 t590 _ ?side1 ?side2 ?side3 ?side4 ?side5 ?side6 A5.out).mono ?_);(case side1 => repeat (exact (Kd.R_reads' HO584.out).2.2));(case side2 => exact (Kd.R_reads' HO584.out).2.1);(case side3 => repeat (exact (Kd.R_reads' HO586.out).2.2));(case side4 => exact (Kd.R_reads' HO586.out).2.1);(case side5 => repeat (exact (Kd.R_reads' HO588.out).2.2));(case side6 => exact (Kd.R_reads' HO588.out).2.1);rintro e w12 ⟨v591,rfl,ho0,hb⟩;have n0_:=Aside0.mk (Kd.R_below (by exact HO584.out) hb);have n1_:=Aside0.mk (Kd.R_below (by exact HO586.out) hb);have n2_:=Aside0.mk (Kd.R_elder' (by exact HO588.out) (Kd.R_base ho0) hb);have n3_:=Aside0.mk (Kd.R_lower (Kd.R_new' ho0 (Kd.R_lt (by exact HO588.out))) (below_size (by exact HB.out)));have n4_:=Aside0.mk (below_step (by exact HB.out) hb);clear HO584;clear HO586;clear HO588;clear HB;have HO584:=n0_;have HO586:=n1_;have HO588:=n2_;have HO592:=n3_;have HB:=n4_;clear n0_ n1_ n2_ n3_ n4_;(try clear hb);(try clear ho0)) | (go_at_call 7;(with_reducible refine (spec_MoveToWagon.calls k _ _ t578 _ _ t579 _ _ t580 t581 t582 t593 t594 _ ?side1 ?side2 ?side3 ?side4 ?side5 ?side6 A6.out).mono ?_);(case side1 => repeat (exact (Kd.R_reads' HO584.out).2.2));(case side2 => exact (Kd.R_reads' HO584.out).2.1);(case side3 => repeat (exact (Kd.R_reads' HO586.out).2.2));(case side4 => exact (Kd.R_reads' HO586.out).2.1);(case side5 => repeat (exact (Kd.R_reads' HO588.out).2.2));(case side6 => exact (Kd.R_reads' HO588.out).2.1);rintro e w13 ⟨v595,rfl,ho0,hb⟩;have n0_:=Aside0.mk (Kd.R_below (by exact HO584.out) hb);have n1_:=Aside0.mk (Kd.R_below (by exact HO586.out) hb);have n2_:=Aside0.mk (Kd.R_elder' (by exact HO588.out) (Kd.R_base ho0) hb);have n3_:=Aside0.mk (Kd.R_elder' (by exact HO592.out) (Kd.R_base ho0) hb);have n4_:=Aside0.mk (Kd.R_lower (Kd.R_new' (Kd.R_new' ho0 (Kd.R_lt (by exact HO588.out))) (Kd.R_lt (by exact HO592.out))) (below_size (by exact HB.out)));have n5_:=Aside0.mk (below_step (by exact HB.out) hb);clear HO584;clear HO586;clear HO588;clear HO592;clear HB;have HO584:=n0_;have HO586:=n1_;have HO588:=n2_;have HO592:=n3_;have HO596:=n4_;have HB:=n5_;clear n0_ n1_ n2_ n3_ n4_ n5_;(try clear hb);(try clear ho0)))
  repeat (go_quiet (fail);go_upto_region 6 with (first | (go_at_call 4;(with_reducible refine (laws_rBig.calls _ _ l0 false _ ?side1 ?side2 A2.out).mono ?_);(case side1 => repeat (first | exact HR0.out | (with_reducible refine Kd.C_alloc ?_ _) | (with_reducible refine Kd.C_drewN ?_ _) | (with_reducible refine Kd.C_drew ?_)));(case side2 => exact HC0.out);rintro e w' ⟨rfl,⟨nd,rfl⟩⟩;(try first | exact ⟨rfl,_,World.drewN_drewN _ _ _⟩ | exact ⟨rfl,_,Eq.trans (World.drewN_drewN _ _ _) (congrArg (World.drewN _) (Nat.add_assoc _ _ _))⟩)) | (go_at_call 5;(with_reducible refine (spec_DrawMoveToWagon.calls k _ _ l0 t578 t579 t580 t581 t582 _ ?side1 ?side2 A4.out).mono ?_);(case side1 => repeat (first | exact HR0.out | (with_reducible refine Kd.C_alloc ?_ _) | (with_reducible refine Kd.C_drewN ?_ _) | (with_reducible refine Kd.C_drew ?_)));(case side2 => exact HC0.out);rintro e w8 ⟨v583,v585,v587,rfl,ho0,ho1,ho2,hb⟩;have n0_:=Aside0.mk (Kd.R_lower ho0 (below_size (by repeat (first | (with_reducible first | exact HB.out | apply below_alloc | apply pw_below_drewN | apply below_drew1) | exact HB.out))));have n1_:=Aside0.mk (Kd.R_lower ho1 (below_size (by repeat (first | (with_reducible first | exact HB.out | apply below_alloc | apply pw_below_drewN | apply below_drew1) | exact HB.out))));have n2_:=Aside0.mk (Kd.R_lower ho2 (below_size (by repeat (first | (with_reducible first | exact HB.out | apply below_alloc | apply pw_below_drewN | apply below_drew1) | exact HB.out))));have n3_:=Aside0.mk (below_step (by repeat (first | (with_reducible first | exact HB.out | apply below_alloc | apply pw_below_drewN | apply below_drew1) | exact HB.out)) hb);clear HB;have HO584:=n0_;have HO586:=n1_;have HO588:=n2_;have HB:=n3_;clear n0_ n1_ n2_ n3_;(try clear hb);(try clear hb2);(try clear hk);(try clear hi);(try clear ho0);(try clear ho1);(try clear ho2);obtain ⟨Ao9,co9,eo9⟩ := Kd.R_slice HO584.out;subst eo9;obtain ⟨Ao10,co10,eo10⟩ := Kd.R_slice HO586.out;subst eo10;obtain ⟨Ao11,co11,eo11⟩ := Kd.R_slice HO588.out;subst eo11) | (go_at_call 6;(with_reducible refine (impl_MoveToWagon.calls k _ _ t578 _ _ t579 _ _ t580 t581 t582 t589 t590 _ ?side1 ?side2 ?side3 ?side4 ?side5 ?side6 A5.out).mono ?_);(case side1 => repeat (first | exact (Kd.R_reads' HO584.out).2.2 | (with_reducible refine Kd.C_alloc ?_ _) | (with_reducible refine Kd.C_drewN ?_ _) | (with_reducible refine Kd.C_drew ?_)));(case side2 => exact (Kd.R_reads' HO584.out).2.1);(case side3 => repeat (first | exact (Kd.R_reads' HO586.out).2.2 | (with_reducible refine Kd.C_alloc ?_ _) | (with_reducible refine Kd.C_drewN ?_ _) | (with_reducible refine Kd.C_drew ?_)));(case side4 => exact (Kd.R_reads' HO586.out).2.1);(case side5 => repeat (first | exact (Kd.R_reads' HO588.out).2.2 | (with_reducible refine Kd.C_alloc ?_ _) | (with_reducible refine Kd.C_drewN ?_ _) | (with_reducible refine Kd.C_drew ?_)));(case side6 => exact (Kd.R_reads' HO588.out).2.1);rintro e w12 ⟨v591,rfl,ho0,hb⟩;have n0_:=Aside0.mk (Kd.R_below (by (with_reducible repeat (first | apply Kd.R_alloc | apply Kd.R_drewN | apply Kd.R_drew));exact HO584.out) hb);have n1_:=Aside0.mk (Kd.R_below (by (with_reducible repeat (first | apply Kd.R_alloc | apply Kd.R_drewN | apply Kd.R_drew));exact HO586.out) hb);have n2_:=Aside0.mk (Kd.R_elder' (by (with_reducible repeat (first | apply Kd.R_alloc | apply Kd.R_drewN | apply Kd.R_drew));exact HO588.out) (Kd.R_base ho0) hb);have n3_:=Aside0.mk (Kd.R_lower (Kd.R_new' ho0 (Kd.R_lt (by (with_reducible repeat (first | apply Kd.R_alloc | apply Kd.R_drewN | apply Kd.R_drew));exact HO588.out))) (below_size (by repeat (first | (with_reducible first | exact HB.out | apply below_alloc | apply pw_below_drewN | apply below_drew1) | exact HB.out))));have n4_:=Aside0.mk (below_step (by repeat (first | (with_reducible first | exact HB.out | apply below_alloc | apply pw_below_drewN | apply below_drew1) | exact HB.out)) hb);clear HO584;clear HO586;clear HO588;clear HB;have HO584:=n0_;have HO586:=n1_;have HO588:=n2_;have HO592:=n3_;have HB:=n4_;clear n0_ n1_ n2_ n3_ n4_;(try clear hb);(try clear hb2);(try clear hk);(try clear hi);(try clear ho0)) | (go_at_call 7;(with_reducible refine (spec_MoveToWagon.calls k _ _ t578 _ _ t579 _ _ t580 t581 t582 t593 t594 _ ?side1 ?side2 ?side3 ?side4 ?side5 ?side6 A6.out).mono ?_);(case side1 => repeat (first | exact (Kd.R_reads' HO584.out).2.2 | (with_reducible refine Kd.C_alloc ?_ _) | (with_reducible refine Kd.C_drewN ?_ _) | (with_reducible refine Kd.C_drew ?_)));(case side2 => exact (Kd.R_reads' HO584.out).2.1);(case side3 => repeat (first | exact (Kd.R_reads' HO586.out).2.2 | (with_reducible refine Kd.C_alloc ?_ _) | (with_reducible refine Kd.C_drewN ?_ _) | (with_reducible refine Kd.C_drew ?_)));(case side4 => exact (Kd.R_reads' HO586.out).2.1);(case side5 => repeat (first | exact (Kd.R_reads' HO588.out).2.2 | (with_reducible refine Kd.C_alloc ?_ _) | (with_reducible refine Kd.C_drewN ?_ _) | (with_reducible refine Kd.C_drew ?_)));(case side6 => exact (Kd.R_reads' HO588.out).2.1);rintro e w13 ⟨v595,rfl,ho0,hb⟩;have n0_:=Aside0.mk (Kd.R_below (by (with_reducible repeat (first | apply Kd.R_alloc | apply Kd.R_drewN | apply Kd.R_drew));exact HO584.out) hb);have n1_:=Aside0.mk (Kd.R_below (by (with_reducible repeat (first | apply Kd.R_alloc | apply Kd.R_drewN | apply Kd.R_drew));exact HO586.out) hb);have n2_:=Aside0.mk (Kd.R_elder' (by (with_reducible repeat (first | apply Kd.R_alloc | apply Kd.R_drewN | apply Kd.R_drew));exact HO588.out) (Kd.R_base ho0) hb);have n3_:=Aside0.mk (Kd.R_elder' (by (with_reducible repeat (first | apply Kd.R_alloc | apply Kd.R_drewN | apply Kd.R_drew));exact HO592.out) (Kd.R_base ho0) hb);have n4_:=Aside0.mk (Kd.R_lower (Kd.R_new' (Kd.R_new' ho0 (Kd.R_lt (by (with_reducible repeat (first | apply Kd.R_alloc | apply Kd.R_drewN | apply Kd.R_drew));exact HO588.out))) (Kd.R_lt (by (with_reducible repeat (first | apply Kd.R_alloc | apply Kd.R_drewN | apply Kd.R_drew));exact HO592.out))) (below_size (by repeat (first | (with_reducible first | exact HB.out | apply below_alloc | apply pw_below_drewN | apply below_drew1) | exact HB.out))));have n5_:=Aside0.mk (below_step (by repeat (first | (with_reducible first | exact HB.out | apply below_alloc | apply pw_below_drewN | apply below_drew1) | exact HB.out)) hb);clear HO584;clear HO586;clear HO588;clear HO592;clear HB;have HO584:=n0_;have HO586:=n1_;have HO588:=n2_;have HO592:=n3_;have HO596:=n4_;have HB:=n5_;clear n0_ n1_ n2_ n3_ n4_ n5_;(try clear hb);(try clear hb2);(try clear hk);(try clear hi);(try clear ho0))))
  (skip)
  go_cut [66] (fun v66 wc => ∃ (kq : Nat) (x66_6 : Bool),v66 = .bool x66_6 ∧ Aside0 (laws_FnWagons.j0 kq l0 t578 t579 t580 t581 t582 t589 t590 x66_6 = some r) ∧ Aside0 (kq ≤ k) ∧ Aside0 (Kd.R k60 60 wc w.heap.size (fun _ => True) (.slice Ao9 t578.length co9) t578) ∧ Aside0 (Kd.R k33 33 wc w.heap.size (fun _ => True) (.slice Ao10 t579.length co10) t579) ∧ Aside0 (Kd.R (Kd.int .i64) 3 wc w.heap.size (fun k_ => some k_ ≠ (v591 : Value).ownBlock) (.slice Ao11 t580.length co11) t580) ∧ Aside0 (Kd.R (Kd.int .i64) 3 wc w.heap.size (fun k_ => some k_ ≠ ((.slice Ao11 t580.length co11) : Value).ownBlock) v591 t589) ∧ Aside0 (Below w.heap.size w wc))
  case first =>
   have H:=HC7.out
   clear HC7
   by_cases c14 : (t590 != t594) = true
   ·rw [if_pos c14] at H
    have c14b0 : (t590 != t594) = true:=c14
    (try (have c14b1 : decide (t590 = t594) = false:=by simpa using c14))
    (try (have c14b2 : (t590 == t594) = false:=by simpa using c14))
    (try (have c14b3 : ¬ (t590 = t594):=by simpa using c14))
    clear c14
    (skip)
    have H':=Aside0.mk H
    clear H
    go_wp2
    repeat (go_quiet (fail);try go_wp2)
    go_meet
    case rel => exact ⟨_,(true),(by rfl),H',⟨by omega⟩,⟨by exact HO584.out⟩,⟨by exact HO586.out⟩,⟨by exact Kd.R_mono HO588.out (fun _ hk => hk.1.2)⟩,⟨by exact Kd.R_mono HO592.out (fun _ hk => hk.1.2)⟩,⟨by exact HB.out⟩⟩
   ·rw [if_neg c14] at H
    have c14b0 : (t590 != t594) = false:=by simpa using c14
    (try (have c14b1 : decide (t590 = t594) = true:=by simpa using c14))
    (try (have c14b2 : (t590 == t594) = true:=by simpa using c14))
    clear c14
    (skip)
    replace H:=Option.bind_eq_some_iff.mp H
    obtain ⟨t597,A150,H⟩ := H
    replace H : (laws_FnWagons.j0 k l0 t578 t579 t580 t581 t582 t589 t590 (!t597)) = some r:=H
    have A15:=Aside0.mk A150
    clear A150
    have H':=Aside0.mk H
    clear H
    obtain ⟨Ao16,co16,eo16⟩ := Kd.R_slice HO592.out
    subst eo16
    obtain ⟨Ao17,co17,eo17⟩ := Kd.R_slice HO596.out
    subst eo17
    go_wp2_with ((go_at_call 8;(with_reducible refine (laws_rInts.calls k _ _ t589 _ _ t593 t597 _ ?side1 ?side2 ?side3 ?side4 A15.out).mono ?_);(case side1 => repeat (exact (Kd.R_reads' HO592.out).2.2));(case side2 => exact (Kd.R_reads' HO592.out).2.1);(case side3 => repeat (exact (Kd.R_reads' HO596.out).2.2));(case side4 => exact (Kd.R_reads' HO596.out).2.1);rintro e w' ⟨rfl,⟨nd,rfl⟩⟩;(try first | exact ⟨rfl,_,World.drewN_drewN _ _ _⟩ | exact ⟨rfl,_,Eq.trans (World.drewN_drewN _ _ _) (congrArg (World.drewN _) (Nat.add_assoc _ _ _))⟩)))
    repeat (go_quiet (fail);try go_wp2_with (fail))
    go_meet
    case rel => exact ⟨_,(!t597),(by rfl),H',⟨by omega⟩,⟨by (with_reducible repeat (apply Kd.R_drewN));exact HO584.out⟩,⟨by (with_reducible repeat (apply Kd.R_drewN));exact HO586.out⟩,⟨by (with_reducible repeat (apply Kd.R_drewN));exact Kd.R_mono HO588.out (fun _ hk => hk.1.2)⟩,⟨by (with_reducible repeat (apply Kd.R_drewN));exact Kd.R_mono HO592.out (fun _ hk => hk.1.2)⟩,⟨by repeat ((with_reducible first | exact HB.out | apply pw_below_drewN))⟩⟩
  case rest => as_aux_lemma =>
   clear HC7
   try clear c1
   try clear p2
   try clear c3
   try clear c14
   try clear c14b0
   try clear c14b1
   try clear c14b2
   obtain ⟨kq,x66_6,rfl,HA,HJ6,HO_3,HO_4,HO_5,HO_8,HB⟩ := hcut
   cases kq with
   | zero => exact absurd HA.out (by simp [laws_FnWagons.j0])
   | succ kj6 =>
    have H:=HA.out
    clear HA
    simp only [laws_FnWagons.j0] at H
    by_cases c18 : x66_6 = true
    ·subst c18
     have H1 : (some false) = some r:=by rw [if_pos rfl] at H;exact H
     clear H
     have H:=H1
     clear H1
     obtain rfl:=Option.some.inj H
     as_aux_lemma =>
      go_wp2
      repeat (go_quiet (fail);try go_wp2)
      go_ret
      exact ⟨by rfl,by exact HB.out⟩
    ·replace c18:=Bool.eq_false_iff.mpr c18
     subst c18
     have H1 : (if t590 = true then (laws_FnWagons.l0 kj6 l0 t578 t579 t580 t581 t582 t589 0 0) else (laws_FnWagons.j2 kj6 l0)) = some r:=by rw [if_neg (show ¬ (false = true) by decide)] at H;exact H
     clear H
     have H:=H1
     clear H1
     have HC19:=Aside0.mk H
     clear H
     go_upto_if 67 with (fail)
     repeat (go_quiet (fail);go_upto_if 67 with (fail))
     go_cut [] (fun wc => ∃ (kq : Nat),Aside0 (laws_FnWagons.j2 kq l0 = some r) ∧ Aside0 (kq ≤ kj6) ∧ Aside0 (Below w.heap.size w wc))
     case first =>
      have H:=HC19.out
      clear HC19
      by_cases c20 : t590 = true
      ·subst c20
       have H1 : (laws_FnWagons.l0 kj6 l0 t578 t579 t580 t581 t582 t589 0 0) = some r:=by rw [if_pos rfl] at H;exact H
       clear H
       have H:=H1
       clear H1
       have H':=Aside0.mk H
       clear H
       go_wp2
       repeat (go_quiet (fail);try go_wp2)
       (skip)
       go_loopg [12,13] kj6 (fun kq v12 v13 w' => ∃ (x12_2 : Int) (x13_2 : Int),v12 = .int .i64 x12_2 ∧ v13 = .int .i64 x13_2 ∧ Aside0 (laws_FnWagons.l0 kq l0 t578 t579 t580 t581 t582 t589 x12_2 x13_2 = some r) ∧ Aside0 (kq ≤ kj6) ∧ Aside0 (Kd.R k60 60 w' w.heap.size (fun _ => True) (.slice Ao9 t578.length co9) t578) ∧ Aside0 (Kd.R k33 33 w' w.heap.size (fun _ => True) (.slice Ao10 t579.length co10) t579) ∧ Aside0 (Kd.R (Kd.int .i64) 3 w' w.heap.size (fun k_ => some k_ ≠ (v591 : Value).ownBlock) (.slice Ao11 t580.length co11) t580) ∧ Aside0 (Kd.R (Kd.int .i64) 3 w' w.heap.size (fun k_ => some k_ ≠ ((.slice Ao11 t580.length co11) : Value).ownBlock) v591 t589) ∧ Aside0 (Below w.heap.size w w'))
       case atStart => exact ⟨(0),(0),(by rfl),(by rfl),H',⟨Nat.le_refl _⟩,⟨by exact HO_3.out⟩,⟨by exact HO_4.out⟩,⟨by exact HO_5.out⟩,⟨by exact HO_8.out⟩,⟨by exact HB.out⟩⟩
       case round =>
        clear H'
        try clear c1
        try clear c2
        try clear p2
        try clear c3
        try clear c14
        try clear c14b0
        try clear c14b1
        try clear c14b2
        try clear c18
        try clear c20
        try clear p2
        obtain ⟨x12_2,x13_2,rfl,rfl,HA,HK2,HO_3,HO_4,HO_5,HO_8,HB⟩ := hrel
        cases gk with
        | zero => exact absurd HA.out (by simp [laws_FnWagons.l0])
        | succ k2 =>
         have H:=HA.out
         clear HA
         simp only [laws_FnWagons.l0] at H
         by_cases c21 : x13_2 < (t579.length : Int)
         ·rw [if_pos c21] at H
          have c21b0 : decide (x13_2 < (t579.length : Int)) = true:=decide_eq_true c21
          clear c21
          (skip)
          by_cases c22 : 0 ≤ x13_2
          ·rw [if_pos c22] at H
           have c22b0 : decide (0 ≤ x13_2) = true:=decide_eq_true c22
           clear c22
           by_cases c23 : x13_2 < (t589.length : Int)
           ·rw [if_pos c23] at H
            have c23b0 : decide (x13_2 < (t589.length : Int)) = true:=decide_eq_true c23
            clear c23
            by_cases c24 : x13_2 < (t580.length : Int)
            ·rw [if_pos c24] at H
             have c24b0 : decide (x13_2 < (t580.length : Int)) = true:=decide_eq_true c24
             clear c24
             by_cases c25 : (rd t589 x13_2) = (rd t580 x13_2)
             ·rw [if_pos c25] at H
              have c25b0 : ((rd t589 x13_2) == (rd t580 x13_2)) = true:=beq_iff_eq.mpr c25
              have c25b1 : ((rd t589 x13_2) != (rd t580 x13_2)) = false:=bne_eq_false_iff_eq.mpr c25
              clear c25
              by_cases c26 : ((rd_T33 t579 x13_2).f0).toList = t581.toList
              ·rw [if_pos c26] at H
               have c26b0 : (((rd_T33 t579 x13_2).f0).toList == t581.toList) = true:=beq_iff_eq.mpr c26
               have c26b1 : (((rd_T33 t579 x13_2).f0).toList != t581.toList) = false:=bne_eq_false_iff_eq.mpr c26
               clear c26
               by_cases c27 : (rd t589 x13_2) = t582
               ·rw [if_pos c27] at H
                have c27b0 : ((rd t589 x13_2) == t582) = true:=beq_iff_eq.mpr c27
                have c27b1 : ((rd t589 x13_2) != t582) = false:=bne_eq_false_iff_eq.mpr c27
                clear c27
                have H':=Aside0.mk H
                clear H
                obtain ⟨Ao28,co28,eo28⟩ := Kd.R_slice HO_8.out
                subst eo28
                have p599 : 0 ≤ (x13_2 : Int):=of_decide_eq_true (by (with_reducible assumption))
                have q599 : x13_2 < (t589.length : Int):=of_decide_eq_true (by (with_reducible assumption))
                obtain ⟨ad599,e599,hx599_0⟩ := Kd.at_int (Kd.R_reads' HO_8.out).2.2 x13_2 p599 q599
                cases e599
                replace p599:=eq_true p599
                replace q599:=eq_true q599
                have p600 : 0 ≤ (x13_2 : Int):=of_decide_eq_true (by (with_reducible assumption))
                have q600 : x13_2 < (t580.length : Int):=of_decide_eq_true (by (with_reducible assumption))
                obtain ⟨ad600,e600,hx600_0⟩ := Kd.at_int (Kd.R_reads' HO_5.out).2.2 x13_2 p600 q600
                cases e600
                replace p600:=eq_true p600
                replace q600:=eq_true q600
                have p601 : 0 ≤ (x13_2 : Int):=of_decide_eq_true (by (with_reducible assumption))
                have q601 : x13_2 < (t579.length : Int):=of_decide_eq_true (by (with_reducible assumption))
                obtain ⟨ad601,e601,hx601_0,hx601_1,hx601_2,hx601_3,hx601_4⟩ := at_T33 (Kd.R_reads' HO_4.out).2.2 x13_2 p601 q601
                cases e601
                replace p601:=eq_true p601
                replace q601:=eq_true q601
                have p602 : 0 ≤ (x13_2 : Int):=of_decide_eq_true (by (with_reducible assumption))
                have q602 : x13_2 < (t589.length : Int):=of_decide_eq_true (by (with_reducible assumption))
                obtain ⟨ad602,e602,hx602_0⟩ := Kd.at_int (Kd.R_reads' HO_8.out).2.2 x13_2 p602 q602
                obtain rfl : ad599 = ad602:=(by injection e602)
                replace p602:=eq_true p602
                replace q602:=eq_true q602
                go_wp2
                repeat (go_quiet (fail);try go_wp2)
                go_roundg k2
                case measure => have:=HJ6.out;have:=HK2.out;omega
                case rel => exact ⟨(x12_2),(wrap64 (x13_2 + 1)),(by rfl),(by rfl),H',⟨by have:=HJ6.out;have:=HK2.out;omega⟩,⟨by (with_reducible repeat (apply Kd.R_drewN));exact HO_3.out⟩,⟨by (with_reducible repeat (apply Kd.R_drewN));exact HO_4.out⟩,⟨by (with_reducible repeat (apply Kd.R_drewN));exact HO_5.out⟩,⟨by (with_reducible repeat (apply Kd.R_drewN));exact HO_8.out⟩,⟨by repeat ((with_reducible first | exact HB.out | apply pw_below_drewN))⟩⟩
               ·rw [if_neg c27] at H
                have c27b0 : ((rd t589 x13_2) == t582) = false:=beq_eq_false_iff_ne.mpr c27
                have c27b1 : ((rd t589 x13_2) != t582) = true:=bne_iff_ne.mpr c27
                obtain rfl:=Option.some.inj H
                obtain ⟨Ao29,co29,eo29⟩ := Kd.R_slice HO_8.out
                subst eo29
                have p599 : 0 ≤ (x13_2 : Int):=of_decide_eq_true (by (with_reducible assumption))
                have q599 : x13_2 < (t589.length : Int):=of_decide_eq_true (by (with_reducible assumption))
                obtain ⟨ad599,e599,hx599_0⟩ := Kd.at_int (Kd.R_reads' HO_8.out).2.2 x13_2 p599 q599
                cases e599
                replace p599:=eq_true p599
                replace q599:=eq_true q599
                have p600 : 0 ≤ (x13_2 : Int):=of_decide_eq_true (by (with_reducible assumption))
                have q600 : x13_2 < (t580.length : Int):=of_decide_eq_true (by (with_reducible assumption))
                obtain ⟨ad600,e600,hx600_0⟩ := Kd.at_int (Kd.R_reads' HO_5.out).2.2 x13_2 p600 q600
                cases e600
                replace p600:=eq_true p600
                replace q600:=eq_true q600
                have p601 : 0 ≤ (x13_2 : Int):=of_decide_eq_true (by (with_reducible assumption))
                have q601 : x13_2 < (t579.length : Int):=of_decide_eq_true (by (with_reducible assumption))
                obtain ⟨ad601,e601,hx601_0,hx601_1,hx601_2,hx601_3,hx601_4⟩ := at_T33 (Kd.R_reads' HO_4.out).2.2 x13_2 p601 q601
                cases e601
                replace p601:=eq_true p601
                replace q601:=eq_true q601
                have p602 : 0 ≤ (x13_2 : Int):=of_decide_eq_true (by (with_reducible assumption))
                have q602 : x13_2 < (t589.length : Int):=of_decide_eq_true (by (with_reducible assumption))
                obtain ⟨ad602,e602,hx602_0⟩ := Kd.at_int (Kd.R_reads' HO_8.out).2.2 x13_2 p602 q602
                obtain rfl : ad599 = ad602:=(by injection e602)
                replace p602:=eq_true p602
                replace q602:=eq_true q602
                as_aux_lemma =>
                 go_wp2
                 repeat (go_quiet (fail);try go_wp2)
                 go_ret
                 exact ⟨by rfl,by repeat ((with_reducible first | exact HB.out | apply pw_below_drewN))⟩
              ·rw [if_neg c26] at H
               have c26b0 : (((rd_T33 t579 x13_2).f0).toList == t581.toList) = false:=beq_eq_false_iff_ne.mpr c26
               have c26b1 : (((rd_T33 t579 x13_2).f0).toList != t581.toList) = true:=bne_iff_ne.mpr c26
               have H':=Aside0.mk H
               clear H
               obtain ⟨Ao30,co30,eo30⟩ := Kd.R_slice HO_8.out
               subst eo30
               have p599 : 0 ≤ (x13_2 : Int):=of_decide_eq_true (by (with_reducible assumption))
               have q599 : x13_2 < (t589.length : Int):=of_decide_eq_true (by (with_reducible assumption))
               obtain ⟨ad599,e599,hx599_0⟩ := Kd.at_int (Kd.R_reads' HO_8.out).2.2 x13_2 p599 q599
               cases e599
               replace p599:=eq_true p599
               replace q599:=eq_true q599
               have p600 : 0 ≤ (x13_2 : Int):=of_decide_eq_true (by (with_reducible assumption))
               have q600 : x13_2 < (t580.length : Int):=of_decide_eq_true (by (with_reducible assumption))
               obtain ⟨ad600,e600,hx600_0⟩ := Kd.at_int (Kd.R_reads' HO_5.out).2.2 x13_2 p600 q600
               cases e600
               replace p600:=eq_true p600
               replace q600:=eq_true q600
               have p601 : 0 ≤ (x13_2 : Int):=of_decide_eq_true (by (with_reducible assumption))
               have q601 : x13_2 < (t579.length : Int):=of_decide_eq_true (by (with_reducible assumption))
               obtain ⟨ad601,e601,hx601_0,hx601_1,hx601_2,hx601_3,hx601_4⟩ := at_T33 (Kd.R_reads' HO_4.out).2.2 x13_2 p601 q601
               cases e601
               replace p601:=eq_true p601
               replace q601:=eq_true q601
               go_wp2
               repeat (go_quiet (fail);try go_wp2)
               go_roundg k2
               case measure => have:=HJ6.out;have:=HK2.out;omega
               case rel => exact ⟨(x12_2),(wrap64 (x13_2 + 1)),(by rfl),(by rfl),H',⟨by have:=HJ6.out;have:=HK2.out;omega⟩,⟨by (with_reducible repeat (apply Kd.R_drewN));exact HO_3.out⟩,⟨by (with_reducible repeat (apply Kd.R_drewN));exact HO_4.out⟩,⟨by (with_reducible repeat (apply Kd.R_drewN));exact HO_5.out⟩,⟨by (with_reducible repeat (apply Kd.R_drewN));exact HO_8.out⟩,⟨by repeat ((with_reducible first | exact HB.out | apply pw_below_drewN))⟩⟩
             ·rw [if_neg c25] at H
              have c25b0 : ((rd t589 x13_2) == (rd t580 x13_2)) = false:=beq_eq_false_iff_ne.mpr c25
              have c25b1 : ((rd t589 x13_2) != (rd t580 x13_2)) = true:=bne_iff_ne.mpr c25
              by_cases c31 : ((rd_T33 t579 x13_2).f0).toList = t581.toList
              ·rw [if_pos c31] at H
               have c31b0 : (((rd_T33 t579 x13_2).f0).toList == t581.toList) = true:=beq_iff_eq.mpr c31
               have c31b1 : (((rd_T33 t579 x13_2).f0).toList != t581.toList) = false:=bne_eq_false_iff_eq.mpr c31
               clear c31
               by_cases c32 : (rd t589 x13_2) = t582
               ·rw [if_pos c32] at H
                have c32b0 : ((rd t589 x13_2) == t582) = true:=beq_iff_eq.mpr c32
                have c32b1 : ((rd t589 x13_2) != t582) = false:=bne_eq_false_iff_eq.mpr c32
                clear c32
                have H':=Aside0.mk H
                clear H
                obtain ⟨Ao33,co33,eo33⟩ := Kd.R_slice HO_8.out
                subst eo33
                have p599 : 0 ≤ (x13_2 : Int):=of_decide_eq_true (by (with_reducible assumption))
                have q599 : x13_2 < (t589.length : Int):=of_decide_eq_true (by (with_reducible assumption))
                obtain ⟨ad599,e599,hx599_0⟩ := Kd.at_int (Kd.R_reads' HO_8.out).2.2 x13_2 p599 q599
                cases e599
                replace p599:=eq_true p599
                replace q599:=eq_true q599
                have p600 : 0 ≤ (x13_2 : Int):=of_decide_eq_true (by (with_reducible assumption))
                have q600 : x13_2 < (t580.length : Int):=of_decide_eq_true (by (with_reducible assumption))
                obtain ⟨ad600,e600,hx600_0⟩ := Kd.at_int (Kd.R_reads' HO_5.out).2.2 x13_2 p600 q600
                cases e600
                replace p600:=eq_true p600
                replace q600:=eq_true q600
                have p603 : 0 ≤ (x13_2 : Int):=of_decide_eq_true (by (with_reducible assumption))
                have q603 : x13_2 < (t579.length : Int):=of_decide_eq_true (by (with_reducible assumption))
                obtain ⟨ad603,e603,hx603_0,hx603_1,hx603_2,hx603_3,hx603_4⟩ := at_T33 (Kd.R_reads' HO_4.out).2.2 x13_2 p603 q603
                cases e603
                replace p603:=eq_true p603
                replace q603:=eq_true q603
                have p604 : 0 ≤ (x13_2 : Int):=of_decide_eq_true (by (with_reducible assumption))
                have q604 : x13_2 < (t589.length : Int):=of_decide_eq_true (by (with_reducible assumption))
                obtain ⟨ad604,e604,hx604_0⟩ := Kd.at_int (Kd.R_reads' HO_8.out).2.2 x13_2 p604 q604
                obtain rfl : ad599 = ad604:=(by injection e604)
                replace p604:=eq_true p604
                replace q604:=eq_true q604
                go_wp2
                repeat (go_quiet (fail);try go_wp2)
                go_roundg k2
                case measure => have:=HJ6.out;have:=HK2.out;omega
                case rel => exact ⟨(wrap64 (x12_2 + 1)),(wrap64 (x13_2 + 1)),(by rfl),(by rfl),H',⟨by have:=HJ6.out;have:=HK2.out;omega⟩,⟨by (with_reducible repeat (apply Kd.R_drewN));exact HO_3.out⟩,⟨by (with_reducible repeat (apply Kd.R_drewN));exact HO_4.out⟩,⟨by (with_reducible repeat (apply Kd.R_drewN));exact HO_5.out⟩,⟨by (with_reducible repeat (apply Kd.R_drewN));exact HO_8.out⟩,⟨by repeat ((with_reducible first | exact HB.out | apply pw_below_drewN))⟩⟩
               ·rw [if_neg c32] at H
                have c32b0 : ((rd t589 x13_2) == t582) = false:=beq_eq_false_iff_ne.mpr c32
                have c32b1 : ((rd t589 x13_2) != t582) = true:=bne_iff_ne.mpr c32
                obtain rfl:=Option.some.inj H
                obtain ⟨Ao34,co34,eo34⟩ := Kd.R_slice HO_8.out
                subst eo34
                have p599 : 0 ≤ (x13_2 : Int):=of_decide_eq_true (by (with_reducible assumption))
                have q599 : x13_2 < (t589.length : Int):=of_decide_eq_true (by (with_reducible assumption))
                obtain ⟨ad599,e599,hx599_0⟩ := Kd.at_int (Kd.R_reads' HO_8.out).2.2 x13_2 p599 q599
                cases e599
                replace p599:=eq_true p599
                replace q599:=eq_true q599
                have p600 : 0 ≤ (x13_2 : Int):=of_decide_eq_true (by (with_reducible assumption))
                have q600 : x13_2 < (t580.length : Int):=of_decide_eq_true (by (with_reducible assumption))
                obtain ⟨ad600,e600,hx600_0⟩ := Kd.at_int (Kd.R_reads' HO_5.out).2.2 x13_2 p600 q600
                cases e600
                replace p600:=eq_true p600
                replace q600:=eq_true q600
                have p603 : 0 ≤ (x13_2 : Int):=of_decide_eq_true (by (with_reducible assumption))
                have q603 : x13_2 < (t579.length : Int):=of_decide_eq_true (by (with_reducible assumption))
                obtain ⟨ad603,e603,hx603_0,hx603_1,hx603_2,hx603_3,hx603_4⟩ := at_T33 (Kd.R_reads' HO_4.out).2.2 x13_2 p603 q603
                cases e603
                replace p603:=eq_true p603
                replace q603:=eq_true q603
                have p604 : 0 ≤ (x13_2 : Int):=of_decide_eq_true (by (with_reducible assumption))
                have q604 : x13_2 < (t589.length : Int):=of_decide_eq_true (by (with_reducible assumption))
                obtain ⟨ad604,e604,hx604_0⟩ := Kd.at_int (Kd.R_reads' HO_8.out).2.2 x13_2 p604 q604
                obtain rfl : ad599 = ad604:=(by injection e604)
                replace p604:=eq_true p604
                replace q604:=eq_true q604
                as_aux_lemma =>
                 go_wp2
                 repeat (go_quiet (fail);try go_wp2)
                 go_ret
                 exact ⟨by rfl,by repeat ((with_reducible first | exact HB.out | apply pw_below_drewN))⟩
              ·rw [if_neg c31] at H
               have c31b0 : (((rd_T33 t579 x13_2).f0).toList == t581.toList) = false:=beq_eq_false_iff_ne.mpr c31
               have c31b1 : (((rd_T33 t579 x13_2).f0).toList != t581.toList) = true:=bne_iff_ne.mpr c31
               have H':=Aside0.mk H
               clear H
               obtain ⟨Ao35,co35,eo35⟩ := Kd.R_slice HO_8.out
               subst eo35
               have p599 : 0 ≤ (x13_2 : Int):=of_decide_eq_true (by (with_reducible assumption))
               have q599 : x13_2 < (t589.length : Int):=of_decide_eq_true (by (with_reducible assumption))
               obtain ⟨ad599,e599,hx599_0⟩ := Kd.at_int (Kd.R_reads' HO_8.out).2.2 x13_2 p599 q599
               cases e599
               replace p599:=eq_true p599
               replace q599:=eq_true q599
               have p600 : 0 ≤ (x13_2 : Int):=of_decide_eq_true (by (with_reducible assumption))
               have q600 : x13_2 < (t580.length : Int):=of_decide_eq_true (by (with_reducible assumption))
               obtain ⟨ad600,e600,hx600_0⟩ := Kd.at_int (Kd.R_reads' HO_5.out).2.2 x13_2 p600 q600
               cases e600
               replace p600:=eq_true p600
               replace q600:=eq_true q600
               have p603 : 0 ≤ (x13_2 : Int):=of_decide_eq_true (by (with_reducible assumption))
               have q603 : x13_2 < (t579.length : Int):=of_decide_eq_true (by (with_reducible assumption))
               obtain ⟨ad603,e603,hx603_0,hx603_1,hx603_2,hx603_3,hx603_4⟩ := at_T33 (Kd.R_reads' HO_4.out).2.2 x13_2 p603 q603
               cases e603
               replace p603:=eq_true p603
               replace q603:=eq_true q603
               go_wp2
               repeat (go_quiet (fail);try go_wp2)
               go_roundg k2
               case measure => have:=HJ6.out;have:=HK2.out;omega
               case rel => exact ⟨(wrap64 (x12_2 + 1)),(wrap64 (x13_2 + 1)),(by rfl),(by rfl),H',⟨by have:=HJ6.out;have:=HK2.out;omega⟩,⟨by (with_reducible repeat (apply Kd.R_drewN));exact HO_3.out⟩,⟨by (with_reducible repeat (apply Kd.R_drewN));exact HO_4.out⟩,⟨by (with_reducible repeat (apply Kd.R_drewN));exact HO_5.out⟩,⟨by (with_reducible repeat (apply Kd.R_drewN));exact HO_8.out⟩,⟨by repeat ((with_reducible first | exact HB.out | apply pw_below_drewN))⟩⟩
            ·rw [if_neg c24] at H
             exact absurd H (by simp)
           ·rw [if_neg c23] at H
            exact absurd H (by simp)
          ·rw [if_neg c22] at H
           exact absurd H (by simp)
         ·rw [if_neg c21] at H
          have c21b0 : decide (x13_2 < (t579.length : Int)) = false:=decide_eq_false c21
          clear c21
          (skip)
          by_cases c36 : x12_2 > 1
          ·rw [if_pos c36] at H
           have c36b0 : decide (1 < x12_2) = true:=decide_eq_true c36
           clear c36
           obtain rfl:=Option.some.inj H
           as_aux_lemma =>
            go_wp2
            repeat (go_quiet (fail);try go_wp2)
            go_ret
            exact ⟨by rfl,by exact HB.out⟩
          ·rw [if_neg c36] at H
           have c36b0 : decide (1 < x12_2) = false:=decide_eq_false c36
           clear c36
           replace H:=Option.bind_eq_some_iff.mp H
           obtain ⟨t598,A370,H⟩ := H
           replace H : (if t598 = true then (laws_FnWagons.j2 k2 l0) else (some false)) = some r:=H
           have A37:=Aside0.mk A370
           clear A370
           by_cases c38 : t598 = true
           ·subst c38
            have H1 : (laws_FnWagons.j2 k2 l0) = some r:=by rw [if_pos rfl] at H;exact H
            clear H
            have H:=H1
            clear H1
            have H':=Aside0.mk H
            clear H
            obtain ⟨Ao39,co39,eo39⟩ := Kd.R_slice HO_8.out
            subst eo39
            go_wp2_with ((go_at_call 9;(with_reducible refine (impl_IsValidLoading.calls k2 _ _ t578 _ _ t579 _ _ t589 true _ ?side1 ?side2 ?side3 ?side4 ?side5 ?side6 A37.out).mono ?_);(case side1 => repeat (exact (Kd.R_reads' HO_3.out).2.2));(case side2 => exact (Kd.R_reads' HO_3.out).2.1);(case side3 => repeat (exact (Kd.R_reads' HO_4.out).2.2));(case side4 => exact (Kd.R_reads' HO_4.out).2.1);(case side5 => repeat (exact (Kd.R_reads' HO_8.out).2.2));(case side6 => exact (Kd.R_reads' HO_8.out).2.1);rintro e w40 ⟨rfl,hb⟩;have n0_:=Aside0.mk (Kd.R_below (by exact HO_3.out) hb);have n1_:=Aside0.mk (Kd.R_below (by exact HO_4.out) hb);have n2_:=Aside0.mk (Kd.R_below (by exact HO_5.out) hb);have n3_:=Aside0.mk (Kd.R_below (by exact HO_8.out) hb);have n4_:=Aside0.mk (below_step (by exact HB.out) hb);clear HO_3;clear HO_4;clear HO_5;clear HO_8;clear HB;have HO_3:=n0_;have HO_4:=n1_;have HO_5:=n2_;have HO_8:=n3_;have HB:=n4_;clear n0_ n1_ n2_ n3_ n4_;(try clear hb)))
            repeat (go_quiet (fail);try go_wp2_with (fail))
            go_meet
            case rel => exact ⟨_,H',⟨by have:=HJ6.out;have:=HK2.out;omega⟩,⟨by exact HB.out⟩⟩
           ·replace c38:=Bool.eq_false_iff.mpr c38
            subst c38
            have H1 : (some false) = some r:=by rw [if_neg (show ¬ (false = true) by decide)] at H;exact H
            clear H
            have H:=H1
            clear H1
            obtain rfl:=Option.some.inj H
            obtain ⟨Ao41,co41,eo41⟩ := Kd.R_slice HO_8.out
            subst eo41
            as_aux_lemma =>
             go_wp2_with ((go_at_call 9;(with_reducible refine (impl_IsValidLoading.calls k2 _ _ t578 _ _ t579 _ _ t589 false _ ?side1 ?side2 ?side3 ?side4 ?side5 ?side6 A37.out).mono ?_);(case side1 => repeat (exact (Kd.R_reads' HO_3.out).2.2));(case side2 => exact (Kd.R_reads' HO_3.out).2.1);(case side3 => repeat (exact (Kd.R_reads' HO_4.out).2.2));(case side4 => exact (Kd.R_reads' HO_4.out).2.1);(case side5 => repeat (exact (Kd.R_reads' HO_8.out).2.2));(case side6 => exact (Kd.R_reads' HO_8.out).2.1);rintro e w42 ⟨rfl,hb⟩;have n0_:=Aside0.mk (Kd.R_below (by exact HO_3.out) hb);have n1_:=Aside0.mk (Kd.R_below (by exact HO_4.out) hb);have n2_:=Aside0.mk (Kd.R_below (by exact HO_5.out) hb);have n3_:=Aside0.mk (Kd.R_below (by exact HO_8.out) hb);have n4_:=Aside0.mk (below_step (by exact HB.out) hb);clear HO_3;clear HO_4;clear HO_5;clear HO_8;clear HB;have HO_3:=n0_;have HO_4:=n1_;have HO_5:=n2_;have HO_8:=n3_;have HB:=n4_;clear n0_ n1_ n2_ n3_ n4_;(try clear hb)))
             repeat (go_quiet (fail);try go_wp2_with (fail))
             go_ret
             exact ⟨by rfl,by exact HB.out⟩
      ·replace c20:=Bool.eq_false_iff.mpr c20
       subst c20
       have H1 : (laws_FnWagons.j2 kj6 l0) = some r:=by rw [if_neg (show ¬ (false = true) by decide)] at H;exact H
       clear H
       have H:=H1
       clear H1
       have H':=Aside0.mk H
       clear H
       go_wp2
       repeat (go_quiet (fail);try go_wp2)
       go_meet
       case rel => exact ⟨_,H',⟨by have:=HJ6.out;omega⟩,⟨by exact HB.out⟩⟩
     case rest => as_aux_lemma =>
      clear HC19
      try clear c1
      try clear c2
      try clear p2
      try clear c3
      try clear p5
      try clear q5
      try clear hx5
      try clear p6
      try clear q6
      try clear hx6
      try clear c14
      try clear c14b0
      try clear c14b1
      try clear c14b2
      try clear c18
      try clear c20
      try clear c21
      try clear c21b0
      try clear c22
      try clear c22b0
      try clear c23
      try clear c23b0
      try clear c24
      try clear c24b0
      try clear c25
      try clear c25b0
      try clear c25b1
      try clear c26
      try clear c26b0
      try clear c26b1
      try clear c27
      try clear c27b0
      try clear c27b1
      try clear c31
      try clear c31b0
      try clear c31b1
      try clear c32
      try clear c32b0
      try clear c32b1
      try clear c36
      try clear c36b0
      try clear c38
      try clear hx599_0
      try clear hx600_0
      try clear hx601_0
      try clear hx601_1
      try clear hx601_2
      try clear hx601_3
      try clear hx601_4
      try clear hx602_0
      try clear hx603_0
      try clear hx603_1
      try clear hx603_2
      try clear hx603_3
      try clear hx603_4
      try clear hx604_0
      try clear p2
      try clear p599
      try clear p600
      try clear p601
      try clear p602
      try clear p603
      try clear p604
      try clear q599
      try clear q600
      try clear q601
      try clear q602
      try clear q603
      try clear q604
      obtain ⟨kq,HA,HJ18,HB⟩ := hcut
      cases kq with
      | zero => exact absurd HA.out (by simp [laws_FnWagons.j2])
      | succ kj18 =>
       have H:=HA.out
       clear HA
       simp only [laws_FnWagons.j2] at H
       replace H:=Option.bind_eq_some_iff.mp H
       obtain ⟨⟨t605,t606,t607⟩,A430,H⟩ := H
       replace H : ((impl_ByDestination.f kj18 t605 t606 t607).bind fun bt614 => ((spec_ByDestination.f kj18 t605 t606 t607).bind fun bt616 => (if (bt614.1 != bt616.1) = true then (laws_FnWagons.j3 kj18 l0 t606 bt614.1 bt614.2 true) else (laws_FnWagons.j3 kj18 l0 t606 bt614.1 bt614.2 (bt614.2 != bt616.2))))) = some r:=H
       have A43:=Aside0.mk A430
       clear A430
       replace H:=Option.bind_eq_some_iff.mp H
       obtain ⟨⟨t614,t615⟩,A440,H⟩ := H
       replace H : ((spec_ByDestination.f kj18 t605 t606 t607).bind fun bt616 => (if (t614 != bt616.1) = true then (laws_FnWagons.j3 kj18 l0 t606 t614 t615 true) else (laws_FnWagons.j3 kj18 l0 t606 t614 t615 (t615 != bt616.2)))) = some r:=H
       have A44:=Aside0.mk A440
       clear A440
       replace H:=Option.bind_eq_some_iff.mp H
       obtain ⟨⟨t616,t617⟩,A450,H⟩ := H
       replace H : (if (t614 != t616) = true then (laws_FnWagons.j3 kj18 l0 t606 t614 t615 true) else (laws_FnWagons.j3 kj18 l0 t606 t614 t615 (t615 != t617))) = some r:=H
       have A45:=Aside0.mk A450
       clear A450
       have HC46:=Aside0.mk H
       clear H
       go_upto_region 22 with (first | (go_at_call 10;(with_reducible refine (spec_DrawByDestination.calls kj18 _ _ l0 t605 t606 t607 _ ?side1 ?side2 A43.out).mono ?_);(case side1 => repeat (exact (Kd.C_below HR0.out HB.out)));(case side2 => exact HC0.out);rintro e w47 ⟨v608,v610,v612,rfl,ho0,ho1,ho2,hb⟩;have n0_:=Aside0.mk (Kd.R_lower ho0 (below_size (by exact HB.out)));have n1_:=Aside0.mk (Kd.R_lower ho1 (below_size (by exact HB.out)));have n2_:=Aside0.mk (Kd.R_lower ho2 (below_size (by exact HB.out)));have n3_:=Aside0.mk (below_step (by exact HB.out) hb);clear HB;have HO609:=n0_;have HO611:=n1_;have HO613:=n2_;have HB:=n3_;clear n0_ n1_ n2_ n3_;(try clear hb);(try clear ho0);(try clear ho1);(try clear ho2);obtain ⟨Ao48,co48,eo48⟩ := Kd.R_slice HO609.out;subst eo48;obtain ⟨Ao49,co49,eo49⟩ := Kd.R_slice HO611.out;subst eo49;obtain ⟨Ao50,co50,eo50⟩ := Kd.R_slice HO613.out;subst eo50) | (go_at_call 11;(with_reducible refine (impl_ByDestination.calls kj18 _ _ t605 _ _ t606 _ _ t607 t614 t615 _ ?side1 ?side2 ?side3 ?side4 ?side5 ?side6 A44.out).mono ?_);(case side1 => repeat (exact (Kd.R_reads' HO609.out).2.2));(case side2 => exact (Kd.R_reads' HO609.out).2.1);(case side3 => repeat (exact (Kd.R_reads' HO611.out).2.2));(case side4 => exact (Kd.R_reads' HO611.out).2.1);(case side5 => repeat (exact (Kd.R_reads' HO613.out).2.2));(case side6 => exact (Kd.R_reads' HO613.out).2.1);rintro e w51 ⟨rfl,hb⟩;have n0_:=Aside0.mk (Kd.R_below (by exact HO609.out) hb);have n1_:=Aside0.mk (Kd.R_below (by exact HO611.out) hb);have n2_:=Aside0.mk (Kd.R_below (by exact HO613.out) hb);have n3_:=Aside0.mk (below_step (by exact HB.out) hb);clear HO609;clear HO611;clear HO613;clear HB;have HO609:=n0_;have HO611:=n1_;have HO613:=n2_;have HB:=n3_;clear n0_ n1_ n2_ n3_;(try clear hb)) | (go_at_call 12;(with_reducible refine (spec_ByDestination.calls kj18 _ _ t605 _ _ t606 _ _ t607 t616 t617 _ ?side1 ?side2 ?side3 ?side4 ?side5 ?side6 A45.out).mono ?_);(case side1 => repeat (exact (Kd.R_reads' HO609.out).2.2));(case side2 => exact (Kd.R_reads' HO609.out).2.1);(case side3 => repeat (exact (Kd.R_reads' HO611.out).2.2));(case side4 => exact (Kd.R_reads' HO611.out).2.1);(case side5 => repeat (exact (Kd.R_reads' HO613.out).2.2));(case side6 => exact (Kd.R_reads' HO613.out).2.1);rintro e w52 ⟨rfl,hb⟩;have n0_:=Aside0.mk (Kd.R_below (by exact HO609.out) hb);have n1_:=Aside0.mk (Kd.R_below (by exact HO611.out) hb);have n2_:=Aside0.mk (Kd.R_below (by exact HO613.out) hb);have n3_:=Aside0.mk (below_step (by exact HB.out) hb);clear HO609;clear HO611;clear HO613;clear HB;have HO609:=n0_;have HO611:=n1_;have HO613:=n2_;have HB:=n3_;clear n0_ n1_ n2_ n3_;(try clear hb)))
       repeat (go_quiet (fail);go_upto_region 22 with (first | (go_at_call 10;(with_reducible refine (spec_DrawByDestination.calls kj18 _ _ l0 t605 t606 t607 _ ?side1 ?side2 A43.out).mono ?_);(case side1 => repeat (first | exact (Kd.C_below HR0.out HB.out) | (with_reducible refine Kd.C_alloc ?_ _) | (with_reducible refine Kd.C_drewN ?_ _) | (with_reducible refine Kd.C_drew ?_)));(case side2 => exact HC0.out);rintro e w47 ⟨v608,v610,v612,rfl,ho0,ho1,ho2,hb⟩;have n0_:=Aside0.mk (Kd.R_lower ho0 (below_size (by repeat (first | (with_reducible first | exact HB.out | apply below_alloc | apply pw_below_drewN | apply below_drew1) | exact HB.out))));have n1_:=Aside0.mk (Kd.R_lower ho1 (below_size (by repeat (first | (with_reducible first | exact HB.out | apply below_alloc | apply pw_below_drewN | apply below_drew1) | exact HB.out))));have n2_:=Aside0.mk (Kd.R_lower ho2 (below_size (by repeat (first | (with_reducible first | exact HB.out | apply below_alloc | apply pw_below_drewN | apply below_drew1) | exact HB.out))));have n3_:=Aside0.mk (below_step (by repeat (first | (with_reducible first | exact HB.out | apply below_alloc | apply pw_below_drewN | apply below_drew1) | exact HB.out)) hb);clear HB;have HO609:=n0_;have HO611:=n1_;have HO613:=n2_;have HB:=n3_;clear n0_ n1_ n2_ n3_;(try clear hb);(try clear hb2);(try clear hk);(try clear hi);(try clear ho0);(try clear ho1);(try clear ho2);obtain ⟨Ao48,co48,eo48⟩ := Kd.R_slice HO609.out;subst eo48;obtain ⟨Ao49,co49,eo49⟩ := Kd.R_slice HO611.out;subst eo49;obtain ⟨Ao50,co50,eo50⟩ := Kd.R_slice HO613.out;subst eo50) | (go_at_call 11;(with_reducible refine (impl_ByDestination.calls kj18 _ _ t605 _ _ t606 _ _ t607 t614 t615 _ ?side1 ?side2 ?side3 ?side4 ?side5 ?side6 A44.out).mono ?_);(case side1 => repeat (first | exact (Kd.R_reads' HO609.out).2.2 | (with_reducible refine Kd.C_alloc ?_ _) | (with_reducible refine Kd.C_drewN ?_ _) | (with_reducible refine Kd.C_drew ?_)));(case side2 => exact (Kd.R_reads' HO609.out).2.1);(case side3 => repeat (first | exact (Kd.R_reads' HO611.out).2.2 | (with_reducible refine Kd.C_alloc ?_ _) | (with_reducible refine Kd.C_drewN ?_ _) | (with_reducible refine Kd.C_drew ?_)));(case side4 => exact (Kd.R_reads' HO611.out).2.1);(case side5 => repeat (first | exact (Kd.R_reads' HO613.out).2.2 | (with_reducible refine Kd.C_alloc ?_ _) | (with_reducible refine Kd.C_drewN ?_ _) | (with_reducible refine Kd.C_drew ?_)));(case side6 => exact (Kd.R_reads' HO613.out).2.1);rintro e w51 ⟨rfl,hb⟩;have n0_:=Aside0.mk (Kd.R_below (by (with_reducible repeat (first | apply Kd.R_alloc | apply Kd.R_drewN | apply Kd.R_drew));exact HO609.out) hb);have n1_:=Aside0.mk (Kd.R_below (by (with_reducible repeat (first | apply Kd.R_alloc | apply Kd.R_drewN | apply Kd.R_drew));exact HO611.out) hb);have n2_:=Aside0.mk (Kd.R_below (by (with_reducible repeat (first | apply Kd.R_alloc | apply Kd.R_drewN | apply Kd.R_drew));exact HO613.out) hb);have n3_:=Aside0.mk (below_step (by repeat (first | (with_reducible first | exact HB.out | apply below_alloc | apply pw_below_drewN | apply below_drew1) | exact HB.out)) hb);clear HO609;clear HO611;clear HO613;clear HB;have HO609:=n0_;have HO611:=n1_;have HO613:=n2_;have HB:=n3_;clear n0_ n1_ n2_ n3_;(try clear hb);(try clear hb2);(try clear hk);(try clear hi)) | (go_at_call 12;(with_reducible refine (spec_ByDestination.calls kj18 _ _ t605 _ _ t606 _ _ t607 t616 t617 _ ?side1 ?side2 ?side3 ?side4 ?side5 ?side6 A45.out).mono ?_);(case side1 => repeat (first | exact (Kd.R_reads' HO609.out).2.2 | (with_reducible refine Kd.C_alloc ?_ _) | (with_reducible refine Kd.C_drewN ?_ _) | (with_reducible refine Kd.C_drew ?_)));(case side2 => exact (Kd.R_reads' HO609.out).2.1);(case side3 => repeat (first | exact (Kd.R_reads' HO611.out).2.2 | (with_reducible refine Kd.C_alloc ?_ _) | (with_reducible refine Kd.C_drewN ?_ _) | (with_reducible refine Kd.C_drew ?_)));(case side4 => exact (Kd.R_reads' HO611.out).2.1);(case side5 => repeat (first | exact (Kd.R_reads' HO613.out).2.2 | (with_reducible refine Kd.C_alloc ?_ _) | (with_reducible refine Kd.C_drewN ?_ _) | (with_reducible refine Kd.C_drew ?_)));(case side6 => exact (Kd.R_reads' HO613.out).2.1);rintro e w52 ⟨rfl,hb⟩;have n0_:=Aside0.mk (Kd.R_below (by (with_reducible repeat (first | apply Kd.R_alloc | apply Kd.R_drewN | apply Kd.R_drew));exact HO609.out) hb);have n1_:=Aside0.mk (Kd.R_below (by (with_reducible repeat (first | apply Kd.R_alloc | apply Kd.R_drewN | apply Kd.R_drew));exact HO611.out) hb);have n2_:=Aside0.mk (Kd.R_below (by (with_reducible repeat (first | apply Kd.R_alloc | apply Kd.R_drewN | apply Kd.R_drew));exact HO613.out) hb);have n3_:=Aside0.mk (below_step (by repeat (first | (with_reducible first | exact HB.out | apply below_alloc | apply pw_below_drewN | apply below_drew1) | exact HB.out)) hb);clear HO609;clear HO611;clear HO613;clear HB;have HO609:=n0_;have HO611:=n1_;have HO613:=n2_;have HB:=n3_;clear n0_ n1_ n2_ n3_;(try clear hb);(try clear hb2);(try clear hk);(try clear hi))))
       (skip)
       go_cut [136] (fun v136 wc => ∃ (kq : Nat) (x136_45 : Bool),v136 = .bool x136_45 ∧ Aside0 (laws_FnWagons.j3 kq l0 t606 t614 t615 x136_45 = some r) ∧ Aside0 (kq ≤ kj18) ∧ Aside0 (Kd.R k33 33 wc w.heap.size (fun _ => True) (.slice Ao49 t606.length co49) t606) ∧ Aside0 (Below w.heap.size w wc))
       case first =>
        have H:=HC46.out
        clear HC46
        by_cases c53 : (t614 != t616) = true
        ·rw [if_pos c53] at H
         have c53b0 : (t614 != t616) = true:=c53
         (try (have c53b1 : decide (t614 = t616) = false:=by simpa using c53))
         (try (have c53b2 : (t614 == t616) = false:=by simpa using c53))
         (try (have c53b3 : ¬ (t614 = t616):=by simpa using c53))
         clear c53
         (skip)
         have H':=Aside0.mk H
         clear H
         go_wp2
         repeat (go_quiet (fail);try go_wp2)
         go_meet
         case rel => exact ⟨_,(true),(by rfl),H',⟨by have:=HJ6.out;have:=HJ18.out;omega⟩,⟨by exact HO611.out⟩,⟨by exact HB.out⟩⟩
        ·rw [if_neg c53] at H
         have c53b0 : (t614 != t616) = false:=by simpa using c53
         (try (have c53b1 : decide (t614 = t616) = true:=by simpa using c53))
         (try (have c53b2 : (t614 == t616) = true:=by simpa using c53))
         clear c53
         (skip)
         have H':=Aside0.mk H
         clear H
         go_wp2
         repeat (go_quiet (fail);try go_wp2)
         go_meet
         case rel => exact ⟨_,((t615 != t617)),(by rfl),H',⟨by have:=HJ6.out;have:=HJ18.out;omega⟩,⟨by exact HO611.out⟩,⟨by exact HB.out⟩⟩
       case rest => as_aux_lemma =>
        clear HC46
        try clear c1
        try clear c2
        try clear p2
        try clear c3
        try clear c5
        try clear p5
        try clear q5
        try clear hx5
        try clear p6
        try clear q6
        try clear hx6
        try clear c14
        try clear c14b0
        try clear c14b1
        try clear c14b2
        try clear c18
        try clear c20
        try clear c21
        try clear c21b0
        try clear c22
        try clear c22b0
        try clear c23
        try clear c23b0
        try clear c24
        try clear c24b0
        try clear c25
        try clear c25b0
        try clear c25b1
        try clear c26
        try clear c26b0
        try clear c26b1
        try clear c27
        try clear c27b0
        try clear c27b1
        try clear c31
        try clear c31b0
        try clear c31b1
        try clear c32
        try clear c32b0
        try clear c32b1
        try clear c36
        try clear c36b0
        try clear c38
        try clear c53
        try clear c53b0
        try clear c53b1
        try clear c53b2
        try clear hx599_0
        try clear hx600_0
        try clear hx601_0
        try clear hx601_1
        try clear hx601_2
        try clear hx601_3
        try clear hx601_4
        try clear hx602_0
        try clear hx603_0
        try clear hx603_1
        try clear hx603_2
        try clear hx603_3
        try clear hx603_4
        try clear hx604_0
        try clear p2
        try clear p5
        try clear p599
        try clear p6
        try clear p600
        try clear p601
        try clear p602
        try clear p603
        try clear p604
        try clear q5
        try clear q599
        try clear q6
        try clear q600
        try clear q601
        try clear q602
        try clear q603
        try clear q604
        obtain ⟨kq,x136_45,rfl,HA,HJ45,HO_15,HB⟩ := hcut
        cases kq with
        | zero => exact absurd HA.out (by simp [laws_FnWagons.j3])
        | succ kj45 =>
         have H:=HA.out
         clear HA
         simp only [laws_FnWagons.j3] at H
         by_cases c54 : x136_45 = true
         ·subst c54
          have H1 : (some false) = some r:=by rw [if_pos rfl] at H;exact H
          clear H
          have H:=H1
          clear H1
          obtain rfl:=Option.some.inj H
          as_aux_lemma =>
           go_wp2
           repeat (go_quiet (fail);try go_wp2)
           go_ret
           exact ⟨by rfl,by exact HB.out⟩
         ·replace c54:=Bool.eq_false_iff.mpr c54
          subst c54
          have H1 : (laws_FnWagons.l1 kj45 l0 t606 t614 t615 true 0) = some r:=by rw [if_neg (show ¬ (false = true) by decide)] at H;exact H
          clear H
          have H:=H1
          clear H1
          have H':=Aside0.mk H
          clear H
          go_wp2
          repeat (go_quiet (fail);try go_wp2)
          (skip)
          go_loopg [21,22] kj45 (fun kq v21 v22 w' => ∃ (x21_4 : Bool) (x22_4 : Int),v21 = .bool x21_4 ∧ v22 = .int .i64 x22_4 ∧ Aside0 (laws_FnWagons.l1 kq l0 t606 t614 t615 x21_4 x22_4 = some r) ∧ Aside0 (kq ≤ kj45) ∧ Aside0 (Kd.R k33 33 w' w.heap.size (fun _ => True) (.slice Ao49 t606.length co49) t606) ∧ Aside0 (Below w.heap.size w w'))
          case atStart => exact ⟨(true),(0),(by rfl),(by rfl),H',⟨Nat.le_refl _⟩,⟨by exact HO_15.out⟩,⟨by exact HB.out⟩⟩
          case round =>
           clear H'
           try clear c1
           try clear c2
           try clear p2
           try clear c3
           try clear c5
           try clear p5
           try clear q5
           try clear hx5
           try clear p6
           try clear q6
           try clear hx6
           try clear c14
           try clear c14b0
           try clear c14b1
           try clear c14b2
           try clear c18
           try clear c20
           try clear c21
           try clear c21b0
           try clear c22
           try clear c22b0
           try clear c23
           try clear c23b0
           try clear c24
           try clear c24b0
           try clear c25
           try clear c25b0
           try clear c25b1
           try clear c26
           try clear c26b0
           try clear c26b1
           try clear c27
           try clear c27b0
           try clear c27b1
           try clear c31
           try clear c31b0
           try clear c31b1
           try clear c32
           try clear c32b0
           try clear c32b1
           try clear c36
           try clear c36b0
           try clear c38
           try clear c53
           try clear c53b0
           try clear c53b1
           try clear c53b2
           try clear c54
           try clear hx599_0
           try clear hx600_0
           try clear hx601_0
           try clear hx601_1
           try clear hx601_2
           try clear hx601_3
           try clear hx601_4
           try clear hx602_0
           try clear hx603_0
           try clear hx603_1
           try clear hx603_2
           try clear hx603_3
           try clear hx603_4
           try clear hx604_0
           try clear p2
           try clear p5
           try clear p599
           try clear p6
           try clear p600
           try clear p601
           try clear p602
           try clear p603
           try clear p604
           try clear q5
           try clear q599
           try clear q6
           try clear q600
           try clear q601
           try clear q602
           try clear q603
           try clear q604
           obtain ⟨x21_4,x22_4,rfl,rfl,HA,HK4,HO_15,HB⟩ := hrel
           cases gk with
           | zero => exact absurd HA.out (by simp [laws_FnWagons.l1])
           | succ k4 =>
            have H:=HA.out
            clear HA
            simp only [laws_FnWagons.l1] at H
            by_cases c55 : x22_4 < (t606.length : Int)
            ·rw [if_pos c55] at H
             have c55b0 : decide (x22_4 < (t606.length : Int)) = true:=decide_eq_true c55
             clear c55
             by_cases c56 : x21_4 = true
             ·subst c56
              have H1 : (if 0 ≤ x22_4 then (if 0 < (t606.length : Int) then (laws_FnWagons.l1 k4 l0 t606 t614 t615 (((rd_T33 t606 x22_4).f4) == ((rd_T33 t606 0).f4)) (wrap64 (x22_4 + 1))) else (none)) else (none)) = some r:=by rw [if_pos rfl] at H;exact H
              clear H
              have H:=H1
              clear H1
              by_cases c57 : 0 ≤ x22_4
              ·rw [if_pos c57] at H
               have c57b0 : decide (0 ≤ x22_4) = true:=decide_eq_true c57
               clear c57
               by_cases c58 : 0 < (t606.length : Int)
               ·rw [if_pos c58] at H
                have c58b0 : decide (0 < (t606.length : Int)) = true:=decide_eq_true c58
                have c58b1 : decide (0 < t606.length) = true:=decide_eq_true (by omega)
                clear c58
                have H':=Aside0.mk H
                clear H
                have p618 : 0 ≤ (x22_4 : Int):=of_decide_eq_true (by (with_reducible assumption))
                have q618 : x22_4 < (t606.length : Int):=of_decide_eq_true (by (with_reducible assumption))
                obtain ⟨ad618,e618,hx618_0,hx618_1,hx618_2,hx618_3,hx618_4⟩ := at_T33 (Kd.R_reads' HO_15.out).2.2 x22_4 p618 q618
                cases e618
                replace p618:=eq_true p618
                replace q618:=eq_true q618
                have p619 : 0 ≤ (0 : Int):=(by omega)
                have q619 : 0 < (t606.length : Int):=of_decide_eq_true (by (with_reducible assumption))
                obtain ⟨ad619,e619,hx619_0,hx619_1,hx619_2,hx619_3,hx619_4⟩ := at_T33 (Kd.R_reads' HO_15.out).2.2 0 p619 q619
                obtain rfl : ad618 = ad619:=(by injection e619)
                have qi619 : (0 < t606.length) = True:=eq_true (by omega)
                (try rw [show ((0 : Int)).toNat = 0 from rfl] at hx619_0)
                (try rw [show 0 * 5 = 0 from rfl] at hx619_0)
                (try rw [Addr.add_zero'] at hx619_0)
                (try rw [show ((0 : Int)).toNat = 0 from rfl] at hx619_1)
                (try rw [show 0 * 5 = 0 from rfl] at hx619_1)
                (try rw [Addr.add_zero'] at hx619_1)
                (try rw [show ((0 : Int)).toNat = 0 from rfl] at hx619_2)
                (try rw [show 0 * 5 = 0 from rfl] at hx619_2)
                (try rw [Addr.add_zero'] at hx619_2)
                (try rw [show ((0 : Int)).toNat = 0 from rfl] at hx619_3)
                (try rw [show 0 * 5 = 0 from rfl] at hx619_3)
                (try rw [Addr.add_zero'] at hx619_3)
                (try rw [show ((0 : Int)).toNat = 0 from rfl] at hx619_4)
                (try rw [show 0 * 5 = 0 from rfl] at hx619_4)
                (try rw [Addr.add_zero'] at hx619_4)
                replace p619:=eq_true p619
                replace q619:=eq_true q619
                go_wp2
                repeat (go_quiet (fail);try go_wp2)
                go_roundg k4
                case measure => have:=HJ6.out;have:=HJ18.out;have:=HJ45.out;have:=HK4.out;omega
                case rel => exact ⟨((((rd_T33 t606 x22_4).f4) == ((rd_T33 t606 0).f4))),(wrap64 (x22_4 + 1)),(by rfl),(by rfl),H',⟨by have:=HJ6.out;have:=HJ18.out;have:=HJ45.out;have:=HK4.out;omega⟩,⟨by (with_reducible repeat (apply Kd.R_drewN));exact HO_15.out⟩,⟨by repeat ((with_reducible first | exact HB.out | apply pw_below_drewN))⟩⟩
               ·rw [if_neg c58] at H
                exact absurd H (by simp)
              ·rw [if_neg c57] at H
               exact absurd H (by simp)
             ·replace c56:=Bool.eq_false_iff.mpr c56
              subst c56
              have H1 : (laws_FnWagons.l1 k4 l0 t606 t614 t615 false (wrap64 (x22_4 + 1))) = some r:=by rw [if_neg (show ¬ (false = true) by decide)] at H;exact H
              clear H
              have H:=H1
              clear H1
              have H':=Aside0.mk H
              clear H
              go_wp2
              repeat (go_quiet (fail);try go_wp2)
              go_roundg k4
              case measure => have:=HJ6.out;have:=HJ18.out;have:=HJ45.out;have:=HK4.out;omega
              case rel => exact ⟨(false),(wrap64 (x22_4 + 1)),(by rfl),(by rfl),H',⟨by have:=HJ6.out;have:=HJ18.out;have:=HJ45.out;have:=HK4.out;omega⟩,⟨by (with_reducible repeat (apply Kd.R_drewN));exact HO_15.out⟩,⟨by repeat ((with_reducible first | exact HB.out | apply pw_below_drewN))⟩⟩
            ·rw [if_neg c55] at H
             have c55b0 : decide (x22_4 < (t606.length : Int)) = false:=decide_eq_false c55
             clear c55
             have HC59:=Aside0.mk H
             clear H
             go_upto_region 29 with (fail)
             repeat (go_quiet (fail);go_upto_region 29 with (fail))
             go_cut [163] (fun v163 wc => ∃ (kq : Nat) (x163_58 : Bool),v163 = .bool x163_58 ∧ Aside0 (laws_FnWagons.j5 kq l0 x163_58 = some r) ∧ Aside0 (kq ≤ k4) ∧ Aside0 (Below w.heap.size w wc))
             case first =>
              have H:=HC59.out
              clear HC59
              by_cases c60 : t615 = true
              ·subst c60
               have H1 : (if x21_4 = true then (laws_FnWagons.j5 k4 l0 (!t614)) else (laws_FnWagons.j5 k4 l0 false)) = some r:=by rw [if_pos rfl] at H;exact H
               clear H
               have H:=H1
               clear H1
               by_cases c61 : x21_4 = true
               ·subst c61
                have H1 : (laws_FnWagons.j5 k4 l0 (!t614)) = some r:=by rw [if_pos rfl] at H;exact H
                clear H
                have H:=H1
                clear H1
                have H':=Aside0.mk H
                clear H
                go_wp2
                repeat (go_quiet (fail);try go_wp2)
                go_meet
                case rel => exact ⟨_,(!t614),(by rfl),H',⟨by have:=HJ6.out;have:=HJ18.out;have:=HJ45.out;have:=HK4.out;omega⟩,⟨by exact HB.out⟩⟩
               ·replace c61:=Bool.eq_false_iff.mpr c61
                subst c61
                have H1 : (laws_FnWagons.j5 k4 l0 false) = some r:=by rw [if_neg (show ¬ (false = true) by decide)] at H;exact H
                clear H
                have H:=H1
                clear H1
                have H':=Aside0.mk H
                clear H
                go_wp2
                repeat (go_quiet (fail);try go_wp2)
                go_meet
                case rel => exact ⟨_,(false),(by rfl),H',⟨by have:=HJ6.out;have:=HJ18.out;have:=HJ45.out;have:=HK4.out;omega⟩,⟨by exact HB.out⟩⟩
              ·replace c60:=Bool.eq_false_iff.mpr c60
               subst c60
               have H1 : (laws_FnWagons.j5 k4 l0 false) = some r:=by rw [if_neg (show ¬ (false = true) by decide)] at H;exact H
               clear H
               have H:=H1
               clear H1
               have H':=Aside0.mk H
               clear H
               go_wp2
               repeat (go_quiet (fail);try go_wp2)
               go_meet
               case rel => exact ⟨_,(false),(by rfl),H',⟨by have:=HJ6.out;have:=HJ18.out;have:=HJ45.out;have:=HK4.out;omega⟩,⟨by exact HB.out⟩⟩
             case rest => as_aux_lemma =>
              clear HC59
              try clear c1
              try clear c2
              try clear p2
              try clear c3
              try clear c5
              try clear p5
              try clear q5
              try clear hx5
              try clear c6
              try clear p6
              try clear q6
              try clear hx6
              try clear qi6
              try clear c14
              try clear c14b0
              try clear c14b1
              try clear c14b2
              try clear c18
              try clear c20
              try clear c21
              try clear c21b0
              try clear c22
              try clear c22b0
              try clear c23
              try clear c23b0
              try clear c24
              try clear c24b0
              try clear c25
              try clear c25b0
              try clear c25b1
              try clear c26
              try clear c26b0
              try clear c26b1
              try clear c27
              try clear c27b0
              try clear c27b1
              try clear c31
              try clear c31b0
              try clear c31b1
              try clear c32
              try clear c32b0
              try clear c32b1
              try clear c36
              try clear c36b0
              try clear c38
              try clear c53
              try clear c53b0
              try clear c53b1
              try clear c53b2
              try clear c54
              try clear c55
              try clear c55b0
              try clear c56
              try clear c57
              try clear c57b0
              try clear c58
              try clear c58b0
              try clear c58b1
              try clear p59
              try clear q59
              try clear hx59
              try clear c60
              try clear p60
              try clear q60
              try clear hx60
              try clear c61
              try clear p61
              try clear q61
              try clear hx61
              try clear qi61
              try clear hx599_0
              try clear hx600_0
              try clear hx601_0
              try clear hx601_1
              try clear hx601_2
              try clear hx601_3
              try clear hx601_4
              try clear hx602_0
              try clear hx603_0
              try clear hx603_1
              try clear hx603_2
              try clear hx603_3
              try clear hx603_4
              try clear hx604_0
              try clear hx618_0
              try clear hx618_1
              try clear hx618_2
              try clear hx618_3
              try clear hx618_4
              try clear hx619_0
              try clear hx619_1
              try clear hx619_2
              try clear hx619_3
              try clear hx619_4
              try clear p2
              try clear p5
              try clear p599
              try clear p6
              try clear p600
              try clear p601
              try clear p602
              try clear p603
              try clear p604
              try clear p618
              try clear p619
              try clear q5
              try clear q599
              try clear q6
              try clear q600
              try clear q601
              try clear q602
              try clear q603
              try clear q604
              try clear q618
              try clear q619
              obtain ⟨kq,x163_58,rfl,HA,HJ58,HB⟩ := hcut
              cases kq with
              | zero => exact absurd HA.out (by simp [laws_FnWagons.j5])
              | succ kj58 =>
               have H:=HA.out
               clear HA
               simp only [laws_FnWagons.j5] at H
               by_cases c62 : x163_58 = true
               ·subst c62
                have H1 : (some false) = some r:=by rw [if_pos rfl] at H;exact H
                clear H
                have H:=H1
                clear H1
                obtain rfl:=Option.some.inj H
                as_aux_lemma =>
                 go_wp2
                 repeat (go_quiet (fail);try go_wp2)
                 go_ret
                 exact ⟨by rfl,by exact HB.out⟩
               ·replace c62:=Bool.eq_false_iff.mpr c62
                subst c62
                have H1 : ((spec_DrawLeftBehindContainers.f kj58 l0).bind fun bt620 => ((impl_LeftBehindContainers.f kj58 bt620.1 bt620.2.1 bt620.2.2).bind fun bt629 => ((spec_LeftBehindContainers.f kj58 bt620.1 bt620.2.1 bt620.2.2).bind fun bt633 => (if (bt629.2 == bt633.2) = true then ((laws_rTexts.f kj58 bt629.1 bt633.1).bind fun t637 => (some t637)) else (some false))))) = some r:=by rw [if_neg (show ¬ (false = true) by decide)] at H;exact H
                clear H
                have H:=H1
                clear H1
                replace H:=Option.bind_eq_some_iff.mp H
                obtain ⟨⟨t620,t621,t622⟩,A630,H⟩ := H
                replace H : ((impl_LeftBehindContainers.f kj58 t620 t621 t622).bind fun bt629 => ((spec_LeftBehindContainers.f kj58 t620 t621 t622).bind fun bt633 => (if (bt629.2 == bt633.2) = true then ((laws_rTexts.f kj58 bt629.1 bt633.1).bind fun t637 => (some t637)) else (some false)))) = some r:=H
                have A63:=Aside0.mk A630
                clear A630
                replace H:=Option.bind_eq_some_iff.mp H
                obtain ⟨⟨t629,t630⟩,A640,H⟩ := H
                replace H : ((spec_LeftBehindContainers.f kj58 t620 t621 t622).bind fun bt633 => (if (t630 == bt633.2) = true then ((laws_rTexts.f kj58 t629 bt633.1).bind fun t637 => (some t637)) else (some false))) = some r:=H
                have A64:=Aside0.mk A640
                clear A640
                replace H:=Option.bind_eq_some_iff.mp H
                obtain ⟨⟨t633,t634⟩,A650,H⟩ := H
                replace H : (if (t630 == t634) = true then ((laws_rTexts.f kj58 t629 t633).bind fun t637 => (some t637)) else (some false)) = some r:=H
                have A65:=Aside0.mk A650
                clear A650
                by_cases c66 : (t630 == t634) = true
                ·rw [if_pos c66] at H
                 have c66b0 : (t630 == t634) = true:=c66
                 (try (have c66b1 : decide (t630 = t634) = true:=by simpa using c66))
                 (try (have c66b2 : (t630 == t634) = true:=by simpa using c66))
                 clear c66
                 replace H:=Option.bind_eq_some_iff.mp H
                 obtain ⟨t637,A670,H⟩ := H
                 replace H : (some t637) = some r:=H
                 have A67:=Aside0.mk A670
                 clear A670
                 obtain rfl:=Option.some.inj H
                 as_aux_lemma =>
                  go_wp2_with (first | (go_at_call 13;(with_reducible refine (spec_DrawLeftBehindContainers.calls kj58 _ _ l0 t620 t621 t622 _ ?side1 ?side2 A63.out).mono ?_);(case side1 => repeat (exact (Kd.C_below HR0.out HB.out)));(case side2 => exact HC0.out);rintro e w68 ⟨v623,v625,v627,rfl,ho0,ho1,ho2,hb⟩;have n0_:=Aside0.mk (Kd.R_lower ho0 (below_size (by exact HB.out)));have n1_:=Aside0.mk (Kd.R_lower ho1 (below_size (by exact HB.out)));have n2_:=Aside0.mk (Kd.R_lower ho2 (below_size (by exact HB.out)));have n3_:=Aside0.mk (below_step (by exact HB.out) hb);clear HB;have HO624:=n0_;have HO626:=n1_;have HO628:=n2_;have HB:=n3_;clear n0_ n1_ n2_ n3_;(try clear hb);(try clear ho0);(try clear ho1);(try clear ho2);obtain ⟨Ao69,co69,eo69⟩ := Kd.R_slice HO624.out;subst eo69;obtain ⟨Ao70,co70,eo70⟩ := Kd.R_slice HO626.out;subst eo70;obtain ⟨Ao71,co71,eo71⟩ := Kd.R_slice HO628.out;subst eo71) | (go_at_call 14;(with_reducible refine (impl_LeftBehindContainers.calls kj58 _ _ t620 _ _ t621 _ _ t622 t629 t630 _ ?side1 ?side2 ?side3 ?side4 ?side5 ?side6 A64.out).mono ?_);(case side1 => repeat (exact (Kd.R_reads' HO624.out).2.2));(case side2 => exact (Kd.R_reads' HO624.out).2.1);(case side3 => repeat (exact (Kd.R_reads' HO626.out).2.2));(case side4 => exact (Kd.R_reads' HO626.out).2.1);(case side5 => repeat (exact (Kd.R_reads' HO628.out).2.2));(case side6 => exact (Kd.R_reads' HO628.out).2.1);rintro e w72 ⟨v631,rfl,ho0,hb⟩;have n0_:=Aside0.mk (Kd.R_below (by exact HO624.out) hb);have n1_:=Aside0.mk (Kd.R_below (by exact HO626.out) hb);have n2_:=Aside0.mk (Kd.R_below (by exact HO628.out) hb);have n3_:=Aside0.mk (Kd.R_lower ho0 (below_size (by exact HB.out)));have n4_:=Aside0.mk (below_step (by exact HB.out) hb);clear HO624;clear HO626;clear HO628;clear HB;have HO624:=n0_;have HO626:=n1_;have HO628:=n2_;have HO632:=n3_;have HB:=n4_;clear n0_ n1_ n2_ n3_ n4_;(try clear hb);(try clear ho0)) | (go_at_call 15;(with_reducible refine (spec_LeftBehindContainers.calls kj58 _ _ t620 _ _ t621 _ _ t622 t633 t634 _ ?side1 ?side2 ?side3 ?side4 ?side5 ?side6 A65.out).mono ?_);(case side1 => repeat (exact (Kd.R_reads' HO624.out).2.2));(case side2 => exact (Kd.R_reads' HO624.out).2.1);(case side3 => repeat (exact (Kd.R_reads' HO626.out).2.2));(case side4 => exact (Kd.R_reads' HO626.out).2.1);(case side5 => repeat (exact (Kd.R_reads' HO628.out).2.2));(case side6 => exact (Kd.R_reads' HO628.out).2.1);rintro e w73 ⟨v635,rfl,ho0,hb⟩;have n0_:=Aside0.mk (Kd.R_below (by exact HO624.out) hb);have n1_:=Aside0.mk (Kd.R_below (by exact HO626.out) hb);have n2_:=Aside0.mk (Kd.R_below (by exact HO628.out) hb);have n3_:=Aside0.mk (Kd.R_elder' (by exact HO632.out) (Kd.R_base ho0) hb);have n4_:=Aside0.mk (Kd.R_lower (Kd.R_new' ho0 (Kd.R_lt (by exact HO632.out))) (below_size (by exact HB.out)));have n5_:=Aside0.mk (below_step (by exact HB.out) hb);clear HO624;clear HO626;clear HO628;clear HO632;clear HB;have HO624:=n0_;have HO626:=n1_;have HO628:=n2_;have HO632:=n3_;have HO636:=n4_;have HB:=n5_;clear n0_ n1_ n2_ n3_ n4_ n5_;(try clear hb);(try clear ho0);obtain ⟨Ao74,co74,eo74⟩ := Kd.R_slice HO632.out;subst eo74;obtain ⟨Ao75,co75,eo75⟩ := Kd.R_slice HO636.out;subst eo75) | (go_at_call 16;(with_reducible refine (laws_rTexts.calls kj58 _ _ t629 _ _ t633 t637 _ ?side1 ?side2 ?side3 ?side4 A67.out).mono ?_);(case side1 => repeat (exact (Kd.R_reads' HO632.out).2.2));(case side2 => exact (Kd.R_reads' HO632.out).2.1);(case side3 => repeat (exact (Kd.R_reads' HO636.out).2.2));(case side4 => exact (Kd.R_reads' HO636.out).2.1);rintro e w' ⟨rfl,⟨nd,rfl⟩⟩;(try first | exact ⟨rfl,_,World.drewN_drewN _ _ _⟩ | exact ⟨rfl,_,Eq.trans (World.drewN_drewN _ _ _) (congrArg (World.drewN _) (Nat.add_assoc _ _ _))⟩)))
                  repeat (go_quiet (fail);try go_wp2_with (fail))
                  go_ret
                  exact ⟨by rfl,by repeat ((with_reducible first | exact HB.out | apply pw_below_drewN))⟩
                ·rw [if_neg c66] at H
                 have c66b0 : (t630 == t634) = false:=by simpa using c66
                 (try (have c66b1 : decide (t630 = t634) = false:=by simpa using c66))
                 (try (have c66b2 : (t630 == t634) = false:=by simpa using c66))
                 (try (have c66b3 : ¬ (t630 = t634):=by simpa using c66))
                 clear c66
                 obtain rfl:=Option.some.inj H
                 as_aux_lemma =>
                  go_wp2_with (first | (go_at_call 13;(with_reducible refine (spec_DrawLeftBehindContainers.calls kj58 _ _ l0 t620 t621 t622 _ ?side1 ?side2 A63.out).mono ?_);(case side1 => repeat (exact (Kd.C_below HR0.out HB.out)));(case side2 => exact HC0.out);rintro e w76 ⟨v623,v625,v627,rfl,ho0,ho1,ho2,hb⟩;have n0_:=Aside0.mk (Kd.R_lower ho0 (below_size (by exact HB.out)));have n1_:=Aside0.mk (Kd.R_lower ho1 (below_size (by exact HB.out)));have n2_:=Aside0.mk (Kd.R_lower ho2 (below_size (by exact HB.out)));have n3_:=Aside0.mk (below_step (by exact HB.out) hb);clear HB;have HO624:=n0_;have HO626:=n1_;have HO628:=n2_;have HB:=n3_;clear n0_ n1_ n2_ n3_;(try clear hb);(try clear ho0);(try clear ho1);(try clear ho2);obtain ⟨Ao77,co77,eo77⟩ := Kd.R_slice HO624.out;subst eo77;obtain ⟨Ao78,co78,eo78⟩ := Kd.R_slice HO626.out;subst eo78;obtain ⟨Ao79,co79,eo79⟩ := Kd.R_slice HO628.out;subst eo79) | (go_at_call 14;(with_reducible refine (impl_LeftBehindContainers.calls kj58 _ _ t620 _ _ t621 _ _ t622 t629 t630 _ ?side1 ?side2 ?side3 ?side4 ?side5 ?side6 A64.out).mono ?_);(case side1 => repeat (exact (Kd.R_reads' HO624.out).2.2));(case side2 => exact (Kd.R_reads' HO624.out).2.1);(case side3 => repeat (exact (Kd.R_reads' HO626.out).2.2));(case side4 => exact (Kd.R_reads' HO626.out).2.1);(case side5 => repeat (exact (Kd.R_reads' HO628.out).2.2));(case side6 => exact (Kd.R_reads' HO628.out).2.1);rintro e w80 ⟨v631,rfl,ho0,hb⟩;have n0_:=Aside0.mk (Kd.R_below (by exact HO624.out) hb);have n1_:=Aside0.mk (Kd.R_below (by exact HO626.out) hb);have n2_:=Aside0.mk (Kd.R_below (by exact HO628.out) hb);have n3_:=Aside0.mk (Kd.R_lower ho0 (below_size (by exact HB.out)));have n4_:=Aside0.mk (below_step (by exact HB.out) hb);clear HO624;clear HO626;clear HO628;clear HB;have HO624:=n0_;have HO626:=n1_;have HO628:=n2_;have HO632:=n3_;have HB:=n4_;clear n0_ n1_ n2_ n3_ n4_;(try clear hb);(try clear ho0)) | (go_at_call 15;(with_reducible refine (spec_LeftBehindContainers.calls kj58 _ _ t620 _ _ t621 _ _ t622 t633 t634 _ ?side1 ?side2 ?side3 ?side4 ?side5 ?side6 A65.out).mono ?_);(case side1 => repeat (exact (Kd.R_reads' HO624.out).2.2));(case side2 => exact (Kd.R_reads' HO624.out).2.1);(case side3 => repeat (exact (Kd.R_reads' HO626.out).2.2));(case side4 => exact (Kd.R_reads' HO626.out).2.1);(case side5 => repeat (exact (Kd.R_reads' HO628.out).2.2));(case side6 => exact (Kd.R_reads' HO628.out).2.1);rintro e w81 ⟨v635,rfl,ho0,hb⟩;have n0_:=Aside0.mk (Kd.R_below (by exact HO624.out) hb);have n1_:=Aside0.mk (Kd.R_below (by exact HO626.out) hb);have n2_:=Aside0.mk (Kd.R_below (by exact HO628.out) hb);have n3_:=Aside0.mk (Kd.R_elder' (by exact HO632.out) (Kd.R_base ho0) hb);have n4_:=Aside0.mk (Kd.R_lower (Kd.R_new' ho0 (Kd.R_lt (by exact HO632.out))) (below_size (by exact HB.out)));have n5_:=Aside0.mk (below_step (by exact HB.out) hb);clear HO624;clear HO626;clear HO628;clear HO632;clear HB;have HO624:=n0_;have HO626:=n1_;have HO628:=n2_;have HO632:=n3_;have HO636:=n4_;have HB:=n5_;clear n0_ n1_ n2_ n3_ n4_ n5_;(try clear hb);(try clear ho0)))
                  repeat (go_quiet (fail);try go_wp2_with (fail))
                  go_ret
                  exact ⟨by rfl,by exact HB.out⟩

/-- THE ONE PURE STATEMENT of laws_FnWagons: yours. -/
def laws_FnWagons.Pure : Prop := ∀ (l0 : List Int),l0.length ≤ maxLen → l0.length * 1 ≤ 140737488351232 → (∀ x ∈ l0,(Lit.int .u8 x).wf = true) → ∃ k,laws_FnWagons.f k l0 = some true
theorem laws_FnWagons.walk (P : laws_FnWagons.Pure) (a0 : Option Addr) (len0 cap0 : Nat) (z0 : List Int) (w : World) (w0 : (a0 = none ∧ len0 = 0 ∧ cap0 = 0 ∧ z0 = []) ∨ ∃ x,a0 = some x ∧ len0 ≤ cap0 ∧ cap0 ≤ maxLen ∧ z0.length = cap0 ∧ (∀ i,i < z0.length → w.cell? (x.add i) = some (.int .u8 (z0.getD i 0))) ∧ ∀ n ∈ z0,(Lit.int .u8 n).wf = true) (y0 : len0 * 1 ≤ 140737488351232) :
  Calls Try.prog 3 #[.slice a0 len0 cap0] w fun e w' => e = .returned (.bool true) ∧ Below w.heap.size w w':=by
 obtain ⟨l0,rfl,hr0,hm0,hw0,hc0⟩ := ReadsInt.ofRowC w0
 obtain ⟨k,h⟩ := P l0 hm0 y0 hw0
 refine (laws_FnWagons.calls k _ _ l0 true w (Kd.C_of_reads (d:=(0 : Int)) (h1:=fun _ => rfl) hr0) hc0 h).mono ?_
 rintro e w' ⟨rfl,hd⟩
 exact ⟨rfl,hd⟩

end Go.Proofs.Ytempmebpbbbkmaa.PFnWagons
