-- Written by a program of this session, over the kit's print (wip/xprint.py)
import Derived.Test.YteebkbikpamkmaaPFnHoldsx0
import Derived.Test.YteebkbikpamkmaaPFnHoldsx2
import Derived.Test.YteebkbikpamkmaaPFnHoldsx4
import Derived.Test.YteebkbikpamkmaaPFnHoldsx6
import Derived.Test.YteebkbikpamkmaaPFnHoldsx7
import Derived.Test.YteebkbikpamkmaaPFnHoldsx10
import Derived.Test.YteebkbikpamkmaaPFnHoldsx11
import Derived.Test.YteebkbikpamkmaaPFnHoldsx12
import Derived.Test.YteebkbikpamkmaaPFnHoldsx13
namespace Go.Proofs.Yteebkbikpamkmaa.PFnHolds
open Go.RowKit Go.Proofs.YteebkbikpamkmaaW.PrintWords Go.Proofs.YteebkbikpamkmaaW.PrintLast Go.Proofs.YteebkbikpamkmaaW.PrintMore
attribute [local go_sem] max2_int min2_int max_two min_two max_three min_three max_four min_four   -- for this text's walks alone
set_option linter.unusedVariables false
set_option linter.unusedSimpArgs false

/-! ### laws_FnHolds: function 3 -/
mutual
def laws_FnHolds.j0 : Nat → List Int → ByteArray → List (S52) → Bool → Bool → Option (Bool)
 | 0,_,_,_,_,_ => none
 | k + 1,x0,x4,x6,x7,x65 => if x65 = true then (some false) else (if x7 = true then ((impl_HoldsOn.f k x6 x4 240).bind fun bt507 => (if bt507.2 = true then (if bt507.1 = 0 then ((impl_IsValidFile.f k x6).bind fun t509 => (if t509 = true then (laws_FnHolds.j1 k x0) else (some false))) else (some false)) else (some false))) else (laws_FnHolds.j1 k x0))
def laws_FnHolds.j1 : Nat → List Int → Option (Bool)
 | 0,_ => none
 | k + 1,x0 => (spec_DrawHeldContainers.f k x0).bind fun bt510 => ((impl_HeldContainers.f k bt510.1 bt510.2).bind fun bt514 => ((spec_HeldContainers.f k bt510.1 bt510.2).bind fun bt518 => (if (bt514.2 != bt518.2) = true then (laws_FnHolds.j2 k x0 bt510.1 bt510.2 bt514.1 true) else ((laws_rTexts.f k bt514.1 bt518.1).bind fun t522 => (laws_FnHolds.j2 k x0 bt510.1 bt510.2 bt514.1 (!t522))))))
def laws_FnHolds.j2 : Nat → List Int → List (S52) → Int → List ByteArray → Bool → Option (Bool)
 | 0,_,_,_,_,_ => none
 | k + 1,x0,x12,x13,x14,x109 => if x109 = true then (some false) else (laws_FnHolds.l0 k x0 x12 x13 x14 0)
def laws_FnHolds.l0 : Nat → List Int → List (S52) → Int → List ByteArray → Int → Option (Bool)
 | 0,_,_,_,_,_ => none
 | k + 1,x0,x12,x13,x14,x18 => if x18 < (x14.length : Int) then (if 0 ≤ x18 then ((impl_HoldsOn.f k x12 (rdOf ByteArray.empty x14 x18) x13).bind fun bt524 => ((impl_HoldNames.f k bt524.1).bind fun bt526 => (if bt524.2 = true then (if bt524.1 = 0 then (some false) else (if bt526.2 = true then (if bt526.1.toList = ([110,111,110,101] : List UInt8) then (some false) else (laws_FnHolds.l0 k x0 x12 x13 x14 (wrap64 (x18 + 1)))) else (some false))) else (some false)))) else (none)) else ((spec_DrawHoldsOn.f k x0).bind fun bt528 => ((impl_HoldsOn.f k bt528.1 bt528.2.1 bt528.2.2).bind fun bt533 => ((spec_HoldsOn.f k bt528.1 bt528.2.1 bt528.2.2).bind fun bt535 => ((spec_DrawHoldNames.f x0).bind fun t537 => ((impl_HoldNames.f k t537).bind fun bt538 => ((spec_HoldNames.f k t537).bind fun bt540 => (if bt533.1 = bt535.1 then (if (bt533.2 == bt535.2) = true then (if bt538.1.toList = bt540.1.toList then (some (bt538.2 == bt540.2)) else (some false)) else (some false)) else (some false))))))))
end
def laws_FnHolds.f (k : Nat) (l0 : List Int) : Option (Bool):=(laws_rBig.f l0).bind fun t492 => (if t492 = true then (some true) else ((spec_DrawReleaseAll.f k l0).bind fun bt493 => ((impl_ReleaseAll.f k bt493.1 bt493.2.1 bt493.2.2).bind fun bt498 => ((spec_ReleaseAll.f k bt493.1 bt493.2.1 bt493.2.2).bind fun bt502 => (if (bt498.2 != bt502.2) = true then (laws_FnHolds.j0 k l0 bt493.2.1 bt498.1 bt498.2 true) else ((laws_rFiles.f k bt498.1 bt502.1).bind fun t506 => (laws_FnHolds.j0 k l0 bt493.2.1 bt498.1 bt498.2 (!t506))))))))
theorem laws_FnHolds.mono_l : ∀ k,(∀ y0 y1 y2 y3 y4,LeO (laws_FnHolds.j0 k y0 y1 y2 y3 y4) (laws_FnHolds.j0 (k + 1) y0 y1 y2 y3 y4)) ∧ (∀ y0,LeO (laws_FnHolds.j1 k y0) (laws_FnHolds.j1 (k + 1) y0)) ∧ (∀ y0 y1 y2 y3 y4,LeO (laws_FnHolds.j2 k y0 y1 y2 y3 y4) (laws_FnHolds.j2 (k + 1) y0 y1 y2 y3 y4)) ∧ (∀ y0 y1 y2 y3 y4,LeO (laws_FnHolds.l0 k y0 y1 y2 y3 y4) (laws_FnHolds.l0 (k + 1) y0 y1 y2 y3 y4))
 | 0 => ⟨fun _ _ _ _ _ r h => by simp [laws_FnHolds.j0] at h,fun _ r h => by simp [laws_FnHolds.j1] at h,fun _ _ _ _ _ r h => by simp [laws_FnHolds.j2] at h,fun _ _ _ _ _ r h => by simp [laws_FnHolds.l0] at h⟩
 | k + 1 => by
  obtain ⟨ih0,ih1,ih2,ih3⟩ := laws_FnHolds.mono_l k
  refine ⟨?_, ?_, ?_, ?_⟩
  ·intro y0 y1 y2 y3 y4
   unfold laws_FnHolds.j0
   repeat' first
   | (with_reducible exact ih0 _ _ _ _ _)
   | (with_reducible exact ih1 _)
   | (with_reducible exact ih2 _ _ _ _ _)
   | (with_reducible exact ih3 _ _ _ _ _)
   | (with_reducible exact impl_HeldContainers.mono _ _ _)
   | (with_reducible exact impl_HoldNames.mono _ _)
   | (with_reducible exact impl_HoldsOn.mono _ _ _ _)
   | (with_reducible exact impl_IsValidFile.mono _ _)
   | (with_reducible exact impl_ReleaseAll.mono _ _ _ _)
   | (with_reducible exact laws_rFiles.mono _ _ _)
   | (with_reducible exact laws_rTexts.mono _ _ _)
   | (with_reducible exact spec_DrawHeldContainers.mono _ _)
   | (with_reducible exact spec_DrawHoldsOn.mono _ _)
   | (with_reducible exact spec_DrawReleaseAll.mono _ _)
   | (with_reducible exact spec_HeldContainers.mono _ _ _)
   | (with_reducible exact spec_HoldNames.mono _ _)
   | (with_reducible exact spec_HoldsOn.mono _ _ _ _)
   | (with_reducible exact spec_ReleaseAll.mono _ _ _ _)
   | (with_reducible exact LeO.refl _)
   | (with_reducible exact LeO.none _)
   | (with_reducible refine LeO.ite ?_ ?_)
   | (with_reducible refine LeO.bind ?_ (fun _ => ?_))
   | exact ih0 _ _ _ _ _
   | exact ih1 _
   | exact ih2 _ _ _ _ _
   | exact ih3 _ _ _ _ _
   | exact impl_HeldContainers.mono _ _ _
   | exact impl_HoldNames.mono _ _
   | exact impl_HoldsOn.mono _ _ _ _
   | exact impl_IsValidFile.mono _ _
   | exact impl_ReleaseAll.mono _ _ _ _
   | exact laws_rFiles.mono _ _ _
   | exact laws_rTexts.mono _ _ _
   | exact spec_DrawHeldContainers.mono _ _
   | exact spec_DrawHoldsOn.mono _ _
   | exact spec_DrawReleaseAll.mono _ _
   | exact spec_HeldContainers.mono _ _ _
   | exact spec_HoldNames.mono _ _
   | exact spec_HoldsOn.mono _ _ _ _
   | exact spec_ReleaseAll.mono _ _ _ _
   | exact LeO.none _
   | refine LeO.ite ?_ ?_
   | refine LeO.bind ?_ (fun _ => ?_)
  ·intro y0
   unfold laws_FnHolds.j1
   repeat' first
   | (with_reducible exact ih0 _ _ _ _ _)
   | (with_reducible exact ih1 _)
   | (with_reducible exact ih2 _ _ _ _ _)
   | (with_reducible exact ih3 _ _ _ _ _)
   | (with_reducible exact impl_HeldContainers.mono _ _ _)
   | (with_reducible exact impl_HoldNames.mono _ _)
   | (with_reducible exact impl_HoldsOn.mono _ _ _ _)
   | (with_reducible exact impl_IsValidFile.mono _ _)
   | (with_reducible exact impl_ReleaseAll.mono _ _ _ _)
   | (with_reducible exact laws_rFiles.mono _ _ _)
   | (with_reducible exact laws_rTexts.mono _ _ _)
   | (with_reducible exact spec_DrawHeldContainers.mono _ _)
   | (with_reducible exact spec_DrawHoldsOn.mono _ _)
   | (with_reducible exact spec_DrawReleaseAll.mono _ _)
   | (with_reducible exact spec_HeldContainers.mono _ _ _)
   | (with_reducible exact spec_HoldNames.mono _ _)
   | (with_reducible exact spec_HoldsOn.mono _ _ _ _)
   | (with_reducible exact spec_ReleaseAll.mono _ _ _ _)
   | (with_reducible exact LeO.refl _)
   | (with_reducible exact LeO.none _)
   | (with_reducible refine LeO.ite ?_ ?_)
   | (with_reducible refine LeO.bind ?_ (fun _ => ?_))
   | exact ih0 _ _ _ _ _
   | exact ih1 _
   | exact ih2 _ _ _ _ _
   | exact ih3 _ _ _ _ _
   | exact impl_HeldContainers.mono _ _ _
   | exact impl_HoldNames.mono _ _
   | exact impl_HoldsOn.mono _ _ _ _
   | exact impl_IsValidFile.mono _ _
   | exact impl_ReleaseAll.mono _ _ _ _
   | exact laws_rFiles.mono _ _ _
   | exact laws_rTexts.mono _ _ _
   | exact spec_DrawHeldContainers.mono _ _
   | exact spec_DrawHoldsOn.mono _ _
   | exact spec_DrawReleaseAll.mono _ _
   | exact spec_HeldContainers.mono _ _ _
   | exact spec_HoldNames.mono _ _
   | exact spec_HoldsOn.mono _ _ _ _
   | exact spec_ReleaseAll.mono _ _ _ _
   | exact LeO.none _
   | refine LeO.ite ?_ ?_
   | refine LeO.bind ?_ (fun _ => ?_)
  ·intro y0 y1 y2 y3 y4
   unfold laws_FnHolds.j2
   repeat' first
   | (with_reducible exact ih0 _ _ _ _ _)
   | (with_reducible exact ih1 _)
   | (with_reducible exact ih2 _ _ _ _ _)
   | (with_reducible exact ih3 _ _ _ _ _)
   | (with_reducible exact impl_HeldContainers.mono _ _ _)
   | (with_reducible exact impl_HoldNames.mono _ _)
   | (with_reducible exact impl_HoldsOn.mono _ _ _ _)
   | (with_reducible exact impl_IsValidFile.mono _ _)
   | (with_reducible exact impl_ReleaseAll.mono _ _ _ _)
   | (with_reducible exact laws_rFiles.mono _ _ _)
   | (with_reducible exact laws_rTexts.mono _ _ _)
   | (with_reducible exact spec_DrawHeldContainers.mono _ _)
   | (with_reducible exact spec_DrawHoldsOn.mono _ _)
   | (with_reducible exact spec_DrawReleaseAll.mono _ _)
   | (with_reducible exact spec_HeldContainers.mono _ _ _)
   | (with_reducible exact spec_HoldNames.mono _ _)
   | (with_reducible exact spec_HoldsOn.mono _ _ _ _)
   | (with_reducible exact spec_ReleaseAll.mono _ _ _ _)
   | (with_reducible exact LeO.refl _)
   | (with_reducible exact LeO.none _)
   | (with_reducible refine LeO.ite ?_ ?_)
   | (with_reducible refine LeO.bind ?_ (fun _ => ?_))
   | exact ih0 _ _ _ _ _
   | exact ih1 _
   | exact ih2 _ _ _ _ _
   | exact ih3 _ _ _ _ _
   | exact impl_HeldContainers.mono _ _ _
   | exact impl_HoldNames.mono _ _
   | exact impl_HoldsOn.mono _ _ _ _
   | exact impl_IsValidFile.mono _ _
   | exact impl_ReleaseAll.mono _ _ _ _
   | exact laws_rFiles.mono _ _ _
   | exact laws_rTexts.mono _ _ _
   | exact spec_DrawHeldContainers.mono _ _
   | exact spec_DrawHoldsOn.mono _ _
   | exact spec_DrawReleaseAll.mono _ _
   | exact spec_HeldContainers.mono _ _ _
   | exact spec_HoldNames.mono _ _
   | exact spec_HoldsOn.mono _ _ _ _
   | exact spec_ReleaseAll.mono _ _ _ _
   | exact LeO.none _
   | refine LeO.ite ?_ ?_
   | refine LeO.bind ?_ (fun _ => ?_)
  ·intro y0 y1 y2 y3 y4
   unfold laws_FnHolds.l0
   repeat' first
   | (with_reducible exact ih0 _ _ _ _ _)
   | (with_reducible exact ih1 _)
   | (with_reducible exact ih2 _ _ _ _ _)
   | (with_reducible exact ih3 _ _ _ _ _)
   | (with_reducible exact impl_HeldContainers.mono _ _ _)
   | (with_reducible exact impl_HoldNames.mono _ _)
   | (with_reducible exact impl_HoldsOn.mono _ _ _ _)
   | (with_reducible exact impl_IsValidFile.mono _ _)
   | (with_reducible exact impl_ReleaseAll.mono _ _ _ _)
   | (with_reducible exact laws_rFiles.mono _ _ _)
   | (with_reducible exact laws_rTexts.mono _ _ _)
   | (with_reducible exact spec_DrawHeldContainers.mono _ _)
   | (with_reducible exact spec_DrawHoldsOn.mono _ _)
   | (with_reducible exact spec_DrawReleaseAll.mono _ _)
   | (with_reducible exact spec_HeldContainers.mono _ _ _)
   | (with_reducible exact spec_HoldNames.mono _ _)
   | (with_reducible exact spec_HoldsOn.mono _ _ _ _)
   | (with_reducible exact spec_ReleaseAll.mono _ _ _ _)
   | (with_reducible exact LeO.refl _)
   | (with_reducible exact LeO.none _)
   | (with_reducible refine LeO.ite ?_ ?_)
   | (with_reducible refine LeO.bind ?_ (fun _ => ?_))
   | exact ih0 _ _ _ _ _
   | exact ih1 _
   | exact ih2 _ _ _ _ _
   | exact ih3 _ _ _ _ _
   | exact impl_HeldContainers.mono _ _ _
   | exact impl_HoldNames.mono _ _
   | exact impl_HoldsOn.mono _ _ _ _
   | exact impl_IsValidFile.mono _ _
   | exact impl_ReleaseAll.mono _ _ _ _
   | exact laws_rFiles.mono _ _ _
   | exact laws_rTexts.mono _ _ _
   | exact spec_DrawHeldContainers.mono _ _
   | exact spec_DrawHoldsOn.mono _ _
   | exact spec_DrawReleaseAll.mono _ _
   | exact spec_HeldContainers.mono _ _ _
   | exact spec_HoldNames.mono _ _
   | exact spec_HoldsOn.mono _ _ _ _
   | exact spec_ReleaseAll.mono _ _ _ _
   | exact LeO.none _
   | refine LeO.ite ?_ ?_
   | refine LeO.bind ?_ (fun _ => ?_)
theorem laws_FnHolds.mono : ∀ a0 k,LeO (laws_FnHolds.f k a0) (laws_FnHolds.f (k + 1) a0):=by
 intro a0 k
 obtain ⟨ih0,ih1,ih2,ih3⟩ := laws_FnHolds.mono_l k
 unfold laws_FnHolds.f
 repeat' first
   | (with_reducible exact ih0 _ _ _ _ _)
   | (with_reducible exact ih1 _)
   | (with_reducible exact ih2 _ _ _ _ _)
   | (with_reducible exact ih3 _ _ _ _ _)
   | (with_reducible exact impl_HeldContainers.mono _ _ _)
   | (with_reducible exact impl_HoldNames.mono _ _)
   | (with_reducible exact impl_HoldsOn.mono _ _ _ _)
   | (with_reducible exact impl_IsValidFile.mono _ _)
   | (with_reducible exact impl_ReleaseAll.mono _ _ _ _)
   | (with_reducible exact laws_rFiles.mono _ _ _)
   | (with_reducible exact laws_rTexts.mono _ _ _)
   | (with_reducible exact spec_DrawHeldContainers.mono _ _)
   | (with_reducible exact spec_DrawHoldsOn.mono _ _)
   | (with_reducible exact spec_DrawReleaseAll.mono _ _)
   | (with_reducible exact spec_HeldContainers.mono _ _ _)
   | (with_reducible exact spec_HoldNames.mono _ _)
   | (with_reducible exact spec_HoldsOn.mono _ _ _ _)
   | (with_reducible exact spec_ReleaseAll.mono _ _ _ _)
   | (with_reducible exact LeO.refl _)
   | (with_reducible exact LeO.none _)
   | (with_reducible refine LeO.ite ?_ ?_)
   | (with_reducible refine LeO.bind ?_ (fun _ => ?_))
   | exact ih0 _ _ _ _ _
   | exact ih1 _
   | exact ih2 _ _ _ _ _
   | exact ih3 _ _ _ _ _
   | exact impl_HeldContainers.mono _ _ _
   | exact impl_HoldNames.mono _ _
   | exact impl_HoldsOn.mono _ _ _ _
   | exact impl_IsValidFile.mono _ _
   | exact impl_ReleaseAll.mono _ _ _ _
   | exact laws_rFiles.mono _ _ _
   | exact laws_rTexts.mono _ _ _
   | exact spec_DrawHeldContainers.mono _ _
   | exact spec_DrawHoldsOn.mono _ _
   | exact spec_DrawReleaseAll.mono _ _
   | exact spec_HeldContainers.mono _ _ _
   | exact spec_HoldNames.mono _ _
   | exact spec_HoldsOn.mono _ _ _ _
   | exact spec_ReleaseAll.mono _ _ _ _
   | exact LeO.none _
   | refine LeO.ite ?_ ?_
   | refine LeO.bind ?_ (fun _ => ?_)
set_option maxHeartbeats 8000000 in
set_option maxRecDepth 100000 in
theorem laws_FnHolds.calls (k : Nat) (A0 : Option Addr) (c0 : Nat) (l0 : List Int) (r : Bool) (w : World) (hr0 : Kd.C (Kd.int .u8) w A0 l0.length l0) (hc0 : l0.length ≤ c0) (h : laws_FnHolds.f k l0 = some r) :
  Calls Try.prog 3 #[.slice A0 l0.length c0] w fun e w' => e = .returned (.bool r) ∧ Below w.heap.size w w':=by
 have HR0:=Aside0.mk hr0
 have HC0:=Aside0.mk hc0
 clear hr0 hc0
 have HB:=Aside0.mk (Below.refl w.heap.size w)
 have H : ((laws_rBig.f l0).bind fun t492 => (if t492 = true then (some true) else ((spec_DrawReleaseAll.f k l0).bind fun bt493 => ((impl_ReleaseAll.f k bt493.1 bt493.2.1 bt493.2.2).bind fun bt498 => ((spec_ReleaseAll.f k bt493.1 bt493.2.1 bt493.2.2).bind fun bt502 => (if (bt498.2 != bt502.2) = true then (laws_FnHolds.j0 k l0 bt493.2.1 bt498.1 bt498.2 true) else ((laws_rFiles.f k bt498.1 bt502.1).bind fun t506 => (laws_FnHolds.j0 k l0 bt493.2.1 bt498.1 bt498.2 (!t506))))))))) = some r:=h
 clear h
 replace H:=Option.bind_eq_some_iff.mp H
 obtain ⟨t492,A20,H⟩ := H
 replace H : (if t492 = true then (some true) else ((spec_DrawReleaseAll.f k l0).bind fun bt493 => ((impl_ReleaseAll.f k bt493.1 bt493.2.1 bt493.2.2).bind fun bt498 => ((spec_ReleaseAll.f k bt493.1 bt493.2.1 bt493.2.2).bind fun bt502 => (if (bt498.2 != bt502.2) = true then (laws_FnHolds.j0 k l0 bt493.2.1 bt498.1 bt498.2 true) else ((laws_rFiles.f k bt498.1 bt502.1).bind fun t506 => (laws_FnHolds.j0 k l0 bt493.2.1 bt498.1 bt498.2 (!t506)))))))) = some r:=H
 have A2:=Aside0.mk A20
 clear A20
 by_cases c3 : t492 = true
 ·subst c3
  have H1 : (some true) = some r:=by rw [if_pos rfl] at H;exact H
  clear H
  have H:=H1
  clear H1
  obtain rfl:=Option.some.inj H
  go_enter Try.func3,Try.ntmps3
  as_aux_lemma =>
   go_wp2_with (((with_reducible refine gate_callee (f:=5) rfl ?_);refine goesL_ (some 36) rfl rfl Try.func5 (by kernel_rfl) rfl #[.slice A0 l0.length c0] rfl (by (try simp only [List.map_toArray,List.map_cons,List.map_nil]);rfl) ?_;(with_reducible refine (laws_rBig.calls _ _ l0 true _ ?side1 ?side2 A2.out).mono ?_);(case side1 => repeat (exact HR0.out));(case side2 => exact HC0.out);rintro e w' ⟨rfl,⟨nd,rfl⟩⟩;refine ⟨_,rfl, ?_⟩))
   go_ret
   exact ⟨by rfl,by repeat ((with_reducible first | exact HB.out | apply pw_below_drewN))⟩
 ·replace c3:=Bool.eq_false_iff.mpr c3
  subst c3
  have H1 : ((spec_DrawReleaseAll.f k l0).bind fun bt493 => ((impl_ReleaseAll.f k bt493.1 bt493.2.1 bt493.2.2).bind fun bt498 => ((spec_ReleaseAll.f k bt493.1 bt493.2.1 bt493.2.2).bind fun bt502 => (if (bt498.2 != bt502.2) = true then (laws_FnHolds.j0 k l0 bt493.2.1 bt498.1 bt498.2 true) else ((laws_rFiles.f k bt498.1 bt502.1).bind fun t506 => (laws_FnHolds.j0 k l0 bt493.2.1 bt498.1 bt498.2 (!t506))))))) = some r:=by rw [if_neg (show ¬ (false = true) by decide)] at H;exact H
  clear H
  have H:=H1
  clear H1
  replace H:=Option.bind_eq_some_iff.mp H
  obtain ⟨⟨t493,t494,t495⟩,A40,H⟩ := H
  replace H : ((impl_ReleaseAll.f k t493 t494 t495).bind fun bt498 => ((spec_ReleaseAll.f k t493 t494 t495).bind fun bt502 => (if (bt498.2 != bt502.2) = true then (laws_FnHolds.j0 k l0 t494 bt498.1 bt498.2 true) else ((laws_rFiles.f k bt498.1 bt502.1).bind fun t506 => (laws_FnHolds.j0 k l0 t494 bt498.1 bt498.2 (!t506)))))) = some r:=H
  have A4:=Aside0.mk A40
  clear A40
  replace H:=Option.bind_eq_some_iff.mp H
  obtain ⟨⟨t498,t499⟩,A50,H⟩ := H
  replace H : ((spec_ReleaseAll.f k t493 t494 t495).bind fun bt502 => (if (t499 != bt502.2) = true then (laws_FnHolds.j0 k l0 t494 t498 t499 true) else ((laws_rFiles.f k t498 bt502.1).bind fun t506 => (laws_FnHolds.j0 k l0 t494 t498 t499 (!t506))))) = some r:=H
  have A5:=Aside0.mk A50
  clear A50
  replace H:=Option.bind_eq_some_iff.mp H
  obtain ⟨⟨t502,t503⟩,A60,H⟩ := H
  replace H : (if (t499 != t503) = true then (laws_FnHolds.j0 k l0 t494 t498 t499 true) else ((laws_rFiles.f k t498 t502).bind fun t506 => (laws_FnHolds.j0 k l0 t494 t498 t499 (!t506)))) = some r:=H
  have A6:=Aside0.mk A60
  clear A60
  have HC7:=Aside0.mk H
  clear H
  go_enter Try.func3,Try.ntmps3
  go_upto_region 6 with (first | ((with_reducible refine gate_callee (f:=5) rfl ?_);refine goesL_ (some 36) rfl rfl Try.func5 (by kernel_rfl) rfl #[.slice A0 l0.length c0] rfl (by (try simp only [List.map_toArray,List.map_cons,List.map_nil]);rfl) ?_;(with_reducible refine (laws_rBig.calls _ _ l0 false _ ?side1 ?side2 A2.out).mono ?_);(case side1 => repeat (exact HR0.out));(case side2 => exact HC0.out);rintro e w' ⟨rfl,⟨nd,rfl⟩⟩;refine ⟨_,rfl, ?_⟩) | ((with_reducible refine gate_callee (f:=6) rfl ?_);refine goesL_ (some 39) rfl rfl Try.func6 (by kernel_rfl) rfl #[.slice A0 l0.length c0] rfl (by (try simp only [List.map_toArray,List.map_cons,List.map_nil]);rfl) ?_;(with_reducible refine (spec_DrawReleaseAll.calls k _ _ l0 t493 t494 t495 _ ?side1 ?side2 A4.out).mono ?_);(case side1 => repeat (exact HR0.out));(case side2 => exact HC0.out);rintro e w8 ⟨v496,rfl,ho0,hb⟩;refine ⟨_,rfl, ?_⟩;have n0_:=Aside0.mk (Kd.Q_lower ho0 (below_size (by repeat ((with_reducible first | exact HB.out | apply pw_below_drewN)))));have n1_:=Aside0.mk (below_step (by repeat ((with_reducible first | exact HB.out | apply pw_below_drewN))) hb);clear HB;have HO497:=n0_;have HB:=n1_;clear n0_ n1_;(try clear hb);(try clear ho0);obtain ⟨Ao9,co9,eo9,_⟩ := Kd.Q_slice HO497.out;subst eo9) | ((with_reducible refine gate_callee (f:=7) rfl ?_);refine goesL_ (some 47) rfl rfl Try.func7 (by kernel_rfl) rfl #[.slice Ao9 t493.length co9, .string t494, .int .i64 t495] rfl (by (try simp only [List.map_toArray,List.map_cons,List.map_nil]);rfl) ?_;(with_reducible refine (impl_ReleaseAll.calls k _ _ t493 t494 t495 t498 t499 _ ?side1 ?side2 A5.out).mono ?_);(case side1 => repeat (exact (Kd.Q_reads' HO497.out).2.2));(case side2 => exact (Kd.Q_reads' HO497.out).2.1);rintro e w10 ⟨v500,rfl,ho0,hb⟩;refine ⟨_,rfl, ?_⟩;have n0_:=Aside0.mk (Kd.Q_elder' (by exact HO497.out) (Kd.R_base ho0) hb);have n1_:=Aside0.mk (Kd.R_lower (Kd.R_new' ho0 (Kd.Q_lt (by exact HO497.out))) (below_size (by exact HB.out)));have n2_:=Aside0.mk (below_step (by exact HB.out) hb);clear HO497;clear HB;have HO497:=n0_;have HO501:=n1_;have HB:=n2_;clear n0_ n1_ n2_;(try clear hb);(try clear ho0)) | ((with_reducible refine gate_callee (f:=8) rfl ?_);refine goesL_ (some 54) rfl rfl Try.func8 (by kernel_rfl) rfl #[.slice Ao9 t493.length co9, .string t494, .int .i64 t495] rfl (by (try simp only [List.map_toArray,List.map_cons,List.map_nil]);rfl) ?_;(with_reducible refine (spec_ReleaseAll.calls k _ _ t493 t494 t495 t502 t503 _ ?side1 ?side2 A6.out).mono ?_);(case side1 => repeat (exact (Kd.Q_reads' HO497.out).2.2));(case side2 => exact (Kd.Q_reads' HO497.out).2.1);rintro e w11 ⟨v504,rfl,ho0,hb⟩;refine ⟨_,rfl, ?_⟩;have n0_:=Aside0.mk (Kd.Q_elder' (by exact HO497.out) (Kd.R_base ho0) hb);have n1_:=Aside0.mk (Kd.R_elder' (by exact HO501.out) (Kd.R_base ho0) hb);have n2_:=Aside0.mk (Kd.R_lower (Kd.R_new' (Kd.R_new' ho0 (Kd.Q_lt (by exact HO497.out))) (Kd.R_lt (by exact HO501.out))) (below_size (by exact HB.out)));have n3_:=Aside0.mk (below_step (by exact HB.out) hb);clear HO497;clear HO501;clear HB;have HO497:=n0_;have HO501:=n1_;have HO505:=n2_;have HB:=n3_;clear n0_ n1_ n2_ n3_;(try clear hb);(try clear ho0)))
  (skip)
  go_cut [65] (fun v65 wc => ∃ (kq : Nat) (x65_6 : Bool),v65 = .bool x65_6 ∧ Aside0 (laws_FnHolds.j0 kq l0 t494 t498 t499 x65_6 = some r) ∧ Aside0 (kq ≤ k) ∧ Aside0 (Kd.R k52 52 wc w.heap.size (fun _ => True) v500 t498) ∧ Aside0 (Below w.heap.size w wc))
  case first =>
   have H:=HC7.out
   clear HC7
   by_cases c12 : (t499 != t503) = true
   ·rw [if_pos c12] at H
    have c12b0 : (t499 != t503) = true:=c12
    (try (have c12b1 : decide (t499 = t503) = false:=by simpa using c12))
    (try (have c12b2 : (t499 == t503) = false:=by simpa using c12))
    (try (have c12b3 : ¬ (t499 = t503):=by simpa using c12))
    clear c12
    (skip)
    have H':=Aside0.mk H
    clear H
    go_wp2
    go_meet
    case rel => exact ⟨_,(true),(by rfl),H',⟨by omega⟩,⟨by exact Kd.R_mono HO501.out (fun _ hk => trivial)⟩,⟨by exact HB.out⟩⟩
   ·rw [if_neg c12] at H
    have c12b0 : (t499 != t503) = false:=by simpa using c12
    (try (have c12b1 : decide (t499 = t503) = true:=by simpa using c12))
    (try (have c12b2 : (t499 == t503) = true:=by simpa using c12))
    clear c12
    (skip)
    replace H:=Option.bind_eq_some_iff.mp H
    obtain ⟨t506,A130,H⟩ := H
    replace H : (laws_FnHolds.j0 k l0 t494 t498 t499 (!t506)) = some r:=H
    have A13:=Aside0.mk A130
    clear A130
    have H':=Aside0.mk H
    clear H
    obtain ⟨Ao14,co14,eo14⟩ := Kd.R_slice HO501.out
    subst eo14
    obtain ⟨Ao15,co15,eo15⟩ := Kd.R_slice HO505.out
    subst eo15
    go_wp2_with ((go_at_call 9;(with_reducible refine (laws_rFiles.calls k _ _ t498 _ _ t502 t506 _ ?side1 ?side2 ?side3 ?side4 A13.out).mono ?_);(case side1 => repeat (exact (Kd.R_reads' HO501.out).2.2));(case side2 => exact (Kd.R_reads' HO501.out).2.1);(case side3 => repeat (exact (Kd.R_reads' HO505.out).2.2));(case side4 => exact (Kd.R_reads' HO505.out).2.1);rintro e w' ⟨rfl,⟨nd,rfl⟩⟩))
    go_meet
    case rel => exact ⟨_,(!t506),(by rfl),H',⟨by omega⟩,⟨by (with_reducible repeat (apply Kd.R_drewN));exact Kd.R_mono HO501.out (fun _ hk => trivial)⟩,⟨by repeat ((with_reducible first | exact HB.out | apply pw_below_drewN))⟩⟩
  case rest => as_aux_lemma =>
   clear HC7
   try clear c1
   try clear p2
   try clear c3
   try clear c5
   try clear c6
   try clear c7
   try clear c8
   try clear c12
   try clear c12b0
   try clear c12b1
   try clear c12b2
   obtain ⟨kq,x65_6,rfl,HA,HJ6,HO_6,HB⟩ := hcut
   cases kq with
   | zero => exact absurd HA.out (by simp [laws_FnHolds.j0])
   | succ kj6 =>
    have H:=HA.out
    clear HA
    simp only [laws_FnHolds.j0] at H
    by_cases c16 : x65_6 = true
    ·subst c16
     have H1 : (some false) = some r:=by rw [if_pos rfl] at H;exact H
     clear H
     have H:=H1
     clear H1
     obtain rfl:=Option.some.inj H
     as_aux_lemma =>
      go_wp2
      go_ret
      exact ⟨by rfl,by exact HB.out⟩
    ·replace c16:=Bool.eq_false_iff.mpr c16
     subst c16
     have H1 : (if t499 = true then ((impl_HoldsOn.f kj6 t498 t494 240).bind fun bt507 => (if bt507.2 = true then (if bt507.1 = 0 then ((impl_IsValidFile.f kj6 t498).bind fun t509 => (if t509 = true then (laws_FnHolds.j1 kj6 l0) else (some false))) else (some false)) else (some false))) else (laws_FnHolds.j1 kj6 l0)) = some r:=by rw [if_neg (show ¬ (false = true) by decide)] at H;exact H
     clear H
     have H:=H1
     clear H1
     have HC17:=Aside0.mk H
     clear H
     go_upto_if 66 with (fail)
     go_cut [] (fun wc => ∃ (kq : Nat),Aside0 (laws_FnHolds.j1 kq l0 = some r) ∧ Aside0 (kq ≤ kj6) ∧ Aside0 (Below w.heap.size w wc))
     case first =>
      have H:=HC17.out
      clear HC17
      by_cases c18 : t499 = true
      ·subst c18
       have H1 : ((impl_HoldsOn.f kj6 t498 t494 240).bind fun bt507 => (if bt507.2 = true then (if bt507.1 = 0 then ((impl_IsValidFile.f kj6 t498).bind fun t509 => (if t509 = true then (laws_FnHolds.j1 kj6 l0) else (some false))) else (some false)) else (some false))) = some r:=by rw [if_pos rfl] at H;exact H
       clear H
       have H:=H1
       clear H1
       replace H:=Option.bind_eq_some_iff.mp H
       obtain ⟨⟨t507,t508⟩,A190,H⟩ := H
       replace H : (if t508 = true then (if t507 = 0 then ((impl_IsValidFile.f kj6 t498).bind fun t509 => (if t509 = true then (laws_FnHolds.j1 kj6 l0) else (some false))) else (some false)) else (some false)) = some r:=H
       have A19:=Aside0.mk A190
       clear A190
       by_cases c20 : t508 = true
       ·subst c20
        have H1 : (if t507 = 0 then ((impl_IsValidFile.f kj6 t498).bind fun t509 => (if t509 = true then (laws_FnHolds.j1 kj6 l0) else (some false))) else (some false)) = some r:=by rw [if_pos rfl] at H;exact H
        clear H
        have H:=H1
        clear H1
        by_cases c21 : t507 = 0
        ·rw [if_pos c21] at H
         have c21b0 : (t507 == 0) = true:=beq_iff_eq.mpr c21
         have c21b1 : (t507 != 0) = false:=bne_eq_false_iff_eq.mpr c21
         clear c21
         (skip)
         replace H:=Option.bind_eq_some_iff.mp H
         obtain ⟨t509,A220,H⟩ := H
         replace H : (if t509 = true then (laws_FnHolds.j1 kj6 l0) else (some false)) = some r:=H
         have A22:=Aside0.mk A220
         clear A220
         by_cases c23 : t509 = true
         ·subst c23
          have H1 : (laws_FnHolds.j1 kj6 l0) = some r:=by rw [if_pos rfl] at H;exact H
          clear H
          have H:=H1
          clear H1
          have H':=Aside0.mk H
          clear H
          obtain ⟨Ao24,co24,eo24⟩ := Kd.R_slice HO_6.out
          subst eo24
          go_wp2_with (first | ((with_reducible refine gate_callee (f:=10) rfl ?_);refine goesL_ (some 70) rfl rfl Try.func10 (by kernel_rfl) rfl #[.slice Ao24 t498.length co24, .string t494, .int .i64 240] rfl (by (try simp only [List.map_toArray,List.map_cons,List.map_nil]);rfl) ?_;(with_reducible refine (impl_HoldsOn.calls kj6 _ _ t498 t494 240 t507 true _ ?side1 ?side2 A19.out).mono ?_);(case side1 => repeat (exact (Kd.R_reads' HO_6.out).2.2));(case side2 => exact (Kd.R_reads' HO_6.out).2.1);rintro e w25 ⟨rfl,hb⟩;refine ⟨_,rfl, ?_⟩;have n0_:=Aside0.mk (Kd.R_below (by exact HO_6.out) hb);have n1_:=Aside0.mk (below_step (by exact HB.out) hb);clear HO_6;clear HB;have HO_6:=n0_;have HB:=n1_;clear n0_ n1_;(try clear hb)) | (go_at_call 11;(with_reducible refine (impl_IsValidFile.calls kj6 _ _ t498 true _ ?side1 ?side2 A22.out).mono ?_);(case side1 => repeat (exact (Kd.R_reads' HO_6.out).2.2));(case side2 => exact (Kd.R_reads' HO_6.out).2.1);rintro e w26 ⟨rfl,hb⟩;have n0_:=Aside0.mk (Kd.R_below (by exact HO_6.out) hb);have n1_:=Aside0.mk (below_step (by exact HB.out) hb);clear HO_6;clear HB;have HO_6:=n0_;have HB:=n1_;clear n0_ n1_;(try clear hb)))
          go_meet
          case rel => exact ⟨_,H',⟨by have:=HJ6.out;omega⟩,⟨by exact HB.out⟩⟩
         ·replace c23:=Bool.eq_false_iff.mpr c23
          subst c23
          have H1 : (some false) = some r:=by rw [if_neg (show ¬ (false = true) by decide)] at H;exact H
          clear H
          have H:=H1
          clear H1
          obtain rfl:=Option.some.inj H
          obtain ⟨Ao27,co27,eo27⟩ := Kd.R_slice HO_6.out
          subst eo27
          as_aux_lemma =>
           go_wp2_with (first | ((with_reducible refine gate_callee (f:=10) rfl ?_);refine goesL_ (some 70) rfl rfl Try.func10 (by kernel_rfl) rfl #[.slice Ao27 t498.length co27, .string t494, .int .i64 240] rfl (by (try simp only [List.map_toArray,List.map_cons,List.map_nil]);rfl) ?_;(with_reducible refine (impl_HoldsOn.calls kj6 _ _ t498 t494 240 t507 true _ ?side1 ?side2 A19.out).mono ?_);(case side1 => repeat (exact (Kd.R_reads' HO_6.out).2.2));(case side2 => exact (Kd.R_reads' HO_6.out).2.1);rintro e w28 ⟨rfl,hb⟩;refine ⟨_,rfl, ?_⟩;have n0_:=Aside0.mk (Kd.R_below (by exact HO_6.out) hb);have n1_:=Aside0.mk (below_step (by exact HB.out) hb);clear HO_6;clear HB;have HO_6:=n0_;have HB:=n1_;clear n0_ n1_;(try clear hb)) | (go_at_call 11;(with_reducible refine (impl_IsValidFile.calls kj6 _ _ t498 false _ ?side1 ?side2 A22.out).mono ?_);(case side1 => repeat (exact (Kd.R_reads' HO_6.out).2.2));(case side2 => exact (Kd.R_reads' HO_6.out).2.1);rintro e w29 ⟨rfl,hb⟩;have n0_:=Aside0.mk (Kd.R_below (by exact HO_6.out) hb);have n1_:=Aside0.mk (below_step (by exact HB.out) hb);clear HO_6;clear HB;have HO_6:=n0_;have HB:=n1_;clear n0_ n1_;(try clear hb)))
           go_ret
           exact ⟨by rfl,by exact HB.out⟩
        ·rw [if_neg c21] at H
         have c21b0 : (t507 == 0) = false:=beq_eq_false_iff_ne.mpr c21
         have c21b1 : (t507 != 0) = true:=bne_iff_ne.mpr c21
         (skip)
         obtain rfl:=Option.some.inj H
         obtain ⟨Ao30,co30,eo30⟩ := Kd.R_slice HO_6.out
         subst eo30
         as_aux_lemma =>
          go_wp2_with (((with_reducible refine gate_callee (f:=10) rfl ?_);refine goesL_ (some 70) rfl rfl Try.func10 (by kernel_rfl) rfl #[.slice Ao30 t498.length co30, .string t494, .int .i64 240] rfl (by (try simp only [List.map_toArray,List.map_cons,List.map_nil]);rfl) ?_;(with_reducible refine (impl_HoldsOn.calls kj6 _ _ t498 t494 240 t507 true _ ?side1 ?side2 A19.out).mono ?_);(case side1 => repeat (exact (Kd.R_reads' HO_6.out).2.2));(case side2 => exact (Kd.R_reads' HO_6.out).2.1);rintro e w31 ⟨rfl,hb⟩;refine ⟨_,rfl, ?_⟩;have n0_:=Aside0.mk (Kd.R_below (by exact HO_6.out) hb);have n1_:=Aside0.mk (below_step (by exact HB.out) hb);clear HO_6;clear HB;have HO_6:=n0_;have HB:=n1_;clear n0_ n1_;(try clear hb)))
          go_ret
          exact ⟨by rfl,by exact HB.out⟩
       ·replace c20:=Bool.eq_false_iff.mpr c20
        subst c20
        have H1 : (some false) = some r:=by rw [if_neg (show ¬ (false = true) by decide)] at H;exact H
        clear H
        have H:=H1
        clear H1
        obtain rfl:=Option.some.inj H
        obtain ⟨Ao32,co32,eo32⟩ := Kd.R_slice HO_6.out
        subst eo32
        as_aux_lemma =>
         go_wp2_with (((with_reducible refine gate_callee (f:=10) rfl ?_);refine goesL_ (some 70) rfl rfl Try.func10 (by kernel_rfl) rfl #[.slice Ao32 t498.length co32, .string t494, .int .i64 240] rfl (by (try simp only [List.map_toArray,List.map_cons,List.map_nil]);rfl) ?_;(with_reducible refine (impl_HoldsOn.calls kj6 _ _ t498 t494 240 t507 false _ ?side1 ?side2 A19.out).mono ?_);(case side1 => repeat (exact (Kd.R_reads' HO_6.out).2.2));(case side2 => exact (Kd.R_reads' HO_6.out).2.1);rintro e w33 ⟨rfl,hb⟩;refine ⟨_,rfl, ?_⟩;have n0_:=Aside0.mk (Kd.R_below (by exact HO_6.out) hb);have n1_:=Aside0.mk (below_step (by exact HB.out) hb);clear HO_6;clear HB;have HO_6:=n0_;have HB:=n1_;clear n0_ n1_;(try clear hb)))
         go_ret
         exact ⟨by rfl,by exact HB.out⟩
      ·replace c18:=Bool.eq_false_iff.mpr c18
       subst c18
       have H1 : (laws_FnHolds.j1 kj6 l0) = some r:=by rw [if_neg (show ¬ (false = true) by decide)] at H;exact H
       clear H
       have H:=H1
       clear H1
       have H':=Aside0.mk H
       clear H
       go_wp2
       go_meet
       case rel => exact ⟨_,H',⟨by have:=HJ6.out;omega⟩,⟨by exact HB.out⟩⟩
     case rest => as_aux_lemma =>
      clear HC17
      try clear c1
      try clear c2
      try clear p2
      try clear c3
      try clear c5
      try clear c6
      try clear c7
      try clear c8
      try clear c10
      try clear c12
      try clear c12b0
      try clear c12b1
      try clear c12b2
      try clear c16
      try clear c18
      try clear c20
      try clear c21
      try clear c21b0
      try clear c21b1
      try clear c23
      try clear p2
      obtain ⟨kq,HA,HJ16,HB⟩ := hcut
      cases kq with
      | zero => exact absurd HA.out (by simp [laws_FnHolds.j1])
      | succ kj16 =>
       have H:=HA.out
       clear HA
       simp only [laws_FnHolds.j1] at H
       replace H:=Option.bind_eq_some_iff.mp H
       obtain ⟨⟨t510,t511⟩,A340,H⟩ := H
       replace H : ((impl_HeldContainers.f kj16 t510 t511).bind fun bt514 => ((spec_HeldContainers.f kj16 t510 t511).bind fun bt518 => (if (bt514.2 != bt518.2) = true then (laws_FnHolds.j2 kj16 l0 t510 t511 bt514.1 true) else ((laws_rTexts.f kj16 bt514.1 bt518.1).bind fun t522 => (laws_FnHolds.j2 kj16 l0 t510 t511 bt514.1 (!t522)))))) = some r:=H
       have A34:=Aside0.mk A340
       clear A340
       replace H:=Option.bind_eq_some_iff.mp H
       obtain ⟨⟨t514,t515⟩,A350,H⟩ := H
       replace H : ((spec_HeldContainers.f kj16 t510 t511).bind fun bt518 => (if (t515 != bt518.2) = true then (laws_FnHolds.j2 kj16 l0 t510 t511 t514 true) else ((laws_rTexts.f kj16 t514 bt518.1).bind fun t522 => (laws_FnHolds.j2 kj16 l0 t510 t511 t514 (!t522))))) = some r:=H
       have A35:=Aside0.mk A350
       clear A350
       replace H:=Option.bind_eq_some_iff.mp H
       obtain ⟨⟨t518,t519⟩,A360,H⟩ := H
       replace H : (if (t515 != t519) = true then (laws_FnHolds.j2 kj16 l0 t510 t511 t514 true) else ((laws_rTexts.f kj16 t514 t518).bind fun t522 => (laws_FnHolds.j2 kj16 l0 t510 t511 t514 (!t522)))) = some r:=H
       have A36:=Aside0.mk A360
       clear A360
       have HC37:=Aside0.mk H
       clear H
       go_upto_region 15 with (first | ((with_reducible refine gate_callee (f:=12) rfl ?_);refine goesL_ (some 86) rfl rfl Try.func12 (by kernel_rfl) rfl #[.slice A0 l0.length c0] rfl (by (try simp only [List.map_toArray,List.map_cons,List.map_nil]);rfl) ?_;(with_reducible refine (spec_DrawHeldContainers.calls kj16 _ _ l0 t510 t511 _ ?side1 ?side2 A34.out).mono ?_);(case side1 => repeat (exact (Kd.C_below HR0.out HB.out)));(case side2 => exact HC0.out);rintro e w38 ⟨v512,rfl,ho0,hb⟩;refine ⟨_,rfl, ?_⟩;have n0_:=Aside0.mk (Kd.Q_lower ho0 (below_size (by exact HB.out)));have n1_:=Aside0.mk (below_step (by exact HB.out) hb);clear HB;have HO513:=n0_;have HB:=n1_;clear n0_ n1_;(try clear hb);(try clear ho0);obtain ⟨Ao39,co39,eo39,_⟩ := Kd.Q_slice HO513.out;subst eo39) | ((with_reducible refine gate_callee (f:=13) rfl ?_);refine goesL_ (some 92) rfl rfl Try.func13 (by kernel_rfl) rfl #[.slice Ao39 t510.length co39, .int .i64 t511] rfl (by (try simp only [List.map_toArray,List.map_cons,List.map_nil]);rfl) ?_;(with_reducible refine (impl_HeldContainers.calls kj16 _ _ t510 t511 t514 t515 _ ?side1 ?side2 A35.out).mono ?_);(case side1 => repeat (exact (Kd.Q_reads' HO513.out).2.2));(case side2 => exact (Kd.Q_reads' HO513.out).2.1);rintro e w40 ⟨v516,rfl,ho0,hb⟩;refine ⟨_,rfl, ?_⟩;have n0_:=Aside0.mk (Kd.Q_below (by exact HO513.out) hb);have n1_:=Aside0.mk (Kd.R_lower ho0 (below_size (by exact HB.out)));have n2_:=Aside0.mk (below_step (by exact HB.out) hb);clear HO513;clear HB;have HO513:=n0_;have HO517:=n1_;have HB:=n2_;clear n0_ n1_ n2_;(try clear hb);(try clear ho0)) | ((with_reducible refine gate_callee (f:=14) rfl ?_);refine goesL_ (some 98) rfl rfl Try.func14 (by kernel_rfl) rfl #[.slice Ao39 t510.length co39, .int .i64 t511] rfl (by (try simp only [List.map_toArray,List.map_cons,List.map_nil]);rfl) ?_;(with_reducible refine (spec_HeldContainers.calls kj16 _ _ t510 t511 t518 t519 _ ?side1 ?side2 A36.out).mono ?_);(case side1 => repeat (exact (Kd.Q_reads' HO513.out).2.2));(case side2 => exact (Kd.Q_reads' HO513.out).2.1);rintro e w41 ⟨v520,rfl,ho0,hb⟩;refine ⟨_,rfl, ?_⟩;have n0_:=Aside0.mk (Kd.Q_below (by exact HO513.out) hb);have n1_:=Aside0.mk (Kd.R_elder' (by exact HO517.out) (Kd.R_base ho0) hb);have n2_:=Aside0.mk (Kd.R_lower (Kd.R_new' ho0 (Kd.R_lt (by exact HO517.out))) (below_size (by exact HB.out)));have n3_:=Aside0.mk (below_step (by exact HB.out) hb);clear HO513;clear HO517;clear HB;have HO513:=n0_;have HO517:=n1_;have HO521:=n2_;have HB:=n3_;clear n0_ n1_ n2_ n3_;(try clear hb);(try clear ho0)))
       (skip)
       go_cut [109] (fun v109 wc => ∃ (kq : Nat) (x109_36 : Bool),v109 = .bool x109_36 ∧ Aside0 (laws_FnHolds.j2 kq l0 t510 t511 t514 x109_36 = some r) ∧ Aside0 (kq ≤ kj16) ∧ Aside0 (Kd.Q k52 52 wc w.heap.size (fun _ => True) (.slice Ao39 t510.length co39) t510) ∧ Aside0 (Kd.R Kd.string 9 wc w.heap.size (fun _ => True) v516 t514) ∧ Aside0 (Below w.heap.size w wc))
       case first =>
        have H:=HC37.out
        clear HC37
        by_cases c42 : (t515 != t519) = true
        ·rw [if_pos c42] at H
         have c42b0 : (t515 != t519) = true:=c42
         (try (have c42b1 : decide (t515 = t519) = false:=by simpa using c42))
         (try (have c42b2 : (t515 == t519) = false:=by simpa using c42))
         (try (have c42b3 : ¬ (t515 = t519):=by simpa using c42))
         clear c42
         (skip)
         have H':=Aside0.mk H
         clear H
         go_wp2
         go_meet
         case rel => exact ⟨_,(true),(by rfl),H',⟨by have:=HJ6.out;have:=HJ16.out;omega⟩,⟨by exact HO513.out⟩,⟨by exact Kd.R_mono HO517.out (fun _ hk => trivial)⟩,⟨by exact HB.out⟩⟩
        ·rw [if_neg c42] at H
         have c42b0 : (t515 != t519) = false:=by simpa using c42
         (try (have c42b1 : decide (t515 = t519) = true:=by simpa using c42))
         (try (have c42b2 : (t515 == t519) = true:=by simpa using c42))
         clear c42
         (skip)
         replace H:=Option.bind_eq_some_iff.mp H
         obtain ⟨t522,A430,H⟩ := H
         replace H : (laws_FnHolds.j2 kj16 l0 t510 t511 t514 (!t522)) = some r:=H
         have A43:=Aside0.mk A430
         clear A430
         have H':=Aside0.mk H
         clear H
         obtain ⟨Ao44,co44,eo44⟩ := Kd.R_slice HO517.out
         subst eo44
         obtain ⟨Ao45,co45,eo45⟩ := Kd.R_slice HO521.out
         subst eo45
         go_wp2_with ((go_at_call 15;(with_reducible refine (laws_rTexts.calls kj16 _ _ t514 _ _ t518 t522 _ ?side1 ?side2 ?side3 ?side4 A43.out).mono ?_);(case side1 => repeat (exact (Kd.R_reads' HO517.out).2.2));(case side2 => exact (Kd.R_reads' HO517.out).2.1);(case side3 => repeat (exact (Kd.R_reads' HO521.out).2.2));(case side4 => exact (Kd.R_reads' HO521.out).2.1);rintro e w' ⟨rfl,⟨nd,rfl⟩⟩))
         go_meet
         case rel => exact ⟨_,(!t522),(by rfl),H',⟨by have:=HJ6.out;have:=HJ16.out;omega⟩,⟨by (with_reducible repeat (apply Kd.Q_drewN));exact HO513.out⟩,⟨by (with_reducible repeat (apply Kd.R_drewN));exact Kd.R_mono HO517.out (fun _ hk => trivial)⟩,⟨by repeat ((with_reducible first | exact HB.out | apply pw_below_drewN))⟩⟩
       case rest => as_aux_lemma =>
        clear HC37
        try clear c1
        try clear c2
        try clear p2
        try clear c3
        try clear c4
        try clear c5
        try clear c6
        try clear c7
        try clear c8
        try clear c10
        try clear c12
        try clear c12b0
        try clear c12b1
        try clear c12b2
        try clear c13
        try clear c14
        try clear c16
        try clear c18
        try clear c20
        try clear c21
        try clear c21b0
        try clear c21b1
        try clear c23
        try clear c42
        try clear c42b0
        try clear c42b1
        try clear c42b2
        try clear p2
        obtain ⟨kq,x109_36,rfl,HA,HJ36,HO_12,HO_14,HB⟩ := hcut
        cases kq with
        | zero => exact absurd HA.out (by simp [laws_FnHolds.j2])
        | succ kj36 =>
         have H:=HA.out
         clear HA
         simp only [laws_FnHolds.j2] at H
         by_cases c46 : x109_36 = true
         ·subst c46
          have H1 : (some false) = some r:=by rw [if_pos rfl] at H;exact H
          clear H
          have H:=H1
          clear H1
          obtain rfl:=Option.some.inj H
          as_aux_lemma =>
           go_wp2
           go_ret
           exact ⟨by rfl,by exact HB.out⟩
         ·replace c46:=Bool.eq_false_iff.mpr c46
          subst c46
          have H1 : (laws_FnHolds.l0 kj36 l0 t510 t511 t514 0) = some r:=by rw [if_neg (show ¬ (false = true) by decide)] at H;exact H
          clear H
          have H:=H1
          clear H1
          have H':=Aside0.mk H
          clear H
          go_wp2
          (skip)
          go_loopg [18] kj36 (fun kq v18 w' => ∃ (x18_4 : Int),v18 = .int .i64 x18_4 ∧ Aside0 (laws_FnHolds.l0 kq l0 t510 t511 t514 x18_4 = some r) ∧ Aside0 (kq ≤ kj36) ∧ Aside0 (Kd.Q k52 52 w' w.heap.size (fun _ => True) (.slice Ao39 t510.length co39) t510) ∧ Aside0 (Kd.R Kd.string 9 w' w.heap.size (fun _ => True) v516 t514) ∧ Aside0 (Below w.heap.size w w'))
          case atStart => exact ⟨(0),(by rfl),H',⟨Nat.le_refl _⟩,⟨by exact HO_12.out⟩,⟨by exact HO_14.out⟩,⟨by exact HB.out⟩⟩
          case round =>
           clear H'
           try clear c1
           try clear c2
           try clear p2
           try clear c3
           try clear c4
           try clear c5
           try clear c6
           try clear c7
           try clear c8
           try clear c10
           try clear c12
           try clear c12b0
           try clear c12b1
           try clear c12b2
           try clear c13
           try clear c14
           try clear c16
           try clear c18
           try clear c20
           try clear c21
           try clear c21b0
           try clear c21b1
           try clear c23
           try clear c42
           try clear c42b0
           try clear c42b1
           try clear c42b2
           try clear c46
           try clear p2
           obtain ⟨x18_4,rfl,HA,HK4,HO_12,HO_14,HB⟩ := hrel
           cases gk with
           | zero => exact absurd HA.out (by simp [laws_FnHolds.l0])
           | succ k4 =>
            have H:=HA.out
            clear HA
            simp only [laws_FnHolds.l0] at H
            by_cases c47 : x18_4 < (t514.length : Int)
            ·rw [if_pos c47] at H
             have c47b0 : decide (x18_4 < (t514.length : Int)) = true:=decide_eq_true c47
             clear c47
             by_cases c48 : 0 ≤ x18_4
             ·rw [if_pos c48] at H
              have c48b0 : decide (0 ≤ x18_4) = true:=decide_eq_true c48
              clear c48
              replace H:=Option.bind_eq_some_iff.mp H
              obtain ⟨⟨t524,t525⟩,A490,H⟩ := H
              replace H : ((impl_HoldNames.f k4 t524).bind fun bt526 => (if t525 = true then (if t524 = 0 then (some false) else (if bt526.2 = true then (if bt526.1.toList = ([110,111,110,101] : List UInt8) then (some false) else (laws_FnHolds.l0 k4 l0 t510 t511 t514 (wrap64 (x18_4 + 1)))) else (some false))) else (some false))) = some r:=H
              have A49:=Aside0.mk A490
              clear A490
              replace H:=Option.bind_eq_some_iff.mp H
              obtain ⟨⟨t526,t527⟩,A500,H⟩ := H
              replace H : (if t525 = true then (if t524 = 0 then (some false) else (if t527 = true then (if t526.toList = ([110,111,110,101] : List UInt8) then (some false) else (laws_FnHolds.l0 k4 l0 t510 t511 t514 (wrap64 (x18_4 + 1)))) else (some false))) else (some false)) = some r:=H
              have A50:=Aside0.mk A500
              clear A500
              by_cases c51 : t525 = true
              ·subst c51
               have H1 : (if t524 = 0 then (some false) else (if t527 = true then (if t526.toList = ([110,111,110,101] : List UInt8) then (some false) else (laws_FnHolds.l0 k4 l0 t510 t511 t514 (wrap64 (x18_4 + 1)))) else (some false))) = some r:=by rw [if_pos rfl] at H;exact H
               clear H
               have H:=H1
               clear H1
               by_cases c52 : t524 = 0
               ·rw [if_pos c52] at H
                have c52b0 : (t524 == 0) = true:=beq_iff_eq.mpr c52
                have c52b1 : (t524 != 0) = false:=bne_eq_false_iff_eq.mpr c52
                clear c52
                obtain rfl:=Option.some.inj H
                obtain ⟨Ao53,co53,eo53⟩ := Kd.R_slice HO_14.out
                subst eo53
                have p523 : 0 ≤ (x18_4 : Int):=of_decide_eq_true (by (with_reducible assumption))
                have q523 : x18_4 < (t514.length : Int):=of_decide_eq_true (by (with_reducible assumption))
                obtain ⟨ad523,e523,hx523_0⟩ := Kd.at_string (Kd.R_reads' HO_14.out).2.2 x18_4 p523 q523
                cases e523
                replace p523:=eq_true p523
                replace q523:=eq_true q523
                as_aux_lemma =>
                 go_wp2_with (first | ((with_reducible refine gate_callee (f:=10) rfl ?_);refine goesL_ (some 123) rfl rfl Try.func10 (by kernel_rfl) rfl #[.slice Ao39 t510.length co39, .string (rdOf ByteArray.empty t514 x18_4), .int .i64 t511] rfl (by (try simp only [List.map_toArray,List.map_cons,List.map_nil]);rfl) ?_;(with_reducible refine (impl_HoldsOn.calls k4 _ _ t510 (rdOf ByteArray.empty t514 x18_4) t511 t524 true _ ?side1 ?side2 A49.out).mono ?_);(case side1 => repeat (exact (Kd.Q_reads' HO_12.out).2.2));(case side2 => exact (Kd.Q_reads' HO_12.out).2.1);rintro e w54 ⟨rfl,hb⟩;refine ⟨_,rfl, ?_⟩;have n0_:=Aside0.mk (Kd.Q_below (by exact HO_12.out) hb);have n1_:=Aside0.mk (Kd.R_below (by exact HO_14.out) hb);have n2_:=Aside0.mk (below_step (by exact HB.out) hb);clear HO_12;clear HO_14;clear HB;have HO_12:=n0_;have HO_14:=n1_;have HB:=n2_;clear n0_ n1_ n2_;(try clear hb)) | ((with_reducible refine gate_callee (f:=16) rfl ?_);refine goesL_ (some 128) rfl rfl Try.func16 (by kernel_rfl) rfl #[.int .i64 t524] rfl (by (try simp only [List.map_toArray,List.map_cons,List.map_nil]);rfl) ?_;(with_reducible refine (impl_HoldNames.calls k4 t524 t526 t527 _ A50.out).mono ?_);rintro e w55 ⟨rfl,hb⟩;refine ⟨_,rfl, ?_⟩;have n0_:=Aside0.mk (Kd.Q_below (by exact HO_12.out) hb);have n1_:=Aside0.mk (Kd.R_below (by exact HO_14.out) hb);have n2_:=Aside0.mk (below_step (by exact HB.out) hb);clear HO_12;clear HO_14;clear HB;have HO_12:=n0_;have HO_14:=n1_;have HB:=n2_;clear n0_ n1_ n2_;(try clear hb)))
                 go_ret
                 exact ⟨by rfl,by exact HB.out⟩
               ·rw [if_neg c52] at H
                have c52b0 : (t524 == 0) = false:=beq_eq_false_iff_ne.mpr c52
                have c52b1 : (t524 != 0) = true:=bne_iff_ne.mpr c52
                by_cases c56 : t527 = true
                ·subst c56
                 have H1 : (if t526.toList = ([110,111,110,101] : List UInt8) then (some false) else (laws_FnHolds.l0 k4 l0 t510 t511 t514 (wrap64 (x18_4 + 1)))) = some r:=by rw [if_pos rfl] at H;exact H
                 clear H
                 have H:=H1
                 clear H1
                 by_cases c57 : t526.toList = ([110,111,110,101] : List UInt8)
                 ·rw [if_pos c57] at H
                  have c57b0 : (t526.toList == ([110,111,110,101] : List UInt8)) = true:=beq_iff_eq.mpr c57
                  have c57b1 : (t526.toList != ([110,111,110,101] : List UInt8)) = false:=bne_eq_false_iff_eq.mpr c57
                  clear c57
                  obtain rfl:=Option.some.inj H
                  obtain ⟨Ao58,co58,eo58⟩ := Kd.R_slice HO_14.out
                  subst eo58
                  have p523 : 0 ≤ (x18_4 : Int):=of_decide_eq_true (by (with_reducible assumption))
                  have q523 : x18_4 < (t514.length : Int):=of_decide_eq_true (by (with_reducible assumption))
                  obtain ⟨ad523,e523,hx523_0⟩ := Kd.at_string (Kd.R_reads' HO_14.out).2.2 x18_4 p523 q523
                  cases e523
                  replace p523:=eq_true p523
                  replace q523:=eq_true q523
                  as_aux_lemma =>
                   go_wp2_with (first | ((with_reducible refine gate_callee (f:=10) rfl ?_);refine goesL_ (some 123) rfl rfl Try.func10 (by kernel_rfl) rfl #[.slice Ao39 t510.length co39, .string (rdOf ByteArray.empty t514 x18_4), .int .i64 t511] rfl (by (try simp only [List.map_toArray,List.map_cons,List.map_nil]);rfl) ?_;(with_reducible refine (impl_HoldsOn.calls k4 _ _ t510 (rdOf ByteArray.empty t514 x18_4) t511 t524 true _ ?side1 ?side2 A49.out).mono ?_);(case side1 => repeat (exact (Kd.Q_reads' HO_12.out).2.2));(case side2 => exact (Kd.Q_reads' HO_12.out).2.1);rintro e w59 ⟨rfl,hb⟩;refine ⟨_,rfl, ?_⟩;have n0_:=Aside0.mk (Kd.Q_below (by exact HO_12.out) hb);have n1_:=Aside0.mk (Kd.R_below (by exact HO_14.out) hb);have n2_:=Aside0.mk (below_step (by exact HB.out) hb);clear HO_12;clear HO_14;clear HB;have HO_12:=n0_;have HO_14:=n1_;have HB:=n2_;clear n0_ n1_ n2_;(try clear hb)) | ((with_reducible refine gate_callee (f:=16) rfl ?_);refine goesL_ (some 128) rfl rfl Try.func16 (by kernel_rfl) rfl #[.int .i64 t524] rfl (by (try simp only [List.map_toArray,List.map_cons,List.map_nil]);rfl) ?_;(with_reducible refine (impl_HoldNames.calls k4 t524 t526 true _ A50.out).mono ?_);rintro e w60 ⟨rfl,hb⟩;refine ⟨_,rfl, ?_⟩;have n0_:=Aside0.mk (Kd.Q_below (by exact HO_12.out) hb);have n1_:=Aside0.mk (Kd.R_below (by exact HO_14.out) hb);have n2_:=Aside0.mk (below_step (by exact HB.out) hb);clear HO_12;clear HO_14;clear HB;have HO_12:=n0_;have HO_14:=n1_;have HB:=n2_;clear n0_ n1_ n2_;(try clear hb)))
                   go_ret
                   exact ⟨by rfl,by exact HB.out⟩
                 ·rw [if_neg c57] at H
                  have c57b0 : (t526.toList == ([110,111,110,101] : List UInt8)) = false:=beq_eq_false_iff_ne.mpr c57
                  have c57b1 : (t526.toList != ([110,111,110,101] : List UInt8)) = true:=bne_iff_ne.mpr c57
                  have H':=Aside0.mk H
                  clear H
                  obtain ⟨Ao61,co61,eo61⟩ := Kd.R_slice HO_14.out
                  subst eo61
                  have p523 : 0 ≤ (x18_4 : Int):=of_decide_eq_true (by (with_reducible assumption))
                  have q523 : x18_4 < (t514.length : Int):=of_decide_eq_true (by (with_reducible assumption))
                  obtain ⟨ad523,e523,hx523_0⟩ := Kd.at_string (Kd.R_reads' HO_14.out).2.2 x18_4 p523 q523
                  cases e523
                  replace p523:=eq_true p523
                  replace q523:=eq_true q523
                  go_wp2_with (first | ((with_reducible refine gate_callee (f:=10) rfl ?_);refine goesL_ (some 123) rfl rfl Try.func10 (by kernel_rfl) rfl #[.slice Ao39 t510.length co39, .string (rdOf ByteArray.empty t514 x18_4), .int .i64 t511] rfl (by (try simp only [List.map_toArray,List.map_cons,List.map_nil]);rfl) ?_;(with_reducible refine (impl_HoldsOn.calls k4 _ _ t510 (rdOf ByteArray.empty t514 x18_4) t511 t524 true _ ?side1 ?side2 A49.out).mono ?_);(case side1 => repeat (exact (Kd.Q_reads' HO_12.out).2.2));(case side2 => exact (Kd.Q_reads' HO_12.out).2.1);rintro e w62 ⟨rfl,hb⟩;refine ⟨_,rfl, ?_⟩;have n0_:=Aside0.mk (Kd.Q_below (by exact HO_12.out) hb);have n1_:=Aside0.mk (Kd.R_below (by exact HO_14.out) hb);have n2_:=Aside0.mk (below_step (by exact HB.out) hb);clear HO_12;clear HO_14;clear HB;have HO_12:=n0_;have HO_14:=n1_;have HB:=n2_;clear n0_ n1_ n2_;(try clear hb)) | ((with_reducible refine gate_callee (f:=16) rfl ?_);refine goesL_ (some 128) rfl rfl Try.func16 (by kernel_rfl) rfl #[.int .i64 t524] rfl (by (try simp only [List.map_toArray,List.map_cons,List.map_nil]);rfl) ?_;(with_reducible refine (impl_HoldNames.calls k4 t524 t526 true _ A50.out).mono ?_);rintro e w63 ⟨rfl,hb⟩;refine ⟨_,rfl, ?_⟩;have n0_:=Aside0.mk (Kd.Q_below (by exact HO_12.out) hb);have n1_:=Aside0.mk (Kd.R_below (by exact HO_14.out) hb);have n2_:=Aside0.mk (below_step (by exact HB.out) hb);clear HO_12;clear HO_14;clear HB;have HO_12:=n0_;have HO_14:=n1_;have HB:=n2_;clear n0_ n1_ n2_;(try clear hb)))
                  go_roundg k4
                  case measure => have:=HJ6.out;have:=HJ16.out;have:=HJ36.out;have:=HK4.out;omega
                  case rel => exact ⟨(wrap64 (x18_4 + 1)),(by rfl),H',⟨by have:=HJ6.out;have:=HJ16.out;have:=HJ36.out;have:=HK4.out;omega⟩,⟨by exact HO_12.out⟩,⟨by exact HO_14.out⟩,⟨by exact HB.out⟩⟩
                ·replace c56:=Bool.eq_false_iff.mpr c56
                 subst c56
                 have H1 : (some false) = some r:=by rw [if_neg (show ¬ (false = true) by decide)] at H;exact H
                 clear H
                 have H:=H1
                 clear H1
                 obtain rfl:=Option.some.inj H
                 obtain ⟨Ao64,co64,eo64⟩ := Kd.R_slice HO_14.out
                 subst eo64
                 have p523 : 0 ≤ (x18_4 : Int):=of_decide_eq_true (by (with_reducible assumption))
                 have q523 : x18_4 < (t514.length : Int):=of_decide_eq_true (by (with_reducible assumption))
                 obtain ⟨ad523,e523,hx523_0⟩ := Kd.at_string (Kd.R_reads' HO_14.out).2.2 x18_4 p523 q523
                 cases e523
                 replace p523:=eq_true p523
                 replace q523:=eq_true q523
                 as_aux_lemma =>
                  go_wp2_with (first | ((with_reducible refine gate_callee (f:=10) rfl ?_);refine goesL_ (some 123) rfl rfl Try.func10 (by kernel_rfl) rfl #[.slice Ao39 t510.length co39, .string (rdOf ByteArray.empty t514 x18_4), .int .i64 t511] rfl (by (try simp only [List.map_toArray,List.map_cons,List.map_nil]);rfl) ?_;(with_reducible refine (impl_HoldsOn.calls k4 _ _ t510 (rdOf ByteArray.empty t514 x18_4) t511 t524 true _ ?side1 ?side2 A49.out).mono ?_);(case side1 => repeat (exact (Kd.Q_reads' HO_12.out).2.2));(case side2 => exact (Kd.Q_reads' HO_12.out).2.1);rintro e w65 ⟨rfl,hb⟩;refine ⟨_,rfl, ?_⟩;have n0_:=Aside0.mk (Kd.Q_below (by exact HO_12.out) hb);have n1_:=Aside0.mk (Kd.R_below (by exact HO_14.out) hb);have n2_:=Aside0.mk (below_step (by exact HB.out) hb);clear HO_12;clear HO_14;clear HB;have HO_12:=n0_;have HO_14:=n1_;have HB:=n2_;clear n0_ n1_ n2_;(try clear hb)) | ((with_reducible refine gate_callee (f:=16) rfl ?_);refine goesL_ (some 128) rfl rfl Try.func16 (by kernel_rfl) rfl #[.int .i64 t524] rfl (by (try simp only [List.map_toArray,List.map_cons,List.map_nil]);rfl) ?_;(with_reducible refine (impl_HoldNames.calls k4 t524 t526 false _ A50.out).mono ?_);rintro e w66 ⟨rfl,hb⟩;refine ⟨_,rfl, ?_⟩;have n0_:=Aside0.mk (Kd.Q_below (by exact HO_12.out) hb);have n1_:=Aside0.mk (Kd.R_below (by exact HO_14.out) hb);have n2_:=Aside0.mk (below_step (by exact HB.out) hb);clear HO_12;clear HO_14;clear HB;have HO_12:=n0_;have HO_14:=n1_;have HB:=n2_;clear n0_ n1_ n2_;(try clear hb)))
                  go_ret
                  exact ⟨by rfl,by exact HB.out⟩
              ·replace c51:=Bool.eq_false_iff.mpr c51
               subst c51
               have H1 : (some false) = some r:=by rw [if_neg (show ¬ (false = true) by decide)] at H;exact H
               clear H
               have H:=H1
               clear H1
               obtain rfl:=Option.some.inj H
               obtain ⟨Ao67,co67,eo67⟩ := Kd.R_slice HO_14.out
               subst eo67
               have p523 : 0 ≤ (x18_4 : Int):=of_decide_eq_true (by (with_reducible assumption))
               have q523 : x18_4 < (t514.length : Int):=of_decide_eq_true (by (with_reducible assumption))
               obtain ⟨ad523,e523,hx523_0⟩ := Kd.at_string (Kd.R_reads' HO_14.out).2.2 x18_4 p523 q523
               cases e523
               replace p523:=eq_true p523
               replace q523:=eq_true q523
               as_aux_lemma =>
                go_wp2_with (first | ((with_reducible refine gate_callee (f:=10) rfl ?_);refine goesL_ (some 123) rfl rfl Try.func10 (by kernel_rfl) rfl #[.slice Ao39 t510.length co39, .string (rdOf ByteArray.empty t514 x18_4), .int .i64 t511] rfl (by (try simp only [List.map_toArray,List.map_cons,List.map_nil]);rfl) ?_;(with_reducible refine (impl_HoldsOn.calls k4 _ _ t510 (rdOf ByteArray.empty t514 x18_4) t511 t524 false _ ?side1 ?side2 A49.out).mono ?_);(case side1 => repeat (exact (Kd.Q_reads' HO_12.out).2.2));(case side2 => exact (Kd.Q_reads' HO_12.out).2.1);rintro e w68 ⟨rfl,hb⟩;refine ⟨_,rfl, ?_⟩;have n0_:=Aside0.mk (Kd.Q_below (by exact HO_12.out) hb);have n1_:=Aside0.mk (Kd.R_below (by exact HO_14.out) hb);have n2_:=Aside0.mk (below_step (by exact HB.out) hb);clear HO_12;clear HO_14;clear HB;have HO_12:=n0_;have HO_14:=n1_;have HB:=n2_;clear n0_ n1_ n2_;(try clear hb)) | ((with_reducible refine gate_callee (f:=16) rfl ?_);refine goesL_ (some 128) rfl rfl Try.func16 (by kernel_rfl) rfl #[.int .i64 t524] rfl (by (try simp only [List.map_toArray,List.map_cons,List.map_nil]);rfl) ?_;(with_reducible refine (impl_HoldNames.calls k4 t524 t526 t527 _ A50.out).mono ?_);rintro e w69 ⟨rfl,hb⟩;refine ⟨_,rfl, ?_⟩;have n0_:=Aside0.mk (Kd.Q_below (by exact HO_12.out) hb);have n1_:=Aside0.mk (Kd.R_below (by exact HO_14.out) hb);have n2_:=Aside0.mk (below_step (by exact HB.out) hb);clear HO_12;clear HO_14;clear HB;have HO_12:=n0_;have HO_14:=n1_;have HB:=n2_;clear n0_ n1_ n2_;(try clear hb)))
                go_ret
                exact ⟨by rfl,by exact HB.out⟩
             ·rw [if_neg c48] at H
              exact absurd H (by simp)
            ·rw [if_neg c47] at H
             have c47b0 : decide (x18_4 < (t514.length : Int)) = false:=decide_eq_false c47
             clear c47
             replace H:=Option.bind_eq_some_iff.mp H
             obtain ⟨⟨t528,t529,t530⟩,A700,H⟩ := H
             replace H : ((impl_HoldsOn.f k4 t528 t529 t530).bind fun bt533 => ((spec_HoldsOn.f k4 t528 t529 t530).bind fun bt535 => ((spec_DrawHoldNames.f l0).bind fun t537 => ((impl_HoldNames.f k4 t537).bind fun bt538 => ((spec_HoldNames.f k4 t537).bind fun bt540 => (if bt533.1 = bt535.1 then (if (bt533.2 == bt535.2) = true then (if bt538.1.toList = bt540.1.toList then (some (bt538.2 == bt540.2)) else (some false)) else (some false)) else (some false))))))) = some r:=H
             have A70:=Aside0.mk A700
             clear A700
             replace H:=Option.bind_eq_some_iff.mp H
             obtain ⟨⟨t533,t534⟩,A710,H⟩ := H
             replace H : ((spec_HoldsOn.f k4 t528 t529 t530).bind fun bt535 => ((spec_DrawHoldNames.f l0).bind fun t537 => ((impl_HoldNames.f k4 t537).bind fun bt538 => ((spec_HoldNames.f k4 t537).bind fun bt540 => (if t533 = bt535.1 then (if (t534 == bt535.2) = true then (if bt538.1.toList = bt540.1.toList then (some (bt538.2 == bt540.2)) else (some false)) else (some false)) else (some false)))))) = some r:=H
             have A71:=Aside0.mk A710
             clear A710
             replace H:=Option.bind_eq_some_iff.mp H
             obtain ⟨⟨t535,t536⟩,A720,H⟩ := H
             replace H : ((spec_DrawHoldNames.f l0).bind fun t537 => ((impl_HoldNames.f k4 t537).bind fun bt538 => ((spec_HoldNames.f k4 t537).bind fun bt540 => (if t533 = t535 then (if (t534 == t536) = true then (if bt538.1.toList = bt540.1.toList then (some (bt538.2 == bt540.2)) else (some false)) else (some false)) else (some false))))) = some r:=H
             have A72:=Aside0.mk A720
             clear A720
             replace H:=Option.bind_eq_some_iff.mp H
             obtain ⟨t537,A730,H⟩ := H
             replace H : ((impl_HoldNames.f k4 t537).bind fun bt538 => ((spec_HoldNames.f k4 t537).bind fun bt540 => (if t533 = t535 then (if (t534 == t536) = true then (if bt538.1.toList = bt540.1.toList then (some (bt538.2 == bt540.2)) else (some false)) else (some false)) else (some false)))) = some r:=H
             have A73:=Aside0.mk A730
             clear A730
             replace H:=Option.bind_eq_some_iff.mp H
             obtain ⟨⟨t538,t539⟩,A740,H⟩ := H
             replace H : ((spec_HoldNames.f k4 t537).bind fun bt540 => (if t533 = t535 then (if (t534 == t536) = true then (if t538.toList = bt540.1.toList then (some (t539 == bt540.2)) else (some false)) else (some false)) else (some false))) = some r:=H
             have A74:=Aside0.mk A740
             clear A740
             replace H:=Option.bind_eq_some_iff.mp H
             obtain ⟨⟨t540,t541⟩,A750,H⟩ := H
             replace H : (if t533 = t535 then (if (t534 == t536) = true then (if t538.toList = t540.toList then (some (t539 == t541)) else (some false)) else (some false)) else (some false)) = some r:=H
             have A75:=Aside0.mk A750
             clear A750
             by_cases c76 : t533 = t535
             ·rw [if_pos c76] at H
              have c76b0 : (t533 == t535) = true:=beq_iff_eq.mpr c76
              have c76b1 : (t533 != t535) = false:=bne_eq_false_iff_eq.mpr c76
              clear c76
              by_cases c77 : (t534 == t536) = true
              ·rw [if_pos c77] at H
               have c77b0 : (t534 == t536) = true:=c77
               (try (have c77b1 : decide (t534 = t536) = true:=by simpa using c77))
               (try (have c77b2 : (t534 == t536) = true:=by simpa using c77))
               clear c77
               by_cases c78 : t538.toList = t540.toList
               ·rw [if_pos c78] at H
                have c78b0 : (t538.toList == t540.toList) = true:=beq_iff_eq.mpr c78
                have c78b1 : (t538.toList != t540.toList) = false:=bne_eq_false_iff_eq.mpr c78
                clear c78
                obtain rfl:=Option.some.inj H
                obtain ⟨Ao79,co79,eo79⟩ := Kd.R_slice HO_14.out
                subst eo79
                as_aux_lemma =>
                 go_wp2_with (first | ((with_reducible refine gate_callee (f:=17) rfl ?_);refine goesL_ (some 147) rfl rfl Try.func17 (by kernel_rfl) rfl #[.slice A0 l0.length c0] rfl (by (try simp only [List.map_toArray,List.map_cons,List.map_nil]);rfl) ?_;(with_reducible refine (spec_DrawHoldsOn.calls k4 _ _ l0 t528 t529 t530 _ ?side1 ?side2 A70.out).mono ?_);(case side1 => repeat (exact (Kd.C_below HR0.out HB.out)));(case side2 => exact HC0.out);rintro e w80 ⟨v531,rfl,ho0,hb⟩;refine ⟨_,rfl, ?_⟩;have n0_:=Aside0.mk (Kd.Q_elder' (by exact HO_12.out) (Kd.Q_base ho0) hb);have n1_:=Aside0.mk (Kd.R_below (by exact HO_14.out) hb);have n2_:=Aside0.mk (Kd.Q_lower (Kd.Q_new' ho0 (Kd.Q_lt (by exact HO_12.out))) (below_size (by exact HB.out)));have n3_:=Aside0.mk (below_step (by exact HB.out) hb);clear HO_12;clear HO_14;clear HB;have HO_12:=n0_;have HO_14:=n1_;have HO532:=n2_;have HB:=n3_;clear n0_ n1_ n2_ n3_;(try clear hb);(try clear ho0);obtain ⟨Ao81,co81,eo81,_⟩ := Kd.Q_slice HO532.out;subst eo81) | ((with_reducible refine gate_callee (f:=10) rfl ?_);refine goesL_ (some 155) rfl rfl Try.func10 (by kernel_rfl) rfl #[.slice Ao81 t528.length co81, .string t529, .int .i64 t530] rfl (by (try simp only [List.map_toArray,List.map_cons,List.map_nil]);rfl) ?_;(with_reducible refine (impl_HoldsOn.calls k4 _ _ t528 t529 t530 t533 t534 _ ?side1 ?side2 A71.out).mono ?_);(case side1 => repeat (exact (Kd.Q_reads' HO532.out).2.2));(case side2 => exact (Kd.Q_reads' HO532.out).2.1);rintro e w82 ⟨rfl,hb⟩;refine ⟨_,rfl, ?_⟩;have n0_:=Aside0.mk (Kd.Q_below (by exact HO_12.out) hb);have n1_:=Aside0.mk (Kd.R_below (by exact HO_14.out) hb);have n2_:=Aside0.mk (Kd.Q_below (by exact HO532.out) hb);have n3_:=Aside0.mk (below_step (by exact HB.out) hb);clear HO_12;clear HO_14;clear HO532;clear HB;have HO_12:=n0_;have HO_14:=n1_;have HO532:=n2_;have HB:=n3_;clear n0_ n1_ n2_ n3_;(try clear hb)) | ((with_reducible refine gate_callee (f:=18) rfl ?_);refine goesL_ (some 162) rfl rfl Try.func18 (by kernel_rfl) rfl #[.slice Ao81 t528.length co81, .string t529, .int .i64 t530] rfl (by (try simp only [List.map_toArray,List.map_cons,List.map_nil]);rfl) ?_;(with_reducible refine (spec_HoldsOn.calls k4 _ _ t528 t529 t530 t535 t536 _ ?side1 ?side2 A72.out).mono ?_);(case side1 => repeat (exact (Kd.Q_reads' HO532.out).2.2));(case side2 => exact (Kd.Q_reads' HO532.out).2.1);rintro e w83 ⟨rfl,hb⟩;refine ⟨_,rfl, ?_⟩;have n0_:=Aside0.mk (Kd.Q_below (by exact HO_12.out) hb);have n1_:=Aside0.mk (Kd.R_below (by exact HO_14.out) hb);have n2_:=Aside0.mk (Kd.Q_below (by exact HO532.out) hb);have n3_:=Aside0.mk (below_step (by exact HB.out) hb);clear HO_12;clear HO_14;clear HO532;clear HB;have HO_12:=n0_;have HO_14:=n1_;have HO532:=n2_;have HB:=n3_;clear n0_ n1_ n2_ n3_;(try clear hb)) | ((with_reducible refine gate_callee (f:=19) rfl ?_);refine goesL_ (some 166) rfl rfl Try.func19 (by kernel_rfl) rfl #[.slice A0 l0.length c0] rfl (by (try simp only [List.map_toArray,List.map_cons,List.map_nil]);rfl) ?_;(with_reducible refine (spec_DrawHoldNames.calls _ _ l0 t537 _ ?side1 ?side2 A73.out).mono ?_);(case side1 => repeat (exact (Kd.C_below HR0.out HB.out)));(case side2 => exact HC0.out);rintro e w84 ⟨rfl,hb⟩;refine ⟨_,rfl, ?_⟩;have n0_:=Aside0.mk (Kd.Q_below (by exact HO_12.out) hb);have n1_:=Aside0.mk (Kd.R_below (by exact HO_14.out) hb);have n2_:=Aside0.mk (Kd.Q_below (by exact HO532.out) hb);have n3_:=Aside0.mk (below_step (by exact HB.out) hb);clear HO_12;clear HO_14;clear HO532;clear HB;have HO_12:=n0_;have HO_14:=n1_;have HO532:=n2_;have HB:=n3_;clear n0_ n1_ n2_ n3_;(try clear hb)) | ((with_reducible refine gate_callee (f:=16) rfl ?_);refine goesL_ (some 169) rfl rfl Try.func16 (by kernel_rfl) rfl #[.int .i64 t537] rfl (by (try simp only [List.map_toArray,List.map_cons,List.map_nil]);rfl) ?_;(with_reducible refine (impl_HoldNames.calls k4 t537 t538 t539 _ A74.out).mono ?_);rintro e w85 ⟨rfl,hb⟩;refine ⟨_,rfl, ?_⟩;have n0_:=Aside0.mk (Kd.Q_below (by exact HO_12.out) hb);have n1_:=Aside0.mk (Kd.R_below (by exact HO_14.out) hb);have n2_:=Aside0.mk (Kd.Q_below (by exact HO532.out) hb);have n3_:=Aside0.mk (below_step (by exact HB.out) hb);clear HO_12;clear HO_14;clear HO532;clear HB;have HO_12:=n0_;have HO_14:=n1_;have HO532:=n2_;have HB:=n3_;clear n0_ n1_ n2_ n3_;(try clear hb)) | ((with_reducible refine gate_callee (f:=20) rfl ?_);refine goesL_ (some 174) rfl rfl Try.func20 (by kernel_rfl) rfl #[.int .i64 t537] rfl (by (try simp only [List.map_toArray,List.map_cons,List.map_nil]);rfl) ?_;(with_reducible refine (spec_HoldNames.calls k4 t537 t540 t541 _ A75.out).mono ?_);rintro e w86 ⟨rfl,hb⟩;refine ⟨_,rfl, ?_⟩;have n0_:=Aside0.mk (Kd.Q_below (by exact HO_12.out) hb);have n1_:=Aside0.mk (Kd.R_below (by exact HO_14.out) hb);have n2_:=Aside0.mk (Kd.Q_below (by exact HO532.out) hb);have n3_:=Aside0.mk (below_step (by exact HB.out) hb);clear HO_12;clear HO_14;clear HO532;clear HB;have HO_12:=n0_;have HO_14:=n1_;have HO532:=n2_;have HB:=n3_;clear n0_ n1_ n2_ n3_;(try clear hb)))
                 go_ret
                 exact ⟨by rfl,by exact HB.out⟩
               ·rw [if_neg c78] at H
                have c78b0 : (t538.toList == t540.toList) = false:=beq_eq_false_iff_ne.mpr c78
                have c78b1 : (t538.toList != t540.toList) = true:=bne_iff_ne.mpr c78
                obtain rfl:=Option.some.inj H
                obtain ⟨Ao87,co87,eo87⟩ := Kd.R_slice HO_14.out
                subst eo87
                as_aux_lemma =>
                 go_wp2_with (first | ((with_reducible refine gate_callee (f:=17) rfl ?_);refine goesL_ (some 147) rfl rfl Try.func17 (by kernel_rfl) rfl #[.slice A0 l0.length c0] rfl (by (try simp only [List.map_toArray,List.map_cons,List.map_nil]);rfl) ?_;(with_reducible refine (spec_DrawHoldsOn.calls k4 _ _ l0 t528 t529 t530 _ ?side1 ?side2 A70.out).mono ?_);(case side1 => repeat (exact (Kd.C_below HR0.out HB.out)));(case side2 => exact HC0.out);rintro e w88 ⟨v531,rfl,ho0,hb⟩;refine ⟨_,rfl, ?_⟩;have n0_:=Aside0.mk (Kd.Q_elder' (by exact HO_12.out) (Kd.Q_base ho0) hb);have n1_:=Aside0.mk (Kd.R_below (by exact HO_14.out) hb);have n2_:=Aside0.mk (Kd.Q_lower (Kd.Q_new' ho0 (Kd.Q_lt (by exact HO_12.out))) (below_size (by exact HB.out)));have n3_:=Aside0.mk (below_step (by exact HB.out) hb);clear HO_12;clear HO_14;clear HB;have HO_12:=n0_;have HO_14:=n1_;have HO532:=n2_;have HB:=n3_;clear n0_ n1_ n2_ n3_;(try clear hb);(try clear ho0);obtain ⟨Ao89,co89,eo89,_⟩ := Kd.Q_slice HO532.out;subst eo89) | ((with_reducible refine gate_callee (f:=10) rfl ?_);refine goesL_ (some 155) rfl rfl Try.func10 (by kernel_rfl) rfl #[.slice Ao89 t528.length co89, .string t529, .int .i64 t530] rfl (by (try simp only [List.map_toArray,List.map_cons,List.map_nil]);rfl) ?_;(with_reducible refine (impl_HoldsOn.calls k4 _ _ t528 t529 t530 t533 t534 _ ?side1 ?side2 A71.out).mono ?_);(case side1 => repeat (exact (Kd.Q_reads' HO532.out).2.2));(case side2 => exact (Kd.Q_reads' HO532.out).2.1);rintro e w90 ⟨rfl,hb⟩;refine ⟨_,rfl, ?_⟩;have n0_:=Aside0.mk (Kd.Q_below (by exact HO_12.out) hb);have n1_:=Aside0.mk (Kd.R_below (by exact HO_14.out) hb);have n2_:=Aside0.mk (Kd.Q_below (by exact HO532.out) hb);have n3_:=Aside0.mk (below_step (by exact HB.out) hb);clear HO_12;clear HO_14;clear HO532;clear HB;have HO_12:=n0_;have HO_14:=n1_;have HO532:=n2_;have HB:=n3_;clear n0_ n1_ n2_ n3_;(try clear hb)) | ((with_reducible refine gate_callee (f:=18) rfl ?_);refine goesL_ (some 162) rfl rfl Try.func18 (by kernel_rfl) rfl #[.slice Ao89 t528.length co89, .string t529, .int .i64 t530] rfl (by (try simp only [List.map_toArray,List.map_cons,List.map_nil]);rfl) ?_;(with_reducible refine (spec_HoldsOn.calls k4 _ _ t528 t529 t530 t535 t536 _ ?side1 ?side2 A72.out).mono ?_);(case side1 => repeat (exact (Kd.Q_reads' HO532.out).2.2));(case side2 => exact (Kd.Q_reads' HO532.out).2.1);rintro e w91 ⟨rfl,hb⟩;refine ⟨_,rfl, ?_⟩;have n0_:=Aside0.mk (Kd.Q_below (by exact HO_12.out) hb);have n1_:=Aside0.mk (Kd.R_below (by exact HO_14.out) hb);have n2_:=Aside0.mk (Kd.Q_below (by exact HO532.out) hb);have n3_:=Aside0.mk (below_step (by exact HB.out) hb);clear HO_12;clear HO_14;clear HO532;clear HB;have HO_12:=n0_;have HO_14:=n1_;have HO532:=n2_;have HB:=n3_;clear n0_ n1_ n2_ n3_;(try clear hb)) | ((with_reducible refine gate_callee (f:=19) rfl ?_);refine goesL_ (some 166) rfl rfl Try.func19 (by kernel_rfl) rfl #[.slice A0 l0.length c0] rfl (by (try simp only [List.map_toArray,List.map_cons,List.map_nil]);rfl) ?_;(with_reducible refine (spec_DrawHoldNames.calls _ _ l0 t537 _ ?side1 ?side2 A73.out).mono ?_);(case side1 => repeat (exact (Kd.C_below HR0.out HB.out)));(case side2 => exact HC0.out);rintro e w92 ⟨rfl,hb⟩;refine ⟨_,rfl, ?_⟩;have n0_:=Aside0.mk (Kd.Q_below (by exact HO_12.out) hb);have n1_:=Aside0.mk (Kd.R_below (by exact HO_14.out) hb);have n2_:=Aside0.mk (Kd.Q_below (by exact HO532.out) hb);have n3_:=Aside0.mk (below_step (by exact HB.out) hb);clear HO_12;clear HO_14;clear HO532;clear HB;have HO_12:=n0_;have HO_14:=n1_;have HO532:=n2_;have HB:=n3_;clear n0_ n1_ n2_ n3_;(try clear hb)) | ((with_reducible refine gate_callee (f:=16) rfl ?_);refine goesL_ (some 169) rfl rfl Try.func16 (by kernel_rfl) rfl #[.int .i64 t537] rfl (by (try simp only [List.map_toArray,List.map_cons,List.map_nil]);rfl) ?_;(with_reducible refine (impl_HoldNames.calls k4 t537 t538 t539 _ A74.out).mono ?_);rintro e w93 ⟨rfl,hb⟩;refine ⟨_,rfl, ?_⟩;have n0_:=Aside0.mk (Kd.Q_below (by exact HO_12.out) hb);have n1_:=Aside0.mk (Kd.R_below (by exact HO_14.out) hb);have n2_:=Aside0.mk (Kd.Q_below (by exact HO532.out) hb);have n3_:=Aside0.mk (below_step (by exact HB.out) hb);clear HO_12;clear HO_14;clear HO532;clear HB;have HO_12:=n0_;have HO_14:=n1_;have HO532:=n2_;have HB:=n3_;clear n0_ n1_ n2_ n3_;(try clear hb)) | ((with_reducible refine gate_callee (f:=20) rfl ?_);refine goesL_ (some 174) rfl rfl Try.func20 (by kernel_rfl) rfl #[.int .i64 t537] rfl (by (try simp only [List.map_toArray,List.map_cons,List.map_nil]);rfl) ?_;(with_reducible refine (spec_HoldNames.calls k4 t537 t540 t541 _ A75.out).mono ?_);rintro e w94 ⟨rfl,hb⟩;refine ⟨_,rfl, ?_⟩;have n0_:=Aside0.mk (Kd.Q_below (by exact HO_12.out) hb);have n1_:=Aside0.mk (Kd.R_below (by exact HO_14.out) hb);have n2_:=Aside0.mk (Kd.Q_below (by exact HO532.out) hb);have n3_:=Aside0.mk (below_step (by exact HB.out) hb);clear HO_12;clear HO_14;clear HO532;clear HB;have HO_12:=n0_;have HO_14:=n1_;have HO532:=n2_;have HB:=n3_;clear n0_ n1_ n2_ n3_;(try clear hb)))
                 go_ret
                 exact ⟨by rfl,by exact HB.out⟩
              ·rw [if_neg c77] at H
               have c77b0 : (t534 == t536) = false:=by simpa using c77
               (try (have c77b1 : decide (t534 = t536) = false:=by simpa using c77))
               (try (have c77b2 : (t534 == t536) = false:=by simpa using c77))
               (try (have c77b3 : ¬ (t534 = t536):=by simpa using c77))
               clear c77
               obtain rfl:=Option.some.inj H
               obtain ⟨Ao95,co95,eo95⟩ := Kd.R_slice HO_14.out
               subst eo95
               as_aux_lemma =>
                go_wp2_with (first | ((with_reducible refine gate_callee (f:=17) rfl ?_);refine goesL_ (some 147) rfl rfl Try.func17 (by kernel_rfl) rfl #[.slice A0 l0.length c0] rfl (by (try simp only [List.map_toArray,List.map_cons,List.map_nil]);rfl) ?_;(with_reducible refine (spec_DrawHoldsOn.calls k4 _ _ l0 t528 t529 t530 _ ?side1 ?side2 A70.out).mono ?_);(case side1 => repeat (exact (Kd.C_below HR0.out HB.out)));(case side2 => exact HC0.out);rintro e w96 ⟨v531,rfl,ho0,hb⟩;refine ⟨_,rfl, ?_⟩;have n0_:=Aside0.mk (Kd.Q_elder' (by exact HO_12.out) (Kd.Q_base ho0) hb);have n1_:=Aside0.mk (Kd.R_below (by exact HO_14.out) hb);have n2_:=Aside0.mk (Kd.Q_lower (Kd.Q_new' ho0 (Kd.Q_lt (by exact HO_12.out))) (below_size (by exact HB.out)));have n3_:=Aside0.mk (below_step (by exact HB.out) hb);clear HO_12;clear HO_14;clear HB;have HO_12:=n0_;have HO_14:=n1_;have HO532:=n2_;have HB:=n3_;clear n0_ n1_ n2_ n3_;(try clear hb);(try clear ho0);obtain ⟨Ao97,co97,eo97,_⟩ := Kd.Q_slice HO532.out;subst eo97) | ((with_reducible refine gate_callee (f:=10) rfl ?_);refine goesL_ (some 155) rfl rfl Try.func10 (by kernel_rfl) rfl #[.slice Ao97 t528.length co97, .string t529, .int .i64 t530] rfl (by (try simp only [List.map_toArray,List.map_cons,List.map_nil]);rfl) ?_;(with_reducible refine (impl_HoldsOn.calls k4 _ _ t528 t529 t530 t533 t534 _ ?side1 ?side2 A71.out).mono ?_);(case side1 => repeat (exact (Kd.Q_reads' HO532.out).2.2));(case side2 => exact (Kd.Q_reads' HO532.out).2.1);rintro e w98 ⟨rfl,hb⟩;refine ⟨_,rfl, ?_⟩;have n0_:=Aside0.mk (Kd.Q_below (by exact HO_12.out) hb);have n1_:=Aside0.mk (Kd.R_below (by exact HO_14.out) hb);have n2_:=Aside0.mk (Kd.Q_below (by exact HO532.out) hb);have n3_:=Aside0.mk (below_step (by exact HB.out) hb);clear HO_12;clear HO_14;clear HO532;clear HB;have HO_12:=n0_;have HO_14:=n1_;have HO532:=n2_;have HB:=n3_;clear n0_ n1_ n2_ n3_;(try clear hb)) | ((with_reducible refine gate_callee (f:=18) rfl ?_);refine goesL_ (some 162) rfl rfl Try.func18 (by kernel_rfl) rfl #[.slice Ao97 t528.length co97, .string t529, .int .i64 t530] rfl (by (try simp only [List.map_toArray,List.map_cons,List.map_nil]);rfl) ?_;(with_reducible refine (spec_HoldsOn.calls k4 _ _ t528 t529 t530 t535 t536 _ ?side1 ?side2 A72.out).mono ?_);(case side1 => repeat (exact (Kd.Q_reads' HO532.out).2.2));(case side2 => exact (Kd.Q_reads' HO532.out).2.1);rintro e w99 ⟨rfl,hb⟩;refine ⟨_,rfl, ?_⟩;have n0_:=Aside0.mk (Kd.Q_below (by exact HO_12.out) hb);have n1_:=Aside0.mk (Kd.R_below (by exact HO_14.out) hb);have n2_:=Aside0.mk (Kd.Q_below (by exact HO532.out) hb);have n3_:=Aside0.mk (below_step (by exact HB.out) hb);clear HO_12;clear HO_14;clear HO532;clear HB;have HO_12:=n0_;have HO_14:=n1_;have HO532:=n2_;have HB:=n3_;clear n0_ n1_ n2_ n3_;(try clear hb)) | ((with_reducible refine gate_callee (f:=19) rfl ?_);refine goesL_ (some 166) rfl rfl Try.func19 (by kernel_rfl) rfl #[.slice A0 l0.length c0] rfl (by (try simp only [List.map_toArray,List.map_cons,List.map_nil]);rfl) ?_;(with_reducible refine (spec_DrawHoldNames.calls _ _ l0 t537 _ ?side1 ?side2 A73.out).mono ?_);(case side1 => repeat (exact (Kd.C_below HR0.out HB.out)));(case side2 => exact HC0.out);rintro e w100 ⟨rfl,hb⟩;refine ⟨_,rfl, ?_⟩;have n0_:=Aside0.mk (Kd.Q_below (by exact HO_12.out) hb);have n1_:=Aside0.mk (Kd.R_below (by exact HO_14.out) hb);have n2_:=Aside0.mk (Kd.Q_below (by exact HO532.out) hb);have n3_:=Aside0.mk (below_step (by exact HB.out) hb);clear HO_12;clear HO_14;clear HO532;clear HB;have HO_12:=n0_;have HO_14:=n1_;have HO532:=n2_;have HB:=n3_;clear n0_ n1_ n2_ n3_;(try clear hb)) | ((with_reducible refine gate_callee (f:=16) rfl ?_);refine goesL_ (some 169) rfl rfl Try.func16 (by kernel_rfl) rfl #[.int .i64 t537] rfl (by (try simp only [List.map_toArray,List.map_cons,List.map_nil]);rfl) ?_;(with_reducible refine (impl_HoldNames.calls k4 t537 t538 t539 _ A74.out).mono ?_);rintro e w101 ⟨rfl,hb⟩;refine ⟨_,rfl, ?_⟩;have n0_:=Aside0.mk (Kd.Q_below (by exact HO_12.out) hb);have n1_:=Aside0.mk (Kd.R_below (by exact HO_14.out) hb);have n2_:=Aside0.mk (Kd.Q_below (by exact HO532.out) hb);have n3_:=Aside0.mk (below_step (by exact HB.out) hb);clear HO_12;clear HO_14;clear HO532;clear HB;have HO_12:=n0_;have HO_14:=n1_;have HO532:=n2_;have HB:=n3_;clear n0_ n1_ n2_ n3_;(try clear hb)) | ((with_reducible refine gate_callee (f:=20) rfl ?_);refine goesL_ (some 174) rfl rfl Try.func20 (by kernel_rfl) rfl #[.int .i64 t537] rfl (by (try simp only [List.map_toArray,List.map_cons,List.map_nil]);rfl) ?_;(with_reducible refine (spec_HoldNames.calls k4 t537 t540 t541 _ A75.out).mono ?_);rintro e w102 ⟨rfl,hb⟩;refine ⟨_,rfl, ?_⟩;have n0_:=Aside0.mk (Kd.Q_below (by exact HO_12.out) hb);have n1_:=Aside0.mk (Kd.R_below (by exact HO_14.out) hb);have n2_:=Aside0.mk (Kd.Q_below (by exact HO532.out) hb);have n3_:=Aside0.mk (below_step (by exact HB.out) hb);clear HO_12;clear HO_14;clear HO532;clear HB;have HO_12:=n0_;have HO_14:=n1_;have HO532:=n2_;have HB:=n3_;clear n0_ n1_ n2_ n3_;(try clear hb)))
                go_ret
                exact ⟨by rfl,by exact HB.out⟩
             ·rw [if_neg c76] at H
              have c76b0 : (t533 == t535) = false:=beq_eq_false_iff_ne.mpr c76
              have c76b1 : (t533 != t535) = true:=bne_iff_ne.mpr c76
              obtain rfl:=Option.some.inj H
              obtain ⟨Ao103,co103,eo103⟩ := Kd.R_slice HO_14.out
              subst eo103
              as_aux_lemma =>
               go_wp2_with (first | ((with_reducible refine gate_callee (f:=17) rfl ?_);refine goesL_ (some 147) rfl rfl Try.func17 (by kernel_rfl) rfl #[.slice A0 l0.length c0] rfl (by (try simp only [List.map_toArray,List.map_cons,List.map_nil]);rfl) ?_;(with_reducible refine (spec_DrawHoldsOn.calls k4 _ _ l0 t528 t529 t530 _ ?side1 ?side2 A70.out).mono ?_);(case side1 => repeat (exact (Kd.C_below HR0.out HB.out)));(case side2 => exact HC0.out);rintro e w104 ⟨v531,rfl,ho0,hb⟩;refine ⟨_,rfl, ?_⟩;have n0_:=Aside0.mk (Kd.Q_elder' (by exact HO_12.out) (Kd.Q_base ho0) hb);have n1_:=Aside0.mk (Kd.R_below (by exact HO_14.out) hb);have n2_:=Aside0.mk (Kd.Q_lower (Kd.Q_new' ho0 (Kd.Q_lt (by exact HO_12.out))) (below_size (by exact HB.out)));have n3_:=Aside0.mk (below_step (by exact HB.out) hb);clear HO_12;clear HO_14;clear HB;have HO_12:=n0_;have HO_14:=n1_;have HO532:=n2_;have HB:=n3_;clear n0_ n1_ n2_ n3_;(try clear hb);(try clear ho0);obtain ⟨Ao105,co105,eo105,_⟩ := Kd.Q_slice HO532.out;subst eo105) | ((with_reducible refine gate_callee (f:=10) rfl ?_);refine goesL_ (some 155) rfl rfl Try.func10 (by kernel_rfl) rfl #[.slice Ao105 t528.length co105, .string t529, .int .i64 t530] rfl (by (try simp only [List.map_toArray,List.map_cons,List.map_nil]);rfl) ?_;(with_reducible refine (impl_HoldsOn.calls k4 _ _ t528 t529 t530 t533 t534 _ ?side1 ?side2 A71.out).mono ?_);(case side1 => repeat (exact (Kd.Q_reads' HO532.out).2.2));(case side2 => exact (Kd.Q_reads' HO532.out).2.1);rintro e w106 ⟨rfl,hb⟩;refine ⟨_,rfl, ?_⟩;have n0_:=Aside0.mk (Kd.Q_below (by exact HO_12.out) hb);have n1_:=Aside0.mk (Kd.R_below (by exact HO_14.out) hb);have n2_:=Aside0.mk (Kd.Q_below (by exact HO532.out) hb);have n3_:=Aside0.mk (below_step (by exact HB.out) hb);clear HO_12;clear HO_14;clear HO532;clear HB;have HO_12:=n0_;have HO_14:=n1_;have HO532:=n2_;have HB:=n3_;clear n0_ n1_ n2_ n3_;(try clear hb)) | ((with_reducible refine gate_callee (f:=18) rfl ?_);refine goesL_ (some 162) rfl rfl Try.func18 (by kernel_rfl) rfl #[.slice Ao105 t528.length co105, .string t529, .int .i64 t530] rfl (by (try simp only [List.map_toArray,List.map_cons,List.map_nil]);rfl) ?_;(with_reducible refine (spec_HoldsOn.calls k4 _ _ t528 t529 t530 t535 t536 _ ?side1 ?side2 A72.out).mono ?_);(case side1 => repeat (exact (Kd.Q_reads' HO532.out).2.2));(case side2 => exact (Kd.Q_reads' HO532.out).2.1);rintro e w107 ⟨rfl,hb⟩;refine ⟨_,rfl, ?_⟩;have n0_:=Aside0.mk (Kd.Q_below (by exact HO_12.out) hb);have n1_:=Aside0.mk (Kd.R_below (by exact HO_14.out) hb);have n2_:=Aside0.mk (Kd.Q_below (by exact HO532.out) hb);have n3_:=Aside0.mk (below_step (by exact HB.out) hb);clear HO_12;clear HO_14;clear HO532;clear HB;have HO_12:=n0_;have HO_14:=n1_;have HO532:=n2_;have HB:=n3_;clear n0_ n1_ n2_ n3_;(try clear hb)) | ((with_reducible refine gate_callee (f:=19) rfl ?_);refine goesL_ (some 166) rfl rfl Try.func19 (by kernel_rfl) rfl #[.slice A0 l0.length c0] rfl (by (try simp only [List.map_toArray,List.map_cons,List.map_nil]);rfl) ?_;(with_reducible refine (spec_DrawHoldNames.calls _ _ l0 t537 _ ?side1 ?side2 A73.out).mono ?_);(case side1 => repeat (exact (Kd.C_below HR0.out HB.out)));(case side2 => exact HC0.out);rintro e w108 ⟨rfl,hb⟩;refine ⟨_,rfl, ?_⟩;have n0_:=Aside0.mk (Kd.Q_below (by exact HO_12.out) hb);have n1_:=Aside0.mk (Kd.R_below (by exact HO_14.out) hb);have n2_:=Aside0.mk (Kd.Q_below (by exact HO532.out) hb);have n3_:=Aside0.mk (below_step (by exact HB.out) hb);clear HO_12;clear HO_14;clear HO532;clear HB;have HO_12:=n0_;have HO_14:=n1_;have HO532:=n2_;have HB:=n3_;clear n0_ n1_ n2_ n3_;(try clear hb)) | ((with_reducible refine gate_callee (f:=16) rfl ?_);refine goesL_ (some 169) rfl rfl Try.func16 (by kernel_rfl) rfl #[.int .i64 t537] rfl (by (try simp only [List.map_toArray,List.map_cons,List.map_nil]);rfl) ?_;(with_reducible refine (impl_HoldNames.calls k4 t537 t538 t539 _ A74.out).mono ?_);rintro e w109 ⟨rfl,hb⟩;refine ⟨_,rfl, ?_⟩;have n0_:=Aside0.mk (Kd.Q_below (by exact HO_12.out) hb);have n1_:=Aside0.mk (Kd.R_below (by exact HO_14.out) hb);have n2_:=Aside0.mk (Kd.Q_below (by exact HO532.out) hb);have n3_:=Aside0.mk (below_step (by exact HB.out) hb);clear HO_12;clear HO_14;clear HO532;clear HB;have HO_12:=n0_;have HO_14:=n1_;have HO532:=n2_;have HB:=n3_;clear n0_ n1_ n2_ n3_;(try clear hb)) | ((with_reducible refine gate_callee (f:=20) rfl ?_);refine goesL_ (some 174) rfl rfl Try.func20 (by kernel_rfl) rfl #[.int .i64 t537] rfl (by (try simp only [List.map_toArray,List.map_cons,List.map_nil]);rfl) ?_;(with_reducible refine (spec_HoldNames.calls k4 t537 t540 t541 _ A75.out).mono ?_);rintro e w110 ⟨rfl,hb⟩;refine ⟨_,rfl, ?_⟩;have n0_:=Aside0.mk (Kd.Q_below (by exact HO_12.out) hb);have n1_:=Aside0.mk (Kd.R_below (by exact HO_14.out) hb);have n2_:=Aside0.mk (Kd.Q_below (by exact HO532.out) hb);have n3_:=Aside0.mk (below_step (by exact HB.out) hb);clear HO_12;clear HO_14;clear HO532;clear HB;have HO_12:=n0_;have HO_14:=n1_;have HO532:=n2_;have HB:=n3_;clear n0_ n1_ n2_ n3_;(try clear hb)))
               go_ret
               exact ⟨by rfl,by exact HB.out⟩

/-- THE ONE PURE STATEMENT of laws_FnHolds: yours. -/
def laws_FnHolds.Pure : Prop := ∀ (l0 : List Int),l0.length ≤ maxLen → l0.length * 1 ≤ 140737488351232 → (∀ x ∈ l0,(Lit.int .u8 x).wf = true) → ∃ k,laws_FnHolds.f k l0 = some true
theorem laws_FnHolds.walk (P : laws_FnHolds.Pure) (a0 : Option Addr) (len0 cap0 : Nat) (z0 : List Int) (w : World) (w0 : (a0 = none ∧ len0 = 0 ∧ cap0 = 0 ∧ z0 = []) ∨ ∃ x,a0 = some x ∧ len0 ≤ cap0 ∧ cap0 ≤ maxLen ∧ z0.length = cap0 ∧ (∀ i,i < z0.length → w.cell? (x.add i) = some (.int .u8 (z0.getD i 0))) ∧ ∀ n ∈ z0,(Lit.int .u8 n).wf = true) (y0 : len0 * 1 ≤ 140737488351232) :
  Calls Try.prog 3 #[.slice a0 len0 cap0] w fun e w' => e = .returned (.bool true) ∧ Below w.heap.size w w':=by
 obtain ⟨l0,rfl,hr0,hm0,hw0,hc0⟩ := ReadsInt.ofRowC w0
 obtain ⟨k,h⟩ := P l0 hm0 y0 hw0
 refine (laws_FnHolds.calls k _ _ l0 true w (Kd.C_of_reads (d:=(0 : Int)) (h1:=fun _ => rfl) hr0) hc0 h).mono ?_
 rintro e w' ⟨rfl,hd⟩
 exact ⟨rfl,hd⟩

end Go.Proofs.Yteebkbikpamkmaa.PFnHolds
