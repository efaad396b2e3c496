-- Written by a program of this session, over the kit's print (wip/xprint.py)
import Derived.Test.YtcjhmkhhhkcgkaaPFnFilesx0
import Derived.Test.YtcjhmkhhhkcgkaaPFnFilesx1
import Derived.Test.YtcjhmkhhhkcgkaaPFnFilesx2
import Derived.Test.YtcjhmkhhhkcgkaaPFnFilesx4
import Derived.Test.YtcjhmkhhhkcgkaaPFnFilesx6
import Derived.Test.YtcjhmkhhhkcgkaaPFnFilesx9
import Derived.Test.YtcjhmkhhhkcgkaaPFnFilesx10
import Derived.Test.YtcjhmkhhhkcgkaaPFnFilesx11
import Derived.Test.YtcjhmkhhhkcgkaaPFnFilesx12
import Derived.Test.YtcjhmkhhhkcgkaaPFnFilesx13
namespace Go.Proofs.Ytcjhmkhhhkcgkaa.PFnFiles
open Go.RowKit Go.Proofs.YtcjhmkhhhkcgkaaW.PrintWords Go.Proofs.YtcjhmkhhhkcgkaaW.PrintLast Go.Proofs.YtcjhmkhhhkcgkaaW.PrintMore
attribute [local go_sem] max2_int min2_int max_two min_two max_three min_three max_four min_four   -- for this text's walks alone
set_option linter.unusedVariables false
set_option linter.unusedSimpArgs false

attribute [local go_sem high] eqA26
/-! ### laws_FnFiles: function 3 -/
mutual
def laws_FnFiles.j0 : Nat → List Int → List (S26) → List (S26) → Bool → Bool → Int → ByteArray → Bool → Int → Option (Bool)
 | 0,_,_,_,_,_,_,_,_,_ => none
 | k + 1,x0,x3,x5,x6,x56,x438000,x438001,x438002,x438003 => if x56 = true then (some false) else (if x6 = true then (if (x5.length : Int) = (wrap64 ((x3.length : Int) + 1)) then (if 0 ≤ (x3.length : Int) then (if (x3.length : Int) < (x5.length : Int) then (laws_FnFiles.j1 k x0 (!(((rd_T26 x5 (x3.length : Int)).f0) == x438000) || (!((((rd_T26 x5 (x3.length : Int)).f1).toList) == x438001.toList) || (!(((rd_T26 x5 (x3.length : Int)).f2) == x438002) || (!(((rd_T26 x5 (x3.length : Int)).f3) == x438003)))))) else (none)) else (none)) else (laws_FnFiles.j1 k x0 true)) else (laws_FnFiles.j1 k x0 false))
def laws_FnFiles.j1 : Nat → List Int → Bool → Option (Bool)
 | 0,_,_ => none
 | k + 1,x0,x74 => if x74 = true then (some false) else ((spec_DrawFirstConflict.f k x0).bind fun t448 => ((impl_FirstConflict.f k t448).bind fun bt451 => ((spec_FirstConflict.f k t448).bind fun bt453 => (if bt451.1 = bt453.1 then (if (bt451.2 != bt453.2) = true then (laws_FnFiles.j2 k x0 t448 bt451.1 bt451.2 true) else ((impl_IsValidFile.f k t448).bind fun t455 => (laws_FnFiles.j2 k x0 t448 bt451.1 bt451.2 (bt451.2 == t455)))) else (laws_FnFiles.j2 k x0 t448 bt451.1 bt451.2 true)))))
def laws_FnFiles.j2 : Nat → List Int → List (S26) → Int → Bool → Bool → Option (Bool)
 | 0,_,_,_,_,_ => none
 | k + 1,x0,x9,x10,x11,x100 => if x100 = true then (some false) else (if x11 = true then (if 0 ≤ x10 then (if x10 ≤ (x9.length : Int) then ((impl_IsValidFile.f k (x9.take (x10 : Int).toNat)).bind fun t460 => (if t460 = true then (if 0 ≤ (wrap64 (x10 + 1)) then (if (wrap64 (x10 + 1)) ≤ (x9.length : Int) then ((impl_IsValidFile.f k (x9.take ((wrap64 (x10 + 1)) : Int).toNat)).bind fun t465 => (laws_FnFiles.j3 k x0 t465)) else (none)) else (none)) else (laws_FnFiles.j3 k x0 true))) else (none)) else (none)) else (laws_FnFiles.j3 k x0 false))
def laws_FnFiles.j3 : Nat → List Int → Bool → Option (Bool)
 | 0,_,_ => none
 | k + 1,x0,x115 => if x115 = true then (some false) else ((spec_DrawHeldHours.f k x0).bind fun bt466 => ((impl_HeldHours.f k bt466.1 bt466.2.1 bt466.2.2.1 bt466.2.2.2).bind fun bt472 => ((spec_HeldHours.f k bt466.1 bt466.2.1 bt466.2.2.1 bt466.2.2.2).bind fun bt474 => (if bt472.1 = bt474.1 then (if (bt472.2 != bt474.2) = true then (laws_FnFiles.j4 k x0 true) else (if bt472.2 = true then (if bt472.1 < 0 then (laws_FnFiles.j4 k x0 true) else (laws_FnFiles.j4 k x0 (decide (bt472.1 > bt466.2.2.2)))) else (laws_FnFiles.j4 k x0 false))) else (laws_FnFiles.j4 k x0 true)))))
def laws_FnFiles.j4 : Nat → List Int → Bool → Option (Bool)
 | 0,_,_ => none
 | k + 1,x0,x158 => if x158 = true then (some false) else ((spec_DrawBusiestHold.f k x0).bind fun t476 => ((impl_BusiestHold.f k t476).bind fun bt479 => ((spec_BusiestHold.f k t476).bind fun bt482 => (if bt479.1 = bt482.1 then (if bt479.2.1 = bt482.2.1 then (some (bt479.2.2 == bt482.2.2)) else (some false)) else (some false)))))
end
def laws_FnFiles.f (k : Nat) (l0 : List Int) : Option (Bool):=(laws_rBig.f l0).bind fun t429 => (if t429 = true then (some true) else ((spec_DrawAddEntry.f k l0).bind fun bt430 => ((impl_AddEntry.f k bt430.1 bt430.2.1 bt430.2.2.1 bt430.2.2.2.1 bt430.2.2.2.2).bind fun bt438 => ((spec_AddEntry.f k bt430.1 bt430.2.1 bt430.2.2.1 bt430.2.2.2.1 bt430.2.2.2.2).bind fun bt442 => (if (bt438.2 != bt442.2) = true then (laws_FnFiles.j0 k l0 bt430.1 bt438.1 bt438.2 true bt430.2.1 bt430.2.2.1 bt430.2.2.2.1 bt430.2.2.2.2) else ((laws_rFiles.f k bt438.1 bt442.1).bind fun t446 => (laws_FnFiles.j0 k l0 bt430.1 bt438.1 bt438.2 (!t446) bt430.2.1 bt430.2.2.1 bt430.2.2.2.1 bt430.2.2.2.2)))))))
theorem laws_FnFiles.mono_l : ∀ k,(∀ y0 y1 y2 y3 y4 y5 y6 y7 y8,LeO (laws_FnFiles.j0 k y0 y1 y2 y3 y4 y5 y6 y7 y8) (laws_FnFiles.j0 (k + 1) y0 y1 y2 y3 y4 y5 y6 y7 y8)) ∧ (∀ y0 y1,LeO (laws_FnFiles.j1 k y0 y1) (laws_FnFiles.j1 (k + 1) y0 y1)) ∧ (∀ y0 y1 y2 y3 y4,LeO (laws_FnFiles.j2 k y0 y1 y2 y3 y4) (laws_FnFiles.j2 (k + 1) y0 y1 y2 y3 y4)) ∧ (∀ y0 y1,LeO (laws_FnFiles.j3 k y0 y1) (laws_FnFiles.j3 (k + 1) y0 y1)) ∧ (∀ y0 y1,LeO (laws_FnFiles.j4 k y0 y1) (laws_FnFiles.j4 (k + 1) y0 y1))
 | 0 => ⟨fun _ _ _ _ _ _ _ _ _ r h => by simp [laws_FnFiles.j0] at h,fun _ _ r h => by simp [laws_FnFiles.j1] at h,fun _ _ _ _ _ r h => by simp [laws_FnFiles.j2] at h,fun _ _ r h => by simp [laws_FnFiles.j3] at h,fun _ _ r h => by simp [laws_FnFiles.j4] at h⟩
 | k + 1 => by
  obtain ⟨ih0,ih1,ih2,ih3,ih4⟩ := laws_FnFiles.mono_l k
  refine ⟨?_, ?_, ?_, ?_, ?_⟩
  ·intro y0 y1 y2 y3 y4 y5 y6 y7 y8
   unfold laws_FnFiles.j0
   repeat' first
   | (with_reducible exact ih0 _ _ _ _ _ _ _ _ _)
   | (with_reducible exact ih1 _ _)
   | (with_reducible exact ih2 _ _ _ _ _)
   | (with_reducible exact ih3 _ _)
   | (with_reducible exact ih4 _ _)
   | (with_reducible exact impl_AddEntry.mono _ _ _ _ _ _)
   | (with_reducible exact impl_BusiestHold.mono _ _)
   | (with_reducible exact impl_FirstConflict.mono _ _)
   | (with_reducible exact impl_HeldHours.mono _ _ _ _ _)
   | (with_reducible exact impl_IsValidFile.mono _ _)
   | (with_reducible exact laws_rFiles.mono _ _ _)
   | (with_reducible exact spec_AddEntry.mono _ _ _ _ _ _)
   | (with_reducible exact spec_BusiestHold.mono _ _)
   | (with_reducible exact spec_DrawAddEntry.mono _ _)
   | (with_reducible exact spec_DrawBusiestHold.mono _ _)
   | (with_reducible exact spec_DrawFirstConflict.mono _ _)
   | (with_reducible exact spec_DrawHeldHours.mono _ _)
   | (with_reducible exact spec_FirstConflict.mono _ _)
   | (with_reducible exact spec_HeldHours.mono _ _ _ _ _)
   | (with_reducible exact LeO.refl _)
   | (with_reducible exact LeO.none _)
   | (with_reducible refine LeO.ite ?_ ?_)
   | (with_reducible refine LeO.bind ?_ (fun _ => ?_))
   | exact ih0 _ _ _ _ _ _ _ _ _
   | exact ih1 _ _
   | exact ih2 _ _ _ _ _
   | exact ih3 _ _
   | exact ih4 _ _
   | exact impl_AddEntry.mono _ _ _ _ _ _
   | exact impl_BusiestHold.mono _ _
   | exact impl_FirstConflict.mono _ _
   | exact impl_HeldHours.mono _ _ _ _ _
   | exact impl_IsValidFile.mono _ _
   | exact laws_rFiles.mono _ _ _
   | exact spec_AddEntry.mono _ _ _ _ _ _
   | exact spec_BusiestHold.mono _ _
   | exact spec_DrawAddEntry.mono _ _
   | exact spec_DrawBusiestHold.mono _ _
   | exact spec_DrawFirstConflict.mono _ _
   | exact spec_DrawHeldHours.mono _ _
   | exact spec_FirstConflict.mono _ _
   | exact spec_HeldHours.mono _ _ _ _ _
   | exact LeO.none _
   | refine LeO.ite ?_ ?_
   | refine LeO.bind ?_ (fun _ => ?_)
  ·intro y0 y1
   unfold laws_FnFiles.j1
   repeat' first
   | (with_reducible exact ih0 _ _ _ _ _ _ _ _ _)
   | (with_reducible exact ih1 _ _)
   | (with_reducible exact ih2 _ _ _ _ _)
   | (with_reducible exact ih3 _ _)
   | (with_reducible exact ih4 _ _)
   | (with_reducible exact impl_AddEntry.mono _ _ _ _ _ _)
   | (with_reducible exact impl_BusiestHold.mono _ _)
   | (with_reducible exact impl_FirstConflict.mono _ _)
   | (with_reducible exact impl_HeldHours.mono _ _ _ _ _)
   | (with_reducible exact impl_IsValidFile.mono _ _)
   | (with_reducible exact laws_rFiles.mono _ _ _)
   | (with_reducible exact spec_AddEntry.mono _ _ _ _ _ _)
   | (with_reducible exact spec_BusiestHold.mono _ _)
   | (with_reducible exact spec_DrawAddEntry.mono _ _)
   | (with_reducible exact spec_DrawBusiestHold.mono _ _)
   | (with_reducible exact spec_DrawFirstConflict.mono _ _)
   | (with_reducible exact spec_DrawHeldHours.mono _ _)
   | (with_reducible exact spec_FirstConflict.mono _ _)
   | (with_reducible exact spec_HeldHours.mono _ _ _ _ _)
   | (with_reducible exact LeO.refl _)
   | (with_reducible exact LeO.none _)
   | (with_reducible refine LeO.ite ?_ ?_)
   | (with_reducible refine LeO.bind ?_ (fun _ => ?_))
   | exact ih0 _ _ _ _ _ _ _ _ _
   | exact ih1 _ _
   | exact ih2 _ _ _ _ _
   | exact ih3 _ _
   | exact ih4 _ _
   | exact impl_AddEntry.mono _ _ _ _ _ _
   | exact impl_BusiestHold.mono _ _
   | exact impl_FirstConflict.mono _ _
   | exact impl_HeldHours.mono _ _ _ _ _
   | exact impl_IsValidFile.mono _ _
   | exact laws_rFiles.mono _ _ _
   | exact spec_AddEntry.mono _ _ _ _ _ _
   | exact spec_BusiestHold.mono _ _
   | exact spec_DrawAddEntry.mono _ _
   | exact spec_DrawBusiestHold.mono _ _
   | exact spec_DrawFirstConflict.mono _ _
   | exact spec_DrawHeldHours.mono _ _
   | exact spec_FirstConflict.mono _ _
   | exact spec_HeldHours.mono _ _ _ _ _
   | exact LeO.none _
   | refine LeO.ite ?_ ?_
   | refine LeO.bind ?_ (fun _ => ?_)
  ·intro y0 y1 y2 y3 y4
   unfold laws_FnFiles.j2
   repeat' first
   | (with_reducible exact ih0 _ _ _ _ _ _ _ _ _)
   | (with_reducible exact ih1 _ _)
   | (with_reducible exact ih2 _ _ _ _ _)
   | (with_reducible exact ih3 _ _)
   | (with_reducible exact ih4 _ _)
   | (with_reducible exact impl_AddEntry.mono _ _ _ _ _ _)
   | (with_reducible exact impl_BusiestHold.mono _ _)
   | (with_reducible exact impl_FirstConflict.mono _ _)
   | (with_reducible exact impl_HeldHours.mono _ _ _ _ _)
   | (with_reducible exact impl_IsValidFile.mono _ _)
   | (with_reducible exact laws_rFiles.mono _ _ _)
   | (with_reducible exact spec_AddEntry.mono _ _ _ _ _ _)
   | (with_reducible exact spec_BusiestHold.mono _ _)
   | (with_reducible exact spec_DrawAddEntry.mono _ _)
   | (with_reducible exact spec_DrawBusiestHold.mono _ _)
   | (with_reducible exact spec_DrawFirstConflict.mono _ _)
   | (with_reducible exact spec_DrawHeldHours.mono _ _)
   | (with_reducible exact spec_FirstConflict.mono _ _)
   | (with_reducible exact spec_HeldHours.mono _ _ _ _ _)
   | (with_reducible exact LeO.refl _)
   | (with_reducible exact LeO.none _)
   | (with_reducible refine LeO.ite ?_ ?_)
   | (with_reducible refine LeO.bind ?_ (fun _ => ?_))
   | exact ih0 _ _ _ _ _ _ _ _ _
   | exact ih1 _ _
   | exact ih2 _ _ _ _ _
   | exact ih3 _ _
   | exact ih4 _ _
   | exact impl_AddEntry.mono _ _ _ _ _ _
   | exact impl_BusiestHold.mono _ _
   | exact impl_FirstConflict.mono _ _
   | exact impl_HeldHours.mono _ _ _ _ _
   | exact impl_IsValidFile.mono _ _
   | exact laws_rFiles.mono _ _ _
   | exact spec_AddEntry.mono _ _ _ _ _ _
   | exact spec_BusiestHold.mono _ _
   | exact spec_DrawAddEntry.mono _ _
   | exact spec_DrawBusiestHold.mono _ _
   | exact spec_DrawFirstConflict.mono _ _
   | exact spec_DrawHeldHours.mono _ _
   | exact spec_FirstConflict.mono _ _
   | exact spec_HeldHours.mono _ _ _ _ _
   | exact LeO.none _
   | refine LeO.ite ?_ ?_
   | refine LeO.bind ?_ (fun _ => ?_)
  ·intro y0 y1
   unfold laws_FnFiles.j3
   repeat' first
   | (with_reducible exact ih0 _ _ _ _ _ _ _ _ _)
   | (with_reducible exact ih1 _ _)
   | (with_reducible exact ih2 _ _ _ _ _)
   | (with_reducible exact ih3 _ _)
   | (with_reducible exact ih4 _ _)
   | (with_reducible exact impl_AddEntry.mono _ _ _ _ _ _)
   | (with_reducible exact impl_BusiestHold.mono _ _)
   | (with_reducible exact impl_FirstConflict.mono _ _)
   | (with_reducible exact impl_HeldHours.mono _ _ _ _ _)
   | (with_reducible exact impl_IsValidFile.mono _ _)
   | (with_reducible exact laws_rFiles.mono _ _ _)
   | (with_reducible exact spec_AddEntry.mono _ _ _ _ _ _)
   | (with_reducible exact spec_BusiestHold.mono _ _)
   | (with_reducible exact spec_DrawAddEntry.mono _ _)
   | (with_reducible exact spec_DrawBusiestHold.mono _ _)
   | (with_reducible exact spec_DrawFirstConflict.mono _ _)
   | (with_reducible exact spec_DrawHeldHours.mono _ _)
   | (with_reducible exact spec_FirstConflict.mono _ _)
   | (with_reducible exact spec_HeldHours.mono _ _ _ _ _)
   | (with_reducible exact LeO.refl _)
   | (with_reducible exact LeO.none _)
   | (with_reducible refine LeO.ite ?_ ?_)
   | (with_reducible refine LeO.bind ?_ (fun _ => ?_))
   | exact ih0 _ _ _ _ _ _ _ _ _
   | exact ih1 _ _
   | exact ih2 _ _ _ _ _
   | exact ih3 _ _
   | exact ih4 _ _
   | exact impl_AddEntry.mono _ _ _ _ _ _
   | exact impl_BusiestHold.mono _ _
   | exact impl_FirstConflict.mono _ _
   | exact impl_HeldHours.mono _ _ _ _ _
   | exact impl_IsValidFile.mono _ _
   | exact laws_rFiles.mono _ _ _
   | exact spec_AddEntry.mono _ _ _ _ _ _
   | exact spec_BusiestHold.mono _ _
   | exact spec_DrawAddEntry.mono _ _
   | exact spec_DrawBusiestHold.mono _ _
   | exact spec_DrawFirstConflict.mono _ _
   | exact spec_DrawHeldHours.mono _ _
   | exact spec_FirstConflict.mono _ _
   | exact spec_HeldHours.mono _ _ _ _ _
   | exact LeO.none _
   | refine LeO.ite ?_ ?_
   | refine LeO.bind ?_ (fun _ => ?_)
  ·intro y0 y1
   unfold laws_FnFiles.j4
   repeat' first
   | (with_reducible exact ih0 _ _ _ _ _ _ _ _ _)
   | (with_reducible exact ih1 _ _)
   | (with_reducible exact ih2 _ _ _ _ _)
   | (with_reducible exact ih3 _ _)
   | (with_reducible exact ih4 _ _)
   | (with_reducible exact impl_AddEntry.mono _ _ _ _ _ _)
   | (with_reducible exact impl_BusiestHold.mono _ _)
   | (with_reducible exact impl_FirstConflict.mono _ _)
   | (with_reducible exact impl_HeldHours.mono _ _ _ _ _)
   | (with_reducible exact impl_IsValidFile.mono _ _)
   | (with_reducible exact laws_rFiles.mono _ _ _)
   | (with_reducible exact spec_AddEntry.mono _ _ _ _ _ _)
   | (with_reducible exact spec_BusiestHold.mono _ _)
   | (with_reducible exact spec_DrawAddEntry.mono _ _)
   | (with_reducible exact spec_DrawBusiestHold.mono _ _)
   | (with_reducible exact spec_DrawFirstConflict.mono _ _)
   | (with_reducible exact spec_DrawHeldHours.mono _ _)
   | (with_reducible exact spec_FirstConflict.mono _ _)
   | (with_reducible exact spec_HeldHours.mono _ _ _ _ _)
   | (with_reducible exact LeO.refl _)
   | (with_reducible exact LeO.none _)
   | (with_reducible refine LeO.ite ?_ ?_)
   | (with_reducible refine LeO.bind ?_ (fun _ => ?_))
   | exact ih0 _ _ _ _ _ _ _ _ _
   | exact ih1 _ _
   | exact ih2 _ _ _ _ _
   | exact ih3 _ _
   | exact ih4 _ _
   | exact impl_AddEntry.mono _ _ _ _ _ _
   | exact impl_BusiestHold.mono _ _
   | exact impl_FirstConflict.mono _ _
   | exact impl_HeldHours.mono _ _ _ _ _
   | exact impl_IsValidFile.mono _ _
   | exact laws_rFiles.mono _ _ _
   | exact spec_AddEntry.mono _ _ _ _ _ _
   | exact spec_BusiestHold.mono _ _
   | exact spec_DrawAddEntry.mono _ _
   | exact spec_DrawBusiestHold.mono _ _
   | exact spec_DrawFirstConflict.mono _ _
   | exact spec_DrawHeldHours.mono _ _
   | exact spec_FirstConflict.mono _ _
   | exact spec_HeldHours.mono _ _ _ _ _
   | exact LeO.none _
   | refine LeO.ite ?_ ?_
   | refine LeO.bind ?_ (fun _ => ?_)
theorem laws_FnFiles.mono : ∀ a0 k,LeO (laws_FnFiles.f k a0) (laws_FnFiles.f (k + 1) a0):=by
 intro a0 k
 obtain ⟨ih0,ih1,ih2,ih3,ih4⟩ := laws_FnFiles.mono_l k
 unfold laws_FnFiles.f
 repeat' first
   | (with_reducible exact ih0 _ _ _ _ _ _ _ _ _)
   | (with_reducible exact ih1 _ _)
   | (with_reducible exact ih2 _ _ _ _ _)
   | (with_reducible exact ih3 _ _)
   | (with_reducible exact ih4 _ _)
   | (with_reducible exact impl_AddEntry.mono _ _ _ _ _ _)
   | (with_reducible exact impl_BusiestHold.mono _ _)
   | (with_reducible exact impl_FirstConflict.mono _ _)
   | (with_reducible exact impl_HeldHours.mono _ _ _ _ _)
   | (with_reducible exact impl_IsValidFile.mono _ _)
   | (with_reducible exact laws_rFiles.mono _ _ _)
   | (with_reducible exact spec_AddEntry.mono _ _ _ _ _ _)
   | (with_reducible exact spec_BusiestHold.mono _ _)
   | (with_reducible exact spec_DrawAddEntry.mono _ _)
   | (with_reducible exact spec_DrawBusiestHold.mono _ _)
   | (with_reducible exact spec_DrawFirstConflict.mono _ _)
   | (with_reducible exact spec_DrawHeldHours.mono _ _)
   | (with_reducible exact spec_FirstConflict.mono _ _)
   | (with_reducible exact spec_HeldHours.mono _ _ _ _ _)
   | (with_reducible exact LeO.refl _)
   | (with_reducible exact LeO.none _)
   | (with_reducible refine LeO.ite ?_ ?_)
   | (with_reducible refine LeO.bind ?_ (fun _ => ?_))
   | exact ih0 _ _ _ _ _ _ _ _ _
   | exact ih1 _ _
   | exact ih2 _ _ _ _ _
   | exact ih3 _ _
   | exact ih4 _ _
   | exact impl_AddEntry.mono _ _ _ _ _ _
   | exact impl_BusiestHold.mono _ _
   | exact impl_FirstConflict.mono _ _
   | exact impl_HeldHours.mono _ _ _ _ _
   | exact impl_IsValidFile.mono _ _
   | exact laws_rFiles.mono _ _ _
   | exact spec_AddEntry.mono _ _ _ _ _ _
   | exact spec_BusiestHold.mono _ _
   | exact spec_DrawAddEntry.mono _ _
   | exact spec_DrawBusiestHold.mono _ _
   | exact spec_DrawFirstConflict.mono _ _
   | exact spec_DrawHeldHours.mono _ _
   | exact spec_FirstConflict.mono _ _
   | exact spec_HeldHours.mono _ _ _ _ _
   | exact LeO.none _
   | refine LeO.ite ?_ ?_
   | refine LeO.bind ?_ (fun _ => ?_)
set_option maxHeartbeats 8000000 in
set_option maxRecDepth 100000 in
theorem laws_FnFiles.calls (k : Nat) (A0 : Option Addr) (c0 : Nat) (l0 : List Int) (r : Bool) (w : World) (hr0 : Kd.C (Kd.int .u8) w A0 l0.length l0) (hc0 : l0.length ≤ c0) (h : laws_FnFiles.f k l0 = some r) :
  Calls Try.prog 3 #[.slice A0 l0.length c0] w fun e w' => e = .returned (.bool r) ∧ Below w.heap.size w w':=by
 have hu26:=Try.underlying26
 have HR0:=Aside0.mk hr0
 have HC0:=Aside0.mk hc0
 clear hr0 hc0
 have HB:=Aside0.mk (Below.refl w.heap.size w)
 have H : ((laws_rBig.f l0).bind fun t429 => (if t429 = true then (some true) else ((spec_DrawAddEntry.f k l0).bind fun bt430 => ((impl_AddEntry.f k bt430.1 bt430.2.1 bt430.2.2.1 bt430.2.2.2.1 bt430.2.2.2.2).bind fun bt438 => ((spec_AddEntry.f k bt430.1 bt430.2.1 bt430.2.2.1 bt430.2.2.2.1 bt430.2.2.2.2).bind fun bt442 => (if (bt438.2 != bt442.2) = true then (laws_FnFiles.j0 k l0 bt430.1 bt438.1 bt438.2 true bt430.2.1 bt430.2.2.1 bt430.2.2.2.1 bt430.2.2.2.2) else ((laws_rFiles.f k bt438.1 bt442.1).bind fun t446 => (laws_FnFiles.j0 k l0 bt430.1 bt438.1 bt438.2 (!t446) bt430.2.1 bt430.2.2.1 bt430.2.2.2.1 bt430.2.2.2.2)))))))) = some r:=h
 clear h
 replace H:=Option.bind_eq_some_iff.mp H
 obtain ⟨t429,A20,H⟩ := H
 replace H : (if t429 = true then (some true) else ((spec_DrawAddEntry.f k l0).bind fun bt430 => ((impl_AddEntry.f k bt430.1 bt430.2.1 bt430.2.2.1 bt430.2.2.2.1 bt430.2.2.2.2).bind fun bt438 => ((spec_AddEntry.f k bt430.1 bt430.2.1 bt430.2.2.1 bt430.2.2.2.1 bt430.2.2.2.2).bind fun bt442 => (if (bt438.2 != bt442.2) = true then (laws_FnFiles.j0 k l0 bt430.1 bt438.1 bt438.2 true bt430.2.1 bt430.2.2.1 bt430.2.2.2.1 bt430.2.2.2.2) else ((laws_rFiles.f k bt438.1 bt442.1).bind fun t446 => (laws_FnFiles.j0 k l0 bt430.1 bt438.1 bt438.2 (!t446) bt430.2.1 bt430.2.2.1 bt430.2.2.2.1 bt430.2.2.2.2))))))) = some r:=H
 have A2:=Aside0.mk A20
 clear A20
 by_cases c3 : t429 = true
 ·subst c3
  have H1 : (some true) = some r:=by rw [if_pos rfl] at H;exact H
  clear H
  have H:=H1
  clear H1
  obtain rfl:=Option.some.inj H
  go_enter Try.func3,Try.ntmps3
  as_aux_lemma =>
   go_wp2_with ((go_at_call 4;(with_reducible refine (laws_rBig.calls _ _ l0 true _ ?side1 ?side2 A2.out).mono ?_);(case side1 => repeat (exact HR0.out));(case side2 => exact HC0.out);rintro e w' ⟨rfl,⟨nd,rfl⟩⟩;(try first | exact ⟨rfl,_,World.drewN_drewN _ _ _⟩ | exact ⟨rfl,_,Eq.trans (World.drewN_drewN _ _ _) (congrArg (World.drewN _) (Nat.add_assoc _ _ _))⟩)))
   repeat (go_quiet (fail);try go_wp2_with (fail))
   go_ret
   exact ⟨by rfl,by repeat ((with_reducible first | exact HB.out | apply pw_below_drewN))⟩
 ·replace c3:=Bool.eq_false_iff.mpr c3
  subst c3
  have H1 : ((spec_DrawAddEntry.f k l0).bind fun bt430 => ((impl_AddEntry.f k bt430.1 bt430.2.1 bt430.2.2.1 bt430.2.2.2.1 bt430.2.2.2.2).bind fun bt438 => ((spec_AddEntry.f k bt430.1 bt430.2.1 bt430.2.2.1 bt430.2.2.2.1 bt430.2.2.2.2).bind fun bt442 => (if (bt438.2 != bt442.2) = true then (laws_FnFiles.j0 k l0 bt430.1 bt438.1 bt438.2 true bt430.2.1 bt430.2.2.1 bt430.2.2.2.1 bt430.2.2.2.2) else ((laws_rFiles.f k bt438.1 bt442.1).bind fun t446 => (laws_FnFiles.j0 k l0 bt430.1 bt438.1 bt438.2 (!t446) bt430.2.1 bt430.2.2.1 bt430.2.2.2.1 bt430.2.2.2.2)))))) = some r:=by rw [if_neg (show ¬ (false = true) by decide)] at H;exact H
  clear H
  have H:=H1
  clear H1
  replace H:=Option.bind_eq_some_iff.mp H
  obtain ⟨⟨t430,t433,t434,t435,t436⟩,A40,H⟩ := H
  replace H : ((impl_AddEntry.f k t430 t433 t434 t435 t436).bind fun bt438 => ((spec_AddEntry.f k t430 t433 t434 t435 t436).bind fun bt442 => (if (bt438.2 != bt442.2) = true then (laws_FnFiles.j0 k l0 t430 bt438.1 bt438.2 true t433 t434 t435 t436) else ((laws_rFiles.f k bt438.1 bt442.1).bind fun t446 => (laws_FnFiles.j0 k l0 t430 bt438.1 bt438.2 (!t446) t433 t434 t435 t436))))) = some r:=H
  have A4:=Aside0.mk A40
  clear A40
  replace H:=Option.bind_eq_some_iff.mp H
  obtain ⟨⟨t438,t441⟩,A50,H⟩ := H
  replace H : ((spec_AddEntry.f k t430 t433 t434 t435 t436).bind fun bt442 => (if (t441 != bt442.2) = true then (laws_FnFiles.j0 k l0 t430 t438 t441 true t433 t434 t435 t436) else ((laws_rFiles.f k t438 bt442.1).bind fun t446 => (laws_FnFiles.j0 k l0 t430 t438 t441 (!t446) t433 t434 t435 t436)))) = some r:=H
  have A5:=Aside0.mk A50
  clear A50
  replace H:=Option.bind_eq_some_iff.mp H
  obtain ⟨⟨t442,t445⟩,A60,H⟩ := H
  replace H : (if (t441 != t445) = true then (laws_FnFiles.j0 k l0 t430 t438 t441 true t433 t434 t435 t436) else ((laws_rFiles.f k t438 t442).bind fun t446 => (laws_FnFiles.j0 k l0 t430 t438 t441 (!t446) t433 t434 t435 t436))) = some r:=H
  have A6:=Aside0.mk A60
  clear A60
  have HC7:=Aside0.mk H
  clear H
  go_enter Try.func3,Try.ntmps3
  go_upto_region 6 with (first | (go_at_call 4;(with_reducible refine (laws_rBig.calls _ _ l0 false _ ?side1 ?side2 A2.out).mono ?_);(case side1 => repeat (exact HR0.out));(case side2 => exact HC0.out);rintro e w' ⟨rfl,⟨nd,rfl⟩⟩;(try first | exact ⟨rfl,_,World.drewN_drewN _ _ _⟩ | exact ⟨rfl,_,Eq.trans (World.drewN_drewN _ _ _) (congrArg (World.drewN _) (Nat.add_assoc _ _ _))⟩)) | (go_at_call 5;(with_reducible refine (spec_DrawAddEntry.calls k _ _ l0 t430 t433 t434 t435 t436 _ ?side1 ?side2 A4.out).mono ?_);(case side1 => repeat (exact HR0.out));(case side2 => exact HC0.out);rintro e w8 ⟨v431,rfl,ho0,hb⟩;have n0_:=Aside0.mk (Kd.Q_lower ho0 (below_size (by repeat ((with_reducible first | exact HB.out | apply pw_below_drewN)))));have n1_:=Aside0.mk (below_step (by repeat ((with_reducible first | exact HB.out | apply pw_below_drewN))) hb);clear HB;have HO432:=n0_;have HB:=n1_;clear n0_ n1_;(try clear hb);(try clear ho0)) | ((with_reducible refine gate_dst (N:=4) rfl ?_);(try (refine gate_guard (by rfl) ?_;dsimp only));refine box_event ?hg (N:=4) ?hd (cs:=#[.int .i64 0, .string (⟨#[]⟩ : ByteArray), .bool false, .int .i64 0]) (t:=26) ?hr ?_;(case hd => rfl);(case hg => rfl);(case hr => (go_simp;done));intro gb437 hg w9 hbox hb;have n0_:=Aside0.mk (Kd.Q_below (Kd.Q_elderB (by exact HO432.out) gb437 (Nat.le_of_eq hg.symm)) hb);have n1_:=Aside0.mk (below_step (by exact HB.out) hb);have n2_:=Aside0.mk (hbox);have n3_:=Aside0.mk ((by rw [hg];exact (below_size (by exact HB.out)) : w.heap.size ≤ gb437));have n4_:=Aside0.mk ((by rw [hg];exact (below_size (by exact HB.out)) : w.heap.size ≤ gb437));clear HO432;clear HB;have HO432:=n0_;have HB:=n1_;have BK437:=n2_;have GW437:=n3_;have GE437:=n4_;clear n0_ n1_ n2_ n3_ n4_;clear hb hbox hg;have hcz10_0 : w9.cell? ⟨gb437,0,none⟩ = some (.int .i64 0):=(blk_cell BK437.out 0).trans rfl;have hcz10_1 : w9.cell? ⟨gb437,1,none⟩ = some (.string (⟨#[]⟩ : ByteArray)):=(blk_cell BK437.out 1).trans rfl;have hcz10_2 : w9.cell? ⟨gb437,2,none⟩ = some (.bool false):=(blk_cell BK437.out 2).trans rfl;have hcz10_3 : w9.cell? ⟨gb437,3,none⟩ = some (.int .i64 0):=(blk_cell BK437.out 3).trans rfl;have hfz10_0:=blk_frozen BK437.out 0;have hfz10_1:=blk_frozen BK437.out 1;have hfz10_2:=blk_frozen BK437.out 2;have hfz10_3:=blk_frozen BK437.out 3;obtain ⟨Ao11,co11,eo11,_⟩ := Kd.Q_slice HO432.out;subst eo11) | (go_at_call 6;(with_reducible refine (impl_AddEntry.calls k _ _ t430 t433 t434 t435 t436 t438 t441 _ ?side1 ?side2 A5.out).mono ?_);(case side1 => refine (Kd.Q_reads' (e:=26) (base:=w.heap.size) (ok:=fun k_ => (True ∧ k_ ≠ gb437)) (n:=t430.length) (c:=co11) ?_).2.2;exact (by exact (Kd.Q_mono (Kd.Q_far (p:=⟨gb437,3,none⟩) (Kd.Q_far (p:=⟨gb437,2,none⟩) (Kd.Q_far (p:=⟨gb437,1,none⟩) (Kd.Q_far (p:=⟨gb437,0,none⟩) (Kd.Q_mono HO432.out (fun k_ hk => (⟨hk,hk.2⟩ : _ ∧ k_ ≠ gb437))) (fun _ hk => hk.2) (.int .i64 t433)) (fun _ hk => hk.2) (.string t434)) (fun _ hk => hk.2) (.bool t435)) (fun _ hk => hk.2) (.int .i64 t436)) (fun _ h_ => h_.1))));(case side2 => exact (Kd.Q_reads' HO432.out).2.1);rintro e w12 ⟨v439,rfl,ho0,hb⟩;have n0_:=Aside0.mk (Kd.Q_elder' (by exact (Kd.Q_mono (Kd.Q_far (p:=⟨gb437,3,none⟩) (Kd.Q_far (p:=⟨gb437,2,none⟩) (Kd.Q_far (p:=⟨gb437,1,none⟩) (Kd.Q_far (p:=⟨gb437,0,none⟩) (Kd.Q_mono HO432.out (fun k_ hk => (⟨hk,hk.2⟩ : _ ∧ k_ ≠ gb437))) (fun _ hk => hk.2) (.int .i64 t433)) (fun _ hk => hk.2) (.string t434)) (fun _ hk => hk.2) (.bool t435)) (fun _ hk => hk.2) (.int .i64 t436)) (fun _ h_ => h_.1))) (Kd.R_base ho0) hb);have n1_:=Aside0.mk (Kd.R_lower (Kd.R_newB (Kd.R_new' ho0 (Kd.Q_lt (by exact (Kd.Q_mono (Kd.Q_far (p:=⟨gb437,3,none⟩) (Kd.Q_far (p:=⟨gb437,2,none⟩) (Kd.Q_far (p:=⟨gb437,1,none⟩) (Kd.Q_far (p:=⟨gb437,0,none⟩) (Kd.Q_mono HO432.out (fun k_ hk => (⟨hk,hk.2⟩ : _ ∧ k_ ≠ gb437))) (fun _ hk => hk.2) (.int .i64 t433)) (fun _ hk => hk.2) (.string t434)) (fun _ hk => hk.2) (.bool t435)) (fun _ hk => hk.2) (.int .i64 t436)) (fun _ h_ => h_.1))))) (g:=gb437) (o := .cells #[.int .i64 t433, .string t434, .bool t435, .int .i64 t436] 26 (0,0)) (by refine blk_put (cs:=#[.int .i64 t433, .string t434, .bool t435, .int .i64 0]) ?_ 3 _ rfl;refine blk_put (cs:=#[.int .i64 t433, .string t434, .bool false, .int .i64 0]) ?_ 2 _ rfl;refine blk_put (cs:=#[.int .i64 t433, .string (⟨#[]⟩ : ByteArray), .bool false, .int .i64 0]) ?_ 1 _ rfl;refine blk_put (cs:=#[.int .i64 0, .string (⟨#[]⟩ : ByteArray), .bool false, .int .i64 0]) ?_ 0 _ rfl;exact BK437.out)) (below_size (by repeat ((with_reducible first | exact HB.out | refine below_set ?_ GE437.out)))));have n2_:=Aside0.mk (blk_below (g:=gb437) (o := .cells #[.int .i64 t433, .string t434, .bool t435, .int .i64 t436] 26 (0,0)) (by refine blk_put (cs:=#[.int .i64 t433, .string t434, .bool t435, .int .i64 0]) ?_ 3 _ rfl;refine blk_put (cs:=#[.int .i64 t433, .string t434, .bool false, .int .i64 0]) ?_ 2 _ rfl;refine blk_put (cs:=#[.int .i64 t433, .string (⟨#[]⟩ : ByteArray), .bool false, .int .i64 0]) ?_ 1 _ rfl;refine blk_put (cs:=#[.int .i64 0, .string (⟨#[]⟩ : ByteArray), .bool false, .int .i64 0]) ?_ 0 _ rfl;exact BK437.out) hb);have n3_:=Aside0.mk (below_step (by repeat ((with_reducible first | exact HB.out | refine below_set ?_ GE437.out))) hb);clear HO432;clear BK437;clear HB;have HO432:=n0_;have HO440:=n1_;have BK437:=n2_;have HB:=n3_;clear n0_ n1_ n2_ n3_;(try clear hb);(try clear ho0);have hcz13_0 : w12.cell? ⟨gb437,0,none⟩ = some (.int .i64 t433):=(blk_cell BK437.out 0).trans rfl;have hcz13_1 : w12.cell? ⟨gb437,1,none⟩ = some (.string t434):=(blk_cell BK437.out 1).trans rfl;have hcz13_2 : w12.cell? ⟨gb437,2,none⟩ = some (.bool t435):=(blk_cell BK437.out 2).trans rfl;have hcz13_3 : w12.cell? ⟨gb437,3,none⟩ = some (.int .i64 t436):=(blk_cell BK437.out 3).trans rfl;have hfz13_0:=blk_frozen BK437.out 0;have hfz13_1:=blk_frozen BK437.out 1;have hfz13_2:=blk_frozen BK437.out 2;have hfz13_3:=blk_frozen BK437.out 3) | (go_at_call 7;(with_reducible refine (spec_AddEntry.calls k _ _ t430 t433 t434 t435 t436 t442 t445 _ ?side1 ?side2 A6.out).mono ?_);(case side1 => repeat (exact (Kd.Q_reads' HO432.out).2.2));(case side2 => exact (Kd.Q_reads' HO432.out).2.1);rintro e w14 ⟨v443,rfl,ho0,hb⟩;have n0_:=Aside0.mk (Kd.Q_elder' (by exact HO432.out) (Kd.R_base ho0) hb);have n1_:=Aside0.mk (Kd.R_elder' (by exact HO440.out) (Kd.R_base ho0) hb);have n2_:=Aside0.mk (Kd.R_lower (Kd.R_newB (Kd.R_new' (Kd.R_new' ho0 (Kd.Q_lt (by exact HO432.out))) (Kd.R_lt (by exact HO440.out))) (g:=gb437) (o := .cells #[.int .i64 t433, .string t434, .bool t435, .int .i64 t436] 26 (0,0)) (by exact BK437.out)) (below_size (by exact HB.out)));have n3_:=Aside0.mk (blk_below (g:=gb437) (o := .cells #[.int .i64 t433, .string t434, .bool t435, .int .i64 t436] 26 (0,0)) (by exact BK437.out) hb);have n4_:=Aside0.mk (below_step (by exact HB.out) hb);clear HO432;clear HO440;clear BK437;clear HB;have HO432:=n0_;have HO440:=n1_;have HO444:=n2_;have BK437:=n3_;have HB:=n4_;clear n0_ n1_ n2_ n3_ n4_;(try clear hb);(try clear ho0)))
  repeat (go_quiet (fail);go_upto_region 6 with (first | (go_at_call 4;(with_reducible refine (laws_rBig.calls _ _ l0 false _ ?side1 ?side2 A2.out).mono ?_);(case side1 => repeat (first | exact HR0.out | (with_reducible refine Kd.C_alloc ?_ _) | (with_reducible refine Kd.C_drewN ?_ _) | (with_reducible refine Kd.C_drew ?_)));(case side2 => exact HC0.out);rintro e w' ⟨rfl,⟨nd,rfl⟩⟩;(try first | exact ⟨rfl,_,World.drewN_drewN _ _ _⟩ | exact ⟨rfl,_,Eq.trans (World.drewN_drewN _ _ _) (congrArg (World.drewN _) (Nat.add_assoc _ _ _))⟩)) | (go_at_call 5;(with_reducible refine (spec_DrawAddEntry.calls k _ _ l0 t430 t433 t434 t435 t436 _ ?side1 ?side2 A4.out).mono ?_);(case side1 => repeat (first | exact HR0.out | (with_reducible refine Kd.C_alloc ?_ _) | (with_reducible refine Kd.C_drewN ?_ _) | (with_reducible refine Kd.C_drew ?_)));(case side2 => exact HC0.out);rintro e w8 ⟨v431,rfl,ho0,hb⟩;have n0_:=Aside0.mk (Kd.Q_lower ho0 (below_size (by repeat (first | (with_reducible first | exact HB.out | apply below_alloc | apply pw_below_drewN | apply below_drew1) | exact HB.out))));have n1_:=Aside0.mk (below_step (by repeat (first | (with_reducible first | exact HB.out | apply below_alloc | apply pw_below_drewN | apply below_drew1) | exact HB.out)) hb);clear HB;have HO432:=n0_;have HB:=n1_;clear n0_ n1_;(try clear hb);(try clear hb2);(try clear hk);(try clear hi);(try clear ho0)) | ((with_reducible refine gate_dst (N:=4) rfl ?_);(try (refine gate_guard (by rfl) ?_;dsimp only));refine box_event ?hg (N:=4) ?hd (cs:=#[.int .i64 0, .string (⟨#[]⟩ : ByteArray), .bool false, .int .i64 0]) (t:=26) ?hr ?_;(case hd => rfl);(case hg => rfl);(case hr => first | (go_simp;done) | (go_simp;rfl));intro gb437 hg w9 hbox hb;have n0_:=Aside0.mk (Kd.Q_below (Kd.Q_elderB (by (with_reducible repeat (first | apply Kd.Q_alloc | apply Kd.Q_drewN | apply Kd.Q_drew));exact HO432.out) gb437 (Nat.le_of_eq hg.symm)) hb);have n1_:=Aside0.mk (below_step (by repeat (first | (with_reducible first | exact HB.out | apply below_alloc | apply pw_below_drewN | apply below_drew1) | exact HB.out)) hb);have n2_:=Aside0.mk (hbox);have n3_:=Aside0.mk ((by rw [hg];exact (below_size (by repeat (first | (with_reducible first | exact HB.out | apply below_alloc | apply pw_below_drewN | apply below_drew1) | exact HB.out))) : w.heap.size ≤ gb437));have n4_:=Aside0.mk ((by rw [hg];exact (below_size (by repeat (first | (with_reducible first | exact HB.out | apply below_alloc | apply pw_below_drewN | apply below_drew1) | exact HB.out))) : w.heap.size ≤ gb437));clear HO432;clear HB;have HO432:=n0_;have HB:=n1_;have BK437:=n2_;have GW437:=n3_;have GE437:=n4_;clear n0_ n1_ n2_ n3_ n4_;clear hb hbox hg;have hcz10_0 : w9.cell? ⟨gb437,0,none⟩ = some (.int .i64 0):=(blk_cell BK437.out 0).trans rfl;have hcz10_1 : w9.cell? ⟨gb437,1,none⟩ = some (.string (⟨#[]⟩ : ByteArray)):=(blk_cell BK437.out 1).trans rfl;have hcz10_2 : w9.cell? ⟨gb437,2,none⟩ = some (.bool false):=(blk_cell BK437.out 2).trans rfl;have hcz10_3 : w9.cell? ⟨gb437,3,none⟩ = some (.int .i64 0):=(blk_cell BK437.out 3).trans rfl;have hfz10_0:=blk_frozen BK437.out 0;have hfz10_1:=blk_frozen BK437.out 1;have hfz10_2:=blk_frozen BK437.out 2;have hfz10_3:=blk_frozen BK437.out 3;obtain ⟨Ao11,co11,eo11,_⟩ := Kd.Q_slice HO432.out;subst eo11) | (go_at_call 6;(with_reducible refine (impl_AddEntry.calls k _ _ t430 t433 t434 t435 t436 t438 t441 _ ?side1 ?side2 A5.out).mono ?_);(case side1 => refine (Kd.Q_reads' (e:=26) (base:=w.heap.size) (ok:=fun k_ => (True ∧ k_ ≠ gb437)) (n:=t430.length) (c:=co11) ?_).2.2;exact (by (with_reducible repeat (first | apply Kd.Q_alloc | apply Kd.Q_drewN | apply Kd.Q_drew));exact (Kd.Q_mono (Kd.Q_far (p:=⟨gb437,3,none⟩) (Kd.Q_far (p:=⟨gb437,2,none⟩) (Kd.Q_far (p:=⟨gb437,1,none⟩) (Kd.Q_far (p:=⟨gb437,0,none⟩) (Kd.Q_mono HO432.out (fun k_ hk => (⟨hk,hk.2⟩ : _ ∧ k_ ≠ gb437))) (fun _ hk => hk.2) (.int .i64 t433)) (fun _ hk => hk.2) (.string t434)) (fun _ hk => hk.2) (.bool t435)) (fun _ hk => hk.2) (.int .i64 t436)) (fun _ h_ => h_.1))));(case side2 => exact (Kd.Q_reads' HO432.out).2.1);rintro e w12 ⟨v439,rfl,ho0,hb⟩;have n0_:=Aside0.mk (Kd.Q_elder' (by (with_reducible repeat (first | apply Kd.Q_alloc | apply Kd.Q_drewN | apply Kd.Q_drew));exact (Kd.Q_mono (Kd.Q_far (p:=⟨gb437,3,none⟩) (Kd.Q_far (p:=⟨gb437,2,none⟩) (Kd.Q_far (p:=⟨gb437,1,none⟩) (Kd.Q_far (p:=⟨gb437,0,none⟩) (Kd.Q_mono HO432.out (fun k_ hk => (⟨hk,hk.2⟩ : _ ∧ k_ ≠ gb437))) (fun _ hk => hk.2) (.int .i64 t433)) (fun _ hk => hk.2) (.string t434)) (fun _ hk => hk.2) (.bool t435)) (fun _ hk => hk.2) (.int .i64 t436)) (fun _ h_ => h_.1))) (Kd.R_base ho0) hb);have n1_:=Aside0.mk (Kd.R_lower (Kd.R_newB (Kd.R_new' ho0 (Kd.Q_lt (by (with_reducible repeat (first | apply Kd.Q_alloc | apply Kd.Q_drewN | apply Kd.Q_drew));exact (Kd.Q_mono (Kd.Q_far (p:=⟨gb437,3,none⟩) (Kd.Q_far (p:=⟨gb437,2,none⟩) (Kd.Q_far (p:=⟨gb437,1,none⟩) (Kd.Q_far (p:=⟨gb437,0,none⟩) (Kd.Q_mono HO432.out (fun k_ hk => (⟨hk,hk.2⟩ : _ ∧ k_ ≠ gb437))) (fun _ hk => hk.2) (.int .i64 t433)) (fun _ hk => hk.2) (.string t434)) (fun _ hk => hk.2) (.bool t435)) (fun _ hk => hk.2) (.int .i64 t436)) (fun _ h_ => h_.1))))) (g:=gb437) (o := .cells #[.int .i64 t433, .string t434, .bool t435, .int .i64 t436] 26 (0,0)) (by (with_reducible repeat (first | refine blk_drewN ?_ _ | refine blk_drew ?_ | refine blk_alloc ?_ _));refine blk_put (cs:=#[.int .i64 t433, .string t434, .bool t435, .int .i64 0]) ?_ 3 _ rfl;(with_reducible repeat (first | refine blk_drewN ?_ _ | refine blk_drew ?_ | refine blk_alloc ?_ _));refine blk_put (cs:=#[.int .i64 t433, .string t434, .bool false, .int .i64 0]) ?_ 2 _ rfl;(with_reducible repeat (first | refine blk_drewN ?_ _ | refine blk_drew ?_ | refine blk_alloc ?_ _));refine blk_put (cs:=#[.int .i64 t433, .string (⟨#[]⟩ : ByteArray), .bool false, .int .i64 0]) ?_ 1 _ rfl;(with_reducible repeat (first | refine blk_drewN ?_ _ | refine blk_drew ?_ | refine blk_alloc ?_ _));refine blk_put (cs:=#[.int .i64 0, .string (⟨#[]⟩ : ByteArray), .bool false, .int .i64 0]) ?_ 0 _ rfl;(with_reducible repeat (first | refine blk_drewN ?_ _ | refine blk_drew ?_ | refine blk_alloc ?_ _));exact BK437.out)) (below_size (by repeat (first | (with_reducible first | exact HB.out | apply below_alloc | apply pw_below_drewN | apply below_drew1 | refine below_set ?_ GE437.out) | exact HB.out))));have n2_:=Aside0.mk (blk_below (g:=gb437) (o := .cells #[.int .i64 t433, .string t434, .bool t435, .int .i64 t436] 26 (0,0)) (by (with_reducible repeat (first | refine blk_drewN ?_ _ | refine blk_drew ?_ | refine blk_alloc ?_ _));refine blk_put (cs:=#[.int .i64 t433, .string t434, .bool t435, .int .i64 0]) ?_ 3 _ rfl;(with_reducible repeat (first | refine blk_drewN ?_ _ | refine blk_drew ?_ | refine blk_alloc ?_ _));refine blk_put (cs:=#[.int .i64 t433, .string t434, .bool false, .int .i64 0]) ?_ 2 _ rfl;(with_reducible repeat (first | refine blk_drewN ?_ _ | refine blk_drew ?_ | refine blk_alloc ?_ _));refine blk_put (cs:=#[.int .i64 t433, .string (⟨#[]⟩ : ByteArray), .bool false, .int .i64 0]) ?_ 1 _ rfl;(with_reducible repeat (first | refine blk_drewN ?_ _ | refine blk_drew ?_ | refine blk_alloc ?_ _));refine blk_put (cs:=#[.int .i64 0, .string (⟨#[]⟩ : ByteArray), .bool false, .int .i64 0]) ?_ 0 _ rfl;(with_reducible repeat (first | refine blk_drewN ?_ _ | refine blk_drew ?_ | refine blk_alloc ?_ _));exact BK437.out) hb);have n3_:=Aside0.mk (below_step (by repeat (first | (with_reducible first | exact HB.out | apply below_alloc | apply pw_below_drewN | apply below_drew1 | refine below_set ?_ GE437.out) | exact HB.out)) hb);clear HO432;clear BK437;clear HB;have HO432:=n0_;have HO440:=n1_;have BK437:=n2_;have HB:=n3_;clear n0_ n1_ n2_ n3_;(try clear hb);(try clear hb2);(try clear hk);(try clear hi);(try clear ho0);have hcz13_0 : w12.cell? ⟨gb437,0,none⟩ = some (.int .i64 t433):=(blk_cell BK437.out 0).trans rfl;have hcz13_1 : w12.cell? ⟨gb437,1,none⟩ = some (.string t434):=(blk_cell BK437.out 1).trans rfl;have hcz13_2 : w12.cell? ⟨gb437,2,none⟩ = some (.bool t435):=(blk_cell BK437.out 2).trans rfl;have hcz13_3 : w12.cell? ⟨gb437,3,none⟩ = some (.int .i64 t436):=(blk_cell BK437.out 3).trans rfl;have hfz13_0:=blk_frozen BK437.out 0;have hfz13_1:=blk_frozen BK437.out 1;have hfz13_2:=blk_frozen BK437.out 2;have hfz13_3:=blk_frozen BK437.out 3) | (go_at_call 7;(with_reducible refine (spec_AddEntry.calls k _ _ t430 t433 t434 t435 t436 t442 t445 _ ?side1 ?side2 A6.out).mono ?_);(case side1 => repeat (first | exact (Kd.Q_reads' HO432.out).2.2 | (with_reducible refine Kd.C_alloc ?_ _) | (with_reducible refine Kd.C_drewN ?_ _) | (with_reducible refine Kd.C_drew ?_)));(case side2 => exact (Kd.Q_reads' HO432.out).2.1);rintro e w14 ⟨v443,rfl,ho0,hb⟩;have n0_:=Aside0.mk (Kd.Q_elder' (by (with_reducible repeat (first | apply Kd.Q_alloc | apply Kd.Q_drewN | apply Kd.Q_drew));exact HO432.out) (Kd.R_base ho0) hb);have n1_:=Aside0.mk (Kd.R_elder' (by (with_reducible repeat (first | apply Kd.R_alloc | apply Kd.R_drewN | apply Kd.R_drew));exact HO440.out) (Kd.R_base ho0) hb);have n2_:=Aside0.mk (Kd.R_lower (Kd.R_newB (Kd.R_new' (Kd.R_new' ho0 (Kd.Q_lt (by (with_reducible repeat (first | apply Kd.Q_alloc | apply Kd.Q_drewN | apply Kd.Q_drew));exact HO432.out))) (Kd.R_lt (by (with_reducible repeat (first | apply Kd.R_alloc | apply Kd.R_drewN | apply Kd.R_drew));exact HO440.out))) (g:=gb437) (o := .cells #[.int .i64 t433, .string t434, .bool t435, .int .i64 t436] 26 (0,0)) (by (with_reducible repeat (first | refine blk_drewN ?_ _ | refine blk_drew ?_ | refine blk_alloc ?_ _));exact BK437.out)) (below_size (by repeat (first | (with_reducible first | exact HB.out | apply below_alloc | apply pw_below_drewN | apply below_drew1 | refine below_set ?_ GE437.out) | exact HB.out))));have n3_:=Aside0.mk (blk_below (g:=gb437) (o := .cells #[.int .i64 t433, .string t434, .bool t435, .int .i64 t436] 26 (0,0)) (by (with_reducible repeat (first | refine blk_drewN ?_ _ | refine blk_drew ?_ | refine blk_alloc ?_ _));exact BK437.out) hb);have n4_:=Aside0.mk (below_step (by repeat (first | (with_reducible first | exact HB.out | apply below_alloc | apply pw_below_drewN | apply below_drew1 | refine below_set ?_ GE437.out) | exact HB.out)) hb);clear HO432;clear HO440;clear BK437;clear HB;have HO432:=n0_;have HO440:=n1_;have HO444:=n2_;have BK437:=n3_;have HB:=n4_;clear n0_ n1_ n2_ n3_ n4_;(try clear hb);(try clear hb2);(try clear hk);(try clear hi);(try clear ho0))))
  (skip)
  go_cut [56] (fun v56 wc => ∃ (kq : Nat) (x56_6 : Bool),v56 = .bool x56_6 ∧ Aside0 (laws_FnFiles.j0 kq l0 t430 t438 t441 x56_6 t433 t434 t435 t436 = some r) ∧ Aside0 (kq ≤ k) ∧ Aside0 (Kd.Q k26 26 wc w.heap.size (fun k_ => some k_ ≠ (v439 : Value).ownBlock ∧ k_ ≠ gb437) (.slice Ao11 t430.length co11) t430) ∧ Aside0 (Kd.R k26 26 wc w.heap.size (fun k_ => some k_ ≠ ((.slice Ao11 t430.length co11) : Value).ownBlock ∧ k_ ≠ gb437) v439 t438) ∧ Aside0 (wc.heap[gb437]? = some (.cells #[.int .i64 t433, .string t434, .bool t435, .int .i64 t436] 26 (0,0))) ∧ Aside0 (Below w.heap.size w wc))
  case first =>
   have H:=HC7.out
   clear HC7
   by_cases c15 : (t441 != t445) = true
   ·rw [if_pos c15] at H
    have c15b0 : (t441 != t445) = true:=c15
    (try (have c15b1 : decide (t441 = t445) = false:=by simpa using c15))
    (try (have c15b2 : (t441 == t445) = false:=by simpa using c15))
    (try (have c15b3 : ¬ (t441 = t445):=by simpa using c15))
    clear c15
    (skip)
    have H':=Aside0.mk H
    clear H
    go_wp2
    repeat (go_quiet (fail);try go_wp2)
    go_meet
    case rel => exact ⟨_,(true),(by rfl),H',⟨by omega⟩,⟨by exact Kd.Q_mono HO432.out (fun _ hk => ⟨hk.1.2,hk.1.1.2⟩)⟩,⟨by exact Kd.R_mono HO440.out (fun _ hk => ⟨hk.1.1.2,hk.1.2⟩)⟩,⟨by exact BK437.out⟩,⟨by exact HB.out⟩⟩
   ·rw [if_neg c15] at H
    have c15b0 : (t441 != t445) = false:=by simpa using c15
    (try (have c15b1 : decide (t441 = t445) = true:=by simpa using c15))
    (try (have c15b2 : (t441 == t445) = true:=by simpa using c15))
    clear c15
    (skip)
    replace H:=Option.bind_eq_some_iff.mp H
    obtain ⟨t446,A160,H⟩ := H
    replace H : (laws_FnFiles.j0 k l0 t430 t438 t441 (!t446) t433 t434 t435 t436) = some r:=H
    have A16:=Aside0.mk A160
    clear A160
    have H':=Aside0.mk H
    clear H
    obtain ⟨Ao17,co17,eo17⟩ := Kd.R_slice HO440.out
    subst eo17
    obtain ⟨Ao18,co18,eo18⟩ := Kd.R_slice HO444.out
    subst eo18
    go_wp2_with ((go_at_call 8;(with_reducible refine (laws_rFiles.calls k _ _ t438 _ _ t442 t446 _ ?side1 ?side2 ?side3 ?side4 A16.out).mono ?_);(case side1 => repeat (exact (Kd.R_reads' HO440.out).2.2));(case side2 => exact (Kd.R_reads' HO440.out).2.1);(case side3 => repeat (exact (Kd.R_reads' HO444.out).2.2));(case side4 => exact (Kd.R_reads' HO444.out).2.1);rintro e w' ⟨rfl,⟨nd,rfl⟩⟩;(try first | exact ⟨rfl,_,World.drewN_drewN _ _ _⟩ | exact ⟨rfl,_,Eq.trans (World.drewN_drewN _ _ _) (congrArg (World.drewN _) (Nat.add_assoc _ _ _))⟩)))
    repeat (go_quiet (fail);try go_wp2_with (fail))
    go_meet
    case rel => exact ⟨_,(!t446),(by rfl),H',⟨by omega⟩,⟨by (with_reducible repeat (apply Kd.Q_drewN));exact Kd.Q_mono HO432.out (fun _ hk => ⟨hk.1.2,hk.1.1.2⟩)⟩,⟨by (with_reducible repeat (apply Kd.R_drewN));exact Kd.R_mono HO440.out (fun _ hk => ⟨hk.1.1.2,hk.1.2⟩)⟩,⟨by (with_reducible repeat (refine blk_drewN ?_ _));exact BK437.out⟩,⟨by repeat ((with_reducible first | exact HB.out | apply pw_below_drewN))⟩⟩
  case rest => as_aux_lemma =>
   clear HC7
   try clear c1
   try clear p2
   try clear c3
   try clear c15
   try clear c15b0
   try clear c15b1
   try clear c15b2
   try clear hcz10_0
   try clear hcz10_1
   try clear hcz10_2
   try clear hcz10_3
   try clear hcz13_0
   try clear hcz13_1
   try clear hcz13_2
   try clear hcz13_3
   try clear hfz10_0
   try clear hfz10_1
   try clear hfz10_2
   try clear hfz10_3
   try clear hfz13_0
   try clear hfz13_1
   try clear hfz13_2
   try clear hfz13_3
   obtain ⟨kq,x56_6,rfl,HA,HJ6,HO_3,HO_5,BK437,HB⟩ := hcut
   cases kq with
   | zero => exact absurd HA.out (by simp [laws_FnFiles.j0])
   | succ kj6 =>
    have H:=HA.out
    clear HA
    simp only [laws_FnFiles.j0] at H
    by_cases c19 : x56_6 = true
    ·subst c19
     have H1 : (some false) = some r:=by rw [if_pos rfl] at H;exact H
     clear H
     have H:=H1
     clear H1
     obtain rfl:=Option.some.inj H
     as_aux_lemma =>
      go_wp2
      repeat (go_quiet (fail);try go_wp2)
      go_ret
      exact ⟨by rfl,by exact HB.out⟩
    ·replace c19:=Bool.eq_false_iff.mpr c19
     subst c19
     have H1 : (if t441 = true then (if (t438.length : Int) = (wrap64 ((t430.length : Int) + 1)) then (if 0 ≤ (t430.length : Int) then (if (t430.length : Int) < (t438.length : Int) then (laws_FnFiles.j1 kj6 l0 (!(((rd_T26 t438 (t430.length : Int)).f0) == t433) || (!((((rd_T26 t438 (t430.length : Int)).f1).toList) == t434.toList) || (!(((rd_T26 t438 (t430.length : Int)).f2) == t435) || (!(((rd_T26 t438 (t430.length : Int)).f3) == t436)))))) else (none)) else (none)) else (laws_FnFiles.j1 kj6 l0 true)) else (laws_FnFiles.j1 kj6 l0 false)) = some r:=by rw [if_neg (show ¬ (false = true) by decide)] at H;exact H
     clear H
     have H:=H1
     clear H1
     have HC20:=Aside0.mk H
     clear H
     go_upto_region 8 with (fail)
     repeat (go_quiet (fail);go_upto_region 8 with (fail))
     go_cut [74] (fun v74 wc => ∃ (kq : Nat) (x74_19 : Bool),v74 = .bool x74_19 ∧ Aside0 (laws_FnFiles.j1 kq l0 x74_19 = some r) ∧ Aside0 (kq ≤ kj6) ∧ Aside0 (wc.heap[gb437]? = some (.cells #[.int .i64 t433, .string t434, .bool t435, .int .i64 t436] 26 (0,0))) ∧ Aside0 (Below w.heap.size w wc))
     case first =>
      have H:=HC20.out
      clear HC20
      by_cases c21 : t441 = true
      ·subst c21
       have H1 : (if (t438.length : Int) = (wrap64 ((t430.length : Int) + 1)) then (if 0 ≤ (t430.length : Int) then (if (t430.length : Int) < (t438.length : Int) then (laws_FnFiles.j1 kj6 l0 (!(((rd_T26 t438 (t430.length : Int)).f0) == t433) || (!((((rd_T26 t438 (t430.length : Int)).f1).toList) == t434.toList) || (!(((rd_T26 t438 (t430.length : Int)).f2) == t435) || (!(((rd_T26 t438 (t430.length : Int)).f3) == t436)))))) else (none)) else (none)) else (laws_FnFiles.j1 kj6 l0 true)) = some r:=by rw [if_pos rfl] at H;exact H
       clear H
       have H:=H1
       clear H1
       by_cases c22 : (t438.length : Int) = (wrap64 ((t430.length : Int) + 1))
       ·rw [if_pos c22] at H
        have c22b0 : ((t438.length : Int) == (wrap64 ((t430.length : Int) + 1))) = true:=beq_iff_eq.mpr c22
        have c22b1 : ((t438.length : Int) != (wrap64 ((t430.length : Int) + 1))) = false:=bne_eq_false_iff_eq.mpr c22
        clear c22
        (skip)
        by_cases c23 : 0 ≤ (t430.length : Int)
        ·rw [if_pos c23] at H
         have c23b0 : decide (0 ≤ (t430.length : Int)) = true:=decide_eq_true c23
         have c23b1 : decide (0 ≤ t430.length) = true:=decide_eq_true (by omega)
         clear c23
         by_cases c24 : (t430.length : Int) < (t438.length : Int)
         ·rw [if_pos c24] at H
          have c24b0 : decide ((t430.length : Int) < (t438.length : Int)) = true:=decide_eq_true c24
          have c24b1 : decide (t430.length < t438.length) = true:=decide_eq_true (Int.ofNat_lt.mp c24)
          clear c24
          have H':=Aside0.mk H
          clear H
          obtain ⟨Ao25,co25,eo25⟩ := Kd.R_slice HO_5.out
          subst eo25
          have p447 : 0 ≤ ((t430.length : Int) : Int):=of_decide_eq_true (by (with_reducible assumption))
          have q447 : (t430.length : Int) < (t438.length : Int):=of_decide_eq_true (by (with_reducible assumption))
          obtain ⟨ad447,e447,hx447_0,hx447_1,hx447_2,hx447_3⟩ := at_T26 (Kd.R_reads' HO_5.out).2.2 (t430.length : Int) p447 q447
          cases e447
          (try simp only [Go.IntWalk.toNatUp] at hx447_0)
          (try simp only [Go.IntWalk.toNatUp] at hx447_1)
          (try simp only [Go.IntWalk.toNatUp] at hx447_2)
          (try simp only [Go.IntWalk.toNatUp] at hx447_3)
          replace p447:=eq_true p447
          replace q447:=eq_true q447
          have hcz26_0 : wc.cell? ⟨gb437,0,none⟩ = some (.int .i64 t433):=(blk_cell BK437.out 0).trans rfl
          have hcz26_1 : wc.cell? ⟨gb437,1,none⟩ = some (.string t434):=(blk_cell BK437.out 1).trans rfl
          have hcz26_2 : wc.cell? ⟨gb437,2,none⟩ = some (.bool t435):=(blk_cell BK437.out 2).trans rfl
          have hcz26_3 : wc.cell? ⟨gb437,3,none⟩ = some (.int .i64 t436):=(blk_cell BK437.out 3).trans rfl
          have hfz26_0:=blk_frozen BK437.out 0
          have hfz26_1:=blk_frozen BK437.out 1
          have hfz26_2:=blk_frozen BK437.out 2
          have hfz26_3:=blk_frozen BK437.out 3
          go_wp2
          repeat (go_quiet (fail);try go_wp2)
          go_meet
          case rel => exact ⟨_,((!(((rd_T26 t438 (t430.length : Int)).f0) == t433) || (!((((rd_T26 t438 (t430.length : Int)).f1).toList) == t434.toList) || (!(((rd_T26 t438 (t430.length : Int)).f2) == t435) || (!(((rd_T26 t438 (t430.length : Int)).f3) == t436)))))),(by rfl),H',⟨by have:=HJ6.out;omega⟩,⟨by (with_reducible repeat (refine blk_drewN ?_ _));exact BK437.out⟩,⟨by repeat ((with_reducible first | exact HB.out | apply pw_below_drewN))⟩⟩
         ·rw [if_neg c24] at H
          exact absurd H (by simp)
        ·rw [if_neg c23] at H
         exact absurd H (by simp)
       ·rw [if_neg c22] at H
        have c22b0 : ((t438.length : Int) == (wrap64 ((t430.length : Int) + 1))) = false:=beq_eq_false_iff_ne.mpr c22
        have c22b1 : ((t438.length : Int) != (wrap64 ((t430.length : Int) + 1))) = true:=bne_iff_ne.mpr c22
        (skip)
        have H':=Aside0.mk H
        clear H
        obtain ⟨Ao27,co27,eo27⟩ := Kd.R_slice HO_5.out
        subst eo27
        go_wp2
        repeat (go_quiet (fail);try go_wp2)
        go_meet
        case rel => exact ⟨_,(true),(by rfl),H',⟨by have:=HJ6.out;omega⟩,⟨by (with_reducible repeat (refine blk_drewN ?_ _));exact BK437.out⟩,⟨by repeat ((with_reducible first | exact HB.out | apply pw_below_drewN))⟩⟩
      ·replace c21:=Bool.eq_false_iff.mpr c21
       subst c21
       have H1 : (laws_FnFiles.j1 kj6 l0 false) = some r:=by rw [if_neg (show ¬ (false = true) by decide)] at H;exact H
       clear H
       have H:=H1
       clear H1
       have H':=Aside0.mk H
       clear H
       go_wp2
       repeat (go_quiet (fail);try go_wp2)
       go_meet
       case rel => exact ⟨_,(false),(by rfl),H',⟨by have:=HJ6.out;omega⟩,⟨by (with_reducible repeat (refine blk_drewN ?_ _));exact BK437.out⟩,⟨by repeat ((with_reducible first | exact HB.out | apply pw_below_drewN))⟩⟩
     case rest => as_aux_lemma =>
      clear HC20
      try clear c1
      try clear c2
      try clear p2
      try clear c3
      try clear p4
      try clear q4
      try clear hx4
      try clear p6
      try clear c15
      try clear c15b0
      try clear c15b1
      try clear c15b2
      try clear c19
      try clear c21
      try clear c22
      try clear c22b0
      try clear c22b1
      try clear c23
      try clear c23b0
      try clear c23b1
      try clear c24
      try clear c24b0
      try clear c24b1
      try clear hcz10_0
      try clear hcz10_1
      try clear hcz10_2
      try clear hcz10_3
      try clear hcz13_0
      try clear hcz13_1
      try clear hcz13_2
      try clear hcz13_3
      try clear hcz26_0
      try clear hcz26_1
      try clear hcz26_2
      try clear hcz26_3
      try clear hfz10_0
      try clear hfz10_1
      try clear hfz10_2
      try clear hfz10_3
      try clear hfz13_0
      try clear hfz13_1
      try clear hfz13_2
      try clear hfz13_3
      try clear hfz26_0
      try clear hfz26_1
      try clear hfz26_2
      try clear hfz26_3
      try clear hx447_0
      try clear hx447_1
      try clear hx447_2
      try clear hx447_3
      try clear p2
      try clear p447
      try clear q447
      obtain ⟨kq,x74_19,rfl,HA,HJ19,BK437,HB⟩ := hcut
      cases kq with
      | zero => exact absurd HA.out (by simp [laws_FnFiles.j1])
      | succ kj19 =>
       have H:=HA.out
       clear HA
       simp only [laws_FnFiles.j1] at H
       by_cases c28 : x74_19 = true
       ·subst c28
        have H1 : (some false) = some r:=by rw [if_pos rfl] at H;exact H
        clear H
        have H:=H1
        clear H1
        obtain rfl:=Option.some.inj H
        as_aux_lemma =>
         go_wp2
         repeat (go_quiet (fail);try go_wp2)
         go_ret
         exact ⟨by rfl,by exact HB.out⟩
       ·replace c28:=Bool.eq_false_iff.mpr c28
        subst c28
        have H1 : ((spec_DrawFirstConflict.f kj19 l0).bind fun t448 => ((impl_FirstConflict.f kj19 t448).bind fun bt451 => ((spec_FirstConflict.f kj19 t448).bind fun bt453 => (if bt451.1 = bt453.1 then (if (bt451.2 != bt453.2) = true then (laws_FnFiles.j2 kj19 l0 t448 bt451.1 bt451.2 true) else ((impl_IsValidFile.f kj19 t448).bind fun t455 => (laws_FnFiles.j2 kj19 l0 t448 bt451.1 bt451.2 (bt451.2 == t455)))) else (laws_FnFiles.j2 kj19 l0 t448 bt451.1 bt451.2 true))))) = some r:=by rw [if_neg (show ¬ (false = true) by decide)] at H;exact H
        clear H
        have H:=H1
        clear H1
        replace H:=Option.bind_eq_some_iff.mp H
        obtain ⟨t448,A290,H⟩ := H
        replace H : ((impl_FirstConflict.f kj19 t448).bind fun bt451 => ((spec_FirstConflict.f kj19 t448).bind fun bt453 => (if bt451.1 = bt453.1 then (if (bt451.2 != bt453.2) = true then (laws_FnFiles.j2 kj19 l0 t448 bt451.1 bt451.2 true) else ((impl_IsValidFile.f kj19 t448).bind fun t455 => (laws_FnFiles.j2 kj19 l0 t448 bt451.1 bt451.2 (bt451.2 == t455)))) else (laws_FnFiles.j2 kj19 l0 t448 bt451.1 bt451.2 true)))) = some r:=H
        have A29:=Aside0.mk A290
        clear A290
        replace H:=Option.bind_eq_some_iff.mp H
        obtain ⟨⟨t451,t452⟩,A300,H⟩ := H
        replace H : ((spec_FirstConflict.f kj19 t448).bind fun bt453 => (if t451 = bt453.1 then (if (t452 != bt453.2) = true then (laws_FnFiles.j2 kj19 l0 t448 t451 t452 true) else ((impl_IsValidFile.f kj19 t448).bind fun t455 => (laws_FnFiles.j2 kj19 l0 t448 t451 t452 (t452 == t455)))) else (laws_FnFiles.j2 kj19 l0 t448 t451 t452 true))) = some r:=H
        have A30:=Aside0.mk A300
        clear A300
        replace H:=Option.bind_eq_some_iff.mp H
        obtain ⟨⟨t453,t454⟩,A310,H⟩ := H
        replace H : (if t451 = t453 then (if (t452 != t454) = true then (laws_FnFiles.j2 kj19 l0 t448 t451 t452 true) else ((impl_IsValidFile.f kj19 t448).bind fun t455 => (laws_FnFiles.j2 kj19 l0 t448 t451 t452 (t452 == t455)))) else (laws_FnFiles.j2 kj19 l0 t448 t451 t452 true)) = some r:=H
        have A31:=Aside0.mk A310
        clear A310
        have HC32:=Aside0.mk H
        clear H
        go_upto_region 13 with (first | (go_at_call 9;(with_reducible refine (spec_DrawFirstConflict.calls kj19 _ _ l0 t448 _ ?side1 ?side2 A29.out).mono ?_);(case side1 => repeat (exact (Kd.C_below HR0.out HB.out)));(case side2 => exact HC0.out);rintro e w33 ⟨v449,rfl,ho0,hb⟩;have n0_:=Aside0.mk (Kd.Q_lower (Kd.Q_newB ho0 (g:=gb437) (o := .cells #[.int .i64 t433, .string t434, .bool t435, .int .i64 t436] 26 (0,0)) (by exact BK437.out)) (below_size (by exact HB.out)));have n1_:=Aside0.mk (blk_below (g:=gb437) (o := .cells #[.int .i64 t433, .string t434, .bool t435, .int .i64 t436] 26 (0,0)) (by exact BK437.out) hb);have n2_:=Aside0.mk (below_step (by exact HB.out) hb);clear BK437;clear HB;have HO450:=n0_;have BK437:=n1_;have HB:=n2_;clear n0_ n1_ n2_;(try clear hb);(try clear ho0);obtain ⟨Ao34,co34,eo34,_⟩ := Kd.Q_slice HO450.out;subst eo34) | (go_at_call 10;(with_reducible refine (impl_FirstConflict.calls kj19 _ _ t448 t451 t452 _ ?side1 ?side2 A30.out).mono ?_);(case side1 => repeat (exact (Kd.Q_reads' HO450.out).2.2));(case side2 => exact (Kd.Q_reads' HO450.out).2.1);rintro e w35 ⟨rfl,hb⟩;have n0_:=Aside0.mk (Kd.Q_below (by exact HO450.out) hb);have n1_:=Aside0.mk (blk_below (g:=gb437) (o := .cells #[.int .i64 t433, .string t434, .bool t435, .int .i64 t436] 26 (0,0)) (by exact BK437.out) hb);have n2_:=Aside0.mk (below_step (by exact HB.out) hb);clear HO450;clear BK437;clear HB;have HO450:=n0_;have BK437:=n1_;have HB:=n2_;clear n0_ n1_ n2_;(try clear hb)) | (go_at_call 11;(with_reducible refine (spec_FirstConflict.calls kj19 _ _ t448 t453 t454 _ ?side1 ?side2 A31.out).mono ?_);(case side1 => repeat (exact (Kd.Q_reads' HO450.out).2.2));(case side2 => exact (Kd.Q_reads' HO450.out).2.1);rintro e w36 ⟨rfl,hb⟩;have n0_:=Aside0.mk (Kd.Q_below (by exact HO450.out) hb);have n1_:=Aside0.mk (blk_below (g:=gb437) (o := .cells #[.int .i64 t433, .string t434, .bool t435, .int .i64 t436] 26 (0,0)) (by exact BK437.out) hb);have n2_:=Aside0.mk (below_step (by exact HB.out) hb);clear HO450;clear BK437;clear HB;have HO450:=n0_;have BK437:=n1_;have HB:=n2_;clear n0_ n1_ n2_;(try clear hb)))
        repeat (go_quiet (fail);go_upto_region 13 with (first | (go_at_call 9;(with_reducible refine (spec_DrawFirstConflict.calls kj19 _ _ l0 t448 _ ?side1 ?side2 A29.out).mono ?_);(case side1 => repeat (first | exact (Kd.C_below HR0.out HB.out) | (with_reducible refine Kd.C_alloc ?_ _) | (with_reducible refine Kd.C_drewN ?_ _) | (with_reducible refine Kd.C_drew ?_)));(case side2 => exact HC0.out);rintro e w33 ⟨v449,rfl,ho0,hb⟩;have n0_:=Aside0.mk (Kd.Q_lower (Kd.Q_newB ho0 (g:=gb437) (o := .cells #[.int .i64 t433, .string t434, .bool t435, .int .i64 t436] 26 (0,0)) (by (with_reducible repeat (first | refine blk_drewN ?_ _ | refine blk_drew ?_ | refine blk_alloc ?_ _));exact BK437.out)) (below_size (by repeat (first | (with_reducible first | exact HB.out | apply below_alloc | apply pw_below_drewN | apply below_drew1 | refine below_set ?_ GE437.out) | exact HB.out))));have n1_:=Aside0.mk (blk_below (g:=gb437) (o := .cells #[.int .i64 t433, .string t434, .bool t435, .int .i64 t436] 26 (0,0)) (by (with_reducible repeat (first | refine blk_drewN ?_ _ | refine blk_drew ?_ | refine blk_alloc ?_ _));exact BK437.out) hb);have n2_:=Aside0.mk (below_step (by repeat (first | (with_reducible first | exact HB.out | apply below_alloc | apply pw_below_drewN | apply below_drew1 | refine below_set ?_ GE437.out) | exact HB.out)) hb);clear BK437;clear HB;have HO450:=n0_;have BK437:=n1_;have HB:=n2_;clear n0_ n1_ n2_;(try clear hb);(try clear hb2);(try clear hk);(try clear hi);(try clear ho0);obtain ⟨Ao34,co34,eo34,_⟩ := Kd.Q_slice HO450.out;subst eo34) | (go_at_call 10;(with_reducible refine (impl_FirstConflict.calls kj19 _ _ t448 t451 t452 _ ?side1 ?side2 A30.out).mono ?_);(case side1 => repeat (first | exact (Kd.Q_reads' HO450.out).2.2 | (with_reducible refine Kd.C_alloc ?_ _) | (with_reducible refine Kd.C_drewN ?_ _) | (with_reducible refine Kd.C_drew ?_)));(case side2 => exact (Kd.Q_reads' HO450.out).2.1);rintro e w35 ⟨rfl,hb⟩;have n0_:=Aside0.mk (Kd.Q_below (by (with_reducible repeat (first | apply Kd.Q_alloc | apply Kd.Q_drewN | apply Kd.Q_drew));exact HO450.out) hb);have n1_:=Aside0.mk (blk_below (g:=gb437) (o := .cells #[.int .i64 t433, .string t434, .bool t435, .int .i64 t436] 26 (0,0)) (by (with_reducible repeat (first | refine blk_drewN ?_ _ | refine blk_drew ?_ | refine blk_alloc ?_ _));exact BK437.out) hb);have n2_:=Aside0.mk (below_step (by repeat (first | (with_reducible first | exact HB.out | apply below_alloc | apply pw_below_drewN | apply below_drew1 | refine below_set ?_ GE437.out) | exact HB.out)) hb);clear HO450;clear BK437;clear HB;have HO450:=n0_;have BK437:=n1_;have HB:=n2_;clear n0_ n1_ n2_;(try clear hb);(try clear hb2);(try clear hk);(try clear hi)) | (go_at_call 11;(with_reducible refine (spec_FirstConflict.calls kj19 _ _ t448 t453 t454 _ ?side1 ?side2 A31.out).mono ?_);(case side1 => repeat (first | exact (Kd.Q_reads' HO450.out).2.2 | (with_reducible refine Kd.C_alloc ?_ _) | (with_reducible refine Kd.C_drewN ?_ _) | (with_reducible refine Kd.C_drew ?_)));(case side2 => exact (Kd.Q_reads' HO450.out).2.1);rintro e w36 ⟨rfl,hb⟩;have n0_:=Aside0.mk (Kd.Q_below (by (with_reducible repeat (first | apply Kd.Q_alloc | apply Kd.Q_drewN | apply Kd.Q_drew));exact HO450.out) hb);have n1_:=Aside0.mk (blk_below (g:=gb437) (o := .cells #[.int .i64 t433, .string t434, .bool t435, .int .i64 t436] 26 (0,0)) (by (with_reducible repeat (first | refine blk_drewN ?_ _ | refine blk_drew ?_ | refine blk_alloc ?_ _));exact BK437.out) hb);have n2_:=Aside0.mk (below_step (by repeat (first | (with_reducible first | exact HB.out | apply below_alloc | apply pw_below_drewN | apply below_drew1 | refine below_set ?_ GE437.out) | exact HB.out)) hb);clear HO450;clear BK437;clear HB;have HO450:=n0_;have BK437:=n1_;have HB:=n2_;clear n0_ n1_ n2_;(try clear hb);(try clear hb2);(try clear hk);(try clear hi))))
        (skip)
        go_cut [100] (fun v100 wc => ∃ (kq : Nat) (x100_31 : Bool),v100 = .bool x100_31 ∧ Aside0 (laws_FnFiles.j2 kq l0 t448 t451 t452 x100_31 = some r) ∧ Aside0 (kq ≤ kj19) ∧ Aside0 (Kd.Q k26 26 wc w.heap.size (fun k_ => k_ ≠ gb437) (.slice Ao34 t448.length co34) t448) ∧ Aside0 (wc.heap[gb437]? = some (.cells #[.int .i64 t433, .string t434, .bool t435, .int .i64 t436] 26 (0,0))) ∧ Aside0 (Below w.heap.size w wc))
        case first =>
         have H:=HC32.out
         clear HC32
         by_cases c37 : t451 = t453
         ·rw [if_pos c37] at H
          have c37b0 : (t451 == t453) = true:=beq_iff_eq.mpr c37
          have c37b1 : (t451 != t453) = false:=bne_eq_false_iff_eq.mpr c37
          clear c37
          (skip)
          by_cases c38 : (t452 != t454) = true
          ·rw [if_pos c38] at H
           have c38b0 : (t452 != t454) = true:=c38
           (try (have c38b1 : decide (t452 = t454) = false:=by simpa using c38))
           (try (have c38b2 : (t452 == t454) = false:=by simpa using c38))
           (try (have c38b3 : ¬ (t452 = t454):=by simpa using c38))
           clear c38
           have H':=Aside0.mk H
           clear H
           go_wp2
           repeat (go_quiet (fail);try go_wp2)
           go_meet
           case rel => exact ⟨_,(true),(by rfl),H',⟨by have:=HJ6.out;have:=HJ19.out;omega⟩,⟨by exact Kd.Q_mono HO450.out (fun _ hk => hk.2)⟩,⟨by exact BK437.out⟩,⟨by exact HB.out⟩⟩
          ·rw [if_neg c38] at H
           have c38b0 : (t452 != t454) = false:=by simpa using c38
           (try (have c38b1 : decide (t452 = t454) = true:=by simpa using c38))
           (try (have c38b2 : (t452 == t454) = true:=by simpa using c38))
           clear c38
           replace H:=Option.bind_eq_some_iff.mp H
           obtain ⟨t455,A390,H⟩ := H
           replace H : (laws_FnFiles.j2 kj19 l0 t448 t451 t452 (t452 == t455)) = some r:=H
           have A39:=Aside0.mk A390
           clear A390
           have H':=Aside0.mk H
           clear H
           go_wp2_with ((go_at_call 12;(with_reducible refine (impl_IsValidFile.calls kj19 _ _ t448 t455 _ ?side1 ?side2 A39.out).mono ?_);(case side1 => repeat (exact (Kd.Q_reads' HO450.out).2.2));(case side2 => exact (Kd.Q_reads' HO450.out).2.1);rintro e w40 ⟨rfl,hb⟩;have n0_:=Aside0.mk (Kd.Q_below (by exact HO450.out) hb);have n1_:=Aside0.mk (blk_below (g:=gb437) (o := .cells #[.int .i64 t433, .string t434, .bool t435, .int .i64 t436] 26 (0,0)) (by exact BK437.out) hb);have n2_:=Aside0.mk (below_step (by exact HB.out) hb);clear HO450;clear BK437;clear HB;have HO450:=n0_;have BK437:=n1_;have HB:=n2_;clear n0_ n1_ n2_;(try clear hb)))
           repeat (go_quiet (fail);try go_wp2_with (fail))
           go_meet
           case rel => exact ⟨_,((t452 == t455)),(by rfl),H',⟨by have:=HJ6.out;have:=HJ19.out;omega⟩,⟨by exact Kd.Q_mono HO450.out (fun _ hk => hk.2)⟩,⟨by exact BK437.out⟩,⟨by exact HB.out⟩⟩
         ·rw [if_neg c37] at H
          have c37b0 : (t451 == t453) = false:=beq_eq_false_iff_ne.mpr c37
          have c37b1 : (t451 != t453) = true:=bne_iff_ne.mpr c37
          (skip)
          have H':=Aside0.mk H
          clear H
          go_wp2
          repeat (go_quiet (fail);try go_wp2)
          go_meet
          case rel => exact ⟨_,(true),(by rfl),H',⟨by have:=HJ6.out;have:=HJ19.out;omega⟩,⟨by exact Kd.Q_mono HO450.out (fun _ hk => hk.2)⟩,⟨by exact BK437.out⟩,⟨by exact HB.out⟩⟩
        case rest => as_aux_lemma =>
         clear HC32
         try clear c1
         try clear c2
         try clear p2
         try clear c3
         try clear p4
         try clear q4
         try clear hx4
         try clear p6
         try clear c15
         try clear c15b0
         try clear c15b1
         try clear c15b2
         try clear c19
         try clear c21
         try clear c22
         try clear c22b0
         try clear c22b1
         try clear c23
         try clear c23b0
         try clear c23b1
         try clear c24
         try clear c24b0
         try clear c24b1
         try clear c28
         try clear c37
         try clear c37b0
         try clear c37b1
         try clear c38
         try clear c38b0
         try clear c38b1
         try clear c38b2
         try clear hcz10_0
         try clear hcz10_1
         try clear hcz10_2
         try clear hcz10_3
         try clear hcz13_0
         try clear hcz13_1
         try clear hcz13_2
         try clear hcz13_3
         try clear hcz26_0
         try clear hcz26_1
         try clear hcz26_2
         try clear hcz26_3
         try clear hfz10_0
         try clear hfz10_1
         try clear hfz10_2
         try clear hfz10_3
         try clear hfz13_0
         try clear hfz13_1
         try clear hfz13_2
         try clear hfz13_3
         try clear hfz26_0
         try clear hfz26_1
         try clear hfz26_2
         try clear hfz26_3
         try clear hx447_0
         try clear hx447_1
         try clear hx447_2
         try clear hx447_3
         try clear p2
         try clear p4
         try clear p447
         try clear p6
         try clear q4
         try clear q447
         obtain ⟨kq,x100_31,rfl,HA,HJ31,HO_9,BK437,HB⟩ := hcut
         cases kq with
         | zero => exact absurd HA.out (by simp [laws_FnFiles.j2])
         | succ kj31 =>
          have H:=HA.out
          clear HA
          simp only [laws_FnFiles.j2] at H
          by_cases c41 : x100_31 = true
          ·subst c41
           have H1 : (some false) = some r:=by rw [if_pos rfl] at H;exact H
           clear H
           have H:=H1
           clear H1
           obtain rfl:=Option.some.inj H
           as_aux_lemma =>
            go_wp2
            repeat (go_quiet (fail);try go_wp2)
            go_ret
            exact ⟨by rfl,by exact HB.out⟩
          ·replace c41:=Bool.eq_false_iff.mpr c41
           subst c41
           have H1 : (if t452 = true then (if 0 ≤ t451 then (if t451 ≤ (t448.length : Int) then ((impl_IsValidFile.f kj31 (t448.take (t451 : Int).toNat)).bind fun t460 => (if t460 = true then (if 0 ≤ (wrap64 (t451 + 1)) then (if (wrap64 (t451 + 1)) ≤ (t448.length : Int) then ((impl_IsValidFile.f kj31 (t448.take ((wrap64 (t451 + 1)) : Int).toNat)).bind fun t465 => (laws_FnFiles.j3 kj31 l0 t465)) else (none)) else (none)) else (laws_FnFiles.j3 kj31 l0 true))) else (none)) else (none)) else (laws_FnFiles.j3 kj31 l0 false)) = some r:=by rw [if_neg (show ¬ (false = true) by decide)] at H;exact H
           clear H
           have H:=H1
           clear H1
           have HC42:=Aside0.mk H
           clear H
           go_upto_region 15 with (fail)
           repeat (go_quiet (fail);go_upto_region 15 with (fail))
           go_cut [115] (fun v115 wc => ∃ (kq : Nat) (x115_41 : Bool),v115 = .bool x115_41 ∧ Aside0 (laws_FnFiles.j3 kq l0 x115_41 = some r) ∧ Aside0 (kq ≤ kj31) ∧ Aside0 (wc.heap[gb437]? = some (.cells #[.int .i64 t433, .string t434, .bool t435, .int .i64 t436] 26 (0,0))) ∧ Aside0 (Below w.heap.size w wc))
           case first =>
            have H:=HC42.out
            clear HC42
            by_cases c43 : t452 = true
            ·subst c43
             have H1 : (if 0 ≤ t451 then (if t451 ≤ (t448.length : Int) then ((impl_IsValidFile.f kj31 (t448.take (t451 : Int).toNat)).bind fun t460 => (if t460 = true then (if 0 ≤ (wrap64 (t451 + 1)) then (if (wrap64 (t451 + 1)) ≤ (t448.length : Int) then ((impl_IsValidFile.f kj31 (t448.take ((wrap64 (t451 + 1)) : Int).toNat)).bind fun t465 => (laws_FnFiles.j3 kj31 l0 t465)) else (none)) else (none)) else (laws_FnFiles.j3 kj31 l0 true))) else (none)) else (none)) = some r:=by rw [if_pos rfl] at H;exact H
             clear H
             have H:=H1
             clear H1
             by_cases c44 : 0 ≤ t451
             ·rw [if_pos c44] at H
              have c44b0:=eq_true c44
              have c44b1 : decide (0 ≤ t451) = true:=decide_eq_true c44
              clear c44
              by_cases c45 : t451 ≤ (t448.length : Int)
              ·rw [if_pos c45] at H
               have c45b0:=eq_true c45
               have c45b1 : decide (t451 ≤ (t448.length : Int)) = true:=decide_eq_true c45
               clear c45
               obtain ⟨y456,hy456⟩ : ∃ y_ : List (S26),y_ = (t448.take (t451 : Int).toNat):=⟨_,rfl⟩
               replace H : ((impl_IsValidFile.f kj31 y456).bind fun t460 => (if t460 = true then (if 0 ≤ (wrap64 (t451 + 1)) then (if (wrap64 (t451 + 1)) ≤ (t448.length : Int) then ((impl_IsValidFile.f kj31 (t448.take ((wrap64 (t451 + 1)) : Int).toNat)).bind fun t465 => (laws_FnFiles.j3 kj31 l0 t465)) else (none)) else (none)) else (laws_FnFiles.j3 kj31 l0 true))) = some r:=by (rw [hy456];with_reducible exact H)
               have Ny456:=Aside0.mk hy456
               clear hy456
               replace H:=Option.bind_eq_some_iff.mp H
               obtain ⟨t460,A460,H⟩ := H
               replace H : (if t460 = true then (if 0 ≤ (wrap64 (t451 + 1)) then (if (wrap64 (t451 + 1)) ≤ (t448.length : Int) then ((impl_IsValidFile.f kj31 (t448.take ((wrap64 (t451 + 1)) : Int).toNat)).bind fun t465 => (laws_FnFiles.j3 kj31 l0 t465)) else (none)) else (none)) else (laws_FnFiles.j3 kj31 l0 true)) = some r:=H
               have A46:=Aside0.mk A460
               clear A460
               by_cases c47 : t460 = true
               ·subst c47
                have H1 : (if 0 ≤ (wrap64 (t451 + 1)) then (if (wrap64 (t451 + 1)) ≤ (t448.length : Int) then ((impl_IsValidFile.f kj31 (t448.take ((wrap64 (t451 + 1)) : Int).toNat)).bind fun t465 => (laws_FnFiles.j3 kj31 l0 t465)) else (none)) else (none)) = some r:=by rw [if_pos rfl] at H;exact H
                clear H
                have H:=H1
                clear H1
                obtain ⟨ji48,hji48⟩ : ∃ j_ : Int,(wrap64 (t451 + 1)) = j_:=⟨_,rfl⟩
                replace H : (if 0 ≤ (ji48) then (if (ji48) ≤ (t448.length : Int) then ((impl_IsValidFile.f kj31 (t448.take ((ji48) : Int).toNat)).bind fun t465 => (laws_FnFiles.j3 kj31 l0 t465)) else (none)) else (none)) = some r:=by (rw [hji48] at H;exact H)
                (skip)
                have hji48w : (IntKind.i64.wrap (t451 + 1)) = ji48:=(i64_w _).trans hji48
                by_cases c49 : 0 ≤ (ji48)
                ·rw [if_pos c49] at H
                 have c49b0:=eq_true c49
                 have c49b1 : decide (0 ≤ (ji48)) = true:=decide_eq_true c49
                 clear c49
                 by_cases c50 : (ji48) ≤ (t448.length : Int)
                 ·rw [if_pos c50] at H
                  have c50b0:=eq_true c50
                  have c50b1 : decide ((ji48) ≤ (t448.length : Int)) = true:=decide_eq_true c50
                  clear c50
                  obtain ⟨y461,hy461⟩ : ∃ y_ : List (S26),y_ = (t448.take ((ji48) : Int).toNat):=⟨_,rfl⟩
                  replace H : ((impl_IsValidFile.f kj31 y461).bind fun t465 => (laws_FnFiles.j3 kj31 l0 t465)) = some r:=by (rw [hy461];with_reducible exact H)
                  have Ny461:=Aside0.mk hy461
                  clear hy461
                  replace H:=Option.bind_eq_some_iff.mp H
                  obtain ⟨t465,A510,H⟩ := H
                  replace H : (laws_FnFiles.j3 kj31 l0 t465) = some r:=H
                  have A51:=Aside0.mk A510
                  clear A510
                  have H':=Aside0.mk H
                  clear H
                  have q52 : (t451 : Int) ≤ ((t448.length : Int) : Int):=of_decide_eq_true (by (with_reducible assumption))
                  obtain ⟨i052,hi052,_,hsz52,_⟩ := info_parts info26
                  have hroom52 : t448.length ≤ co34:=(Kd.Q_reads' HO_9.out).2.1
                  have hC52 : Kd.C k26 _ Ao34 t448.length t448:=(Kd.Q_reads' HO_9.out).2.2
                  have hcut52:=cut_to (P:=Try.prog) 24 26 .i64 Try.underlying24 hi052 Ao34 t448.length co34 t451 (of_decide_eq_true (by (with_reducible assumption))) q52 hroom52
                  have hr52:=Kd.C_take (m:=(t451 : Int).toNat) hC52 (by omega)
                  have hy52 : y456.length = (t451 : Int).toNat:=(by rw [Ny456.out,List.length_take];omega)
                  rw [← Ny456.out] at hr52
                  rw [← hy52] at hcut52
                  have HR459:=Aside0.mk hr52
                  have HC459:=Aside0.mk (show y456.length ≤ co34 from by omega)
                  clear hr52 hC52 hroom52 hi052 hsz52
                  have KY52:=Aside0.mk hy52
                  clear hy52
                  have KL52:=Aside0.mk (show (t451 : Int).toNat ≤ t448.length from by omega)
                  replace q52:=eq_true q52
                  go_wp2_with (first | (go_at_call 12;(with_reducible refine (impl_IsValidFile.calls kj31 _ _ y456 true _ ?side1 ?side2 A46.out).mono ?_);(case side1 => repeat (exact (by exact HR459.out)));(case side2 => exact HC459.out);rintro e w53 ⟨rfl,hb⟩;have n0_:=Aside0.mk (Kd.Q_below (by exact HO_9.out) hb);have n1_:=Aside0.mk (blk_below (g:=gb437) (o := .cells #[.int .i64 t433, .string t434, .bool t435, .int .i64 t436] 26 (0,0)) (by exact BK437.out) hb);have n2_:=Aside0.mk (Kd.C_below (by exact HR459.out) hb);have n3_:=Aside0.mk (below_step (by exact HB.out) hb);clear HO_9;clear BK437;clear HR459;clear HB;have HO_9:=n0_;have BK437:=n1_;have HR459:=n2_;have HB:=n3_;clear n0_ n1_ n2_ n3_;(try clear hb);have q54 : ((ji48) : Int) ≤ ((t448.length : Int) : Int):=of_decide_eq_true (by (with_reducible assumption));obtain ⟨i054,hi054,_,hsz54,_⟩ := info_parts info26;have hroom54 : t448.length ≤ co34:=(Kd.Q_reads' HO_9.out).2.1;have hC54 : Kd.C k26 _ Ao34 t448.length t448:=(Kd.Q_reads' HO_9.out).2.2;have hcut54:=cut_to (P:=Try.prog) 24 26 .i64 Try.underlying24 hi054 Ao34 t448.length co34 (ji48) (of_decide_eq_true (by (with_reducible assumption))) q54 hroom54;have hr54:=Kd.C_take (m:=((ji48) : Int).toNat) hC54 (by omega);have hy54 : y461.length = ((ji48) : Int).toNat:=(by rw [Ny461.out,List.length_take];omega);rw [← Ny461.out] at hr54;rw [← hy54] at hcut54;have HR464:=Aside0.mk hr54;have HC464:=Aside0.mk (show y461.length ≤ co34 from by omega);clear hr54 hC54 hroom54 hi054 hsz54;have KY54:=Aside0.mk hy54;clear hy54;have KL54:=Aside0.mk (show ((ji48) : Int).toNat ≤ t448.length from by omega);replace q54:=eq_true q54) | (go_at_call 12;(with_reducible refine (impl_IsValidFile.calls kj31 _ _ y461 t465 _ ?side1 ?side2 A51.out).mono ?_);(case side1 => repeat (exact (by exact HR464.out)));(case side2 => exact HC464.out);rintro e w55 ⟨rfl,hb⟩;have n0_:=Aside0.mk (Kd.Q_below (by exact HO_9.out) hb);have n1_:=Aside0.mk (blk_below (g:=gb437) (o := .cells #[.int .i64 t433, .string t434, .bool t435, .int .i64 t436] 26 (0,0)) (by exact BK437.out) hb);have n2_:=Aside0.mk (Kd.C_below (by exact HR459.out) hb);have n3_:=Aside0.mk (Kd.C_below (by exact HR464.out) hb);have n4_:=Aside0.mk (below_step (by exact HB.out) hb);clear HO_9;clear BK437;clear HR459;clear HR464;clear HB;have HO_9:=n0_;have BK437:=n1_;have HR459:=n2_;have HR464:=n3_;have HB:=n4_;clear n0_ n1_ n2_ n3_ n4_;(try clear hb)))
                  repeat (go_quiet (fail);try go_wp2_with (fail))
                  go_meet
                  case rel => exact ⟨_,(t465),(by rfl),H',⟨by have:=HJ6.out;have:=HJ19.out;have:=HJ31.out;omega⟩,⟨by exact BK437.out⟩,⟨by exact HB.out⟩⟩
                 ·rw [if_neg c50] at H
                  exact absurd H (by simp)
                ·rw [if_neg c49] at H
                 exact absurd H (by simp)
               ·replace c47:=Bool.eq_false_iff.mpr c47
                subst c47
                have H1 : (laws_FnFiles.j3 kj31 l0 true) = some r:=by rw [if_neg (show ¬ (false = true) by decide)] at H;exact H
                clear H
                have H:=H1
                clear H1
                have H':=Aside0.mk H
                clear H
                have q56 : (t451 : Int) ≤ ((t448.length : Int) : Int):=of_decide_eq_true (by (with_reducible assumption))
                obtain ⟨i056,hi056,_,hsz56,_⟩ := info_parts info26
                have hroom56 : t448.length ≤ co34:=(Kd.Q_reads' HO_9.out).2.1
                have hC56 : Kd.C k26 _ Ao34 t448.length t448:=(Kd.Q_reads' HO_9.out).2.2
                have hcut56:=cut_to (P:=Try.prog) 24 26 .i64 Try.underlying24 hi056 Ao34 t448.length co34 t451 (of_decide_eq_true (by (with_reducible assumption))) q56 hroom56
                have hr56:=Kd.C_take (m:=(t451 : Int).toNat) hC56 (by omega)
                have hy56 : y456.length = (t451 : Int).toNat:=(by rw [Ny456.out,List.length_take];omega)
                rw [← Ny456.out] at hr56
                rw [← hy56] at hcut56
                have HR459:=Aside0.mk hr56
                have HC459:=Aside0.mk (show y456.length ≤ co34 from by omega)
                clear hr56 hC56 hroom56 hi056 hsz56
                have KY56:=Aside0.mk hy56
                clear hy56
                have KL56:=Aside0.mk (show (t451 : Int).toNat ≤ t448.length from by omega)
                replace q56:=eq_true q56
                go_wp2_with ((go_at_call 12;(with_reducible refine (impl_IsValidFile.calls kj31 _ _ y456 false _ ?side1 ?side2 A46.out).mono ?_);(case side1 => repeat (exact (by exact HR459.out)));(case side2 => exact HC459.out);rintro e w57 ⟨rfl,hb⟩;have n0_:=Aside0.mk (Kd.Q_below (by exact HO_9.out) hb);have n1_:=Aside0.mk (blk_below (g:=gb437) (o := .cells #[.int .i64 t433, .string t434, .bool t435, .int .i64 t436] 26 (0,0)) (by exact BK437.out) hb);have n2_:=Aside0.mk (Kd.C_below (by exact HR459.out) hb);have n3_:=Aside0.mk (below_step (by exact HB.out) hb);clear HO_9;clear BK437;clear HR459;clear HB;have HO_9:=n0_;have BK437:=n1_;have HR459:=n2_;have HB:=n3_;clear n0_ n1_ n2_ n3_;(try clear hb)))
                repeat (go_quiet (fail);try go_wp2_with (fail))
                go_meet
                case rel => exact ⟨_,(true),(by rfl),H',⟨by have:=HJ6.out;have:=HJ19.out;have:=HJ31.out;omega⟩,⟨by exact BK437.out⟩,⟨by exact HB.out⟩⟩
              ·rw [if_neg c45] at H
               exact absurd H (by simp)
             ·rw [if_neg c44] at H
              exact absurd H (by simp)
            ·replace c43:=Bool.eq_false_iff.mpr c43
             subst c43
             have H1 : (laws_FnFiles.j3 kj31 l0 false) = some r:=by rw [if_neg (show ¬ (false = true) by decide)] at H;exact H
             clear H
             have H:=H1
             clear H1
             have H':=Aside0.mk H
             clear H
             go_wp2
             repeat (go_quiet (fail);try go_wp2)
             go_meet
             case rel => exact ⟨_,(false),(by rfl),H',⟨by have:=HJ6.out;have:=HJ19.out;have:=HJ31.out;omega⟩,⟨by exact BK437.out⟩,⟨by exact HB.out⟩⟩
           case rest => as_aux_lemma =>
            clear HC42
            try clear c1
            try clear c2
            try clear p2
            try clear c3
            try clear c4
            try clear p4
            try clear q4
            try clear hx4
            try clear c5
            try clear q5
            try clear p6
            try clear c15
            try clear c15b0
            try clear c15b1
            try clear c15b2
            try clear c19
            try clear c21
            try clear c22
            try clear c22b0
            try clear c22b1
            try clear c23
            try clear c23b0
            try clear c23b1
            try clear c24
            try clear c24b0
            try clear c24b1
            try clear c28
            try clear c37
            try clear c37b0
            try clear c37b1
            try clear c38
            try clear c38b0
            try clear c38b1
            try clear c38b2
            try clear c41
            try clear c43
            try clear c44
            try clear c44b0
            try clear c44b1
            try clear p44
            try clear q44
            try clear hx44
            try clear c45
            try clear c45b0
            try clear c45b1
            try clear c47
            try clear c49
            try clear c49b0
            try clear c49b1
            try clear c50
            try clear c50b0
            try clear c50b1
            try clear q52
            try clear q54
            try clear q56
            try clear hcz10_0
            try clear hcz10_1
            try clear hcz10_2
            try clear hcz10_3
            try clear hcz13_0
            try clear hcz13_1
            try clear hcz13_2
            try clear hcz13_3
            try clear hcz26_0
            try clear hcz26_1
            try clear hcz26_2
            try clear hcz26_3
            try clear hfz10_0
            try clear hfz10_1
            try clear hfz10_2
            try clear hfz10_3
            try clear hfz13_0
            try clear hfz13_1
            try clear hfz13_2
            try clear hfz13_3
            try clear hfz26_0
            try clear hfz26_1
            try clear hfz26_2
            try clear hfz26_3
            try clear hx447_0
            try clear hx447_1
            try clear hx447_2
            try clear hx447_3
            try clear p2
            try clear p4
            try clear p447
            try clear p6
            try clear q4
            try clear q447
            try clear q52
            try clear q54
            try clear q56
            obtain ⟨kq,x115_41,rfl,HA,HJ41,BK437,HB⟩ := hcut
            cases kq with
            | zero => exact absurd HA.out (by simp [laws_FnFiles.j3])
            | succ kj41 =>
             have H:=HA.out
             clear HA
             simp only [laws_FnFiles.j3] at H
             by_cases c58 : x115_41 = true
             ·subst c58
              have H1 : (some false) = some r:=by rw [if_pos rfl] at H;exact H
              clear H
              have H:=H1
              clear H1
              obtain rfl:=Option.some.inj H
              as_aux_lemma =>
               go_wp2
               repeat (go_quiet (fail);try go_wp2)
               go_ret
               exact ⟨by rfl,by exact HB.out⟩
             ·replace c58:=Bool.eq_false_iff.mpr c58
              subst c58
              have H1 : ((spec_DrawHeldHours.f kj41 l0).bind fun bt466 => ((impl_HeldHours.f kj41 bt466.1 bt466.2.1 bt466.2.2.1 bt466.2.2.2).bind fun bt472 => ((spec_HeldHours.f kj41 bt466.1 bt466.2.1 bt466.2.2.1 bt466.2.2.2).bind fun bt474 => (if bt472.1 = bt474.1 then (if (bt472.2 != bt474.2) = true then (laws_FnFiles.j4 kj41 l0 true) else (if bt472.2 = true then (if bt472.1 < 0 then (laws_FnFiles.j4 kj41 l0 true) else (laws_FnFiles.j4 kj41 l0 (decide (bt472.1 > bt466.2.2.2)))) else (laws_FnFiles.j4 kj41 l0 false))) else (laws_FnFiles.j4 kj41 l0 true))))) = some r:=by rw [if_neg (show ¬ (false = true) by decide)] at H;exact H
              clear H
              have H:=H1
              clear H1
              replace H:=Option.bind_eq_some_iff.mp H
              obtain ⟨⟨t466,t467,t468,t469⟩,A590,H⟩ := H
              replace H : ((impl_HeldHours.f kj41 t466 t467 t468 t469).bind fun bt472 => ((spec_HeldHours.f kj41 t466 t467 t468 t469).bind fun bt474 => (if bt472.1 = bt474.1 then (if (bt472.2 != bt474.2) = true then (laws_FnFiles.j4 kj41 l0 true) else (if bt472.2 = true then (if bt472.1 < 0 then (laws_FnFiles.j4 kj41 l0 true) else (laws_FnFiles.j4 kj41 l0 (decide (bt472.1 > t469)))) else (laws_FnFiles.j4 kj41 l0 false))) else (laws_FnFiles.j4 kj41 l0 true)))) = some r:=H
              have A59:=Aside0.mk A590
              clear A590
              replace H:=Option.bind_eq_some_iff.mp H
              obtain ⟨⟨t472,t473⟩,A600,H⟩ := H
              replace H : ((spec_HeldHours.f kj41 t466 t467 t468 t469).bind fun bt474 => (if t472 = bt474.1 then (if (t473 != bt474.2) = true then (laws_FnFiles.j4 kj41 l0 true) else (if t473 = true then (if t472 < 0 then (laws_FnFiles.j4 kj41 l0 true) else (laws_FnFiles.j4 kj41 l0 (decide (t472 > t469)))) else (laws_FnFiles.j4 kj41 l0 false))) else (laws_FnFiles.j4 kj41 l0 true))) = some r:=H
              have A60:=Aside0.mk A600
              clear A600
              replace H:=Option.bind_eq_some_iff.mp H
              obtain ⟨⟨t474,t475⟩,A610,H⟩ := H
              replace H : (if t472 = t474 then (if (t473 != t475) = true then (laws_FnFiles.j4 kj41 l0 true) else (if t473 = true then (if t472 < 0 then (laws_FnFiles.j4 kj41 l0 true) else (laws_FnFiles.j4 kj41 l0 (decide (t472 > t469)))) else (laws_FnFiles.j4 kj41 l0 false))) else (laws_FnFiles.j4 kj41 l0 true)) = some r:=H
              have A61:=Aside0.mk A610
              clear A610
              have HC62:=Aside0.mk H
              clear H
              go_upto_region 20 with (first | (go_at_call 13;(with_reducible refine (spec_DrawHeldHours.calls kj41 _ _ l0 t466 t467 t468 t469 _ ?side1 ?side2 A59.out).mono ?_);(case side1 => repeat (exact (Kd.C_below HR0.out HB.out)));(case side2 => exact HC0.out);rintro e w63 ⟨v470,rfl,ho0,hb⟩;have n0_:=Aside0.mk (Kd.Q_lower (Kd.Q_newB ho0 (g:=gb437) (o := .cells #[.int .i64 t433, .string t434, .bool t435, .int .i64 t436] 26 (0,0)) (by exact BK437.out)) (below_size (by exact HB.out)));have n1_:=Aside0.mk (blk_below (g:=gb437) (o := .cells #[.int .i64 t433, .string t434, .bool t435, .int .i64 t436] 26 (0,0)) (by exact BK437.out) hb);have n2_:=Aside0.mk (below_step (by exact HB.out) hb);clear BK437;clear HB;have HO471:=n0_;have BK437:=n1_;have HB:=n2_;clear n0_ n1_ n2_;(try clear hb);(try clear ho0);obtain ⟨Ao64,co64,eo64,_⟩ := Kd.Q_slice HO471.out;subst eo64) | (go_at_call 14;(with_reducible refine (impl_HeldHours.calls kj41 _ _ t466 t467 t468 t469 t472 t473 _ ?side1 ?side2 A60.out).mono ?_);(case side1 => repeat (exact (Kd.Q_reads' HO471.out).2.2));(case side2 => exact (Kd.Q_reads' HO471.out).2.1);rintro e w65 ⟨rfl,hb⟩;have n0_:=Aside0.mk (Kd.Q_below (by exact HO471.out) hb);have n1_:=Aside0.mk (blk_below (g:=gb437) (o := .cells #[.int .i64 t433, .string t434, .bool t435, .int .i64 t436] 26 (0,0)) (by exact BK437.out) hb);have n2_:=Aside0.mk (below_step (by exact HB.out) hb);clear HO471;clear BK437;clear HB;have HO471:=n0_;have BK437:=n1_;have HB:=n2_;clear n0_ n1_ n2_;(try clear hb)) | (go_at_call 15;(with_reducible refine (spec_HeldHours.calls kj41 _ _ t466 t467 t468 t469 t474 t475 _ ?side1 ?side2 A61.out).mono ?_);(case side1 => repeat (exact (Kd.Q_reads' HO471.out).2.2));(case side2 => exact (Kd.Q_reads' HO471.out).2.1);rintro e w66 ⟨rfl,hb⟩;have n0_:=Aside0.mk (Kd.Q_below (by exact HO471.out) hb);have n1_:=Aside0.mk (blk_below (g:=gb437) (o := .cells #[.int .i64 t433, .string t434, .bool t435, .int .i64 t436] 26 (0,0)) (by exact BK437.out) hb);have n2_:=Aside0.mk (below_step (by exact HB.out) hb);clear HO471;clear BK437;clear HB;have HO471:=n0_;have BK437:=n1_;have HB:=n2_;clear n0_ n1_ n2_;(try clear hb)))
              repeat (go_quiet (fail);go_upto_region 20 with (first | (go_at_call 13;(with_reducible refine (spec_DrawHeldHours.calls kj41 _ _ l0 t466 t467 t468 t469 _ ?side1 ?side2 A59.out).mono ?_);(case side1 => repeat (first | exact (Kd.C_below HR0.out HB.out) | (with_reducible refine Kd.C_alloc ?_ _) | (with_reducible refine Kd.C_drewN ?_ _) | (with_reducible refine Kd.C_drew ?_)));(case side2 => exact HC0.out);rintro e w63 ⟨v470,rfl,ho0,hb⟩;have n0_:=Aside0.mk (Kd.Q_lower (Kd.Q_newB ho0 (g:=gb437) (o := .cells #[.int .i64 t433, .string t434, .bool t435, .int .i64 t436] 26 (0,0)) (by (with_reducible repeat (first | refine blk_drewN ?_ _ | refine blk_drew ?_ | refine blk_alloc ?_ _));exact BK437.out)) (below_size (by repeat (first | (with_reducible first | exact HB.out | apply below_alloc | apply pw_below_drewN | apply below_drew1 | refine below_set ?_ GE437.out) | exact HB.out))));have n1_:=Aside0.mk (blk_below (g:=gb437) (o := .cells #[.int .i64 t433, .string t434, .bool t435, .int .i64 t436] 26 (0,0)) (by (with_reducible repeat (first | refine blk_drewN ?_ _ | refine blk_drew ?_ | refine blk_alloc ?_ _));exact BK437.out) hb);have n2_:=Aside0.mk (below_step (by repeat (first | (with_reducible first | exact HB.out | apply below_alloc | apply pw_below_drewN | apply below_drew1 | refine below_set ?_ GE437.out) | exact HB.out)) hb);clear BK437;clear HB;have HO471:=n0_;have BK437:=n1_;have HB:=n2_;clear n0_ n1_ n2_;(try clear hb);(try clear hb2);(try clear hk);(try clear hi);(try clear ho0);obtain ⟨Ao64,co64,eo64,_⟩ := Kd.Q_slice HO471.out;subst eo64) | (go_at_call 14;(with_reducible refine (impl_HeldHours.calls kj41 _ _ t466 t467 t468 t469 t472 t473 _ ?side1 ?side2 A60.out).mono ?_);(case side1 => repeat (first | exact (Kd.Q_reads' HO471.out).2.2 | (with_reducible refine Kd.C_alloc ?_ _) | (with_reducible refine Kd.C_drewN ?_ _) | (with_reducible refine Kd.C_drew ?_)));(case side2 => exact (Kd.Q_reads' HO471.out).2.1);rintro e w65 ⟨rfl,hb⟩;have n0_:=Aside0.mk (Kd.Q_below (by (with_reducible repeat (first | apply Kd.Q_alloc | apply Kd.Q_drewN | apply Kd.Q_drew));exact HO471.out) hb);have n1_:=Aside0.mk (blk_below (g:=gb437) (o := .cells #[.int .i64 t433, .string t434, .bool t435, .int .i64 t436] 26 (0,0)) (by (with_reducible repeat (first | refine blk_drewN ?_ _ | refine blk_drew ?_ | refine blk_alloc ?_ _));exact BK437.out) hb);have n2_:=Aside0.mk (below_step (by repeat (first | (with_reducible first | exact HB.out | apply below_alloc | apply pw_below_drewN | apply below_drew1 | refine below_set ?_ GE437.out) | exact HB.out)) hb);clear HO471;clear BK437;clear HB;have HO471:=n0_;have BK437:=n1_;have HB:=n2_;clear n0_ n1_ n2_;(try clear hb);(try clear hb2);(try clear hk);(try clear hi)) | (go_at_call 15;(with_reducible refine (spec_HeldHours.calls kj41 _ _ t466 t467 t468 t469 t474 t475 _ ?side1 ?side2 A61.out).mono ?_);(case side1 => repeat (first | exact (Kd.Q_reads' HO471.out).2.2 | (with_reducible refine Kd.C_alloc ?_ _) | (with_reducible refine Kd.C_drewN ?_ _) | (with_reducible refine Kd.C_drew ?_)));(case side2 => exact (Kd.Q_reads' HO471.out).2.1);rintro e w66 ⟨rfl,hb⟩;have n0_:=Aside0.mk (Kd.Q_below (by (with_reducible repeat (first | apply Kd.Q_alloc | apply Kd.Q_drewN | apply Kd.Q_drew));exact HO471.out) hb);have n1_:=Aside0.mk (blk_below (g:=gb437) (o := .cells #[.int .i64 t433, .string t434, .bool t435, .int .i64 t436] 26 (0,0)) (by (with_reducible repeat (first | refine blk_drewN ?_ _ | refine blk_drew ?_ | refine blk_alloc ?_ _));exact BK437.out) hb);have n2_:=Aside0.mk (below_step (by repeat (first | (with_reducible first | exact HB.out | apply below_alloc | apply pw_below_drewN | apply below_drew1 | refine below_set ?_ GE437.out) | exact HB.out)) hb);clear HO471;clear BK437;clear HB;have HO471:=n0_;have BK437:=n1_;have HB:=n2_;clear n0_ n1_ n2_;(try clear hb);(try clear hb2);(try clear hk);(try clear hi))))
              (skip)
              go_cut [158] (fun v158 wc => ∃ (kq : Nat) (x158_61 : Bool),v158 = .bool x158_61 ∧ Aside0 (laws_FnFiles.j4 kq l0 x158_61 = some r) ∧ Aside0 (kq ≤ kj41) ∧ Aside0 (wc.heap[gb437]? = some (.cells #[.int .i64 t433, .string t434, .bool t435, .int .i64 t436] 26 (0,0))) ∧ Aside0 (Below w.heap.size w wc))
              case first =>
               have H:=HC62.out
               clear HC62
               by_cases c67 : t472 = t474
               ·rw [if_pos c67] at H
                have c67b0 : (t472 == t474) = true:=beq_iff_eq.mpr c67
                have c67b1 : (t472 != t474) = false:=bne_eq_false_iff_eq.mpr c67
                clear c67
                (skip)
                by_cases c68 : (t473 != t475) = true
                ·rw [if_pos c68] at H
                 have c68b0 : (t473 != t475) = true:=c68
                 (try (have c68b1 : decide (t473 = t475) = false:=by simpa using c68))
                 (try (have c68b2 : (t473 == t475) = false:=by simpa using c68))
                 (try (have c68b3 : ¬ (t473 = t475):=by simpa using c68))
                 clear c68
                 have H':=Aside0.mk H
                 clear H
                 go_wp2
                 repeat (go_quiet (fail);try go_wp2)
                 go_meet
                 case rel => exact ⟨_,(true),(by rfl),H',⟨by have:=HJ6.out;have:=HJ19.out;have:=HJ31.out;have:=HJ41.out;omega⟩,⟨by exact BK437.out⟩,⟨by exact HB.out⟩⟩
                ·rw [if_neg c68] at H
                 have c68b0 : (t473 != t475) = false:=by simpa using c68
                 (try (have c68b1 : decide (t473 = t475) = true:=by simpa using c68))
                 (try (have c68b2 : (t473 == t475) = true:=by simpa using c68))
                 clear c68
                 by_cases c69 : t473 = true
                 ·subst c69
                  have H1 : (if t472 < 0 then (laws_FnFiles.j4 kj41 l0 true) else (laws_FnFiles.j4 kj41 l0 (decide (t472 > t469)))) = some r:=by rw [if_pos rfl] at H;exact H
                  clear H
                  have H:=H1
                  clear H1
                  by_cases c70 : t472 < 0
                  ·rw [if_pos c70] at H
                   have c70b0 : decide (t472 < 0) = true:=decide_eq_true c70
                   clear c70
                   have H':=Aside0.mk H
                   clear H
                   go_wp2
                   repeat (go_quiet (fail);try go_wp2)
                   go_meet
                   case rel => exact ⟨_,(true),(by rfl),H',⟨by have:=HJ6.out;have:=HJ19.out;have:=HJ31.out;have:=HJ41.out;omega⟩,⟨by exact BK437.out⟩,⟨by exact HB.out⟩⟩
                  ·rw [if_neg c70] at H
                   have c70b0 : decide (t472 < 0) = false:=decide_eq_false c70
                   clear c70
                   have H':=Aside0.mk H
                   clear H
                   go_wp2
                   repeat (go_quiet (fail);try go_wp2)
                   go_meet
                   case rel => exact ⟨_,(decide (t472 > t469)),(by rfl),H',⟨by have:=HJ6.out;have:=HJ19.out;have:=HJ31.out;have:=HJ41.out;omega⟩,⟨by exact BK437.out⟩,⟨by exact HB.out⟩⟩
                 ·replace c69:=Bool.eq_false_iff.mpr c69
                  subst c69
                  have H1 : (laws_FnFiles.j4 kj41 l0 false) = some r:=by rw [if_neg (show ¬ (false = true) by decide)] at H;exact H
                  clear H
                  have H:=H1
                  clear H1
                  have H':=Aside0.mk H
                  clear H
                  go_wp2
                  repeat (go_quiet (fail);try go_wp2)
                  go_meet
                  case rel => exact ⟨_,(false),(by rfl),H',⟨by have:=HJ6.out;have:=HJ19.out;have:=HJ31.out;have:=HJ41.out;omega⟩,⟨by exact BK437.out⟩,⟨by exact HB.out⟩⟩
               ·rw [if_neg c67] at H
                have c67b0 : (t472 == t474) = false:=beq_eq_false_iff_ne.mpr c67
                have c67b1 : (t472 != t474) = true:=bne_iff_ne.mpr c67
                (skip)
                have H':=Aside0.mk H
                clear H
                go_wp2
                repeat (go_quiet (fail);try go_wp2)
                go_meet
                case rel => exact ⟨_,(true),(by rfl),H',⟨by have:=HJ6.out;have:=HJ19.out;have:=HJ31.out;have:=HJ41.out;omega⟩,⟨by exact BK437.out⟩,⟨by exact HB.out⟩⟩
              case rest => as_aux_lemma =>
               clear HC62
               try clear c1
               try clear c2
               try clear p2
               try clear c3
               try clear c4
               try clear p4
               try clear q4
               try clear hx4
               try clear c5
               try clear q5
               try clear c6
               try clear p6
               try clear c7
               try clear c15
               try clear c15b0
               try clear c15b1
               try clear c15b2
               try clear c19
               try clear c21
               try clear c22
               try clear c22b0
               try clear c22b1
               try clear c23
               try clear c23b0
               try clear c23b1
               try clear c24
               try clear c24b0
               try clear c24b1
               try clear c28
               try clear c37
               try clear c37b0
               try clear c37b1
               try clear c38
               try clear c38b0
               try clear c38b1
               try clear c38b2
               try clear c41
               try clear c43
               try clear c44
               try clear c44b0
               try clear c44b1
               try clear p44
               try clear q44
               try clear hx44
               try clear c45
               try clear c45b0
               try clear c45b1
               try clear c47
               try clear c49
               try clear c49b0
               try clear c49b1
               try clear c50
               try clear c50b0
               try clear c50b1
               try clear q52
               try clear q54
               try clear q56
               try clear c58
               try clear p64
               try clear c67
               try clear c67b0
               try clear c67b1
               try clear c68
               try clear c68b0
               try clear c68b1
               try clear c68b2
               try clear c69
               try clear c70
               try clear c70b0
               try clear hcz10_0
               try clear hcz10_1
               try clear hcz10_2
               try clear hcz10_3
               try clear hcz13_0
               try clear hcz13_1
               try clear hcz13_2
               try clear hcz13_3
               try clear hcz26_0
               try clear hcz26_1
               try clear hcz26_2
               try clear hcz26_3
               try clear hfz10_0
               try clear hfz10_1
               try clear hfz10_2
               try clear hfz10_3
               try clear hfz13_0
               try clear hfz13_1
               try clear hfz13_2
               try clear hfz13_3
               try clear hfz26_0
               try clear hfz26_1
               try clear hfz26_2
               try clear hfz26_3
               try clear hx447_0
               try clear hx447_1
               try clear hx447_2
               try clear hx447_3
               try clear p2
               try clear p4
               try clear p44
               try clear p447
               try clear p6
               try clear q4
               try clear q44
               try clear q447
               try clear q5
               try clear q52
               try clear q54
               try clear q56
               obtain ⟨kq,x158_61,rfl,HA,HJ61,BK437,HB⟩ := hcut
               cases kq with
               | zero => exact absurd HA.out (by simp [laws_FnFiles.j4])
               | succ kj61 =>
                have H:=HA.out
                clear HA
                simp only [laws_FnFiles.j4] at H
                by_cases c71 : x158_61 = true
                ·subst c71
                 have H1 : (some false) = some r:=by rw [if_pos rfl] at H;exact H
                 clear H
                 have H:=H1
                 clear H1
                 obtain rfl:=Option.some.inj H
                 as_aux_lemma =>
                  go_wp2
                  repeat (go_quiet (fail);try go_wp2)
                  go_ret
                  exact ⟨by rfl,by exact HB.out⟩
                ·replace c71:=Bool.eq_false_iff.mpr c71
                 subst c71
                 have H1 : ((spec_DrawBusiestHold.f kj61 l0).bind fun t476 => ((impl_BusiestHold.f kj61 t476).bind fun bt479 => ((spec_BusiestHold.f kj61 t476).bind fun bt482 => (if bt479.1 = bt482.1 then (if bt479.2.1 = bt482.2.1 then (some (bt479.2.2 == bt482.2.2)) else (some false)) else (some false))))) = some r:=by rw [if_neg (show ¬ (false = true) by decide)] at H;exact H
                 clear H
                 have H:=H1
                 clear H1
                 replace H:=Option.bind_eq_some_iff.mp H
                 obtain ⟨t476,A720,H⟩ := H
                 replace H : ((impl_BusiestHold.f kj61 t476).bind fun bt479 => ((spec_BusiestHold.f kj61 t476).bind fun bt482 => (if bt479.1 = bt482.1 then (if bt479.2.1 = bt482.2.1 then (some (bt479.2.2 == bt482.2.2)) else (some false)) else (some false)))) = some r:=H
                 have A72:=Aside0.mk A720
                 clear A720
                 replace H:=Option.bind_eq_some_iff.mp H
                 obtain ⟨⟨t479,t480,t481⟩,A730,H⟩ := H
                 replace H : ((spec_BusiestHold.f kj61 t476).bind fun bt482 => (if t479 = bt482.1 then (if t480 = bt482.2.1 then (some (t481 == bt482.2.2)) else (some false)) else (some false))) = some r:=H
                 have A73:=Aside0.mk A730
                 clear A730
                 replace H:=Option.bind_eq_some_iff.mp H
                 obtain ⟨⟨t482,t483,t484⟩,A740,H⟩ := H
                 replace H : (if t479 = t482 then (if t480 = t483 then (some (t481 == t484)) else (some false)) else (some false)) = some r:=H
                 have A74:=Aside0.mk A740
                 clear A740
                 by_cases c75 : t479 = t482
                 ·rw [if_pos c75] at H
                  have c75b0 : (t479 == t482) = true:=beq_iff_eq.mpr c75
                  have c75b1 : (t479 != t482) = false:=bne_eq_false_iff_eq.mpr c75
                  clear c75
                  by_cases c76 : t480 = t483
                  ·rw [if_pos c76] at H
                   have c76b0 : (t480 == t483) = true:=beq_iff_eq.mpr c76
                   have c76b1 : (t480 != t483) = false:=bne_eq_false_iff_eq.mpr c76
                   clear c76
                   obtain rfl:=Option.some.inj H
                   as_aux_lemma =>
                    go_wp2_with (first | (go_at_call 16;(with_reducible refine (spec_DrawBusiestHold.calls kj61 _ _ l0 t476 _ ?side1 ?side2 A72.out).mono ?_);(case side1 => repeat (exact (Kd.C_below HR0.out HB.out)));(case side2 => exact HC0.out);rintro e w77 ⟨v477,rfl,ho0,hb⟩;have n0_:=Aside0.mk (Kd.Q_lower (Kd.Q_newB ho0 (g:=gb437) (o := .cells #[.int .i64 t433, .string t434, .bool t435, .int .i64 t436] 26 (0,0)) (by exact BK437.out)) (below_size (by exact HB.out)));have n1_:=Aside0.mk (blk_below (g:=gb437) (o := .cells #[.int .i64 t433, .string t434, .bool t435, .int .i64 t436] 26 (0,0)) (by exact BK437.out) hb);have n2_:=Aside0.mk (below_step (by exact HB.out) hb);clear BK437;clear HB;have HO478:=n0_;have BK437:=n1_;have HB:=n2_;clear n0_ n1_ n2_;(try clear hb);(try clear ho0);obtain ⟨Ao78,co78,eo78,_⟩ := Kd.Q_slice HO478.out;subst eo78) | (go_at_call 17;(with_reducible refine (impl_BusiestHold.calls kj61 _ _ t476 t479 t480 t481 _ ?side1 ?side2 A73.out).mono ?_);(case side1 => repeat (exact (Kd.Q_reads' HO478.out).2.2));(case side2 => exact (Kd.Q_reads' HO478.out).2.1);rintro e w79 ⟨rfl,hb⟩;have n0_:=Aside0.mk (Kd.Q_below (by exact HO478.out) hb);have n1_:=Aside0.mk (blk_below (g:=gb437) (o := .cells #[.int .i64 t433, .string t434, .bool t435, .int .i64 t436] 26 (0,0)) (by exact BK437.out) hb);have n2_:=Aside0.mk (below_step (by exact HB.out) hb);clear HO478;clear BK437;clear HB;have HO478:=n0_;have BK437:=n1_;have HB:=n2_;clear n0_ n1_ n2_;(try clear hb)) | (go_at_call 18;(with_reducible refine (spec_BusiestHold.calls kj61 _ _ t476 t482 t483 t484 _ ?side1 ?side2 A74.out).mono ?_);(case side1 => repeat (exact (Kd.Q_reads' HO478.out).2.2));(case side2 => exact (Kd.Q_reads' HO478.out).2.1);rintro e w80 ⟨rfl,hb⟩;have n0_:=Aside0.mk (Kd.Q_below (by exact HO478.out) hb);have n1_:=Aside0.mk (blk_below (g:=gb437) (o := .cells #[.int .i64 t433, .string t434, .bool t435, .int .i64 t436] 26 (0,0)) (by exact BK437.out) hb);have n2_:=Aside0.mk (below_step (by exact HB.out) hb);clear HO478;clear BK437;clear HB;have HO478:=n0_;have BK437:=n1_;have HB:=n2_;clear n0_ n1_ n2_;(try clear hb)))
                    repeat (go_quiet (fail);try go_wp2_with (fail))
                    go_ret
                    exact ⟨by rfl,by exact HB.out⟩
                  ·rw [if_neg c76] at H
                   have c76b0 : (t480 == t483) = false:=beq_eq_false_iff_ne.mpr c76
                   have c76b1 : (t480 != t483) = true:=bne_iff_ne.mpr c76
                   obtain rfl:=Option.some.inj H
                   as_aux_lemma =>
                    go_wp2_with (first | (go_at_call 16;(with_reducible refine (spec_DrawBusiestHold.calls kj61 _ _ l0 t476 _ ?side1 ?side2 A72.out).mono ?_);(case side1 => repeat (exact (Kd.C_below HR0.out HB.out)));(case side2 => exact HC0.out);rintro e w81 ⟨v477,rfl,ho0,hb⟩;have n0_:=Aside0.mk (Kd.Q_lower (Kd.Q_newB ho0 (g:=gb437) (o := .cells #[.int .i64 t433, .string t434, .bool t435, .int .i64 t436] 26 (0,0)) (by exact BK437.out)) (below_size (by exact HB.out)));have n1_:=Aside0.mk (blk_below (g:=gb437) (o := .cells #[.int .i64 t433, .string t434, .bool t435, .int .i64 t436] 26 (0,0)) (by exact BK437.out) hb);have n2_:=Aside0.mk (below_step (by exact HB.out) hb);clear BK437;clear HB;have HO478:=n0_;have BK437:=n1_;have HB:=n2_;clear n0_ n1_ n2_;(try clear hb);(try clear ho0);obtain ⟨Ao82,co82,eo82,_⟩ := Kd.Q_slice HO478.out;subst eo82) | (go_at_call 17;(with_reducible refine (impl_BusiestHold.calls kj61 _ _ t476 t479 t480 t481 _ ?side1 ?side2 A73.out).mono ?_);(case side1 => repeat (exact (Kd.Q_reads' HO478.out).2.2));(case side2 => exact (Kd.Q_reads' HO478.out).2.1);rintro e w83 ⟨rfl,hb⟩;have n0_:=Aside0.mk (Kd.Q_below (by exact HO478.out) hb);have n1_:=Aside0.mk (blk_below (g:=gb437) (o := .cells #[.int .i64 t433, .string t434, .bool t435, .int .i64 t436] 26 (0,0)) (by exact BK437.out) hb);have n2_:=Aside0.mk (below_step (by exact HB.out) hb);clear HO478;clear BK437;clear HB;have HO478:=n0_;have BK437:=n1_;have HB:=n2_;clear n0_ n1_ n2_;(try clear hb)) | (go_at_call 18;(with_reducible refine (spec_BusiestHold.calls kj61 _ _ t476 t482 t483 t484 _ ?side1 ?side2 A74.out).mono ?_);(case side1 => repeat (exact (Kd.Q_reads' HO478.out).2.2));(case side2 => exact (Kd.Q_reads' HO478.out).2.1);rintro e w84 ⟨rfl,hb⟩;have n0_:=Aside0.mk (Kd.Q_below (by exact HO478.out) hb);have n1_:=Aside0.mk (blk_below (g:=gb437) (o := .cells #[.int .i64 t433, .string t434, .bool t435, .int .i64 t436] 26 (0,0)) (by exact BK437.out) hb);have n2_:=Aside0.mk (below_step (by exact HB.out) hb);clear HO478;clear BK437;clear HB;have HO478:=n0_;have BK437:=n1_;have HB:=n2_;clear n0_ n1_ n2_;(try clear hb)))
                    repeat (go_quiet (fail);try go_wp2_with (fail))
                    go_ret
                    exact ⟨by rfl,by exact HB.out⟩
                 ·rw [if_neg c75] at H
                  have c75b0 : (t479 == t482) = false:=beq_eq_false_iff_ne.mpr c75
                  have c75b1 : (t479 != t482) = true:=bne_iff_ne.mpr c75
                  obtain rfl:=Option.some.inj H
                  as_aux_lemma =>
                   go_wp2_with (first | (go_at_call 16;(with_reducible refine (spec_DrawBusiestHold.calls kj61 _ _ l0 t476 _ ?side1 ?side2 A72.out).mono ?_);(case side1 => repeat (exact (Kd.C_below HR0.out HB.out)));(case side2 => exact HC0.out);rintro e w85 ⟨v477,rfl,ho0,hb⟩;have n0_:=Aside0.mk (Kd.Q_lower (Kd.Q_newB ho0 (g:=gb437) (o := .cells #[.int .i64 t433, .string t434, .bool t435, .int .i64 t436] 26 (0,0)) (by exact BK437.out)) (below_size (by exact HB.out)));have n1_:=Aside0.mk (blk_below (g:=gb437) (o := .cells #[.int .i64 t433, .string t434, .bool t435, .int .i64 t436] 26 (0,0)) (by exact BK437.out) hb);have n2_:=Aside0.mk (below_step (by exact HB.out) hb);clear BK437;clear HB;have HO478:=n0_;have BK437:=n1_;have HB:=n2_;clear n0_ n1_ n2_;(try clear hb);(try clear ho0);obtain ⟨Ao86,co86,eo86,_⟩ := Kd.Q_slice HO478.out;subst eo86) | (go_at_call 17;(with_reducible refine (impl_BusiestHold.calls kj61 _ _ t476 t479 t480 t481 _ ?side1 ?side2 A73.out).mono ?_);(case side1 => repeat (exact (Kd.Q_reads' HO478.out).2.2));(case side2 => exact (Kd.Q_reads' HO478.out).2.1);rintro e w87 ⟨rfl,hb⟩;have n0_:=Aside0.mk (Kd.Q_below (by exact HO478.out) hb);have n1_:=Aside0.mk (blk_below (g:=gb437) (o := .cells #[.int .i64 t433, .string t434, .bool t435, .int .i64 t436] 26 (0,0)) (by exact BK437.out) hb);have n2_:=Aside0.mk (below_step (by exact HB.out) hb);clear HO478;clear BK437;clear HB;have HO478:=n0_;have BK437:=n1_;have HB:=n2_;clear n0_ n1_ n2_;(try clear hb)) | (go_at_call 18;(with_reducible refine (spec_BusiestHold.calls kj61 _ _ t476 t482 t483 t484 _ ?side1 ?side2 A74.out).mono ?_);(case side1 => repeat (exact (Kd.Q_reads' HO478.out).2.2));(case side2 => exact (Kd.Q_reads' HO478.out).2.1);rintro e w88 ⟨rfl,hb⟩;have n0_:=Aside0.mk (Kd.Q_below (by exact HO478.out) hb);have n1_:=Aside0.mk (blk_below (g:=gb437) (o := .cells #[.int .i64 t433, .string t434, .bool t435, .int .i64 t436] 26 (0,0)) (by exact BK437.out) hb);have n2_:=Aside0.mk (below_step (by exact HB.out) hb);clear HO478;clear BK437;clear HB;have HO478:=n0_;have BK437:=n1_;have HB:=n2_;clear n0_ n1_ n2_;(try clear hb)))
                   repeat (go_quiet (fail);try go_wp2_with (fail))
                   go_ret
                   exact ⟨by rfl,by exact HB.out⟩

/-- THE ONE PURE STATEMENT of laws_FnFiles: yours. -/
def laws_FnFiles.Pure : Prop := ∀ (l0 : List Int),l0.length ≤ maxLen → l0.length * 1 ≤ 140737488351232 → (∀ x ∈ l0,(Lit.int .u8 x).wf = true) → ∃ k,laws_FnFiles.f k l0 = some true
theorem laws_FnFiles.walk (P : laws_FnFiles.Pure) (a0 : Option Addr) (len0 cap0 : Nat) (z0 : List Int) (w : World) (w0 : (a0 = none ∧ len0 = 0 ∧ cap0 = 0 ∧ z0 = []) ∨ ∃ x,a0 = some x ∧ len0 ≤ cap0 ∧ cap0 ≤ maxLen ∧ z0.length = cap0 ∧ (∀ i,i < z0.length → w.cell? (x.add i) = some (.int .u8 (z0.getD i 0))) ∧ ∀ n ∈ z0,(Lit.int .u8 n).wf = true) (y0 : len0 * 1 ≤ 140737488351232) :
  Calls Try.prog 3 #[.slice a0 len0 cap0] w fun e w' => e = .returned (.bool true) ∧ Below w.heap.size w w':=by
 obtain ⟨l0,rfl,hr0,hm0,hw0,hc0⟩ := ReadsInt.ofRowC w0
 obtain ⟨k,h⟩ := P l0 hm0 y0 hw0
 refine (laws_FnFiles.calls k _ _ l0 true w (Kd.C_of_reads (d:=(0 : Int)) (h1:=fun _ => rfl) hr0) hc0 h).mono ?_
 rintro e w' ⟨rfl,hd⟩
 exact ⟨rfl,hd⟩

end Go.Proofs.Ytcjhmkhhhkcgkaa.PFnFiles
