-- Written by a program of this session, over the kit's print (wip/xprint.py)
import Derived.Test.YthfbnadlpninaaaPFnExactLeftBehindContainersx0
import Derived.Test.YthfbnadlpninaaaPFnExactLeftBehindContainersx1
import Derived.Test.YthfbnadlpninaaaPFnExactLeftBehindContainersx2
import Derived.Test.YthfbnadlpninaaaPFnExactLeftBehindContainersx3
import Derived.Test.YthfbnadlpninaaaPFnExactLeftBehindContainersx5
import Derived.Test.YthfbnadlpninaaaPFnExactLeftBehindContainersx9
import Derived.Test.YthfbnadlpninaaaPFnExactLeftBehindContainersx10
namespace Go.Proofs.Ythfbnadlpninaaa.PFnExactLeftBehindContainers
open Go.RowKit Go.Proofs.YthfbnadlpninaaaW.PrintWords Go.Proofs.YthfbnadlpninaaaW.PrintLast Go.Proofs.YthfbnadlpninaaaW.PrintMore
attribute [local go_sem] max2_int min2_int max_two min_two max_three min_three max_four min_four   -- for this text's walks alone
set_option linter.unusedVariables false
set_option linter.unusedSimpArgs false

/-! ### laws_FnExactLeftBehindContainers: function 11 -/
mutual
def laws_FnExactLeftBehindContainers.j0 : Nat → List (S74) → List (S80) → List Int → List ByteArray → Bool → List (S70) → List (S64) → List Int → List ByteArray → Bool → Bool → Option (Bool)
 | 0,_,_,_,_,_,_,_,_,_,_,_ => none
 | k + 1,x0,x1,x2,x8,x9,x10,x11,x12,x13,x14,x64 => if x64 = true then (some false) else ((laws_toWagonS.f k x0).bind fun t300 => ((laws_eqWagonS.f k x10 t300).bind fun t303 => (if t303 = true then ((laws_toContainerS.f k x1).bind fun t304 => ((laws_eqContainerS.f k x11 t304).bind fun t307 => (if t307 = true then ((laws_toIntS.f k x2).bind fun t308 => ((laws_eqIntS.f k x12 t308).bind fun t311 => (if t311 = true then ((laws_markWagonS.f k x10 1).bind fun bt312 => ((laws_markContainerS.f k x11 bt312.1).bind fun bt314 => ((laws_markIntS.f k x12 bt314.1).bind fun bt316 => (if bt316.1 < 0 then (laws_FnExactLeftBehindContainers.j1 k x0 x1 x2 x8 x9 x13 true) else ((laws_eqStringS.f k x13 x8).bind fun t318 => (if t318 = true then (laws_FnExactLeftBehindContainers.j1 k x0 x1 x2 x8 x9 x13 (x14 != x9)) else (laws_FnExactLeftBehindContainers.j1 k x0 x1 x2 x8 x9 x13 true))))))) else (some false)))) else (some false)))) else (some false))))
def laws_FnExactLeftBehindContainers.j1 : Nat → List (S74) → List (S80) → List Int → List ByteArray → Bool → List ByteArray → Bool → Option (Bool)
 | 0,_,_,_,_,_,_,_ => none
 | k + 1,x0,x1,x2,x8,x9,x13,x101 => if x101 = true then (some false) else ((laws_markStringS.f k x13 1).bind fun bt319 => ((laws_heldStringS.f k bt319.2 1).bind fun t321 => (if t321 < 0 then (some false) else (if t321 = bt319.1 then ((laws_toWagonS.f k x0).bind fun t322 => ((laws_toContainerS.f k x1).bind fun t325 => ((laws_toIntS.f k x2).bind fun t328 => ((impl_LeftBehindContainers.f k t322 t325 t328).bind fun bt331 => ((laws_eqStringS.f k bt331.1 x8).bind fun t335 => (if t335 = true then (laws_FnExactLeftBehindContainers.j2 k bt319.2 bt319.1 (bt331.2 != x9)) else (laws_FnExactLeftBehindContainers.j2 k bt319.2 bt319.1 true))))))) else (some false)))))
def laws_FnExactLeftBehindContainers.j2 : Nat → List ByteArray → Int → Bool → Option (Bool)
 | 0,_,_,_ => none
 | k + 1,x13,x16,x131 => if x131 = true then (some false) else ((laws_heldStringS.f k x13 1).bind fun t336 => (if t336 < 0 then (some false) else (if t336 = x16 then (some true) else (some false))))
end
def laws_FnExactLeftBehindContainers.f (k : Nat) (l0 : List (S74)) (l1 : List (S80)) (l2 : List Int) : Option (Bool):=if (l2.length : Int) > 1048576 then (some true) else ((laws_szWagonS.f l0 1048576).bind fun t271 => (if t271 < 0 then (some true) else ((laws_szContainerS.f k l1 t271).bind fun t272 => (if t272 < 0 then (some true) else ((laws_toWagonS.f k l0).bind fun t273 => ((laws_toContainerS.f k l1).bind fun t276 => ((laws_toIntS.f k l2).bind fun t279 => ((spec_LeftBehindContainers.f k t273 t276 t279).bind fun bt282 => ((laws_toWagonS.f k l0).bind fun t286 => ((laws_toContainerS.f k l1).bind fun t289 => ((laws_toIntS.f k l2).bind fun t292 => ((impl_LeftBehindContainers.f k t286 t289 t292).bind fun bt295 => ((laws_eqStringS.f k bt295.1 bt282.1).bind fun t299 => (if t299 = true then (laws_FnExactLeftBehindContainers.j0 k l0 l1 l2 bt282.1 bt282.2 t286 t289 t292 bt295.1 bt295.2 (bt295.2 != bt282.2)) else (laws_FnExactLeftBehindContainers.j0 k l0 l1 l2 bt282.1 bt282.2 t286 t289 t292 bt295.1 bt295.2 true)))))))))))))))
theorem laws_FnExactLeftBehindContainers.mono_l : ∀ k,(∀ y0 y1 y2 y3 y4 y5 y6 y7 y8 y9 y10,LeO (laws_FnExactLeftBehindContainers.j0 k y0 y1 y2 y3 y4 y5 y6 y7 y8 y9 y10) (laws_FnExactLeftBehindContainers.j0 (k + 1) y0 y1 y2 y3 y4 y5 y6 y7 y8 y9 y10)) ∧ (∀ y0 y1 y2 y3 y4 y5 y6,LeO (laws_FnExactLeftBehindContainers.j1 k y0 y1 y2 y3 y4 y5 y6) (laws_FnExactLeftBehindContainers.j1 (k + 1) y0 y1 y2 y3 y4 y5 y6)) ∧ (∀ y0 y1 y2,LeO (laws_FnExactLeftBehindContainers.j2 k y0 y1 y2) (laws_FnExactLeftBehindContainers.j2 (k + 1) y0 y1 y2))
 | 0 => ⟨fun _ _ _ _ _ _ _ _ _ _ _ r h => by simp [laws_FnExactLeftBehindContainers.j0] at h,fun _ _ _ _ _ _ _ r h => by simp [laws_FnExactLeftBehindContainers.j1] at h,fun _ _ _ r h => by simp [laws_FnExactLeftBehindContainers.j2] at h⟩
 | k + 1 => by
  obtain ⟨ih0,ih1,ih2⟩ := laws_FnExactLeftBehindContainers.mono_l k
  refine ⟨?_, ?_, ?_⟩
  ·intro y0 y1 y2 y3 y4 y5 y6 y7 y8 y9 y10
   unfold laws_FnExactLeftBehindContainers.j0
   repeat' first
   | (with_reducible exact ih0 _ _ _ _ _ _ _ _ _ _ _)
   | (with_reducible exact ih1 _ _ _ _ _ _ _)
   | (with_reducible exact ih2 _ _ _)
   | (with_reducible exact impl_LeftBehindContainers.mono _ _ _ _)
   | (with_reducible exact laws_eqContainerS.mono _ _ _)
   | (with_reducible exact laws_eqIntS.mono _ _ _)
   | (with_reducible exact laws_eqStringS.mono _ _ _)
   | (with_reducible exact laws_eqWagonS.mono _ _ _)
   | (with_reducible exact laws_heldStringS.mono _ _ _)
   | (with_reducible exact laws_markContainerS.mono _ _ _)
   | (with_reducible exact laws_markIntS.mono _ _ _)
   | (with_reducible exact laws_markStringS.mono _ _ _)
   | (with_reducible exact laws_markWagonS.mono _ _ _)
   | (with_reducible exact laws_szContainerS.mono _ _ _)
   | (with_reducible exact laws_toContainerS.mono _ _)
   | (with_reducible exact laws_toIntS.mono _ _)
   | (with_reducible exact laws_toWagonS.mono _ _)
   | (with_reducible exact spec_LeftBehindContainers.mono _ _ _ _)
   | (with_reducible exact LeO.refl _)
   | (with_reducible exact LeO.none _)
   | (with_reducible refine LeO.ite ?_ ?_)
   | (with_reducible refine LeO.bind ?_ (fun _ => ?_))
   | exact ih0 _ _ _ _ _ _ _ _ _ _ _
   | exact ih1 _ _ _ _ _ _ _
   | exact ih2 _ _ _
   | exact impl_LeftBehindContainers.mono _ _ _ _
   | exact laws_eqContainerS.mono _ _ _
   | exact laws_eqIntS.mono _ _ _
   | exact laws_eqStringS.mono _ _ _
   | exact laws_eqWagonS.mono _ _ _
   | exact laws_heldStringS.mono _ _ _
   | exact laws_markContainerS.mono _ _ _
   | exact laws_markIntS.mono _ _ _
   | exact laws_markStringS.mono _ _ _
   | exact laws_markWagonS.mono _ _ _
   | exact laws_szContainerS.mono _ _ _
   | exact laws_toContainerS.mono _ _
   | exact laws_toIntS.mono _ _
   | exact laws_toWagonS.mono _ _
   | exact spec_LeftBehindContainers.mono _ _ _ _
   | exact LeO.none _
   | refine LeO.ite ?_ ?_
   | refine LeO.bind ?_ (fun _ => ?_)
  ·intro y0 y1 y2 y3 y4 y5 y6
   unfold laws_FnExactLeftBehindContainers.j1
   repeat' first
   | (with_reducible exact ih0 _ _ _ _ _ _ _ _ _ _ _)
   | (with_reducible exact ih1 _ _ _ _ _ _ _)
   | (with_reducible exact ih2 _ _ _)
   | (with_reducible exact impl_LeftBehindContainers.mono _ _ _ _)
   | (with_reducible exact laws_eqContainerS.mono _ _ _)
   | (with_reducible exact laws_eqIntS.mono _ _ _)
   | (with_reducible exact laws_eqStringS.mono _ _ _)
   | (with_reducible exact laws_eqWagonS.mono _ _ _)
   | (with_reducible exact laws_heldStringS.mono _ _ _)
   | (with_reducible exact laws_markContainerS.mono _ _ _)
   | (with_reducible exact laws_markIntS.mono _ _ _)
   | (with_reducible exact laws_markStringS.mono _ _ _)
   | (with_reducible exact laws_markWagonS.mono _ _ _)
   | (with_reducible exact laws_szContainerS.mono _ _ _)
   | (with_reducible exact laws_toContainerS.mono _ _)
   | (with_reducible exact laws_toIntS.mono _ _)
   | (with_reducible exact laws_toWagonS.mono _ _)
   | (with_reducible exact spec_LeftBehindContainers.mono _ _ _ _)
   | (with_reducible exact LeO.refl _)
   | (with_reducible exact LeO.none _)
   | (with_reducible refine LeO.ite ?_ ?_)
   | (with_reducible refine LeO.bind ?_ (fun _ => ?_))
   | exact ih0 _ _ _ _ _ _ _ _ _ _ _
   | exact ih1 _ _ _ _ _ _ _
   | exact ih2 _ _ _
   | exact impl_LeftBehindContainers.mono _ _ _ _
   | exact laws_eqContainerS.mono _ _ _
   | exact laws_eqIntS.mono _ _ _
   | exact laws_eqStringS.mono _ _ _
   | exact laws_eqWagonS.mono _ _ _
   | exact laws_heldStringS.mono _ _ _
   | exact laws_markContainerS.mono _ _ _
   | exact laws_markIntS.mono _ _ _
   | exact laws_markStringS.mono _ _ _
   | exact laws_markWagonS.mono _ _ _
   | exact laws_szContainerS.mono _ _ _
   | exact laws_toContainerS.mono _ _
   | exact laws_toIntS.mono _ _
   | exact laws_toWagonS.mono _ _
   | exact spec_LeftBehindContainers.mono _ _ _ _
   | exact LeO.none _
   | refine LeO.ite ?_ ?_
   | refine LeO.bind ?_ (fun _ => ?_)
  ·intro y0 y1 y2
   unfold laws_FnExactLeftBehindContainers.j2
   repeat' first
   | (with_reducible exact ih0 _ _ _ _ _ _ _ _ _ _ _)
   | (with_reducible exact ih1 _ _ _ _ _ _ _)
   | (with_reducible exact ih2 _ _ _)
   | (with_reducible exact impl_LeftBehindContainers.mono _ _ _ _)
   | (with_reducible exact laws_eqContainerS.mono _ _ _)
   | (with_reducible exact laws_eqIntS.mono _ _ _)
   | (with_reducible exact laws_eqStringS.mono _ _ _)
   | (with_reducible exact laws_eqWagonS.mono _ _ _)
   | (with_reducible exact laws_heldStringS.mono _ _ _)
   | (with_reducible exact laws_markContainerS.mono _ _ _)
   | (with_reducible exact laws_markIntS.mono _ _ _)
   | (with_reducible exact laws_markStringS.mono _ _ _)
   | (with_reducible exact laws_markWagonS.mono _ _ _)
   | (with_reducible exact laws_szContainerS.mono _ _ _)
   | (with_reducible exact laws_toContainerS.mono _ _)
   | (with_reducible exact laws_toIntS.mono _ _)
   | (with_reducible exact laws_toWagonS.mono _ _)
   | (with_reducible exact spec_LeftBehindContainers.mono _ _ _ _)
   | (with_reducible exact LeO.refl _)
   | (with_reducible exact LeO.none _)
   | (with_reducible refine LeO.ite ?_ ?_)
   | (with_reducible refine LeO.bind ?_ (fun _ => ?_))
   | exact ih0 _ _ _ _ _ _ _ _ _ _ _
   | exact ih1 _ _ _ _ _ _ _
   | exact ih2 _ _ _
   | exact impl_LeftBehindContainers.mono _ _ _ _
   | exact laws_eqContainerS.mono _ _ _
   | exact laws_eqIntS.mono _ _ _
   | exact laws_eqStringS.mono _ _ _
   | exact laws_eqWagonS.mono _ _ _
   | exact laws_heldStringS.mono _ _ _
   | exact laws_markContainerS.mono _ _ _
   | exact laws_markIntS.mono _ _ _
   | exact laws_markStringS.mono _ _ _
   | exact laws_markWagonS.mono _ _ _
   | exact laws_szContainerS.mono _ _ _
   | exact laws_toContainerS.mono _ _
   | exact laws_toIntS.mono _ _
   | exact laws_toWagonS.mono _ _
   | exact spec_LeftBehindContainers.mono _ _ _ _
   | exact LeO.none _
   | refine LeO.ite ?_ ?_
   | refine LeO.bind ?_ (fun _ => ?_)
theorem laws_FnExactLeftBehindContainers.mono : ∀ a0 a1 a2 k,LeO (laws_FnExactLeftBehindContainers.f k a0 a1 a2) (laws_FnExactLeftBehindContainers.f (k + 1) a0 a1 a2):=by
 intro a0 a1 a2 k
 obtain ⟨ih0,ih1,ih2⟩ := laws_FnExactLeftBehindContainers.mono_l k
 unfold laws_FnExactLeftBehindContainers.f
 repeat' first
   | (with_reducible exact ih0 _ _ _ _ _ _ _ _ _ _ _)
   | (with_reducible exact ih1 _ _ _ _ _ _ _)
   | (with_reducible exact ih2 _ _ _)
   | (with_reducible exact impl_LeftBehindContainers.mono _ _ _ _)
   | (with_reducible exact laws_eqContainerS.mono _ _ _)
   | (with_reducible exact laws_eqIntS.mono _ _ _)
   | (with_reducible exact laws_eqStringS.mono _ _ _)
   | (with_reducible exact laws_eqWagonS.mono _ _ _)
   | (with_reducible exact laws_heldStringS.mono _ _ _)
   | (with_reducible exact laws_markContainerS.mono _ _ _)
   | (with_reducible exact laws_markIntS.mono _ _ _)
   | (with_reducible exact laws_markStringS.mono _ _ _)
   | (with_reducible exact laws_markWagonS.mono _ _ _)
   | (with_reducible exact laws_szContainerS.mono _ _ _)
   | (with_reducible exact laws_toContainerS.mono _ _)
   | (with_reducible exact laws_toIntS.mono _ _)
   | (with_reducible exact laws_toWagonS.mono _ _)
   | (with_reducible exact spec_LeftBehindContainers.mono _ _ _ _)
   | (with_reducible exact LeO.refl _)
   | (with_reducible exact LeO.none _)
   | (with_reducible refine LeO.ite ?_ ?_)
   | (with_reducible refine LeO.bind ?_ (fun _ => ?_))
   | exact ih0 _ _ _ _ _ _ _ _ _ _ _
   | exact ih1 _ _ _ _ _ _ _
   | exact ih2 _ _ _
   | exact impl_LeftBehindContainers.mono _ _ _ _
   | exact laws_eqContainerS.mono _ _ _
   | exact laws_eqIntS.mono _ _ _
   | exact laws_eqStringS.mono _ _ _
   | exact laws_eqWagonS.mono _ _ _
   | exact laws_heldStringS.mono _ _ _
   | exact laws_markContainerS.mono _ _ _
   | exact laws_markIntS.mono _ _ _
   | exact laws_markStringS.mono _ _ _
   | exact laws_markWagonS.mono _ _ _
   | exact laws_szContainerS.mono _ _ _
   | exact laws_toContainerS.mono _ _
   | exact laws_toIntS.mono _ _
   | exact laws_toWagonS.mono _ _
   | exact spec_LeftBehindContainers.mono _ _ _ _
   | exact LeO.none _
   | refine LeO.ite ?_ ?_
   | refine LeO.bind ?_ (fun _ => ?_)
set_option maxHeartbeats 8000000 in
set_option maxRecDepth 100000 in
theorem laws_FnExactLeftBehindContainers.calls (k : Nat) (A0 : Option Addr) (c0 : Nat) (l0 : List (S74)) (A1 : Option Addr) (c1 : Nat) (l1 : List (S80)) (A2 : Option Addr) (c2 : Nat) (l2 : List Int) (r : Bool) (w : World) (hr0 : Kd.C k74 w A0 l0.length l0) (hc0 : l0.length ≤ c0) (hr1 : Kd.C k80 w A1 l1.length l1) (hc1 : l1.length ≤ c1) (hr2 : Kd.C (Kd.int .i64) w A2 l2.length l2) (hc2 : l2.length ≤ c2) (h : laws_FnExactLeftBehindContainers.f k l0 l1 l2 = some r) :
  Calls Try.prog 11 #[.slice A0 l0.length c0, .slice A1 l1.length c1, .slice A2 l2.length c2] w fun e w' => e = .returned (.bool r) ∧ Below w.heap.size w w':=by
 have HR0:=Aside0.mk hr0
 have HC0:=Aside0.mk hc0
 clear hr0 hc0
 have HR1:=Aside0.mk hr1
 have HC1:=Aside0.mk hc1
 clear hr1 hc1
 have HR2:=Aside0.mk hr2
 have HC2:=Aside0.mk hc2
 clear hr2 hc2
 have HB:=Aside0.mk (Below.refl w.heap.size w)
 have H : (if (l2.length : Int) > 1048576 then (some true) else ((laws_szWagonS.f l0 1048576).bind fun t271 => (if t271 < 0 then (some true) else ((laws_szContainerS.f k l1 t271).bind fun t272 => (if t272 < 0 then (some true) else ((laws_toWagonS.f k l0).bind fun t273 => ((laws_toContainerS.f k l1).bind fun t276 => ((laws_toIntS.f k l2).bind fun t279 => ((spec_LeftBehindContainers.f k t273 t276 t279).bind fun bt282 => ((laws_toWagonS.f k l0).bind fun t286 => ((laws_toContainerS.f k l1).bind fun t289 => ((laws_toIntS.f k l2).bind fun t292 => ((impl_LeftBehindContainers.f k t286 t289 t292).bind fun bt295 => ((laws_eqStringS.f k bt295.1 bt282.1).bind fun t299 => (if t299 = true then (laws_FnExactLeftBehindContainers.j0 k l0 l1 l2 bt282.1 bt282.2 t286 t289 t292 bt295.1 bt295.2 (bt295.2 != bt282.2)) else (laws_FnExactLeftBehindContainers.j0 k l0 l1 l2 bt282.1 bt282.2 t286 t289 t292 bt295.1 bt295.2 true)))))))))))))))) = some r:=h
 clear h
 by_cases c4 : (l2.length : Int) > 1048576
 ·rw [if_pos c4] at H
  have c4b0 : decide (1048576 < (l2.length : Int)) = true:=decide_eq_true c4
  have c4b1 : decide (1048576 < l2.length) = true:=decide_eq_true (by omega)
  clear c4
  obtain rfl:=Option.some.inj H
  go_enter Try.func11,Try.ntmps11
  go_wp2
  go_ret
  exact ⟨by first | rfl | (simp [errW_none,errW_some] <;> rfl) | (simp [*,errW_none,errW_some] <;> rfl),by repeat (first | (with_reducible first | exact HB.out | apply below_alloc | apply pw_below_drewN | apply below_drew1) | exact HB.out)⟩
 ·rw [if_neg c4] at H
  have c4b0 : decide (1048576 < (l2.length : Int)) = false:=decide_eq_false c4
  have c4b1 : decide (1048576 < l2.length) = false:=decide_eq_false (by omega)
  clear c4
  replace H:=Option.bind_eq_some_iff.mp H
  obtain ⟨t271,A50,H⟩ := H
  replace H : (if t271 < 0 then (some true) else ((laws_szContainerS.f k l1 t271).bind fun t272 => (if t272 < 0 then (some true) else ((laws_toWagonS.f k l0).bind fun t273 => ((laws_toContainerS.f k l1).bind fun t276 => ((laws_toIntS.f k l2).bind fun t279 => ((spec_LeftBehindContainers.f k t273 t276 t279).bind fun bt282 => ((laws_toWagonS.f k l0).bind fun t286 => ((laws_toContainerS.f k l1).bind fun t289 => ((laws_toIntS.f k l2).bind fun t292 => ((impl_LeftBehindContainers.f k t286 t289 t292).bind fun bt295 => ((laws_eqStringS.f k bt295.1 bt282.1).bind fun t299 => (if t299 = true then (laws_FnExactLeftBehindContainers.j0 k l0 l1 l2 bt282.1 bt282.2 t286 t289 t292 bt295.1 bt295.2 (bt295.2 != bt282.2)) else (laws_FnExactLeftBehindContainers.j0 k l0 l1 l2 bt282.1 bt282.2 t286 t289 t292 bt295.1 bt295.2 true)))))))))))))) = some r:=H
  have A5:=Aside0.mk A50
  clear A50
  by_cases c6 : t271 < 0
  ·rw [if_pos c6] at H
   have c6b0 : decide (t271 < 0) = true:=decide_eq_true c6
   clear c6
   obtain rfl:=Option.some.inj H
   go_enter Try.func11,Try.ntmps11
   go_wp2_with (first | ((with_reducible refine gate_callee (f:=15) rfl ?_);refine goesL_ (some 25) rfl rfl Try.func15 (by kernel_rfl) rfl #[.slice A0 l0.length c0, .int .i64 1048576] rfl (by (try simp only [List.map_toArray,List.map_cons,List.map_nil]);first | done | rfl | (simp only [List.length_drop,List.length_take];rfl)) ?_;(with_reducible refine (laws_szWagonS.calls _ _ l0 1048576 t271 _ ?side1 ?side2 A5.out).mono ?_);(case side1 => repeat (first | exact HR0.out | (with_reducible refine Kd.C_alloc ?_ _) | (with_reducible refine Kd.C_drewN ?_ _) | (with_reducible refine Kd.C_drew ?_)));(case side2 => exact HC0.out);rintro e w' ⟨rfl,⟨nd,rfl⟩⟩;refine ⟨_,rfl, ?_⟩))
   go_ret
   exact ⟨by first | rfl | (simp [errW_none,errW_some] <;> rfl) | (simp [*,errW_none,errW_some] <;> rfl),by repeat (first | (with_reducible first | exact HB.out | apply below_alloc | apply pw_below_drewN | apply below_drew1) | exact HB.out)⟩
  ·rw [if_neg c6] at H
   have c6b0 : decide (t271 < 0) = false:=decide_eq_false c6
   clear c6
   replace H:=Option.bind_eq_some_iff.mp H
   obtain ⟨t272,A70,H⟩ := H
   replace H : (if t272 < 0 then (some true) else ((laws_toWagonS.f k l0).bind fun t273 => ((laws_toContainerS.f k l1).bind fun t276 => ((laws_toIntS.f k l2).bind fun t279 => ((spec_LeftBehindContainers.f k t273 t276 t279).bind fun bt282 => ((laws_toWagonS.f k l0).bind fun t286 => ((laws_toContainerS.f k l1).bind fun t289 => ((laws_toIntS.f k l2).bind fun t292 => ((impl_LeftBehindContainers.f k t286 t289 t292).bind fun bt295 => ((laws_eqStringS.f k bt295.1 bt282.1).bind fun t299 => (if t299 = true then (laws_FnExactLeftBehindContainers.j0 k l0 l1 l2 bt282.1 bt282.2 t286 t289 t292 bt295.1 bt295.2 (bt295.2 != bt282.2)) else (laws_FnExactLeftBehindContainers.j0 k l0 l1 l2 bt282.1 bt282.2 t286 t289 t292 bt295.1 bt295.2 true)))))))))))) = some r:=H
   have A7:=Aside0.mk A70
   clear A70
   by_cases c8 : t272 < 0
   ·rw [if_pos c8] at H
    have c8b0 : decide (t272 < 0) = true:=decide_eq_true c8
    clear c8
    obtain rfl:=Option.some.inj H
    go_enter Try.func11,Try.ntmps11
    go_wp2_with (first | ((with_reducible refine gate_callee (f:=15) rfl ?_);refine goesL_ (some 25) rfl rfl Try.func15 (by kernel_rfl) rfl #[.slice A0 l0.length c0, .int .i64 1048576] rfl (by (try simp only [List.map_toArray,List.map_cons,List.map_nil]);first | done | rfl | (simp only [List.length_drop,List.length_take];rfl)) ?_;(with_reducible refine (laws_szWagonS.calls _ _ l0 1048576 t271 _ ?side1 ?side2 A5.out).mono ?_);(case side1 => repeat (first | exact HR0.out | (with_reducible refine Kd.C_alloc ?_ _) | (with_reducible refine Kd.C_drewN ?_ _) | (with_reducible refine Kd.C_drew ?_)));(case side2 => exact HC0.out);rintro e w' ⟨rfl,⟨nd,rfl⟩⟩;refine ⟨_,rfl, ?_⟩) | ((with_reducible refine gate_callee (f:=20) rfl ?_);refine goesL_ (some 30) rfl rfl Try.func20 (by kernel_rfl) rfl #[.slice A1 l1.length c1, .int .i64 t271] rfl (by (try simp only [List.map_toArray,List.map_cons,List.map_nil]);first | done | rfl | (simp only [List.length_drop,List.length_take];rfl)) ?_;(with_reducible refine (laws_szContainerS.calls k _ _ l1 t271 t272 _ ?side1 ?side2 A7.out).mono ?_);(case side1 => repeat (first | exact HR1.out | (with_reducible refine Kd.C_alloc ?_ _) | (with_reducible refine Kd.C_drewN ?_ _) | (with_reducible refine Kd.C_drew ?_)));(case side2 => exact HC1.out);rintro e w9 ⟨rfl,hb⟩;refine ⟨_,rfl, ?_⟩;have n0_:=Aside0.mk (below_step (by repeat (first | (with_reducible first | exact HB.out | apply below_alloc | apply pw_below_drewN | apply below_drew1) | exact HB.out)) hb);clear HB;have HB:=n0_;clear n0_;(try clear hb);(try clear hb2);(try clear hk);(try clear hi)))
    go_ret
    exact ⟨by first | rfl | (simp [errW_none,errW_some] <;> rfl) | (simp [*,errW_none,errW_some] <;> rfl),by repeat (first | (with_reducible first | exact HB.out | apply below_alloc | apply pw_below_drewN | apply below_drew1) | exact HB.out)⟩
   ·rw [if_neg c8] at H
    have c8b0 : decide (t272 < 0) = false:=decide_eq_false c8
    clear c8
    replace H:=Option.bind_eq_some_iff.mp H
    obtain ⟨t273,A100,H⟩ := H
    replace H : ((laws_toContainerS.f k l1).bind fun t276 => ((laws_toIntS.f k l2).bind fun t279 => ((spec_LeftBehindContainers.f k t273 t276 t279).bind fun bt282 => ((laws_toWagonS.f k l0).bind fun t286 => ((laws_toContainerS.f k l1).bind fun t289 => ((laws_toIntS.f k l2).bind fun t292 => ((impl_LeftBehindContainers.f k t286 t289 t292).bind fun bt295 => ((laws_eqStringS.f k bt295.1 bt282.1).bind fun t299 => (if t299 = true then (laws_FnExactLeftBehindContainers.j0 k l0 l1 l2 bt282.1 bt282.2 t286 t289 t292 bt295.1 bt295.2 (bt295.2 != bt282.2)) else (laws_FnExactLeftBehindContainers.j0 k l0 l1 l2 bt282.1 bt282.2 t286 t289 t292 bt295.1 bt295.2 true)))))))))) = some r:=H
    have A10:=Aside0.mk A100
    clear A100
    replace H:=Option.bind_eq_some_iff.mp H
    obtain ⟨t276,A110,H⟩ := H
    replace H : ((laws_toIntS.f k l2).bind fun t279 => ((spec_LeftBehindContainers.f k t273 t276 t279).bind fun bt282 => ((laws_toWagonS.f k l0).bind fun t286 => ((laws_toContainerS.f k l1).bind fun t289 => ((laws_toIntS.f k l2).bind fun t292 => ((impl_LeftBehindContainers.f k t286 t289 t292).bind fun bt295 => ((laws_eqStringS.f k bt295.1 bt282.1).bind fun t299 => (if t299 = true then (laws_FnExactLeftBehindContainers.j0 k l0 l1 l2 bt282.1 bt282.2 t286 t289 t292 bt295.1 bt295.2 (bt295.2 != bt282.2)) else (laws_FnExactLeftBehindContainers.j0 k l0 l1 l2 bt282.1 bt282.2 t286 t289 t292 bt295.1 bt295.2 true))))))))) = some r:=H
    have A11:=Aside0.mk A110
    clear A110
    replace H:=Option.bind_eq_some_iff.mp H
    obtain ⟨t279,A120,H⟩ := H
    replace H : ((spec_LeftBehindContainers.f k t273 t276 t279).bind fun bt282 => ((laws_toWagonS.f k l0).bind fun t286 => ((laws_toContainerS.f k l1).bind fun t289 => ((laws_toIntS.f k l2).bind fun t292 => ((impl_LeftBehindContainers.f k t286 t289 t292).bind fun bt295 => ((laws_eqStringS.f k bt295.1 bt282.1).bind fun t299 => (if t299 = true then (laws_FnExactLeftBehindContainers.j0 k l0 l1 l2 bt282.1 bt282.2 t286 t289 t292 bt295.1 bt295.2 (bt295.2 != bt282.2)) else (laws_FnExactLeftBehindContainers.j0 k l0 l1 l2 bt282.1 bt282.2 t286 t289 t292 bt295.1 bt295.2 true)))))))) = some r:=H
    have A12:=Aside0.mk A120
    clear A120
    replace H:=Option.bind_eq_some_iff.mp H
    obtain ⟨⟨t282,t283⟩,A130,H⟩ := H
    replace H : ((laws_toWagonS.f k l0).bind fun t286 => ((laws_toContainerS.f k l1).bind fun t289 => ((laws_toIntS.f k l2).bind fun t292 => ((impl_LeftBehindContainers.f k t286 t289 t292).bind fun bt295 => ((laws_eqStringS.f k bt295.1 t282).bind fun t299 => (if t299 = true then (laws_FnExactLeftBehindContainers.j0 k l0 l1 l2 t282 t283 t286 t289 t292 bt295.1 bt295.2 (bt295.2 != t283)) else (laws_FnExactLeftBehindContainers.j0 k l0 l1 l2 t282 t283 t286 t289 t292 bt295.1 bt295.2 true))))))) = some r:=H
    have A13:=Aside0.mk A130
    clear A130
    replace H:=Option.bind_eq_some_iff.mp H
    obtain ⟨t286,A140,H⟩ := H
    replace H : ((laws_toContainerS.f k l1).bind fun t289 => ((laws_toIntS.f k l2).bind fun t292 => ((impl_LeftBehindContainers.f k t286 t289 t292).bind fun bt295 => ((laws_eqStringS.f k bt295.1 t282).bind fun t299 => (if t299 = true then (laws_FnExactLeftBehindContainers.j0 k l0 l1 l2 t282 t283 t286 t289 t292 bt295.1 bt295.2 (bt295.2 != t283)) else (laws_FnExactLeftBehindContainers.j0 k l0 l1 l2 t282 t283 t286 t289 t292 bt295.1 bt295.2 true)))))) = some r:=H
    have A14:=Aside0.mk A140
    clear A140
    replace H:=Option.bind_eq_some_iff.mp H
    obtain ⟨t289,A150,H⟩ := H
    replace H : ((laws_toIntS.f k l2).bind fun t292 => ((impl_LeftBehindContainers.f k t286 t289 t292).bind fun bt295 => ((laws_eqStringS.f k bt295.1 t282).bind fun t299 => (if t299 = true then (laws_FnExactLeftBehindContainers.j0 k l0 l1 l2 t282 t283 t286 t289 t292 bt295.1 bt295.2 (bt295.2 != t283)) else (laws_FnExactLeftBehindContainers.j0 k l0 l1 l2 t282 t283 t286 t289 t292 bt295.1 bt295.2 true))))) = some r:=H
    have A15:=Aside0.mk A150
    clear A150
    replace H:=Option.bind_eq_some_iff.mp H
    obtain ⟨t292,A160,H⟩ := H
    replace H : ((impl_LeftBehindContainers.f k t286 t289 t292).bind fun bt295 => ((laws_eqStringS.f k bt295.1 t282).bind fun t299 => (if t299 = true then (laws_FnExactLeftBehindContainers.j0 k l0 l1 l2 t282 t283 t286 t289 t292 bt295.1 bt295.2 (bt295.2 != t283)) else (laws_FnExactLeftBehindContainers.j0 k l0 l1 l2 t282 t283 t286 t289 t292 bt295.1 bt295.2 true)))) = some r:=H
    have A16:=Aside0.mk A160
    clear A160
    replace H:=Option.bind_eq_some_iff.mp H
    obtain ⟨⟨t295,t296⟩,A170,H⟩ := H
    replace H : ((laws_eqStringS.f k t295 t282).bind fun t299 => (if t299 = true then (laws_FnExactLeftBehindContainers.j0 k l0 l1 l2 t282 t283 t286 t289 t292 t295 t296 (t296 != t283)) else (laws_FnExactLeftBehindContainers.j0 k l0 l1 l2 t282 t283 t286 t289 t292 t295 t296 true))) = some r:=H
    have A17:=Aside0.mk A170
    clear A170
    have HC18:=Aside0.mk H
    clear H
    go_enter Try.func11,Try.ntmps11
    go_upto_region 15 with (first | ((with_reducible refine gate_callee (f:=15) rfl ?_);refine goesL_ (some 25) rfl rfl Try.func15 (by kernel_rfl) rfl #[.slice A0 l0.length c0, .int .i64 1048576] rfl (by (try simp only [List.map_toArray,List.map_cons,List.map_nil]);first | done | rfl | (simp only [List.length_drop,List.length_take];rfl)) ?_;(with_reducible refine (laws_szWagonS.calls _ _ l0 1048576 t271 _ ?side1 ?side2 A5.out).mono ?_);(case side1 => repeat (first | exact HR0.out | (with_reducible refine Kd.C_alloc ?_ _) | (with_reducible refine Kd.C_drewN ?_ _) | (with_reducible refine Kd.C_drew ?_)));(case side2 => exact HC0.out);rintro e w' ⟨rfl,⟨nd,rfl⟩⟩;refine ⟨_,rfl, ?_⟩) | ((with_reducible refine gate_callee (f:=20) rfl ?_);refine goesL_ (some 30) rfl rfl Try.func20 (by kernel_rfl) rfl #[.slice A1 l1.length c1, .int .i64 t271] rfl (by (try simp only [List.map_toArray,List.map_cons,List.map_nil]);first | done | rfl | (simp only [List.length_drop,List.length_take];rfl)) ?_;(with_reducible refine (laws_szContainerS.calls k _ _ l1 t271 t272 _ ?side1 ?side2 A7.out).mono ?_);(case side1 => repeat (first | exact HR1.out | (with_reducible refine Kd.C_alloc ?_ _) | (with_reducible refine Kd.C_drewN ?_ _) | (with_reducible refine Kd.C_drew ?_)));(case side2 => exact HC1.out);rintro e w19 ⟨rfl,hb⟩;refine ⟨_,rfl, ?_⟩;have n0_:=Aside0.mk (below_step (by repeat (first | (with_reducible first | exact HB.out | apply below_alloc | apply pw_below_drewN | apply below_drew1) | exact HB.out)) hb);clear HB;have HB:=n0_;clear n0_;(try clear hb);(try clear hb2);(try clear hk);(try clear hi)) | ((with_reducible refine gate_callee (f:=17) rfl ?_);refine goesL_ (some 35) rfl rfl Try.func17 (by kernel_rfl) rfl #[.slice A0 l0.length c0] rfl (by (try simp only [List.map_toArray,List.map_cons,List.map_nil]);first | done | rfl | (simp only [List.length_drop,List.length_take];rfl)) ?_;(with_reducible refine (laws_toWagonS.calls k _ _ l0 t273 _ ?side1 ?side2 A10.out).mono ?_);(case side1 => repeat (first | exact (Kd.C_below HR0.out HB.out) | (with_reducible refine Kd.C_alloc ?_ _) | (with_reducible refine Kd.C_drewN ?_ _) | (with_reducible refine Kd.C_drew ?_)));(case side2 => exact HC0.out);rintro e w20 ⟨v274,rfl,ho0,hb⟩;refine ⟨_,rfl, ?_⟩;have n0_:=Aside0.mk (Kd.R_lower ho0 (below_size (by repeat (first | (with_reducible first | exact HB.out | apply below_alloc | apply pw_below_drewN | apply below_drew1) | exact HB.out))));have n1_:=Aside0.mk (below_step (by repeat (first | (with_reducible first | exact HB.out | apply below_alloc | apply pw_below_drewN | apply below_drew1) | exact HB.out)) hb);clear HB;have HO275:=n0_;have HB:=n1_;clear n0_ n1_;(try clear hb);(try clear hb2);(try clear hk);(try clear hi);(try clear ho0)) | ((with_reducible refine gate_callee (f:=22) rfl ?_);refine goesL_ (some 37) rfl rfl Try.func22 (by kernel_rfl) rfl #[.slice A1 l1.length c1] rfl (by (try simp only [List.map_toArray,List.map_cons,List.map_nil]);first | done | rfl | (simp only [List.length_drop,List.length_take];rfl)) ?_;(with_reducible refine (laws_toContainerS.calls k _ _ l1 t276 _ ?side1 ?side2 A11.out).mono ?_);(case side1 => repeat (first | exact (Kd.C_below HR1.out HB.out) | (with_reducible refine Kd.C_alloc ?_ _) | (with_reducible refine Kd.C_drewN ?_ _) | (with_reducible refine Kd.C_drew ?_)));(case side2 => exact HC1.out);rintro e w21 ⟨v277,rfl,ho0,hb⟩;refine ⟨_,rfl, ?_⟩;have n0_:=Aside0.mk (Kd.R_below (by (with_reducible repeat (first | apply Kd.R_alloc | apply Kd.R_drewN | apply Kd.R_drew));exact HO275.out) hb);have n1_:=Aside0.mk (Kd.R_lower ho0 (below_size (by repeat (first | (with_reducible first | exact HB.out | apply below_alloc | apply pw_below_drewN | apply below_drew1) | exact HB.out))));have n2_:=Aside0.mk (below_step (by repeat (first | (with_reducible first | exact HB.out | apply below_alloc | apply pw_below_drewN | apply below_drew1) | exact HB.out)) hb);clear HO275;clear HB;have HO275:=n0_;have HO278:=n1_;have HB:=n2_;clear n0_ n1_ n2_;(try clear hb);(try clear hb2);(try clear hk);(try clear hi);(try clear ho0)) | ((with_reducible refine gate_callee (f:=23) rfl ?_);refine goesL_ (some 39) rfl rfl Try.func23 (by kernel_rfl) rfl #[.slice A2 l2.length c2] rfl (by (try simp only [List.map_toArray,List.map_cons,List.map_nil]);first | done | rfl | (simp only [List.length_drop,List.length_take];rfl)) ?_;(with_reducible refine (laws_toIntS.calls k _ _ l2 t279 _ ?side1 ?side2 A12.out).mono ?_);(case side1 => repeat (first | exact (Kd.C_below HR2.out HB.out) | (with_reducible refine Kd.C_alloc ?_ _) | (with_reducible refine Kd.C_drewN ?_ _) | (with_reducible refine Kd.C_drew ?_)));(case side2 => exact HC2.out);rintro e w22 ⟨v280,rfl,ho0,hb⟩;refine ⟨_,rfl, ?_⟩;have n0_:=Aside0.mk (Kd.R_below (by (with_reducible repeat (first | apply Kd.R_alloc | apply Kd.R_drewN | apply Kd.R_drew));exact HO275.out) hb);have n1_:=Aside0.mk (Kd.R_below (by (with_reducible repeat (first | apply Kd.R_alloc | apply Kd.R_drewN | apply Kd.R_drew));exact HO278.out) hb);have n2_:=Aside0.mk (Kd.R_lower ho0 (below_size (by repeat (first | (with_reducible first | exact HB.out | apply below_alloc | apply pw_below_drewN | apply below_drew1) | exact HB.out))));have n3_:=Aside0.mk (below_step (by repeat (first | (with_reducible first | exact HB.out | apply below_alloc | apply pw_below_drewN | apply below_drew1) | exact HB.out)) hb);clear HO275;clear HO278;clear HB;have HO275:=n0_;have HO278:=n1_;have HO281:=n2_;have HB:=n3_;clear n0_ n1_ n2_ n3_;(try clear hb);(try clear hb2);(try clear hk);(try clear hi);(try clear ho0);obtain ⟨Ao23,co23,eo23⟩ := Kd.R_slice HO275.out;subst eo23;obtain ⟨Ao24,co24,eo24⟩ := Kd.R_slice HO278.out;subst eo24;obtain ⟨Ao25,co25,eo25⟩ := Kd.R_slice HO281.out;subst eo25) | ((with_reducible refine gate_callee (f:=43) rfl ?_);refine goesL_ (some 40) rfl rfl Try.func43 (by kernel_rfl) rfl #[.slice Ao23 t273.length co23, .slice Ao24 t276.length co24, .slice Ao25 t279.length co25] rfl (by (try simp only [List.map_toArray,List.map_cons,List.map_nil]);first | done | rfl | (simp only [List.length_drop,List.length_take];rfl)) ?_;(with_reducible refine (spec_LeftBehindContainers.calls k _ _ t273 _ _ t276 _ _ t279 t282 t283 _ ?side1 ?side2 ?side3 ?side4 ?side5 ?side6 A13.out).mono ?_);(case side1 => repeat (first | exact (Kd.R_reads' HO275.out).2.2 | (with_reducible refine Kd.C_alloc ?_ _) | (with_reducible refine Kd.C_drewN ?_ _) | (with_reducible refine Kd.C_drew ?_)));(case side2 => exact (Kd.R_reads' HO275.out).2.1);(case side3 => repeat (first | exact (Kd.R_reads' HO278.out).2.2 | (with_reducible refine Kd.C_alloc ?_ _) | (with_reducible refine Kd.C_drewN ?_ _) | (with_reducible refine Kd.C_drew ?_)));(case side4 => exact (Kd.R_reads' HO278.out).2.1);(case side5 => repeat (first | exact (Kd.R_reads' HO281.out).2.2 | (with_reducible refine Kd.C_alloc ?_ _) | (with_reducible refine Kd.C_drewN ?_ _) | (with_reducible refine Kd.C_drew ?_)));(case side6 => exact (Kd.R_reads' HO281.out).2.1);rintro e w26 ⟨v284,rfl,ho0,hb⟩;refine ⟨_,rfl, ?_⟩;have n0_:=Aside0.mk (Kd.R_below (by (with_reducible repeat (first | apply Kd.R_alloc | apply Kd.R_drewN | apply Kd.R_drew));exact HO275.out) hb);have n1_:=Aside0.mk (Kd.R_below (by (with_reducible repeat (first | apply Kd.R_alloc | apply Kd.R_drewN | apply Kd.R_drew));exact HO278.out) hb);have n2_:=Aside0.mk (Kd.R_below (by (with_reducible repeat (first | apply Kd.R_alloc | apply Kd.R_drewN | apply Kd.R_drew));exact HO281.out) hb);have n3_:=Aside0.mk (Kd.R_lower ho0 (below_size (by repeat (first | (with_reducible first | exact HB.out | apply below_alloc | apply pw_below_drewN | apply below_drew1) | exact HB.out))));have n4_:=Aside0.mk (below_step (by repeat (first | (with_reducible first | exact HB.out | apply below_alloc | apply pw_below_drewN | apply below_drew1) | exact HB.out)) hb);clear HO275;clear HO278;clear HO281;clear HB;have HO275:=n0_;have HO278:=n1_;have HO281:=n2_;have HO285:=n3_;have HB:=n4_;clear n0_ n1_ n2_ n3_ n4_;(try clear hb);(try clear hb2);(try clear hk);(try clear hi);(try clear ho0)) | ((with_reducible refine gate_callee (f:=17) rfl ?_);refine goesL_ (some 44) rfl rfl Try.func17 (by kernel_rfl) rfl #[.slice A0 l0.length c0] rfl (by (try simp only [List.map_toArray,List.map_cons,List.map_nil]);first | done | rfl | (simp only [List.length_drop,List.length_take];rfl)) ?_;(with_reducible refine (laws_toWagonS.calls k _ _ l0 t286 _ ?side1 ?side2 A14.out).mono ?_);(case side1 => repeat (first | exact (Kd.C_below HR0.out HB.out) | (with_reducible refine Kd.C_alloc ?_ _) | (with_reducible refine Kd.C_drewN ?_ _) | (with_reducible refine Kd.C_drew ?_)));(case side2 => exact HC0.out);rintro e w27 ⟨v287,rfl,ho0,hb⟩;refine ⟨_,rfl, ?_⟩;have n0_:=Aside0.mk (Kd.R_elder' (by (with_reducible repeat (first | apply Kd.R_alloc | apply Kd.R_drewN | apply Kd.R_drew));exact HO275.out) (Kd.R_base ho0) hb);have n1_:=Aside0.mk (Kd.R_below (by (with_reducible repeat (first | apply Kd.R_alloc | apply Kd.R_drewN | apply Kd.R_drew));exact HO278.out) hb);have n2_:=Aside0.mk (Kd.R_below (by (with_reducible repeat (first | apply Kd.R_alloc | apply Kd.R_drewN | apply Kd.R_drew));exact HO281.out) hb);have n3_:=Aside0.mk (Kd.R_below (by (with_reducible repeat (first | apply Kd.R_alloc | apply Kd.R_drewN | apply Kd.R_drew));exact HO285.out) hb);have n4_:=Aside0.mk (Kd.R_lower (Kd.R_new' ho0 (Kd.R_lt (by (with_reducible repeat (first | apply Kd.R_alloc | apply Kd.R_drewN | apply Kd.R_drew));exact HO275.out))) (below_size (by repeat (first | (with_reducible first | exact HB.out | apply below_alloc | apply pw_below_drewN | apply below_drew1) | exact HB.out))));have n5_:=Aside0.mk (below_step (by repeat (first | (with_reducible first | exact HB.out | apply below_alloc | apply pw_below_drewN | apply below_drew1) | exact HB.out)) hb);clear HO275;clear HO278;clear HO281;clear HO285;clear HB;have HO275:=n0_;have HO278:=n1_;have HO281:=n2_;have HO285:=n3_;have HO288:=n4_;have HB:=n5_;clear n0_ n1_ n2_ n3_ n4_ n5_;(try clear hb);(try clear hb2);(try clear hk);(try clear hi);(try clear ho0)) | ((with_reducible refine gate_callee (f:=22) rfl ?_);refine goesL_ (some 46) rfl rfl Try.func22 (by kernel_rfl) rfl #[.slice A1 l1.length c1] rfl (by (try simp only [List.map_toArray,List.map_cons,List.map_nil]);first | done | rfl | (simp only [List.length_drop,List.length_take];rfl)) ?_;(with_reducible refine (laws_toContainerS.calls k _ _ l1 t289 _ ?side1 ?side2 A15.out).mono ?_);(case side1 => repeat (first | exact (Kd.C_below HR1.out HB.out) | (with_reducible refine Kd.C_alloc ?_ _) | (with_reducible refine Kd.C_drewN ?_ _) | (with_reducible refine Kd.C_drew ?_)));(case side2 => exact HC1.out);rintro e w28 ⟨v290,rfl,ho0,hb⟩;refine ⟨_,rfl, ?_⟩;have n0_:=Aside0.mk (Kd.R_below (by (with_reducible repeat (first | apply Kd.R_alloc | apply Kd.R_drewN | apply Kd.R_drew));exact HO275.out) hb);have n1_:=Aside0.mk (Kd.R_elder' (by (with_reducible repeat (first | apply Kd.R_alloc | apply Kd.R_drewN | apply Kd.R_drew));exact HO278.out) (Kd.R_base ho0) hb);have n2_:=Aside0.mk (Kd.R_below (by (with_reducible repeat (first | apply Kd.R_alloc | apply Kd.R_drewN | apply Kd.R_drew));exact HO281.out) hb);have n3_:=Aside0.mk (Kd.R_below (by (with_reducible repeat (first | apply Kd.R_alloc | apply Kd.R_drewN | apply Kd.R_drew));exact HO285.out) hb);have n4_:=Aside0.mk (Kd.R_below (by (with_reducible repeat (first | apply Kd.R_alloc | apply Kd.R_drewN | apply Kd.R_drew));exact HO288.out) hb);have n5_:=Aside0.mk (Kd.R_lower (Kd.R_new' ho0 (Kd.R_lt (by (with_reducible repeat (first | apply Kd.R_alloc | apply Kd.R_drewN | apply Kd.R_drew));exact HO278.out))) (below_size (by repeat (first | (with_reducible first | exact HB.out | apply below_alloc | apply pw_below_drewN | apply below_drew1) | exact HB.out))));have n6_:=Aside0.mk (below_step (by repeat (first | (with_reducible first | exact HB.out | apply below_alloc | apply pw_below_drewN | apply below_drew1) | exact HB.out)) hb);clear HO275;clear HO278;clear HO281;clear HO285;clear HO288;clear HB;have HO275:=n0_;have HO278:=n1_;have HO281:=n2_;have HO285:=n3_;have HO288:=n4_;have HO291:=n5_;have HB:=n6_;clear n0_ n1_ n2_ n3_ n4_ n5_ n6_;(try clear hb);(try clear hb2);(try clear hk);(try clear hi);(try clear ho0)) | ((with_reducible refine gate_callee (f:=23) rfl ?_);refine goesL_ (some 48) rfl rfl Try.func23 (by kernel_rfl) rfl #[.slice A2 l2.length c2] rfl (by (try simp only [List.map_toArray,List.map_cons,List.map_nil]);first | done | rfl | (simp only [List.length_drop,List.length_take];rfl)) ?_;(with_reducible refine (laws_toIntS.calls k _ _ l2 t292 _ ?side1 ?side2 A16.out).mono ?_);(case side1 => repeat (first | exact (Kd.C_below HR2.out HB.out) | (with_reducible refine Kd.C_alloc ?_ _) | (with_reducible refine Kd.C_drewN ?_ _) | (with_reducible refine Kd.C_drew ?_)));(case side2 => exact HC2.out);rintro e w29 ⟨v293,rfl,ho0,hb⟩;refine ⟨_,rfl, ?_⟩;have n0_:=Aside0.mk (Kd.R_below (by (with_reducible repeat (first | apply Kd.R_alloc | apply Kd.R_drewN | apply Kd.R_drew));exact HO275.out) hb);have n1_:=Aside0.mk (Kd.R_below (by (with_reducible repeat (first | apply Kd.R_alloc | apply Kd.R_drewN | apply Kd.R_drew));exact HO278.out) hb);have n2_:=Aside0.mk (Kd.R_elder' (by (with_reducible repeat (first | apply Kd.R_alloc | apply Kd.R_drewN | apply Kd.R_drew));exact HO281.out) (Kd.R_base ho0) hb);have n3_:=Aside0.mk (Kd.R_below (by (with_reducible repeat (first | apply Kd.R_alloc | apply Kd.R_drewN | apply Kd.R_drew));exact HO285.out) hb);have n4_:=Aside0.mk (Kd.R_below (by (with_reducible repeat (first | apply Kd.R_alloc | apply Kd.R_drewN | apply Kd.R_drew));exact HO288.out) hb);have n5_:=Aside0.mk (Kd.R_below (by (with_reducible repeat (first | apply Kd.R_alloc | apply Kd.R_drewN | apply Kd.R_drew));exact HO291.out) hb);have n6_:=Aside0.mk (Kd.R_lower (Kd.R_new' ho0 (Kd.R_lt (by (with_reducible repeat (first | apply Kd.R_alloc | apply Kd.R_drewN | apply Kd.R_drew));exact HO281.out))) (below_size (by repeat (first | (with_reducible first | exact HB.out | apply below_alloc | apply pw_below_drewN | apply below_drew1) | exact HB.out))));have n7_:=Aside0.mk (below_step (by repeat (first | (with_reducible first | exact HB.out | apply below_alloc | apply pw_below_drewN | apply below_drew1) | exact HB.out)) hb);clear HO275;clear HO278;clear HO281;clear HO285;clear HO288;clear HO291;clear HB;have HO275:=n0_;have HO278:=n1_;have HO281:=n2_;have HO285:=n3_;have HO288:=n4_;have HO291:=n5_;have HO294:=n6_;have HB:=n7_;clear n0_ n1_ n2_ n3_ n4_ n5_ n6_ n7_;(try clear hb);(try clear hb2);(try clear hk);(try clear hi);(try clear ho0);obtain ⟨Ao30,co30,eo30⟩ := Kd.R_slice HO288.out;subst eo30;obtain ⟨Ao31,co31,eo31⟩ := Kd.R_slice HO291.out;subst eo31;obtain ⟨Ao32,co32,eo32⟩ := Kd.R_slice HO294.out;subst eo32) | ((with_reducible refine gate_callee (f:=44) rfl ?_);refine goesL_ (some 53) rfl rfl Try.func44 (by kernel_rfl) rfl #[.slice Ao30 t286.length co30, .slice Ao31 t289.length co31, .slice Ao32 t292.length co32] rfl (by (try simp only [List.map_toArray,List.map_cons,List.map_nil]);first | done | rfl | (simp only [List.length_drop,List.length_take];rfl)) ?_;(with_reducible refine (impl_LeftBehindContainers.calls k _ _ t286 _ _ t289 _ _ t292 t295 t296 _ ?side1 ?side2 ?side3 ?side4 ?side5 ?side6 A17.out).mono ?_);(case side1 => repeat (first | exact (Kd.R_reads' HO288.out).2.2 | (with_reducible refine Kd.C_alloc ?_ _) | (with_reducible refine Kd.C_drewN ?_ _) | (with_reducible refine Kd.C_drew ?_)));(case side2 => exact (Kd.R_reads' HO288.out).2.1);(case side3 => repeat (first | exact (Kd.R_reads' HO291.out).2.2 | (with_reducible refine Kd.C_alloc ?_ _) | (with_reducible refine Kd.C_drewN ?_ _) | (with_reducible refine Kd.C_drew ?_)));(case side4 => exact (Kd.R_reads' HO291.out).2.1);(case side5 => repeat (first | exact (Kd.R_reads' HO294.out).2.2 | (with_reducible refine Kd.C_alloc ?_ _) | (with_reducible refine Kd.C_drewN ?_ _) | (with_reducible refine Kd.C_drew ?_)));(case side6 => exact (Kd.R_reads' HO294.out).2.1);rintro e w33 ⟨v297,rfl,ho0,hb⟩;refine ⟨_,rfl, ?_⟩;have n0_:=Aside0.mk (Kd.R_below (by (with_reducible repeat (first | apply Kd.R_alloc | apply Kd.R_drewN | apply Kd.R_drew));exact HO275.out) hb);have n1_:=Aside0.mk (Kd.R_below (by (with_reducible repeat (first | apply Kd.R_alloc | apply Kd.R_drewN | apply Kd.R_drew));exact HO278.out) hb);have n2_:=Aside0.mk (Kd.R_below (by (with_reducible repeat (first | apply Kd.R_alloc | apply Kd.R_drewN | apply Kd.R_drew));exact HO281.out) hb);have n3_:=Aside0.mk (Kd.R_elder' (by (with_reducible repeat (first | apply Kd.R_alloc | apply Kd.R_drewN | apply Kd.R_drew));exact HO285.out) (Kd.R_base ho0) hb);have n4_:=Aside0.mk (Kd.R_below (by (with_reducible repeat (first | apply Kd.R_alloc | apply Kd.R_drewN | apply Kd.R_drew));exact HO288.out) hb);have n5_:=Aside0.mk (Kd.R_below (by (with_reducible repeat (first | apply Kd.R_alloc | apply Kd.R_drewN | apply Kd.R_drew));exact HO291.out) hb);have n6_:=Aside0.mk (Kd.R_below (by (with_reducible repeat (first | apply Kd.R_alloc | apply Kd.R_drewN | apply Kd.R_drew));exact HO294.out) hb);have n7_:=Aside0.mk (Kd.R_lower (Kd.R_new' ho0 (Kd.R_lt (by (with_reducible repeat (first | apply Kd.R_alloc | apply Kd.R_drewN | apply Kd.R_drew));exact HO285.out))) (below_size (by repeat (first | (with_reducible first | exact HB.out | apply below_alloc | apply pw_below_drewN | apply below_drew1) | exact HB.out))));have n8_:=Aside0.mk (below_step (by repeat (first | (with_reducible first | exact HB.out | apply below_alloc | apply pw_below_drewN | apply below_drew1) | exact HB.out)) hb);clear HO275;clear HO278;clear HO281;clear HO285;clear HO288;clear HO291;clear HO294;clear HB;have HO275:=n0_;have HO278:=n1_;have HO281:=n2_;have HO285:=n3_;have HO288:=n4_;have HO291:=n5_;have HO294:=n6_;have HO298:=n7_;have HB:=n8_;clear n0_ n1_ n2_ n3_ n4_ n5_ n6_ n7_ n8_;(try clear hb);(try clear hb2);(try clear hk);(try clear hi);(try clear ho0)))
    (try simp only [Act.put,sA_,s0_,s1_])
    go_cut [64] (fun v64 wc => ∃ (kq : Nat) (x64_17 : Bool),v64 = .bool x64_17 ∧ Aside0 (laws_FnExactLeftBehindContainers.j0 kq l0 l1 l2 t282 t283 t286 t289 t292 t295 t296 x64_17 = some r) ∧ Aside0 (kq ≤ k) ∧ Aside0 (Kd.R Kd.string 9 wc w.heap.size (fun k_ => some k_ ≠ (v297 : Value).ownBlock) v284 t282) ∧ Aside0 (Kd.R k70 70 wc w.heap.size (fun _ => True) (.slice Ao30 t286.length co30) t286) ∧ Aside0 (Kd.R k64 64 wc w.heap.size (fun _ => True) (.slice Ao31 t289.length co31) t289) ∧ Aside0 (Kd.R (Kd.int .i64) 3 wc w.heap.size (fun _ => True) (.slice Ao32 t292.length co32) t292) ∧ Aside0 (Kd.R Kd.string 9 wc w.heap.size (fun k_ => some k_ ≠ (v284 : Value).ownBlock) v297 t295) ∧ Aside0 (Below w.heap.size w wc))
    case first =>
     have H:=HC18.out
     clear HC18
     replace H:=Option.bind_eq_some_iff.mp H
     obtain ⟨t299,A340,H⟩ := H
     replace H : (if t299 = true then (laws_FnExactLeftBehindContainers.j0 k l0 l1 l2 t282 t283 t286 t289 t292 t295 t296 (t296 != t283)) else (laws_FnExactLeftBehindContainers.j0 k l0 l1 l2 t282 t283 t286 t289 t292 t295 t296 true)) = some r:=H
     have A34:=Aside0.mk A340
     clear A340
     by_cases c35 : t299 = true
     ·subst c35
      have H1 : (laws_FnExactLeftBehindContainers.j0 k l0 l1 l2 t282 t283 t286 t289 t292 t295 t296 (t296 != t283)) = some r:=by rw [if_pos rfl] at H;exact H
      clear H
      have H:=H1
      clear H1
      have H':=Aside0.mk H
      clear H
      obtain ⟨Ao36,co36,eo36⟩ := Kd.R_slice HO298.out
      subst eo36
      obtain ⟨Ao37,co37,eo37⟩ := Kd.R_slice HO285.out
      subst eo37
      go_wp2_with (first | ((with_reducible refine gate_callee (f:=45) rfl ?_);refine goesL_ (some 58) rfl rfl Try.func45 (by kernel_rfl) rfl #[.slice Ao36 t295.length co36, .slice Ao37 t282.length co37] rfl (by (try simp only [List.map_toArray,List.map_cons,List.map_nil]);first | done | rfl | (simp only [List.length_drop,List.length_take];rfl)) ?_;(with_reducible refine (laws_eqStringS.calls k _ _ t295 _ _ t282 true _ ?side1 ?side2 ?side3 ?side4 A34.out).mono ?_);(case side1 => repeat (first | exact (Kd.R_reads' HO298.out).2.2 | (with_reducible refine Kd.C_alloc ?_ _) | (with_reducible refine Kd.C_drewN ?_ _) | (with_reducible refine Kd.C_drew ?_)));(case side2 => exact (Kd.R_reads' HO298.out).2.1);(case side3 => repeat (first | exact (Kd.R_reads' HO285.out).2.2 | (with_reducible refine Kd.C_alloc ?_ _) | (with_reducible refine Kd.C_drewN ?_ _) | (with_reducible refine Kd.C_drew ?_)));(case side4 => exact (Kd.R_reads' HO285.out).2.1);rintro e w' ⟨rfl,⟨nd,rfl⟩⟩;refine ⟨_,rfl, ?_⟩))
      go_meet
      case rel => exact ⟨_,((t296 != t283)),(by first | rfl | (simp;done) | (simp [*];done)),H',⟨by first | omega | exact Nat.le_refl _⟩,⟨by (with_reducible repeat (first | apply Kd.R_alloc | apply Kd.R_drewN | apply Kd.R_drew));exact Kd.R_mono HO285.out (fun _ hk => hk.2)⟩,⟨by (with_reducible repeat (first | apply Kd.R_alloc | apply Kd.R_drewN | apply Kd.R_drew));exact Kd.R_mono HO288.out (fun _ hk => trivial)⟩,⟨by (with_reducible repeat (first | apply Kd.R_alloc | apply Kd.R_drewN | apply Kd.R_drew));exact Kd.R_mono HO291.out (fun _ hk => trivial)⟩,⟨by (with_reducible repeat (first | apply Kd.R_alloc | apply Kd.R_drewN | apply Kd.R_drew));exact Kd.R_mono HO294.out (fun _ hk => trivial)⟩,⟨by (with_reducible repeat (first | apply Kd.R_alloc | apply Kd.R_drewN | apply Kd.R_drew));exact Kd.R_mono HO298.out (fun _ hk => hk.2)⟩,⟨by repeat (first | (with_reducible first | exact HB.out | apply below_alloc | apply pw_below_drewN | apply below_drew1) | exact HB.out)⟩⟩
     ·replace c35:=Bool.eq_false_iff.mpr c35
      subst c35
      have H1 : (laws_FnExactLeftBehindContainers.j0 k l0 l1 l2 t282 t283 t286 t289 t292 t295 t296 true) = some r:=by rw [if_neg (show ¬ (false = true) by decide)] at H;exact H
      clear H
      have H:=H1
      clear H1
      have H':=Aside0.mk H
      clear H
      obtain ⟨Ao38,co38,eo38⟩ := Kd.R_slice HO298.out
      subst eo38
      obtain ⟨Ao39,co39,eo39⟩ := Kd.R_slice HO285.out
      subst eo39
      go_wp2_with (first | ((with_reducible refine gate_callee (f:=45) rfl ?_);refine goesL_ (some 58) rfl rfl Try.func45 (by kernel_rfl) rfl #[.slice Ao38 t295.length co38, .slice Ao39 t282.length co39] rfl (by (try simp only [List.map_toArray,List.map_cons,List.map_nil]);first | done | rfl | (simp only [List.length_drop,List.length_take];rfl)) ?_;(with_reducible refine (laws_eqStringS.calls k _ _ t295 _ _ t282 false _ ?side1 ?side2 ?side3 ?side4 A34.out).mono ?_);(case side1 => repeat (first | exact (Kd.R_reads' HO298.out).2.2 | (with_reducible refine Kd.C_alloc ?_ _) | (with_reducible refine Kd.C_drewN ?_ _) | (with_reducible refine Kd.C_drew ?_)));(case side2 => exact (Kd.R_reads' HO298.out).2.1);(case side3 => repeat (first | exact (Kd.R_reads' HO285.out).2.2 | (with_reducible refine Kd.C_alloc ?_ _) | (with_reducible refine Kd.C_drewN ?_ _) | (with_reducible refine Kd.C_drew ?_)));(case side4 => exact (Kd.R_reads' HO285.out).2.1);rintro e w' ⟨rfl,⟨nd,rfl⟩⟩;refine ⟨_,rfl, ?_⟩))
      go_meet
      case rel => exact ⟨_,(true),(by first | rfl | (simp;done) | (simp [*];done)),H',⟨by first | omega | exact Nat.le_refl _⟩,⟨by (with_reducible repeat (first | apply Kd.R_alloc | apply Kd.R_drewN | apply Kd.R_drew));exact Kd.R_mono HO285.out (fun _ hk => hk.2)⟩,⟨by (with_reducible repeat (first | apply Kd.R_alloc | apply Kd.R_drewN | apply Kd.R_drew));exact Kd.R_mono HO288.out (fun _ hk => trivial)⟩,⟨by (with_reducible repeat (first | apply Kd.R_alloc | apply Kd.R_drewN | apply Kd.R_drew));exact Kd.R_mono HO291.out (fun _ hk => trivial)⟩,⟨by (with_reducible repeat (first | apply Kd.R_alloc | apply Kd.R_drewN | apply Kd.R_drew));exact Kd.R_mono HO294.out (fun _ hk => trivial)⟩,⟨by (with_reducible repeat (first | apply Kd.R_alloc | apply Kd.R_drewN | apply Kd.R_drew));exact Kd.R_mono HO298.out (fun _ hk => hk.2)⟩,⟨by repeat (first | (with_reducible first | exact HB.out | apply below_alloc | apply pw_below_drewN | apply below_drew1) | exact HB.out)⟩⟩
    case rest =>
     clear HC18
     try clear c1
     try clear c2
     try clear p2
     try clear c3
     try clear c4
     try clear c4b0
     try clear c4b1
     try clear c6
     try clear c6b0
     try clear c8
     try clear c8b0
     try clear c11
     try clear c15
     try clear c17
     try clear c20
     try clear c22
     try clear c23
     try clear c35
     obtain ⟨kq,x64_17,rfl,HA,HJ17,HO_8,HO_10,HO_11,HO_12,HO_13,HB⟩ := hcut
     cases kq with
     | zero => exact absurd HA.out (by simp [laws_FnExactLeftBehindContainers.j0])
     | succ kj17 =>
      have H:=HA.out
      clear HA
      simp only [laws_FnExactLeftBehindContainers.j0] at H
      by_cases c40 : x64_17 = true
      ·subst c40
       have H1 : (some false) = some r:=by rw [if_pos rfl] at H;exact H
       clear H
       have H:=H1
       clear H1
       obtain rfl:=Option.some.inj H
       go_wp2
       go_ret
       exact ⟨by first | rfl | (simp [errW_none,errW_some] <;> rfl) | (simp [*,errW_none,errW_some] <;> rfl),by repeat (first | (with_reducible first | exact HB.out | apply below_alloc | apply pw_below_drewN | apply below_drew1) | exact HB.out)⟩
      ·replace c40:=Bool.eq_false_iff.mpr c40
       subst c40
       have H1 : ((laws_toWagonS.f kj17 l0).bind fun t300 => ((laws_eqWagonS.f kj17 t286 t300).bind fun t303 => (if t303 = true then ((laws_toContainerS.f kj17 l1).bind fun t304 => ((laws_eqContainerS.f kj17 t289 t304).bind fun t307 => (if t307 = true then ((laws_toIntS.f kj17 l2).bind fun t308 => ((laws_eqIntS.f kj17 t292 t308).bind fun t311 => (if t311 = true then ((laws_markWagonS.f kj17 t286 1).bind fun bt312 => ((laws_markContainerS.f kj17 t289 bt312.1).bind fun bt314 => ((laws_markIntS.f kj17 t292 bt314.1).bind fun bt316 => (if bt316.1 < 0 then (laws_FnExactLeftBehindContainers.j1 kj17 l0 l1 l2 t282 t283 t295 true) else ((laws_eqStringS.f kj17 t295 t282).bind fun t318 => (if t318 = true then (laws_FnExactLeftBehindContainers.j1 kj17 l0 l1 l2 t282 t283 t295 (t296 != t283)) else (laws_FnExactLeftBehindContainers.j1 kj17 l0 l1 l2 t282 t283 t295 true))))))) else (some false)))) else (some false)))) else (some false)))) = some r:=by rw [if_neg (show ¬ (false = true) by decide)] at H;exact H
       clear H
       have H:=H1
       clear H1
       replace H:=Option.bind_eq_some_iff.mp H
       obtain ⟨t300,A410,H⟩ := H
       replace H : ((laws_eqWagonS.f kj17 t286 t300).bind fun t303 => (if t303 = true then ((laws_toContainerS.f kj17 l1).bind fun t304 => ((laws_eqContainerS.f kj17 t289 t304).bind fun t307 => (if t307 = true then ((laws_toIntS.f kj17 l2).bind fun t308 => ((laws_eqIntS.f kj17 t292 t308).bind fun t311 => (if t311 = true then ((laws_markWagonS.f kj17 t286 1).bind fun bt312 => ((laws_markContainerS.f kj17 t289 bt312.1).bind fun bt314 => ((laws_markIntS.f kj17 t292 bt314.1).bind fun bt316 => (if bt316.1 < 0 then (laws_FnExactLeftBehindContainers.j1 kj17 l0 l1 l2 t282 t283 t295 true) else ((laws_eqStringS.f kj17 t295 t282).bind fun t318 => (if t318 = true then (laws_FnExactLeftBehindContainers.j1 kj17 l0 l1 l2 t282 t283 t295 (t296 != t283)) else (laws_FnExactLeftBehindContainers.j1 kj17 l0 l1 l2 t282 t283 t295 true))))))) else (some false)))) else (some false)))) else (some false))) = some r:=H
       have A41:=Aside0.mk A410
       clear A410
       replace H:=Option.bind_eq_some_iff.mp H
       obtain ⟨t303,A420,H⟩ := H
       replace H : (if t303 = true then ((laws_toContainerS.f kj17 l1).bind fun t304 => ((laws_eqContainerS.f kj17 t289 t304).bind fun t307 => (if t307 = true then ((laws_toIntS.f kj17 l2).bind fun t308 => ((laws_eqIntS.f kj17 t292 t308).bind fun t311 => (if t311 = true then ((laws_markWagonS.f kj17 t286 1).bind fun bt312 => ((laws_markContainerS.f kj17 t289 bt312.1).bind fun bt314 => ((laws_markIntS.f kj17 t292 bt314.1).bind fun bt316 => (if bt316.1 < 0 then (laws_FnExactLeftBehindContainers.j1 kj17 l0 l1 l2 t282 t283 t295 true) else ((laws_eqStringS.f kj17 t295 t282).bind fun t318 => (if t318 = true then (laws_FnExactLeftBehindContainers.j1 kj17 l0 l1 l2 t282 t283 t295 (t296 != t283)) else (laws_FnExactLeftBehindContainers.j1 kj17 l0 l1 l2 t282 t283 t295 true))))))) else (some false)))) else (some false)))) else (some false)) = some r:=H
       have A42:=Aside0.mk A420
       clear A420
       by_cases c43 : t303 = true
       ·subst c43
        have H1 : ((laws_toContainerS.f kj17 l1).bind fun t304 => ((laws_eqContainerS.f kj17 t289 t304).bind fun t307 => (if t307 = true then ((laws_toIntS.f kj17 l2).bind fun t308 => ((laws_eqIntS.f kj17 t292 t308).bind fun t311 => (if t311 = true then ((laws_markWagonS.f kj17 t286 1).bind fun bt312 => ((laws_markContainerS.f kj17 t289 bt312.1).bind fun bt314 => ((laws_markIntS.f kj17 t292 bt314.1).bind fun bt316 => (if bt316.1 < 0 then (laws_FnExactLeftBehindContainers.j1 kj17 l0 l1 l2 t282 t283 t295 true) else ((laws_eqStringS.f kj17 t295 t282).bind fun t318 => (if t318 = true then (laws_FnExactLeftBehindContainers.j1 kj17 l0 l1 l2 t282 t283 t295 (t296 != t283)) else (laws_FnExactLeftBehindContainers.j1 kj17 l0 l1 l2 t282 t283 t295 true))))))) else (some false)))) else (some false)))) = some r:=by rw [if_pos rfl] at H;exact H
        clear H
        have H:=H1
        clear H1
        replace H:=Option.bind_eq_some_iff.mp H
        obtain ⟨t304,A440,H⟩ := H
        replace H : ((laws_eqContainerS.f kj17 t289 t304).bind fun t307 => (if t307 = true then ((laws_toIntS.f kj17 l2).bind fun t308 => ((laws_eqIntS.f kj17 t292 t308).bind fun t311 => (if t311 = true then ((laws_markWagonS.f kj17 t286 1).bind fun bt312 => ((laws_markContainerS.f kj17 t289 bt312.1).bind fun bt314 => ((laws_markIntS.f kj17 t292 bt314.1).bind fun bt316 => (if bt316.1 < 0 then (laws_FnExactLeftBehindContainers.j1 kj17 l0 l1 l2 t282 t283 t295 true) else ((laws_eqStringS.f kj17 t295 t282).bind fun t318 => (if t318 = true then (laws_FnExactLeftBehindContainers.j1 kj17 l0 l1 l2 t282 t283 t295 (t296 != t283)) else (laws_FnExactLeftBehindContainers.j1 kj17 l0 l1 l2 t282 t283 t295 true))))))) else (some false)))) else (some false))) = some r:=H
        have A44:=Aside0.mk A440
        clear A440
        replace H:=Option.bind_eq_some_iff.mp H
        obtain ⟨t307,A450,H⟩ := H
        replace H : (if t307 = true then ((laws_toIntS.f kj17 l2).bind fun t308 => ((laws_eqIntS.f kj17 t292 t308).bind fun t311 => (if t311 = true then ((laws_markWagonS.f kj17 t286 1).bind fun bt312 => ((laws_markContainerS.f kj17 t289 bt312.1).bind fun bt314 => ((laws_markIntS.f kj17 t292 bt314.1).bind fun bt316 => (if bt316.1 < 0 then (laws_FnExactLeftBehindContainers.j1 kj17 l0 l1 l2 t282 t283 t295 true) else ((laws_eqStringS.f kj17 t295 t282).bind fun t318 => (if t318 = true then (laws_FnExactLeftBehindContainers.j1 kj17 l0 l1 l2 t282 t283 t295 (t296 != t283)) else (laws_FnExactLeftBehindContainers.j1 kj17 l0 l1 l2 t282 t283 t295 true))))))) else (some false)))) else (some false)) = some r:=H
        have A45:=Aside0.mk A450
        clear A450
        by_cases c46 : t307 = true
        ·subst c46
         have H1 : ((laws_toIntS.f kj17 l2).bind fun t308 => ((laws_eqIntS.f kj17 t292 t308).bind fun t311 => (if t311 = true then ((laws_markWagonS.f kj17 t286 1).bind fun bt312 => ((laws_markContainerS.f kj17 t289 bt312.1).bind fun bt314 => ((laws_markIntS.f kj17 t292 bt314.1).bind fun bt316 => (if bt316.1 < 0 then (laws_FnExactLeftBehindContainers.j1 kj17 l0 l1 l2 t282 t283 t295 true) else ((laws_eqStringS.f kj17 t295 t282).bind fun t318 => (if t318 = true then (laws_FnExactLeftBehindContainers.j1 kj17 l0 l1 l2 t282 t283 t295 (t296 != t283)) else (laws_FnExactLeftBehindContainers.j1 kj17 l0 l1 l2 t282 t283 t295 true))))))) else (some false)))) = some r:=by rw [if_pos rfl] at H;exact H
         clear H
         have H:=H1
         clear H1
         replace H:=Option.bind_eq_some_iff.mp H
         obtain ⟨t308,A470,H⟩ := H
         replace H : ((laws_eqIntS.f kj17 t292 t308).bind fun t311 => (if t311 = true then ((laws_markWagonS.f kj17 t286 1).bind fun bt312 => ((laws_markContainerS.f kj17 t289 bt312.1).bind fun bt314 => ((laws_markIntS.f kj17 t292 bt314.1).bind fun bt316 => (if bt316.1 < 0 then (laws_FnExactLeftBehindContainers.j1 kj17 l0 l1 l2 t282 t283 t295 true) else ((laws_eqStringS.f kj17 t295 t282).bind fun t318 => (if t318 = true then (laws_FnExactLeftBehindContainers.j1 kj17 l0 l1 l2 t282 t283 t295 (t296 != t283)) else (laws_FnExactLeftBehindContainers.j1 kj17 l0 l1 l2 t282 t283 t295 true))))))) else (some false))) = some r:=H
         have A47:=Aside0.mk A470
         clear A470
         replace H:=Option.bind_eq_some_iff.mp H
         obtain ⟨t311,A480,H⟩ := H
         replace H : (if t311 = true then ((laws_markWagonS.f kj17 t286 1).bind fun bt312 => ((laws_markContainerS.f kj17 t289 bt312.1).bind fun bt314 => ((laws_markIntS.f kj17 t292 bt314.1).bind fun bt316 => (if bt316.1 < 0 then (laws_FnExactLeftBehindContainers.j1 kj17 l0 l1 l2 t282 t283 t295 true) else ((laws_eqStringS.f kj17 t295 t282).bind fun t318 => (if t318 = true then (laws_FnExactLeftBehindContainers.j1 kj17 l0 l1 l2 t282 t283 t295 (t296 != t283)) else (laws_FnExactLeftBehindContainers.j1 kj17 l0 l1 l2 t282 t283 t295 true))))))) else (some false)) = some r:=H
         have A48:=Aside0.mk A480
         clear A480
         by_cases c49 : t311 = true
         ·subst c49
          have H1 : ((laws_markWagonS.f kj17 t286 1).bind fun bt312 => ((laws_markContainerS.f kj17 t289 bt312.1).bind fun bt314 => ((laws_markIntS.f kj17 t292 bt314.1).bind fun bt316 => (if bt316.1 < 0 then (laws_FnExactLeftBehindContainers.j1 kj17 l0 l1 l2 t282 t283 t295 true) else ((laws_eqStringS.f kj17 t295 t282).bind fun t318 => (if t318 = true then (laws_FnExactLeftBehindContainers.j1 kj17 l0 l1 l2 t282 t283 t295 (t296 != t283)) else (laws_FnExactLeftBehindContainers.j1 kj17 l0 l1 l2 t282 t283 t295 true))))))) = some r:=by rw [if_pos rfl] at H;exact H
          clear H
          have H:=H1
          clear H1
          replace H:=Option.bind_eq_some_iff.mp H
          obtain ⟨⟨t312,t313⟩,A500,H⟩ := H
          replace H : ((laws_markContainerS.f kj17 t289 t312).bind fun bt314 => ((laws_markIntS.f kj17 t292 bt314.1).bind fun bt316 => (if bt316.1 < 0 then (laws_FnExactLeftBehindContainers.j1 kj17 l0 l1 l2 t282 t283 t295 true) else ((laws_eqStringS.f kj17 t295 t282).bind fun t318 => (if t318 = true then (laws_FnExactLeftBehindContainers.j1 kj17 l0 l1 l2 t282 t283 t295 (t296 != t283)) else (laws_FnExactLeftBehindContainers.j1 kj17 l0 l1 l2 t282 t283 t295 true)))))) = some r:=H
          have A50:=Aside0.mk A500
          clear A500
          replace H:=Option.bind_eq_some_iff.mp H
          obtain ⟨⟨t314,t315⟩,A510,H⟩ := H
          replace H : ((laws_markIntS.f kj17 t292 t314).bind fun bt316 => (if bt316.1 < 0 then (laws_FnExactLeftBehindContainers.j1 kj17 l0 l1 l2 t282 t283 t295 true) else ((laws_eqStringS.f kj17 t295 t282).bind fun t318 => (if t318 = true then (laws_FnExactLeftBehindContainers.j1 kj17 l0 l1 l2 t282 t283 t295 (t296 != t283)) else (laws_FnExactLeftBehindContainers.j1 kj17 l0 l1 l2 t282 t283 t295 true))))) = some r:=H
          have A51:=Aside0.mk A510
          clear A510
          replace H:=Option.bind_eq_some_iff.mp H
          obtain ⟨⟨t316,t317⟩,A520,H⟩ := H
          replace H : (if t316 < 0 then (laws_FnExactLeftBehindContainers.j1 kj17 l0 l1 l2 t282 t283 t295 true) else ((laws_eqStringS.f kj17 t295 t282).bind fun t318 => (if t318 = true then (laws_FnExactLeftBehindContainers.j1 kj17 l0 l1 l2 t282 t283 t295 (t296 != t283)) else (laws_FnExactLeftBehindContainers.j1 kj17 l0 l1 l2 t282 t283 t295 true)))) = some r:=H
          have A52:=Aside0.mk A520
          clear A520
          have HC53:=Aside0.mk H
          clear H
          go_upto_region 27 with (first | ((with_reducible refine gate_callee (f:=17) rfl ?_);refine goesL_ (some 67) rfl rfl Try.func17 (by kernel_rfl) rfl #[.slice A0 l0.length c0] rfl (by (try simp only [List.map_toArray,List.map_cons,List.map_nil]);first | done | rfl | (simp only [List.length_drop,List.length_take];rfl)) ?_;(with_reducible refine (laws_toWagonS.calls kj17 _ _ l0 t300 _ ?side1 ?side2 A41.out).mono ?_);(case side1 => repeat (first | exact (Kd.C_below HR0.out HB.out) | (with_reducible refine Kd.C_alloc ?_ _) | (with_reducible refine Kd.C_drewN ?_ _) | (with_reducible refine Kd.C_drew ?_)));(case side2 => exact HC0.out);rintro e w54 ⟨v301,rfl,ho0,hb⟩;refine ⟨_,rfl, ?_⟩;have n0_:=Aside0.mk (Kd.R_below (by (with_reducible repeat (first | apply Kd.R_alloc | apply Kd.R_drewN | apply Kd.R_drew));exact HO_8.out) hb);have n1_:=Aside0.mk (Kd.R_elder' (by (with_reducible repeat (first | apply Kd.R_alloc | apply Kd.R_drewN | apply Kd.R_drew));exact HO_10.out) (Kd.R_base ho0) hb);have n2_:=Aside0.mk (Kd.R_below (by (with_reducible repeat (first | apply Kd.R_alloc | apply Kd.R_drewN | apply Kd.R_drew));exact HO_11.out) hb);have n3_:=Aside0.mk (Kd.R_below (by (with_reducible repeat (first | apply Kd.R_alloc | apply Kd.R_drewN | apply Kd.R_drew));exact HO_12.out) hb);have n4_:=Aside0.mk (Kd.R_below (by (with_reducible repeat (first | apply Kd.R_alloc | apply Kd.R_drewN | apply Kd.R_drew));exact HO_13.out) hb);have n5_:=Aside0.mk (Kd.R_lower (Kd.R_new' ho0 (Kd.R_lt (by (with_reducible repeat (first | apply Kd.R_alloc | apply Kd.R_drewN | apply Kd.R_drew));exact HO_10.out))) (below_size (by repeat (first | (with_reducible first | exact HB.out | apply below_alloc | apply pw_below_drewN | apply below_drew1) | exact HB.out))));have n6_:=Aside0.mk (below_step (by repeat (first | (with_reducible first | exact HB.out | apply below_alloc | apply pw_below_drewN | apply below_drew1) | exact HB.out)) hb);clear HO_8;clear HO_10;clear HO_11;clear HO_12;clear HO_13;clear HB;have HO_8:=n0_;have HO_10:=n1_;have HO_11:=n2_;have HO_12:=n3_;have HO_13:=n4_;have HO302:=n5_;have HB:=n6_;clear n0_ n1_ n2_ n3_ n4_ n5_ n6_;(try clear hb);(try clear hb2);(try clear hk);(try clear hi);(try clear ho0);obtain ⟨Ao55,co55,eo55⟩ := Kd.R_slice HO302.out;subst eo55) | ((with_reducible refine gate_callee (f:=19) rfl ?_);refine goesL_ (some 68) rfl rfl Try.func19 (by kernel_rfl) rfl #[.slice Ao30 t286.length co30, .slice Ao55 t300.length co55] rfl (by (try simp only [List.map_toArray,List.map_cons,List.map_nil]);first | done | rfl | (simp only [List.length_drop,List.length_take];rfl)) ?_;(with_reducible refine (laws_eqWagonS.calls kj17 _ _ t286 _ _ t300 true _ ?side1 ?side2 ?side3 ?side4 A42.out).mono ?_);(case side1 => repeat (first | exact (Kd.R_reads' HO_10.out).2.2 | (with_reducible refine Kd.C_alloc ?_ _) | (with_reducible refine Kd.C_drewN ?_ _) | (with_reducible refine Kd.C_drew ?_)));(case side2 => exact (Kd.R_reads' HO_10.out).2.1);(case side3 => repeat (first | exact (Kd.R_reads' HO302.out).2.2 | (with_reducible refine Kd.C_alloc ?_ _) | (with_reducible refine Kd.C_drewN ?_ _) | (with_reducible refine Kd.C_drew ?_)));(case side4 => exact (Kd.R_reads' HO302.out).2.1);rintro e w56 ⟨rfl,hb⟩;refine ⟨_,rfl, ?_⟩;have n0_:=Aside0.mk (Kd.R_below (by (with_reducible repeat (first | apply Kd.R_alloc | apply Kd.R_drewN | apply Kd.R_drew));exact HO_8.out) hb);have n1_:=Aside0.mk (Kd.R_below (by (with_reducible repeat (first | apply Kd.R_alloc | apply Kd.R_drewN | apply Kd.R_drew));exact HO_10.out) hb);have n2_:=Aside0.mk (Kd.R_below (by (with_reducible repeat (first | apply Kd.R_alloc | apply Kd.R_drewN | apply Kd.R_drew));exact HO_11.out) hb);have n3_:=Aside0.mk (Kd.R_below (by (with_reducible repeat (first | apply Kd.R_alloc | apply Kd.R_drewN | apply Kd.R_drew));exact HO_12.out) hb);have n4_:=Aside0.mk (Kd.R_below (by (with_reducible repeat (first | apply Kd.R_alloc | apply Kd.R_drewN | apply Kd.R_drew));exact HO_13.out) hb);have n5_:=Aside0.mk (Kd.R_below (by (with_reducible repeat (first | apply Kd.R_alloc | apply Kd.R_drewN | apply Kd.R_drew));exact HO302.out) hb);have n6_:=Aside0.mk (below_step (by repeat (first | (with_reducible first | exact HB.out | apply below_alloc | apply pw_below_drewN | apply below_drew1) | exact HB.out)) hb);clear HO_8;clear HO_10;clear HO_11;clear HO_12;clear HO_13;clear HO302;clear HB;have HO_8:=n0_;have HO_10:=n1_;have HO_11:=n2_;have HO_12:=n3_;have HO_13:=n4_;have HO302:=n5_;have HB:=n6_;clear n0_ n1_ n2_ n3_ n4_ n5_ n6_;(try clear hb);(try clear hb2);(try clear hk);(try clear hi)) | ((with_reducible refine gate_callee (f:=22) rfl ?_);refine goesL_ (some 72) rfl rfl Try.func22 (by kernel_rfl) rfl #[.slice A1 l1.length c1] rfl (by (try simp only [List.map_toArray,List.map_cons,List.map_nil]);first | done | rfl | (simp only [List.length_drop,List.length_take];rfl)) ?_;(with_reducible refine (laws_toContainerS.calls kj17 _ _ l1 t304 _ ?side1 ?side2 A44.out).mono ?_);(case side1 => repeat (first | exact (Kd.C_below HR1.out HB.out) | (with_reducible refine Kd.C_alloc ?_ _) | (with_reducible refine Kd.C_drewN ?_ _) | (with_reducible refine Kd.C_drew ?_)));(case side2 => exact HC1.out);rintro e w57 ⟨v305,rfl,ho0,hb⟩;refine ⟨_,rfl, ?_⟩;have n0_:=Aside0.mk (Kd.R_below (by (with_reducible repeat (first | apply Kd.R_alloc | apply Kd.R_drewN | apply Kd.R_drew));exact HO_8.out) hb);have n1_:=Aside0.mk (Kd.R_below (by (with_reducible repeat (first | apply Kd.R_alloc | apply Kd.R_drewN | apply Kd.R_drew));exact HO_10.out) hb);have n2_:=Aside0.mk (Kd.R_elder' (by (with_reducible repeat (first | apply Kd.R_alloc | apply Kd.R_drewN | apply Kd.R_drew));exact HO_11.out) (Kd.R_base ho0) hb);have n3_:=Aside0.mk (Kd.R_below (by (with_reducible repeat (first | apply Kd.R_alloc | apply Kd.R_drewN | apply Kd.R_drew));exact HO_12.out) hb);have n4_:=Aside0.mk (Kd.R_below (by (with_reducible repeat (first | apply Kd.R_alloc | apply Kd.R_drewN | apply Kd.R_drew));exact HO_13.out) hb);have n5_:=Aside0.mk (Kd.R_below (by (with_reducible repeat (first | apply Kd.R_alloc | apply Kd.R_drewN | apply Kd.R_drew));exact HO302.out) hb);have n6_:=Aside0.mk (Kd.R_lower (Kd.R_new' ho0 (Kd.R_lt (by (with_reducible repeat (first | apply Kd.R_alloc | apply Kd.R_drewN | apply Kd.R_drew));exact HO_11.out))) (below_size (by repeat (first | (with_reducible first | exact HB.out | apply below_alloc | apply pw_below_drewN | apply below_drew1) | exact HB.out))));have n7_:=Aside0.mk (below_step (by repeat (first | (with_reducible first | exact HB.out | apply below_alloc | apply pw_below_drewN | apply below_drew1) | exact HB.out)) hb);clear HO_8;clear HO_10;clear HO_11;clear HO_12;clear HO_13;clear HO302;clear HB;have HO_8:=n0_;have HO_10:=n1_;have HO_11:=n2_;have HO_12:=n3_;have HO_13:=n4_;have HO302:=n5_;have HO306:=n6_;have HB:=n7_;clear n0_ n1_ n2_ n3_ n4_ n5_ n6_ n7_;(try clear hb);(try clear hb2);(try clear hk);(try clear hi);(try clear ho0);obtain ⟨Ao58,co58,eo58⟩ := Kd.R_slice HO306.out;subst eo58) | ((with_reducible refine gate_callee (f:=25) rfl ?_);refine goesL_ (some 73) rfl rfl Try.func25 (by kernel_rfl) rfl #[.slice Ao31 t289.length co31, .slice Ao58 t304.length co58] rfl (by (try simp only [List.map_toArray,List.map_cons,List.map_nil]);first | done | rfl | (simp only [List.length_drop,List.length_take];rfl)) ?_;(with_reducible refine (laws_eqContainerS.calls kj17 _ _ t289 _ _ t304 true _ ?side1 ?side2 ?side3 ?side4 A45.out).mono ?_);(case side1 => repeat (first | exact (Kd.R_reads' HO_11.out).2.2 | (with_reducible refine Kd.C_alloc ?_ _) | (with_reducible refine Kd.C_drewN ?_ _) | (with_reducible refine Kd.C_drew ?_)));(case side2 => exact (Kd.R_reads' HO_11.out).2.1);(case side3 => repeat (first | exact (Kd.R_reads' HO306.out).2.2 | (with_reducible refine Kd.C_alloc ?_ _) | (with_reducible refine Kd.C_drewN ?_ _) | (with_reducible refine Kd.C_drew ?_)));(case side4 => exact (Kd.R_reads' HO306.out).2.1);rintro e w59 ⟨rfl,hb⟩;refine ⟨_,rfl, ?_⟩;have n0_:=Aside0.mk (Kd.R_below (by (with_reducible repeat (first | apply Kd.R_alloc | apply Kd.R_drewN | apply Kd.R_drew));exact HO_8.out) hb);have n1_:=Aside0.mk (Kd.R_below (by (with_reducible repeat (first | apply Kd.R_alloc | apply Kd.R_drewN | apply Kd.R_drew));exact HO_10.out) hb);have n2_:=Aside0.mk (Kd.R_below (by (with_reducible repeat (first | apply Kd.R_alloc | apply Kd.R_drewN | apply Kd.R_drew));exact HO_11.out) hb);have n3_:=Aside0.mk (Kd.R_below (by (with_reducible repeat (first | apply Kd.R_alloc | apply Kd.R_drewN | apply Kd.R_drew));exact HO_12.out) hb);have n4_:=Aside0.mk (Kd.R_below (by (with_reducible repeat (first | apply Kd.R_alloc | apply Kd.R_drewN | apply Kd.R_drew));exact HO_13.out) hb);have n5_:=Aside0.mk (Kd.R_below (by (with_reducible repeat (first | apply Kd.R_alloc | apply Kd.R_drewN | apply Kd.R_drew));exact HO302.out) hb);have n6_:=Aside0.mk (Kd.R_below (by (with_reducible repeat (first | apply Kd.R_alloc | apply Kd.R_drewN | apply Kd.R_drew));exact HO306.out) hb);have n7_:=Aside0.mk (below_step (by repeat (first | (with_reducible first | exact HB.out | apply below_alloc | apply pw_below_drewN | apply below_drew1) | exact HB.out)) hb);clear HO_8;clear HO_10;clear HO_11;clear HO_12;clear HO_13;clear HO302;clear HO306;clear HB;have HO_8:=n0_;have HO_10:=n1_;have HO_11:=n2_;have HO_12:=n3_;have HO_13:=n4_;have HO302:=n5_;have HO306:=n6_;have HB:=n7_;clear n0_ n1_ n2_ n3_ n4_ n5_ n6_ n7_;(try clear hb);(try clear hb2);(try clear hk);(try clear hi)) | ((with_reducible refine gate_callee (f:=23) rfl ?_);refine goesL_ (some 77) rfl rfl Try.func23 (by kernel_rfl) rfl #[.slice A2 l2.length c2] rfl (by (try simp only [List.map_toArray,List.map_cons,List.map_nil]);first | done | rfl | (simp only [List.length_drop,List.length_take];rfl)) ?_;(with_reducible refine (laws_toIntS.calls kj17 _ _ l2 t308 _ ?side1 ?side2 A47.out).mono ?_);(case side1 => repeat (first | exact (Kd.C_below HR2.out HB.out) | (with_reducible refine Kd.C_alloc ?_ _) | (with_reducible refine Kd.C_drewN ?_ _) | (with_reducible refine Kd.C_drew ?_)));(case side2 => exact HC2.out);rintro e w60 ⟨v309,rfl,ho0,hb⟩;refine ⟨_,rfl, ?_⟩;have n0_:=Aside0.mk (Kd.R_below (by (with_reducible repeat (first | apply Kd.R_alloc | apply Kd.R_drewN | apply Kd.R_drew));exact HO_8.out) hb);have n1_:=Aside0.mk (Kd.R_below (by (with_reducible repeat (first | apply Kd.R_alloc | apply Kd.R_drewN | apply Kd.R_drew));exact HO_10.out) hb);have n2_:=Aside0.mk (Kd.R_below (by (with_reducible repeat (first | apply Kd.R_alloc | apply Kd.R_drewN | apply Kd.R_drew));exact HO_11.out) hb);have n3_:=Aside0.mk (Kd.R_elder' (by (with_reducible repeat (first | apply Kd.R_alloc | apply Kd.R_drewN | apply Kd.R_drew));exact HO_12.out) (Kd.R_base ho0) hb);have n4_:=Aside0.mk (Kd.R_below (by (with_reducible repeat (first | apply Kd.R_alloc | apply Kd.R_drewN | apply Kd.R_drew));exact HO_13.out) hb);have n5_:=Aside0.mk (Kd.R_below (by (with_reducible repeat (first | apply Kd.R_alloc | apply Kd.R_drewN | apply Kd.R_drew));exact HO302.out) hb);have n6_:=Aside0.mk (Kd.R_below (by (with_reducible repeat (first | apply Kd.R_alloc | apply Kd.R_drewN | apply Kd.R_drew));exact HO306.out) hb);have n7_:=Aside0.mk (Kd.R_lower (Kd.R_new' ho0 (Kd.R_lt (by (with_reducible repeat (first | apply Kd.R_alloc | apply Kd.R_drewN | apply Kd.R_drew));exact HO_12.out))) (below_size (by repeat (first | (with_reducible first | exact HB.out | apply below_alloc | apply pw_below_drewN | apply below_drew1) | exact HB.out))));have n8_:=Aside0.mk (below_step (by repeat (first | (with_reducible first | exact HB.out | apply below_alloc | apply pw_below_drewN | apply below_drew1) | exact HB.out)) hb);clear HO_8;clear HO_10;clear HO_11;clear HO_12;clear HO_13;clear HO302;clear HO306;clear HB;have HO_8:=n0_;have HO_10:=n1_;have HO_11:=n2_;have HO_12:=n3_;have HO_13:=n4_;have HO302:=n5_;have HO306:=n6_;have HO310:=n7_;have HB:=n8_;clear n0_ n1_ n2_ n3_ n4_ n5_ n6_ n7_ n8_;(try clear hb);(try clear hb2);(try clear hk);(try clear hi);(try clear ho0);obtain ⟨Ao61,co61,eo61⟩ := Kd.R_slice HO310.out;subst eo61) | ((with_reducible refine gate_callee (f:=26) rfl ?_);refine goesL_ (some 78) rfl rfl Try.func26 (by kernel_rfl) rfl #[.slice Ao32 t292.length co32, .slice Ao61 t308.length co61] rfl (by (try simp only [List.map_toArray,List.map_cons,List.map_nil]);first | done | rfl | (simp only [List.length_drop,List.length_take];rfl)) ?_;(with_reducible refine (laws_eqIntS.calls kj17 _ _ t292 _ _ t308 true _ ?side1 ?side2 ?side3 ?side4 A48.out).mono ?_);(case side1 => repeat (first | exact (Kd.R_reads' HO_12.out).2.2 | (with_reducible refine Kd.C_alloc ?_ _) | (with_reducible refine Kd.C_drewN ?_ _) | (with_reducible refine Kd.C_drew ?_)));(case side2 => exact (Kd.R_reads' HO_12.out).2.1);(case side3 => repeat (first | exact (Kd.R_reads' HO310.out).2.2 | (with_reducible refine Kd.C_alloc ?_ _) | (with_reducible refine Kd.C_drewN ?_ _) | (with_reducible refine Kd.C_drew ?_)));(case side4 => exact (Kd.R_reads' HO310.out).2.1);rintro e w' ⟨rfl,⟨nd,rfl⟩⟩;refine ⟨_,rfl, ?_⟩) | ((with_reducible refine gate_callee (f:=33) rfl ?_);refine goesL_ (some 82) rfl rfl Try.func33 (by kernel_rfl) rfl #[.slice Ao30 t286.length co30, .int .i64 1] rfl (by (try simp only [List.map_toArray,List.map_cons,List.map_nil]);first | done | rfl | (simp only [List.length_drop,List.length_take];rfl)) ?_;(with_reducible refine (laws_markWagonS.calls kj17 (fun k_ => some k_ = (.slice Ao30 t286.length co30 : Value).ownBlock) (.slice Ao30 t286.length co30) t286 1 t312 t313 w _ ?side1 ?side2 A50.out).mono ?_);(case side1 => repeat (first | (with_reducible first | exact HB.out | apply below_alloc | apply pw_below_drewN | apply below_drew1) | exact HB.out));(case side2 => exact Kd.R_tight rfl HO_10.out);rintro e w62 ⟨rfl,hy0,hb,hkp⟩;refine ⟨_,rfl, ?_⟩;have n0_:=Aside0.mk (Kd.R_mono (ok':=fun k_ => some k_ ≠ (v297 : Value).ownBlock) (Kd.R_keptB ((Kd.R_apart' HO_8.out (Kd.R_typed HO_10.out) (by decide))) hkp (fun k_ hk_ hs_ => (hk_.2) hs_)) (fun k_ hk_ => hk_.1.1));have n1_:=Aside0.mk (Kd.R_reok rfl hy0 (fun k_ e_ => HO_10.out.1 k_ e_));have n2_:=Aside0.mk (Kd.R_mono (ok':=fun k_ => some k_ ≠ (.slice Ao58 t304.length co58 : Value).ownBlock) (Kd.R_keptB ((Kd.R_apart' HO_11.out (Kd.R_typed HO_10.out) (by decide))) hkp (fun k_ hk_ hs_ => (hk_.2) hs_)) (fun k_ hk_ => hk_.1.1.2));have n3_:=Aside0.mk (Kd.R_mono (ok':=fun k_ => some k_ ≠ (.slice Ao61 t308.length co61 : Value).ownBlock) (Kd.R_keptB ((Kd.R_apart' HO_12.out (Kd.R_typed HO_10.out) (by decide))) hkp (fun k_ hk_ hs_ => (hk_.2) hs_)) (fun k_ hk_ => hk_.1.1.2));have n4_:=Aside0.mk (Kd.R_mono (ok':=fun k_ => some k_ ≠ (v284 : Value).ownBlock) (Kd.R_keptB ((Kd.R_apart' HO_13.out (Kd.R_typed HO_10.out) (by decide))) hkp (fun k_ hk_ hs_ => (hk_.2) hs_)) (fun k_ hk_ => hk_.1.1));have n5_:=Aside0.mk (Kd.R_mono (ok':=fun k_ => some k_ ≠ (.slice Ao30 t286.length co30 : Value).ownBlock) (Kd.R_keptB (HO302.out) hkp (fun k_ hk_ hs_ => (hk_.2) hs_)) (fun k_ hk_ => hk_.1.2));have n6_:=Aside0.mk (Kd.R_mono (ok':=fun k_ => some k_ ≠ (.slice Ao31 t289.length co31 : Value).ownBlock) (Kd.R_keptB ((Kd.R_apart' HO306.out (Kd.R_typed HO_10.out) (by decide))) hkp (fun k_ hk_ hs_ => (hk_.2) hs_)) (fun k_ hk_ => hk_.1.1.2));have n7_:=Aside0.mk (Kd.R_mono (ok':=fun k_ => some k_ ≠ (.slice Ao32 t292.length co32 : Value).ownBlock) (Kd.R_keptB ((Kd.R_apart' HO310.out (Kd.R_typed HO_10.out) (by decide))) hkp (fun k_ hk_ hs_ => (hk_.2) hs_)) (fun k_ hk_ => hk_.1.1.2));have n8_:=Aside0.mk (hb);clear HO_8;clear HO_10;clear HO_11;clear HO_12;clear HO_13;clear HO302;clear HO306;clear HO310;clear HB;have HO_8:=n0_;have HO_10:=n1_;have HO_11:=n2_;have HO_12:=n3_;have HO_13:=n4_;have HO302:=n5_;have HO306:=n6_;have HO310:=n7_;have HB:=n8_;clear n0_ n1_ n2_ n3_ n4_ n5_ n6_ n7_ n8_;(try clear hb);(try clear hkp);(try clear hy0)) | ((with_reducible refine gate_callee (f:=34) rfl ?_);refine goesL_ (some 85) rfl rfl Try.func34 (by kernel_rfl) rfl #[.slice Ao31 t289.length co31, .int .i64 t312] rfl (by (try simp only [List.map_toArray,List.map_cons,List.map_nil]);first | done | rfl | (simp only [List.length_drop,List.length_take];rfl)) ?_;(with_reducible refine (laws_markContainerS.calls kj17 (fun k_ => some k_ = (.slice Ao31 t289.length co31 : Value).ownBlock) (.slice Ao31 t289.length co31) t289 t312 t314 t315 w _ ?side1 ?side2 A51.out).mono ?_);(case side1 => repeat (first | (with_reducible first | exact HB.out | apply below_alloc | apply pw_below_drewN | apply below_drew1) | exact HB.out));(case side2 => exact Kd.R_tight rfl HO_11.out);rintro e w63 ⟨rfl,hy0,hb,hkp⟩;refine ⟨_,rfl, ?_⟩;have n0_:=Aside0.mk (Kd.R_mono (ok':=fun k_ => some k_ ≠ (v297 : Value).ownBlock) (Kd.R_keptB ((Kd.R_apart' HO_8.out (Kd.R_typed HO_11.out) (by decide))) hkp (fun k_ hk_ hs_ => (hk_.2) hs_)) (fun k_ hk_ => hk_.1.1));have n1_:=Aside0.mk (Kd.R_mono (ok':=fun k_ => some k_ ≠ (.slice Ao55 t300.length co55 : Value).ownBlock) (Kd.R_keptB ((Kd.R_apart' HO_10.out (Kd.R_typed HO_11.out) (by decide))) hkp (fun k_ hk_ hs_ => (hk_.2) hs_)) (fun k_ hk_ => hk_.1.1.2));have n2_:=Aside0.mk (Kd.R_reok rfl hy0 (fun k_ e_ => HO_11.out.1 k_ e_));have n3_:=Aside0.mk (Kd.R_mono (ok':=fun k_ => some k_ ≠ (.slice Ao61 t308.length co61 : Value).ownBlock) (Kd.R_keptB ((Kd.R_apart' HO_12.out (Kd.R_typed HO_11.out) (by decide))) hkp (fun k_ hk_ hs_ => (hk_.2) hs_)) (fun k_ hk_ => hk_.1.1));have n4_:=Aside0.mk (Kd.R_mono (ok':=fun k_ => some k_ ≠ (v284 : Value).ownBlock) (Kd.R_keptB ((Kd.R_apart' HO_13.out (Kd.R_typed HO_11.out) (by decide))) hkp (fun k_ hk_ hs_ => (hk_.2) hs_)) (fun k_ hk_ => hk_.1.1));have n5_:=Aside0.mk (Kd.R_mono (ok':=fun k_ => some k_ ≠ (.slice Ao30 t286.length co30 : Value).ownBlock) (Kd.R_keptB ((Kd.R_apart' HO302.out (Kd.R_typed HO_11.out) (by decide))) hkp (fun k_ hk_ hs_ => (hk_.2) hs_)) (fun k_ hk_ => hk_.1.1));have n6_:=Aside0.mk (Kd.R_mono (ok':=fun k_ => some k_ ≠ (.slice Ao31 t289.length co31 : Value).ownBlock) (Kd.R_keptB (HO306.out) hkp (fun k_ hk_ hs_ => (hk_) hs_)) (fun k_ hk_ => hk_.1));have n7_:=Aside0.mk (Kd.R_mono (ok':=fun k_ => some k_ ≠ (.slice Ao32 t292.length co32 : Value).ownBlock) (Kd.R_keptB ((Kd.R_apart' HO310.out (Kd.R_typed HO_11.out) (by decide))) hkp (fun k_ hk_ hs_ => (hk_.2) hs_)) (fun k_ hk_ => hk_.1.1));have n8_:=Aside0.mk (hb);clear HO_8;clear HO_10;clear HO_11;clear HO_12;clear HO_13;clear HO302;clear HO306;clear HO310;clear HB;have HO_8:=n0_;have HO_10:=n1_;have HO_11:=n2_;have HO_12:=n3_;have HO_13:=n4_;have HO302:=n5_;have HO306:=n6_;have HO310:=n7_;have HB:=n8_;clear n0_ n1_ n2_ n3_ n4_ n5_ n6_ n7_ n8_;(try clear hb);(try clear hkp);(try clear hy0)) | ((with_reducible refine gate_callee (f:=35) rfl ?_);refine goesL_ (some 88) rfl rfl Try.func35 (by kernel_rfl) rfl #[.slice Ao32 t292.length co32, .int .i64 t314] rfl (by (try simp only [List.map_toArray,List.map_cons,List.map_nil]);first | done | rfl | (simp only [List.length_drop,List.length_take];rfl)) ?_;(with_reducible refine (laws_markIntS.calls kj17 (fun k_ => some k_ = (.slice Ao32 t292.length co32 : Value).ownBlock) (.slice Ao32 t292.length co32) t292 t314 t316 t317 w _ ?side1 ?side2 A52.out).mono ?_);(case side1 => repeat (first | (with_reducible first | exact HB.out | apply below_alloc | apply pw_below_drewN | apply below_drew1) | exact HB.out));(case side2 => exact Kd.R_tight rfl HO_12.out);rintro e w64 ⟨rfl,hy0,hb,hkp⟩;refine ⟨_,rfl, ?_⟩;have n0_:=Aside0.mk (Kd.R_mono (ok':=fun k_ => some k_ ≠ (v297 : Value).ownBlock) (Kd.R_keptB ((Kd.R_apart' HO_8.out (Kd.R_typed HO_12.out) (by decide))) hkp (fun k_ hk_ hs_ => (hk_.2) hs_)) (fun k_ hk_ => hk_.1.1));have n1_:=Aside0.mk (Kd.R_mono (ok':=fun k_ => some k_ ≠ (.slice Ao55 t300.length co55 : Value).ownBlock) (Kd.R_keptB ((Kd.R_apart' HO_10.out (Kd.R_typed HO_12.out) (by decide))) hkp (fun k_ hk_ hs_ => (hk_.2) hs_)) (fun k_ hk_ => hk_.1.1));have n2_:=Aside0.mk (Kd.R_mono (ok':=fun k_ => some k_ ≠ (.slice Ao58 t304.length co58 : Value).ownBlock) (Kd.R_keptB ((Kd.R_apart' HO_11.out (Kd.R_typed HO_12.out) (by decide))) hkp (fun k_ hk_ hs_ => (hk_.2) hs_)) (fun k_ hk_ => hk_.1.1));have n3_:=Aside0.mk (Kd.R_reok rfl hy0 (fun k_ e_ => HO_12.out.1 k_ e_));have n4_:=Aside0.mk (Kd.R_mono (ok':=fun k_ => some k_ ≠ (v284 : Value).ownBlock) (Kd.R_keptB ((Kd.R_apart' HO_13.out (Kd.R_typed HO_12.out) (by decide))) hkp (fun k_ hk_ hs_ => (hk_.2) hs_)) (fun k_ hk_ => hk_.1.1));have n5_:=Aside0.mk (Kd.R_mono (ok':=fun k_ => some k_ ≠ (.slice Ao30 t286.length co30 : Value).ownBlock) (Kd.R_keptB ((Kd.R_apart' HO302.out (Kd.R_typed HO_12.out) (by decide))) hkp (fun k_ hk_ hs_ => (hk_.2) hs_)) (fun k_ hk_ => hk_.1.1));have n6_:=Aside0.mk (Kd.R_mono (ok':=fun k_ => some k_ ≠ (.slice Ao31 t289.length co31 : Value).ownBlock) (Kd.R_keptB ((Kd.R_apart' HO306.out (Kd.R_typed HO_12.out) (by decide))) hkp (fun k_ hk_ hs_ => (hk_.2) hs_)) (fun k_ hk_ => hk_.1.1));have n7_:=Aside0.mk (Kd.R_mono (ok':=fun k_ => some k_ ≠ (.slice Ao32 t292.length co32 : Value).ownBlock) (Kd.R_keptB (HO310.out) hkp (fun k_ hk_ hs_ => (hk_) hs_)) (fun k_ hk_ => hk_.1));have n8_:=Aside0.mk (hb);clear HO_8;clear HO_10;clear HO_11;clear HO_12;clear HO_13;clear HO302;clear HO306;clear HO310;clear HB;have HO_8:=n0_;have HO_10:=n1_;have HO_11:=n2_;have HO_12:=n3_;have HO_13:=n4_;have HO302:=n5_;have HO306:=n6_;have HO310:=n7_;have HB:=n8_;clear n0_ n1_ n2_ n3_ n4_ n5_ n6_ n7_ n8_;(try clear hb);(try clear hkp);(try clear hy0)))
          (try simp only [Act.put,sA_,s0_,s1_])
          go_cut [101] (fun v101 wc => ∃ (kq : Nat) (x101_52 : Bool),v101 = .bool x101_52 ∧ Aside0 (laws_FnExactLeftBehindContainers.j1 kq l0 l1 l2 t282 t283 t295 x101_52 = some r) ∧ Aside0 (kq ≤ kj17) ∧ Aside0 (Kd.R Kd.string 9 wc w.heap.size (fun k_ => some k_ ≠ (v297 : Value).ownBlock) v284 t282) ∧ Aside0 (Kd.R Kd.string 9 wc w.heap.size (fun k_ => some k_ ≠ (v284 : Value).ownBlock) v297 t295) ∧ Aside0 (Below w.heap.size w wc))
          case first =>
           have H:=HC53.out
           clear HC53
           by_cases c65 : t316 < 0
           ·rw [if_pos c65] at H
            have c65b0 : decide (t316 < 0) = true:=decide_eq_true c65
            clear c65
            (first | rw [c65b0] | (simp only [i64_w,i32_w];rw [c65b0]) | skip)
            have H':=Aside0.mk H
            clear H
            go_wp2
            go_meet
            case rel => exact ⟨_,(true),(by first | rfl | (simp;done) | (simp [*];done)),H',⟨by have:=HJ17.out;first | omega | exact Nat.le_refl _⟩,⟨by (with_reducible repeat (first | apply Kd.R_alloc | apply Kd.R_drewN | apply Kd.R_drew));exact HO_8.out⟩,⟨by (with_reducible repeat (first | apply Kd.R_alloc | apply Kd.R_drewN | apply Kd.R_drew));exact HO_13.out⟩,⟨by repeat (first | (with_reducible first | exact HB.out | apply below_alloc | apply pw_below_drewN | apply below_drew1) | exact HB.out)⟩⟩
           ·rw [if_neg c65] at H
            have c65b0 : decide (t316 < 0) = false:=decide_eq_false c65
            clear c65
            (first | rw [c65b0] | (simp only [i64_w,i32_w];rw [c65b0]) | skip)
            replace H:=Option.bind_eq_some_iff.mp H
            obtain ⟨t318,A660,H⟩ := H
            replace H : (if t318 = true then (laws_FnExactLeftBehindContainers.j1 kj17 l0 l1 l2 t282 t283 t295 (t296 != t283)) else (laws_FnExactLeftBehindContainers.j1 kj17 l0 l1 l2 t282 t283 t295 true)) = some r:=H
            have A66:=Aside0.mk A660
            clear A660
            by_cases c67 : t318 = true
            ·subst c67
             have H1 : (laws_FnExactLeftBehindContainers.j1 kj17 l0 l1 l2 t282 t283 t295 (t296 != t283)) = some r:=by rw [if_pos rfl] at H;exact H
             clear H
             have H:=H1
             clear H1
             have H':=Aside0.mk H
             clear H
             obtain ⟨Ao68,co68,eo68⟩ := Kd.R_slice HO_13.out
             subst eo68
             obtain ⟨Ao69,co69,eo69⟩ := Kd.R_slice HO_8.out
             subst eo69
             go_wp2_with (first | (go_at_call 45;(with_reducible refine (laws_eqStringS.calls kj17 _ _ t295 _ _ t282 true _ ?side1 ?side2 ?side3 ?side4 A66.out).mono ?_);(case side1 => repeat (first | exact (Kd.R_reads' HO_13.out).2.2 | (with_reducible refine Kd.C_alloc ?_ _) | (with_reducible refine Kd.C_drewN ?_ _) | (with_reducible refine Kd.C_drew ?_)));(case side2 => exact (Kd.R_reads' HO_13.out).2.1);(case side3 => repeat (first | exact (Kd.R_reads' HO_8.out).2.2 | (with_reducible refine Kd.C_alloc ?_ _) | (with_reducible refine Kd.C_drewN ?_ _) | (with_reducible refine Kd.C_drew ?_)));(case side4 => exact (Kd.R_reads' HO_8.out).2.1);rintro e w' ⟨rfl,⟨nd,rfl⟩⟩))
             go_meet
             case rel => exact ⟨_,((t296 != t283)),(by first | rfl | (simp;done) | (simp [*];done)),H',⟨by have:=HJ17.out;first | omega | exact Nat.le_refl _⟩,⟨by (with_reducible repeat (first | apply Kd.R_alloc | apply Kd.R_drewN | apply Kd.R_drew));exact HO_8.out⟩,⟨by (with_reducible repeat (first | apply Kd.R_alloc | apply Kd.R_drewN | apply Kd.R_drew));exact HO_13.out⟩,⟨by repeat (first | (with_reducible first | exact HB.out | apply below_alloc | apply pw_below_drewN | apply below_drew1) | exact HB.out)⟩⟩
            ·replace c67:=Bool.eq_false_iff.mpr c67
             subst c67
             have H1 : (laws_FnExactLeftBehindContainers.j1 kj17 l0 l1 l2 t282 t283 t295 true) = some r:=by rw [if_neg (show ¬ (false = true) by decide)] at H;exact H
             clear H
             have H:=H1
             clear H1
             have H':=Aside0.mk H
             clear H
             obtain ⟨Ao70,co70,eo70⟩ := Kd.R_slice HO_13.out
             subst eo70
             obtain ⟨Ao71,co71,eo71⟩ := Kd.R_slice HO_8.out
             subst eo71
             go_wp2_with (first | (go_at_call 45;(with_reducible refine (laws_eqStringS.calls kj17 _ _ t295 _ _ t282 false _ ?side1 ?side2 ?side3 ?side4 A66.out).mono ?_);(case side1 => repeat (first | exact (Kd.R_reads' HO_13.out).2.2 | (with_reducible refine Kd.C_alloc ?_ _) | (with_reducible refine Kd.C_drewN ?_ _) | (with_reducible refine Kd.C_drew ?_)));(case side2 => exact (Kd.R_reads' HO_13.out).2.1);(case side3 => repeat (first | exact (Kd.R_reads' HO_8.out).2.2 | (with_reducible refine Kd.C_alloc ?_ _) | (with_reducible refine Kd.C_drewN ?_ _) | (with_reducible refine Kd.C_drew ?_)));(case side4 => exact (Kd.R_reads' HO_8.out).2.1);rintro e w' ⟨rfl,⟨nd,rfl⟩⟩))
             go_meet
             case rel => exact ⟨_,(true),(by first | rfl | (simp;done) | (simp [*];done)),H',⟨by have:=HJ17.out;first | omega | exact Nat.le_refl _⟩,⟨by (with_reducible repeat (first | apply Kd.R_alloc | apply Kd.R_drewN | apply Kd.R_drew));exact HO_8.out⟩,⟨by (with_reducible repeat (first | apply Kd.R_alloc | apply Kd.R_drewN | apply Kd.R_drew));exact HO_13.out⟩,⟨by repeat (first | (with_reducible first | exact HB.out | apply below_alloc | apply pw_below_drewN | apply below_drew1) | exact HB.out)⟩⟩
          case rest =>
           clear HC53
           try clear c1
           try clear c2
           try clear p2
           try clear c3
           try clear c4
           try clear c4b0
           try clear c4b1
           try clear c6
           try clear c6b0
           try clear c8
           try clear c8b0
           try clear c11
           try clear c15
           try clear c17
           try clear c19
           try clear c20
           try clear c22
           try clear c23
           try clear c25
           try clear c26
           try clear c33
           try clear c34
           try clear c35
           try clear c40
           try clear c43
           try clear c44
           try clear c45
           try clear c46
           try clear c49
           try clear c65
           try clear c65b0
           try clear c67
           try clear p2
           obtain ⟨kq,x101_52,rfl,HA,HJ52,HO_8,HO_13,HB⟩ := hcut
           cases kq with
           | zero => exact absurd HA.out (by simp [laws_FnExactLeftBehindContainers.j1])
           | succ kj52 =>
            have H:=HA.out
            clear HA
            simp only [laws_FnExactLeftBehindContainers.j1] at H
            by_cases c72 : x101_52 = true
            ·subst c72
             have H1 : (some false) = some r:=by rw [if_pos rfl] at H;exact H
             clear H
             have H:=H1
             clear H1
             obtain rfl:=Option.some.inj H
             go_wp2
             go_ret
             exact ⟨by first | rfl | (simp [errW_none,errW_some] <;> rfl) | (simp [*,errW_none,errW_some] <;> rfl),by repeat (first | (with_reducible first | exact HB.out | apply below_alloc | apply pw_below_drewN | apply below_drew1) | exact HB.out)⟩
            ·replace c72:=Bool.eq_false_iff.mpr c72
             subst c72
             have H1 : ((laws_markStringS.f kj52 t295 1).bind fun bt319 => ((laws_heldStringS.f kj52 bt319.2 1).bind fun t321 => (if t321 < 0 then (some false) else (if t321 = bt319.1 then ((laws_toWagonS.f kj52 l0).bind fun t322 => ((laws_toContainerS.f kj52 l1).bind fun t325 => ((laws_toIntS.f kj52 l2).bind fun t328 => ((impl_LeftBehindContainers.f kj52 t322 t325 t328).bind fun bt331 => ((laws_eqStringS.f kj52 bt331.1 t282).bind fun t335 => (if t335 = true then (laws_FnExactLeftBehindContainers.j2 kj52 bt319.2 bt319.1 (bt331.2 != t283)) else (laws_FnExactLeftBehindContainers.j2 kj52 bt319.2 bt319.1 true))))))) else (some false))))) = some r:=by rw [if_neg (show ¬ (false = true) by decide)] at H;exact H
             clear H
             have H:=H1
             clear H1
             replace H:=Option.bind_eq_some_iff.mp H
             obtain ⟨⟨t319,t320⟩,A730,H⟩ := H
             replace H : ((laws_heldStringS.f kj52 t320 1).bind fun t321 => (if t321 < 0 then (some false) else (if t321 = t319 then ((laws_toWagonS.f kj52 l0).bind fun t322 => ((laws_toContainerS.f kj52 l1).bind fun t325 => ((laws_toIntS.f kj52 l2).bind fun t328 => ((impl_LeftBehindContainers.f kj52 t322 t325 t328).bind fun bt331 => ((laws_eqStringS.f kj52 bt331.1 t282).bind fun t335 => (if t335 = true then (laws_FnExactLeftBehindContainers.j2 kj52 t320 t319 (bt331.2 != t283)) else (laws_FnExactLeftBehindContainers.j2 kj52 t320 t319 true))))))) else (some false)))) = some r:=H
             have A73:=Aside0.mk A730
             clear A730
             replace H:=Option.bind_eq_some_iff.mp H
             obtain ⟨t321,A740,H⟩ := H
             replace H : (if t321 < 0 then (some false) else (if t321 = t319 then ((laws_toWagonS.f kj52 l0).bind fun t322 => ((laws_toContainerS.f kj52 l1).bind fun t325 => ((laws_toIntS.f kj52 l2).bind fun t328 => ((impl_LeftBehindContainers.f kj52 t322 t325 t328).bind fun bt331 => ((laws_eqStringS.f kj52 bt331.1 t282).bind fun t335 => (if t335 = true then (laws_FnExactLeftBehindContainers.j2 kj52 t320 t319 (bt331.2 != t283)) else (laws_FnExactLeftBehindContainers.j2 kj52 t320 t319 true))))))) else (some false))) = some r:=H
             have A74:=Aside0.mk A740
             clear A740
             by_cases c75 : t321 < 0
             ·rw [if_pos c75] at H
              have c75b0 : decide (t321 < 0) = true:=decide_eq_true c75
              clear c75
              obtain rfl:=Option.some.inj H
              obtain ⟨Ao76,co76,eo76⟩ := Kd.R_slice HO_13.out
              subst eo76
              go_wp2_with (first | ((with_reducible refine gate_callee (f:=46) rfl ?_);refine goesL_ (some 104) rfl rfl Try.func46 (by kernel_rfl) rfl #[.slice Ao76 t295.length co76, .int .i64 1] rfl (by (try simp only [List.map_toArray,List.map_cons,List.map_nil]);first | done | rfl | (simp only [List.length_drop,List.length_take];rfl)) ?_;(with_reducible refine (laws_markStringS.calls kj52 (fun k_ => some k_ = (.slice Ao76 t295.length co76 : Value).ownBlock) (.slice Ao76 t295.length co76) t295 1 t319 t320 w _ ?side1 ?side2 A73.out).mono ?_);(case side1 => repeat (first | (with_reducible first | exact HB.out | apply below_alloc | apply pw_below_drewN | apply below_drew1) | exact HB.out));(case side2 => exact Kd.R_tight rfl HO_13.out);rintro e w77 ⟨rfl,hy0,hb,hkp⟩;refine ⟨_,rfl, ?_⟩;have n0_:=Aside0.mk (Kd.R_mono (ok':=fun k_ => some k_ ≠ (.slice Ao76 t295.length co76 : Value).ownBlock) (Kd.R_keptB (HO_8.out) hkp (fun k_ hk_ hs_ => (hk_) hs_)) (fun k_ hk_ => hk_.1));have n1_:=Aside0.mk (Kd.R_reok rfl hy0 (fun k_ e_ => HO_13.out.1 k_ e_));have n2_:=Aside0.mk (hb);clear HO_8;clear HO_13;clear HB;have HO_8:=n0_;have HO_13:=n1_;have HB:=n2_;clear n0_ n1_ n2_;(try clear hb);(try clear hkp);(try clear hy0)) | ((with_reducible refine gate_callee (f:=47) rfl ?_);refine goesL_ (some 107) rfl rfl Try.func47 (by kernel_rfl) rfl #[.slice Ao76 t320.length co76, .int .i64 1] rfl (by (try simp only [List.map_toArray,List.map_cons,List.map_nil]);first | done | (rw [show t320.length = t295.length from (Kd.R_reads' HO_13.out).1.symm] <;> rfl) | rfl | (simp only [List.length_drop,List.length_take];rfl)) ?_;(with_reducible refine (laws_heldStringS.calls kj52 _ _ t320 1 t321 _ ?side1 ?side2 A74.out).mono ?_);(case side1 => repeat (first | exact (Kd.R_reads' HO_13.out).2.2 | (with_reducible refine Kd.C_alloc ?_ _) | (with_reducible refine Kd.C_drewN ?_ _) | (with_reducible refine Kd.C_drew ?_)));(case side2 => rw [show t320.length = t295.length from (Kd.R_reads' HO_13.out).1.symm];exact (Kd.R_reads' HO_13.out).2.1);rintro e w78 ⟨rfl,hb⟩;refine ⟨_,rfl, ?_⟩;have n0_:=Aside0.mk (Kd.R_below (by (with_reducible repeat (first | apply Kd.R_alloc | apply Kd.R_drewN | apply Kd.R_drew));exact HO_8.out) hb);have n1_:=Aside0.mk (Kd.R_below (by (with_reducible repeat (first | apply Kd.R_alloc | apply Kd.R_drewN | apply Kd.R_drew));exact HO_13.out) hb);have n2_:=Aside0.mk (below_step (by repeat (first | (with_reducible first | exact HB.out | apply below_alloc | apply pw_below_drewN | apply below_drew1) | exact HB.out)) hb);clear HO_8;clear HO_13;clear HB;have HO_8:=n0_;have HO_13:=n1_;have HB:=n2_;clear n0_ n1_ n2_;(try clear hb);(try clear hb2);(try clear hk);(try clear hi)))
              go_ret
              exact ⟨by first | rfl | (simp [errW_none,errW_some] <;> rfl) | (simp [*,errW_none,errW_some] <;> rfl),by repeat (first | (with_reducible first | exact HB.out | apply below_alloc | apply pw_below_drewN | apply below_drew1) | exact HB.out)⟩
             ·rw [if_neg c75] at H
              have c75b0 : decide (t321 < 0) = false:=decide_eq_false c75
              clear c75
              by_cases c79 : t321 = t319
              ·rw [if_pos c79] at H
               have c79b0 : (t321 == t319) = true:=beq_iff_eq.mpr c79
               have c79b1 : (t321 != t319) = false:=bne_eq_false_iff_eq.mpr c79
               clear c79
               replace H:=Option.bind_eq_some_iff.mp H
               obtain ⟨t322,A800,H⟩ := H
               replace H : ((laws_toContainerS.f kj52 l1).bind fun t325 => ((laws_toIntS.f kj52 l2).bind fun t328 => ((impl_LeftBehindContainers.f kj52 t322 t325 t328).bind fun bt331 => ((laws_eqStringS.f kj52 bt331.1 t282).bind fun t335 => (if t335 = true then (laws_FnExactLeftBehindContainers.j2 kj52 t320 t319 (bt331.2 != t283)) else (laws_FnExactLeftBehindContainers.j2 kj52 t320 t319 true)))))) = some r:=H
               have A80:=Aside0.mk A800
               clear A800
               replace H:=Option.bind_eq_some_iff.mp H
               obtain ⟨t325,A810,H⟩ := H
               replace H : ((laws_toIntS.f kj52 l2).bind fun t328 => ((impl_LeftBehindContainers.f kj52 t322 t325 t328).bind fun bt331 => ((laws_eqStringS.f kj52 bt331.1 t282).bind fun t335 => (if t335 = true then (laws_FnExactLeftBehindContainers.j2 kj52 t320 t319 (bt331.2 != t283)) else (laws_FnExactLeftBehindContainers.j2 kj52 t320 t319 true))))) = some r:=H
               have A81:=Aside0.mk A810
               clear A810
               replace H:=Option.bind_eq_some_iff.mp H
               obtain ⟨t328,A820,H⟩ := H
               replace H : ((impl_LeftBehindContainers.f kj52 t322 t325 t328).bind fun bt331 => ((laws_eqStringS.f kj52 bt331.1 t282).bind fun t335 => (if t335 = true then (laws_FnExactLeftBehindContainers.j2 kj52 t320 t319 (bt331.2 != t283)) else (laws_FnExactLeftBehindContainers.j2 kj52 t320 t319 true)))) = some r:=H
               have A82:=Aside0.mk A820
               clear A820
               replace H:=Option.bind_eq_some_iff.mp H
               obtain ⟨⟨t331,t332⟩,A830,H⟩ := H
               replace H : ((laws_eqStringS.f kj52 t331 t282).bind fun t335 => (if t335 = true then (laws_FnExactLeftBehindContainers.j2 kj52 t320 t319 (t332 != t283)) else (laws_FnExactLeftBehindContainers.j2 kj52 t320 t319 true))) = some r:=H
               have A83:=Aside0.mk A830
               clear A830
               have HC84:=Aside0.mk H
               clear H
               obtain ⟨Ao85,co85,eo85⟩ := Kd.R_slice HO_13.out
               subst eo85
               go_upto_region 38 with (first | ((with_reducible refine gate_callee (f:=46) rfl ?_);refine goesL_ (some 104) rfl rfl Try.func46 (by kernel_rfl) rfl #[.slice Ao85 t295.length co85, .int .i64 1] rfl (by (try simp only [List.map_toArray,List.map_cons,List.map_nil]);first | done | rfl | (simp only [List.length_drop,List.length_take];rfl)) ?_;(with_reducible refine (laws_markStringS.calls kj52 (fun k_ => some k_ = (.slice Ao85 t295.length co85 : Value).ownBlock) (.slice Ao85 t295.length co85) t295 1 t319 t320 w _ ?side1 ?side2 A73.out).mono ?_);(case side1 => repeat (first | (with_reducible first | exact HB.out | apply below_alloc | apply pw_below_drewN | apply below_drew1) | exact HB.out));(case side2 => exact Kd.R_tight rfl HO_13.out);rintro e w86 ⟨rfl,hy0,hb,hkp⟩;refine ⟨_,rfl, ?_⟩;have n0_:=Aside0.mk (Kd.R_mono (ok':=fun k_ => some k_ ≠ (.slice Ao85 t295.length co85 : Value).ownBlock) (Kd.R_keptB (HO_8.out) hkp (fun k_ hk_ hs_ => (hk_) hs_)) (fun k_ hk_ => hk_.1));have n1_:=Aside0.mk (Kd.R_reok rfl hy0 (fun k_ e_ => HO_13.out.1 k_ e_));have n2_:=Aside0.mk (hb);clear HO_8;clear HO_13;clear HB;have HO_8:=n0_;have HO_13:=n1_;have HB:=n2_;clear n0_ n1_ n2_;(try clear hb);(try clear hkp);(try clear hy0)) | ((with_reducible refine gate_callee (f:=47) rfl ?_);refine goesL_ (some 107) rfl rfl Try.func47 (by kernel_rfl) rfl #[.slice Ao85 t320.length co85, .int .i64 1] rfl (by (try simp only [List.map_toArray,List.map_cons,List.map_nil]);first | done | (rw [show t320.length = t295.length from (Kd.R_reads' HO_13.out).1.symm] <;> rfl) | rfl | (simp only [List.length_drop,List.length_take];rfl)) ?_;(with_reducible refine (laws_heldStringS.calls kj52 _ _ t320 1 t321 _ ?side1 ?side2 A74.out).mono ?_);(case side1 => repeat (first | exact (Kd.R_reads' HO_13.out).2.2 | (with_reducible refine Kd.C_alloc ?_ _) | (with_reducible refine Kd.C_drewN ?_ _) | (with_reducible refine Kd.C_drew ?_)));(case side2 => rw [show t320.length = t295.length from (Kd.R_reads' HO_13.out).1.symm];exact (Kd.R_reads' HO_13.out).2.1);rintro e w87 ⟨rfl,hb⟩;refine ⟨_,rfl, ?_⟩;have n0_:=Aside0.mk (Kd.R_below (by (with_reducible repeat (first | apply Kd.R_alloc | apply Kd.R_drewN | apply Kd.R_drew));exact HO_8.out) hb);have n1_:=Aside0.mk (Kd.R_below (by (with_reducible repeat (first | apply Kd.R_alloc | apply Kd.R_drewN | apply Kd.R_drew));exact HO_13.out) hb);have n2_:=Aside0.mk (below_step (by repeat (first | (with_reducible first | exact HB.out | apply below_alloc | apply pw_below_drewN | apply below_drew1) | exact HB.out)) hb);clear HO_8;clear HO_13;clear HB;have HO_8:=n0_;have HO_13:=n1_;have HB:=n2_;clear n0_ n1_ n2_;(try clear hb);(try clear hb2);(try clear hk);(try clear hi)) | ((with_reducible refine gate_callee (f:=17) rfl ?_);refine goesL_ (some 115) rfl rfl Try.func17 (by kernel_rfl) rfl #[.slice A0 l0.length c0] rfl (by (try simp only [List.map_toArray,List.map_cons,List.map_nil]);first | done | rfl | (simp only [List.length_drop,List.length_take];rfl)) ?_;(with_reducible refine (laws_toWagonS.calls kj52 _ _ l0 t322 _ ?side1 ?side2 A80.out).mono ?_);(case side1 => repeat (first | exact (Kd.C_below HR0.out HB.out) | (with_reducible refine Kd.C_alloc ?_ _) | (with_reducible refine Kd.C_drewN ?_ _) | (with_reducible refine Kd.C_drew ?_)));(case side2 => exact HC0.out);rintro e w88 ⟨v323,rfl,ho0,hb⟩;refine ⟨_,rfl, ?_⟩;have n0_:=Aside0.mk (Kd.R_below (by (with_reducible repeat (first | apply Kd.R_alloc | apply Kd.R_drewN | apply Kd.R_drew));exact HO_8.out) hb);have n1_:=Aside0.mk (Kd.R_below (by (with_reducible repeat (first | apply Kd.R_alloc | apply Kd.R_drewN | apply Kd.R_drew));exact HO_13.out) hb);have n2_:=Aside0.mk (Kd.R_lower ho0 (below_size (by repeat (first | (with_reducible first | exact HB.out | apply below_alloc | apply pw_below_drewN | apply below_drew1) | exact HB.out))));have n3_:=Aside0.mk (below_step (by repeat (first | (with_reducible first | exact HB.out | apply below_alloc | apply pw_below_drewN | apply below_drew1) | exact HB.out)) hb);clear HO_8;clear HO_13;clear HB;have HO_8:=n0_;have HO_13:=n1_;have HO324:=n2_;have HB:=n3_;clear n0_ n1_ n2_ n3_;(try clear hb);(try clear hb2);(try clear hk);(try clear hi);(try clear ho0)) | ((with_reducible refine gate_callee (f:=22) rfl ?_);refine goesL_ (some 117) rfl rfl Try.func22 (by kernel_rfl) rfl #[.slice A1 l1.length c1] rfl (by (try simp only [List.map_toArray,List.map_cons,List.map_nil]);first | done | rfl | (simp only [List.length_drop,List.length_take];rfl)) ?_;(with_reducible refine (laws_toContainerS.calls kj52 _ _ l1 t325 _ ?side1 ?side2 A81.out).mono ?_);(case side1 => repeat (first | exact (Kd.C_below HR1.out HB.out) | (with_reducible refine Kd.C_alloc ?_ _) | (with_reducible refine Kd.C_drewN ?_ _) | (with_reducible refine Kd.C_drew ?_)));(case side2 => exact HC1.out);rintro e w89 ⟨v326,rfl,ho0,hb⟩;refine ⟨_,rfl, ?_⟩;have n0_:=Aside0.mk (Kd.R_below (by (with_reducible repeat (first | apply Kd.R_alloc | apply Kd.R_drewN | apply Kd.R_drew));exact HO_8.out) hb);have n1_:=Aside0.mk (Kd.R_below (by (with_reducible repeat (first | apply Kd.R_alloc | apply Kd.R_drewN | apply Kd.R_drew));exact HO_13.out) hb);have n2_:=Aside0.mk (Kd.R_below (by (with_reducible repeat (first | apply Kd.R_alloc | apply Kd.R_drewN | apply Kd.R_drew));exact HO324.out) hb);have n3_:=Aside0.mk (Kd.R_lower ho0 (below_size (by repeat (first | (with_reducible first | exact HB.out | apply below_alloc | apply pw_below_drewN | apply below_drew1) | exact HB.out))));have n4_:=Aside0.mk (below_step (by repeat (first | (with_reducible first | exact HB.out | apply below_alloc | apply pw_below_drewN | apply below_drew1) | exact HB.out)) hb);clear HO_8;clear HO_13;clear HO324;clear HB;have HO_8:=n0_;have HO_13:=n1_;have HO324:=n2_;have HO327:=n3_;have HB:=n4_;clear n0_ n1_ n2_ n3_ n4_;(try clear hb);(try clear hb2);(try clear hk);(try clear hi);(try clear ho0)) | ((with_reducible refine gate_callee (f:=23) rfl ?_);refine goesL_ (some 119) rfl rfl Try.func23 (by kernel_rfl) rfl #[.slice A2 l2.length c2] rfl (by (try simp only [List.map_toArray,List.map_cons,List.map_nil]);first | done | rfl | (simp only [List.length_drop,List.length_take];rfl)) ?_;(with_reducible refine (laws_toIntS.calls kj52 _ _ l2 t328 _ ?side1 ?side2 A82.out).mono ?_);(case side1 => repeat (first | exact (Kd.C_below HR2.out HB.out) | (with_reducible refine Kd.C_alloc ?_ _) | (with_reducible refine Kd.C_drewN ?_ _) | (with_reducible refine Kd.C_drew ?_)));(case side2 => exact HC2.out);rintro e w90 ⟨v329,rfl,ho0,hb⟩;refine ⟨_,rfl, ?_⟩;have n0_:=Aside0.mk (Kd.R_below (by (with_reducible repeat (first | apply Kd.R_alloc | apply Kd.R_drewN | apply Kd.R_drew));exact HO_8.out) hb);have n1_:=Aside0.mk (Kd.R_below (by (with_reducible repeat (first | apply Kd.R_alloc | apply Kd.R_drewN | apply Kd.R_drew));exact HO_13.out) hb);have n2_:=Aside0.mk (Kd.R_below (by (with_reducible repeat (first | apply Kd.R_alloc | apply Kd.R_drewN | apply Kd.R_drew));exact HO324.out) hb);have n3_:=Aside0.mk (Kd.R_below (by (with_reducible repeat (first | apply Kd.R_alloc | apply Kd.R_drewN | apply Kd.R_drew));exact HO327.out) hb);have n4_:=Aside0.mk (Kd.R_lower ho0 (below_size (by repeat (first | (with_reducible first | exact HB.out | apply below_alloc | apply pw_below_drewN | apply below_drew1) | exact HB.out))));have n5_:=Aside0.mk (below_step (by repeat (first | (with_reducible first | exact HB.out | apply below_alloc | apply pw_below_drewN | apply below_drew1) | exact HB.out)) hb);clear HO_8;clear HO_13;clear HO324;clear HO327;clear HB;have HO_8:=n0_;have HO_13:=n1_;have HO324:=n2_;have HO327:=n3_;have HO330:=n4_;have HB:=n5_;clear n0_ n1_ n2_ n3_ n4_ n5_;(try clear hb);(try clear hb2);(try clear hk);(try clear hi);(try clear ho0);obtain ⟨Ao91,co91,eo91⟩ := Kd.R_slice HO324.out;subst eo91;obtain ⟨Ao92,co92,eo92⟩ := Kd.R_slice HO327.out;subst eo92;obtain ⟨Ao93,co93,eo93⟩ := Kd.R_slice HO330.out;subst eo93) | ((with_reducible refine gate_callee (f:=44) rfl ?_);refine goesL_ (some 120) rfl rfl Try.func44 (by kernel_rfl) rfl #[.slice Ao91 t322.length co91, .slice Ao92 t325.length co92, .slice Ao93 t328.length co93] rfl (by (try simp only [List.map_toArray,List.map_cons,List.map_nil]);first | done | rfl | (simp only [List.length_drop,List.length_take];rfl)) ?_;(with_reducible refine (impl_LeftBehindContainers.calls kj52 _ _ t322 _ _ t325 _ _ t328 t331 t332 _ ?side1 ?side2 ?side3 ?side4 ?side5 ?side6 A83.out).mono ?_);(case side1 => repeat (first | exact (Kd.R_reads' HO324.out).2.2 | (with_reducible refine Kd.C_alloc ?_ _) | (with_reducible refine Kd.C_drewN ?_ _) | (with_reducible refine Kd.C_drew ?_)));(case side2 => exact (Kd.R_reads' HO324.out).2.1);(case side3 => repeat (first | exact (Kd.R_reads' HO327.out).2.2 | (with_reducible refine Kd.C_alloc ?_ _) | (with_reducible refine Kd.C_drewN ?_ _) | (with_reducible refine Kd.C_drew ?_)));(case side4 => exact (Kd.R_reads' HO327.out).2.1);(case side5 => repeat (first | exact (Kd.R_reads' HO330.out).2.2 | (with_reducible refine Kd.C_alloc ?_ _) | (with_reducible refine Kd.C_drewN ?_ _) | (with_reducible refine Kd.C_drew ?_)));(case side6 => exact (Kd.R_reads' HO330.out).2.1);rintro e w94 ⟨v333,rfl,ho0,hb⟩;refine ⟨_,rfl, ?_⟩;have n0_:=Aside0.mk (Kd.R_elder' (by (with_reducible repeat (first | apply Kd.R_alloc | apply Kd.R_drewN | apply Kd.R_drew));exact HO_8.out) (Kd.R_base ho0) hb);have n1_:=Aside0.mk (Kd.R_elder' (by (with_reducible repeat (first | apply Kd.R_alloc | apply Kd.R_drewN | apply Kd.R_drew));exact HO_13.out) (Kd.R_base ho0) hb);have n2_:=Aside0.mk (Kd.R_below (by (with_reducible repeat (first | apply Kd.R_alloc | apply Kd.R_drewN | apply Kd.R_drew));exact HO324.out) hb);have n3_:=Aside0.mk (Kd.R_below (by (with_reducible repeat (first | apply Kd.R_alloc | apply Kd.R_drewN | apply Kd.R_drew));exact HO327.out) hb);have n4_:=Aside0.mk (Kd.R_below (by (with_reducible repeat (first | apply Kd.R_alloc | apply Kd.R_drewN | apply Kd.R_drew));exact HO330.out) hb);have n5_:=Aside0.mk (Kd.R_lower (Kd.R_new' (Kd.R_new' ho0 (Kd.R_lt (by (with_reducible repeat (first | apply Kd.R_alloc | apply Kd.R_drewN | apply Kd.R_drew));exact HO_8.out))) (Kd.R_lt (by (with_reducible repeat (first | apply Kd.R_alloc | apply Kd.R_drewN | apply Kd.R_drew));exact HO_13.out))) (below_size (by repeat (first | (with_reducible first | exact HB.out | apply below_alloc | apply pw_below_drewN | apply below_drew1) | exact HB.out))));have n6_:=Aside0.mk (below_step (by repeat (first | (with_reducible first | exact HB.out | apply below_alloc | apply pw_below_drewN | apply below_drew1) | exact HB.out)) hb);clear HO_8;clear HO_13;clear HO324;clear HO327;clear HO330;clear HB;have HO_8:=n0_;have HO_13:=n1_;have HO324:=n2_;have HO327:=n3_;have HO330:=n4_;have HO334:=n5_;have HB:=n6_;clear n0_ n1_ n2_ n3_ n4_ n5_ n6_;(try clear hb);(try clear hb2);(try clear hk);(try clear hi);(try clear ho0)))
               (try simp only [Act.put,sA_,s0_,s1_])
               go_cut [131] (fun v131 wc => ∃ (kq : Nat) (x131_83 : Bool),v131 = .bool x131_83 ∧ Aside0 (laws_FnExactLeftBehindContainers.j2 kq t320 t319 x131_83 = some r) ∧ Aside0 (kq ≤ kj52) ∧ Aside0 (Kd.R Kd.string 9 wc w.heap.size (fun _ => True) (.slice Ao85 t295.length co85) t320) ∧ Aside0 (Below w.heap.size w wc))
               case first =>
                have H:=HC84.out
                clear HC84
                replace H:=Option.bind_eq_some_iff.mp H
                obtain ⟨t335,A950,H⟩ := H
                replace H : (if t335 = true then (laws_FnExactLeftBehindContainers.j2 kj52 t320 t319 (t332 != t283)) else (laws_FnExactLeftBehindContainers.j2 kj52 t320 t319 true)) = some r:=H
                have A95:=Aside0.mk A950
                clear A950
                by_cases c96 : t335 = true
                ·subst c96
                 have H1 : (laws_FnExactLeftBehindContainers.j2 kj52 t320 t319 (t332 != t283)) = some r:=by rw [if_pos rfl] at H;exact H
                 clear H
                 have H:=H1
                 clear H1
                 have H':=Aside0.mk H
                 clear H
                 obtain ⟨Ao97,co97,eo97⟩ := Kd.R_slice HO334.out
                 subst eo97
                 obtain ⟨Ao98,co98,eo98⟩ := Kd.R_slice HO_8.out
                 subst eo98
                 go_wp2_with (first | ((with_reducible refine gate_callee (f:=45) rfl ?_);refine goesL_ (some 125) rfl rfl Try.func45 (by kernel_rfl) rfl #[.slice Ao97 t331.length co97, .slice Ao98 t282.length co98] rfl (by (try simp only [List.map_toArray,List.map_cons,List.map_nil]);first | done | rfl | (simp only [List.length_drop,List.length_take];rfl)) ?_;(with_reducible refine (laws_eqStringS.calls kj52 _ _ t331 _ _ t282 true _ ?side1 ?side2 ?side3 ?side4 A95.out).mono ?_);(case side1 => repeat (first | exact (Kd.R_reads' HO334.out).2.2 | (with_reducible refine Kd.C_alloc ?_ _) | (with_reducible refine Kd.C_drewN ?_ _) | (with_reducible refine Kd.C_drew ?_)));(case side2 => exact (Kd.R_reads' HO334.out).2.1);(case side3 => repeat (first | exact (Kd.R_reads' HO_8.out).2.2 | (with_reducible refine Kd.C_alloc ?_ _) | (with_reducible refine Kd.C_drewN ?_ _) | (with_reducible refine Kd.C_drew ?_)));(case side4 => exact (Kd.R_reads' HO_8.out).2.1);rintro e w' ⟨rfl,⟨nd,rfl⟩⟩;refine ⟨_,rfl, ?_⟩))
                 go_meet
                 case rel => exact ⟨_,((t332 != t283)),(by first | rfl | (simp;done) | (simp [*];done)),H',⟨by have:=HJ17.out;have:=HJ52.out;first | omega | exact Nat.le_refl _⟩,⟨by (with_reducible repeat (first | apply Kd.R_alloc | apply Kd.R_drewN | apply Kd.R_drew));exact Kd.R_mono HO_13.out (fun _ hk => trivial)⟩,⟨by repeat (first | (with_reducible first | exact HB.out | apply below_alloc | apply pw_below_drewN | apply below_drew1) | exact HB.out)⟩⟩
                ·replace c96:=Bool.eq_false_iff.mpr c96
                 subst c96
                 have H1 : (laws_FnExactLeftBehindContainers.j2 kj52 t320 t319 true) = some r:=by rw [if_neg (show ¬ (false = true) by decide)] at H;exact H
                 clear H
                 have H:=H1
                 clear H1
                 have H':=Aside0.mk H
                 clear H
                 obtain ⟨Ao99,co99,eo99⟩ := Kd.R_slice HO334.out
                 subst eo99
                 obtain ⟨Ao100,co100,eo100⟩ := Kd.R_slice HO_8.out
                 subst eo100
                 go_wp2_with (first | ((with_reducible refine gate_callee (f:=45) rfl ?_);refine goesL_ (some 125) rfl rfl Try.func45 (by kernel_rfl) rfl #[.slice Ao99 t331.length co99, .slice Ao100 t282.length co100] rfl (by (try simp only [List.map_toArray,List.map_cons,List.map_nil]);first | done | rfl | (simp only [List.length_drop,List.length_take];rfl)) ?_;(with_reducible refine (laws_eqStringS.calls kj52 _ _ t331 _ _ t282 false _ ?side1 ?side2 ?side3 ?side4 A95.out).mono ?_);(case side1 => repeat (first | exact (Kd.R_reads' HO334.out).2.2 | (with_reducible refine Kd.C_alloc ?_ _) | (with_reducible refine Kd.C_drewN ?_ _) | (with_reducible refine Kd.C_drew ?_)));(case side2 => exact (Kd.R_reads' HO334.out).2.1);(case side3 => repeat (first | exact (Kd.R_reads' HO_8.out).2.2 | (with_reducible refine Kd.C_alloc ?_ _) | (with_reducible refine Kd.C_drewN ?_ _) | (with_reducible refine Kd.C_drew ?_)));(case side4 => exact (Kd.R_reads' HO_8.out).2.1);rintro e w' ⟨rfl,⟨nd,rfl⟩⟩;refine ⟨_,rfl, ?_⟩))
                 go_meet
                 case rel => exact ⟨_,(true),(by first | rfl | (simp;done) | (simp [*];done)),H',⟨by have:=HJ17.out;have:=HJ52.out;first | omega | exact Nat.le_refl _⟩,⟨by (with_reducible repeat (first | apply Kd.R_alloc | apply Kd.R_drewN | apply Kd.R_drew));exact Kd.R_mono HO_13.out (fun _ hk => trivial)⟩,⟨by repeat (first | (with_reducible first | exact HB.out | apply below_alloc | apply pw_below_drewN | apply below_drew1) | exact HB.out)⟩⟩
               case rest =>
                clear HC84
                try clear c1
                try clear c2
                try clear p2
                try clear c3
                try clear c4
                try clear c4b0
                try clear c4b1
                try clear c6
                try clear c6b0
                try clear c7
                try clear c8
                try clear c8b0
                try clear c9
                try clear c11
                try clear c15
                try clear c17
                try clear c19
                try clear c20
                try clear c22
                try clear c23
                try clear c25
                try clear c26
                try clear c33
                try clear c34
                try clear c35
                try clear c40
                try clear c43
                try clear c44
                try clear c45
                try clear c46
                try clear c47
                try clear c49
                try clear c65
                try clear c65b0
                try clear c67
                try clear c72
                try clear c75
                try clear c75b0
                try clear c79
                try clear c79b0
                try clear c79b1
                try clear c96
                try clear p2
                obtain ⟨kq,x131_83,rfl,HA,HJ83,HO_13,HB⟩ := hcut
                have hl13_83:=(Kd.R_reads' HO_13.out).1
                rw [hl13_83] at HO_13
                (try simp only [hl13_83])
                cases kq with
                | zero => exact absurd HA.out (by simp [laws_FnExactLeftBehindContainers.j2])
                | succ kj83 =>
                 have H:=HA.out
                 clear HA
                 simp only [laws_FnExactLeftBehindContainers.j2] at H
                 by_cases c101 : x131_83 = true
                 ·subst c101
                  have H1 : (some false) = some r:=by rw [if_pos rfl] at H;exact H
                  clear H
                  have H:=H1
                  clear H1
                  obtain rfl:=Option.some.inj H
                  go_wp2
                  go_ret
                  exact ⟨by first | rfl | (simp [errW_none,errW_some] <;> rfl) | (simp [*,errW_none,errW_some] <;> rfl),by repeat (first | (with_reducible first | exact HB.out | apply below_alloc | apply pw_below_drewN | apply below_drew1) | exact HB.out)⟩
                 ·replace c101:=Bool.eq_false_iff.mpr c101
                  subst c101
                  have H1 : ((laws_heldStringS.f kj83 t320 1).bind fun t336 => (if t336 < 0 then (some false) else (if t336 = t319 then (some true) else (some false)))) = some r:=by rw [if_neg (show ¬ (false = true) by decide)] at H;exact H
                  clear H
                  have H:=H1
                  clear H1
                  replace H:=Option.bind_eq_some_iff.mp H
                  obtain ⟨t336,A1020,H⟩ := H
                  replace H : (if t336 < 0 then (some false) else (if t336 = t319 then (some true) else (some false))) = some r:=H
                  have A102:=Aside0.mk A1020
                  clear A1020
                  by_cases c103 : t336 < 0
                  ·rw [if_pos c103] at H
                   have c103b0 : decide (t336 < 0) = true:=decide_eq_true c103
                   clear c103
                   obtain rfl:=Option.some.inj H
                   go_wp2_with (first | ((with_reducible refine gate_callee (f:=47) rfl ?_);refine goesL_ (some 134) rfl rfl Try.func47 (by kernel_rfl) rfl #[.slice Ao85 t320.length co85, .int .i64 1] rfl (by (try simp only [List.map_toArray,List.map_cons,List.map_nil]);first | done | rfl | (simp only [List.length_drop,List.length_take];rfl)) ?_;(with_reducible refine (laws_heldStringS.calls kj83 _ _ t320 1 t336 _ ?side1 ?side2 A102.out).mono ?_);(case side1 => repeat (first | exact (Kd.R_reads' HO_13.out).2.2 | (with_reducible refine Kd.C_alloc ?_ _) | (with_reducible refine Kd.C_drewN ?_ _) | (with_reducible refine Kd.C_drew ?_)));(case side2 => exact (Kd.R_reads' HO_13.out).2.1);rintro e w104 ⟨rfl,hb⟩;refine ⟨_,rfl, ?_⟩;have n0_:=Aside0.mk (Kd.R_below (by (with_reducible repeat (first | apply Kd.R_alloc | apply Kd.R_drewN | apply Kd.R_drew));exact HO_13.out) hb);have n1_:=Aside0.mk (below_step (by repeat (first | (with_reducible first | exact HB.out | apply below_alloc | apply pw_below_drewN | apply below_drew1) | exact HB.out)) hb);clear HO_13;clear HB;have HO_13:=n0_;have HB:=n1_;clear n0_ n1_;(try clear hb);(try clear hb2);(try clear hk);(try clear hi)))
                   go_ret
                   exact ⟨by first | rfl | (simp [errW_none,errW_some] <;> rfl) | (simp [*,errW_none,errW_some] <;> rfl),by repeat (first | (with_reducible first | exact HB.out | apply below_alloc | apply pw_below_drewN | apply below_drew1) | exact HB.out)⟩
                  ·rw [if_neg c103] at H
                   have c103b0 : decide (t336 < 0) = false:=decide_eq_false c103
                   clear c103
                   by_cases c105 : t336 = t319
                   ·rw [if_pos c105] at H
                    have c105b0 : (t336 == t319) = true:=beq_iff_eq.mpr c105
                    have c105b1 : (t336 != t319) = false:=bne_eq_false_iff_eq.mpr c105
                    clear c105
                    obtain rfl:=Option.some.inj H
                    go_wp2_with (first | ((with_reducible refine gate_callee (f:=47) rfl ?_);refine goesL_ (some 134) rfl rfl Try.func47 (by kernel_rfl) rfl #[.slice Ao85 t320.length co85, .int .i64 1] rfl (by (try simp only [List.map_toArray,List.map_cons,List.map_nil]);first | done | rfl | (simp only [List.length_drop,List.length_take];rfl)) ?_;(with_reducible refine (laws_heldStringS.calls kj83 _ _ t320 1 t336 _ ?side1 ?side2 A102.out).mono ?_);(case side1 => repeat (first | exact (Kd.R_reads' HO_13.out).2.2 | (with_reducible refine Kd.C_alloc ?_ _) | (with_reducible refine Kd.C_drewN ?_ _) | (with_reducible refine Kd.C_drew ?_)));(case side2 => exact (Kd.R_reads' HO_13.out).2.1);rintro e w106 ⟨rfl,hb⟩;refine ⟨_,rfl, ?_⟩;have n0_:=Aside0.mk (Kd.R_below (by (with_reducible repeat (first | apply Kd.R_alloc | apply Kd.R_drewN | apply Kd.R_drew));exact HO_13.out) hb);have n1_:=Aside0.mk (below_step (by repeat (first | (with_reducible first | exact HB.out | apply below_alloc | apply pw_below_drewN | apply below_drew1) | exact HB.out)) hb);clear HO_13;clear HB;have HO_13:=n0_;have HB:=n1_;clear n0_ n1_;(try clear hb);(try clear hb2);(try clear hk);(try clear hi)))
                    go_ret
                    exact ⟨by first | rfl | (simp [errW_none,errW_some] <;> rfl) | (simp [*,errW_none,errW_some] <;> rfl),by repeat (first | (with_reducible first | exact HB.out | apply below_alloc | apply pw_below_drewN | apply below_drew1) | exact HB.out)⟩
                   ·rw [if_neg c105] at H
                    have c105b0 : (t336 == t319) = false:=beq_eq_false_iff_ne.mpr c105
                    have c105b1 : (t336 != t319) = true:=bne_iff_ne.mpr c105
                    obtain rfl:=Option.some.inj H
                    go_wp2_with (first | ((with_reducible refine gate_callee (f:=47) rfl ?_);refine goesL_ (some 134) rfl rfl Try.func47 (by kernel_rfl) rfl #[.slice Ao85 t320.length co85, .int .i64 1] rfl (by (try simp only [List.map_toArray,List.map_cons,List.map_nil]);first | done | rfl | (simp only [List.length_drop,List.length_take];rfl)) ?_;(with_reducible refine (laws_heldStringS.calls kj83 _ _ t320 1 t336 _ ?side1 ?side2 A102.out).mono ?_);(case side1 => repeat (first | exact (Kd.R_reads' HO_13.out).2.2 | (with_reducible refine Kd.C_alloc ?_ _) | (with_reducible refine Kd.C_drewN ?_ _) | (with_reducible refine Kd.C_drew ?_)));(case side2 => exact (Kd.R_reads' HO_13.out).2.1);rintro e w107 ⟨rfl,hb⟩;refine ⟨_,rfl, ?_⟩;have n0_:=Aside0.mk (Kd.R_below (by (with_reducible repeat (first | apply Kd.R_alloc | apply Kd.R_drewN | apply Kd.R_drew));exact HO_13.out) hb);have n1_:=Aside0.mk (below_step (by repeat (first | (with_reducible first | exact HB.out | apply below_alloc | apply pw_below_drewN | apply below_drew1) | exact HB.out)) hb);clear HO_13;clear HB;have HO_13:=n0_;have HB:=n1_;clear n0_ n1_;(try clear hb);(try clear hb2);(try clear hk);(try clear hi)))
                    go_ret
                    exact ⟨by first | rfl | (simp [errW_none,errW_some] <;> rfl) | (simp [*,errW_none,errW_some] <;> rfl),by repeat (first | (with_reducible first | exact HB.out | apply below_alloc | apply pw_below_drewN | apply below_drew1) | exact HB.out)⟩
              ·rw [if_neg c79] at H
               have c79b0 : (t321 == t319) = false:=beq_eq_false_iff_ne.mpr c79
               have c79b1 : (t321 != t319) = true:=bne_iff_ne.mpr c79
               obtain rfl:=Option.some.inj H
               obtain ⟨Ao108,co108,eo108⟩ := Kd.R_slice HO_13.out
               subst eo108
               go_wp2_with (first | ((with_reducible refine gate_callee (f:=46) rfl ?_);refine goesL_ (some 104) rfl rfl Try.func46 (by kernel_rfl) rfl #[.slice Ao108 t295.length co108, .int .i64 1] rfl (by (try simp only [List.map_toArray,List.map_cons,List.map_nil]);first | done | rfl | (simp only [List.length_drop,List.length_take];rfl)) ?_;(with_reducible refine (laws_markStringS.calls kj52 (fun k_ => some k_ = (.slice Ao108 t295.length co108 : Value).ownBlock) (.slice Ao108 t295.length co108) t295 1 t319 t320 w _ ?side1 ?side2 A73.out).mono ?_);(case side1 => repeat (first | (with_reducible first | exact HB.out | apply below_alloc | apply pw_below_drewN | apply below_drew1) | exact HB.out));(case side2 => exact Kd.R_tight rfl HO_13.out);rintro e w109 ⟨rfl,hy0,hb,hkp⟩;refine ⟨_,rfl, ?_⟩;have n0_:=Aside0.mk (Kd.R_mono (ok':=fun k_ => some k_ ≠ (.slice Ao108 t295.length co108 : Value).ownBlock) (Kd.R_keptB (HO_8.out) hkp (fun k_ hk_ hs_ => (hk_) hs_)) (fun k_ hk_ => hk_.1));have n1_:=Aside0.mk (Kd.R_reok rfl hy0 (fun k_ e_ => HO_13.out.1 k_ e_));have n2_:=Aside0.mk (hb);clear HO_8;clear HO_13;clear HB;have HO_8:=n0_;have HO_13:=n1_;have HB:=n2_;clear n0_ n1_ n2_;(try clear hb);(try clear hkp);(try clear hy0)) | ((with_reducible refine gate_callee (f:=47) rfl ?_);refine goesL_ (some 107) rfl rfl Try.func47 (by kernel_rfl) rfl #[.slice Ao108 t320.length co108, .int .i64 1] rfl (by (try simp only [List.map_toArray,List.map_cons,List.map_nil]);first | done | (rw [show t320.length = t295.length from (Kd.R_reads' HO_13.out).1.symm] <;> rfl) | rfl | (simp only [List.length_drop,List.length_take];rfl)) ?_;(with_reducible refine (laws_heldStringS.calls kj52 _ _ t320 1 t321 _ ?side1 ?side2 A74.out).mono ?_);(case side1 => repeat (first | exact (Kd.R_reads' HO_13.out).2.2 | (with_reducible refine Kd.C_alloc ?_ _) | (with_reducible refine Kd.C_drewN ?_ _) | (with_reducible refine Kd.C_drew ?_)));(case side2 => rw [show t320.length = t295.length from (Kd.R_reads' HO_13.out).1.symm];exact (Kd.R_reads' HO_13.out).2.1);rintro e w110 ⟨rfl,hb⟩;refine ⟨_,rfl, ?_⟩;have n0_:=Aside0.mk (Kd.R_below (by (with_reducible repeat (first | apply Kd.R_alloc | apply Kd.R_drewN | apply Kd.R_drew));exact HO_8.out) hb);have n1_:=Aside0.mk (Kd.R_below (by (with_reducible repeat (first | apply Kd.R_alloc | apply Kd.R_drewN | apply Kd.R_drew));exact HO_13.out) hb);have n2_:=Aside0.mk (below_step (by repeat (first | (with_reducible first | exact HB.out | apply below_alloc | apply pw_below_drewN | apply below_drew1) | exact HB.out)) hb);clear HO_8;clear HO_13;clear HB;have HO_8:=n0_;have HO_13:=n1_;have HB:=n2_;clear n0_ n1_ n2_;(try clear hb);(try clear hb2);(try clear hk);(try clear hi)))
               go_ret
               exact ⟨by first | rfl | (simp [errW_none,errW_some] <;> rfl) | (simp [*,errW_none,errW_some] <;> rfl),by repeat (first | (with_reducible first | exact HB.out | apply below_alloc | apply pw_below_drewN | apply below_drew1) | exact HB.out)⟩
         ·replace c49:=Bool.eq_false_iff.mpr c49
          subst c49
          have H1 : (some false) = some r:=by rw [if_neg (show ¬ (false = true) by decide)] at H;exact H
          clear H
          have H:=H1
          clear H1
          obtain rfl:=Option.some.inj H
          go_wp2_with (first | ((with_reducible refine gate_callee (f:=17) rfl ?_);refine goesL_ (some 67) rfl rfl Try.func17 (by kernel_rfl) rfl #[.slice A0 l0.length c0] rfl (by (try simp only [List.map_toArray,List.map_cons,List.map_nil]);first | done | rfl | (simp only [List.length_drop,List.length_take];rfl)) ?_;(with_reducible refine (laws_toWagonS.calls kj17 _ _ l0 t300 _ ?side1 ?side2 A41.out).mono ?_);(case side1 => repeat (first | exact (Kd.C_below HR0.out HB.out) | (with_reducible refine Kd.C_alloc ?_ _) | (with_reducible refine Kd.C_drewN ?_ _) | (with_reducible refine Kd.C_drew ?_)));(case side2 => exact HC0.out);rintro e w111 ⟨v301,rfl,ho0,hb⟩;refine ⟨_,rfl, ?_⟩;have n0_:=Aside0.mk (Kd.R_below (by (with_reducible repeat (first | apply Kd.R_alloc | apply Kd.R_drewN | apply Kd.R_drew));exact HO_8.out) hb);have n1_:=Aside0.mk (Kd.R_elder' (by (with_reducible repeat (first | apply Kd.R_alloc | apply Kd.R_drewN | apply Kd.R_drew));exact HO_10.out) (Kd.R_base ho0) hb);have n2_:=Aside0.mk (Kd.R_below (by (with_reducible repeat (first | apply Kd.R_alloc | apply Kd.R_drewN | apply Kd.R_drew));exact HO_11.out) hb);have n3_:=Aside0.mk (Kd.R_below (by (with_reducible repeat (first | apply Kd.R_alloc | apply Kd.R_drewN | apply Kd.R_drew));exact HO_12.out) hb);have n4_:=Aside0.mk (Kd.R_below (by (with_reducible repeat (first | apply Kd.R_alloc | apply Kd.R_drewN | apply Kd.R_drew));exact HO_13.out) hb);have n5_:=Aside0.mk (Kd.R_lower (Kd.R_new' ho0 (Kd.R_lt (by (with_reducible repeat (first | apply Kd.R_alloc | apply Kd.R_drewN | apply Kd.R_drew));exact HO_10.out))) (below_size (by repeat (first | (with_reducible first | exact HB.out | apply below_alloc | apply pw_below_drewN | apply below_drew1) | exact HB.out))));have n6_:=Aside0.mk (below_step (by repeat (first | (with_reducible first | exact HB.out | apply below_alloc | apply pw_below_drewN | apply below_drew1) | exact HB.out)) hb);clear HO_8;clear HO_10;clear HO_11;clear HO_12;clear HO_13;clear HB;have HO_8:=n0_;have HO_10:=n1_;have HO_11:=n2_;have HO_12:=n3_;have HO_13:=n4_;have HO302:=n5_;have HB:=n6_;clear n0_ n1_ n2_ n3_ n4_ n5_ n6_;(try clear hb);(try clear hb2);(try clear hk);(try clear hi);(try clear ho0);obtain ⟨Ao112,co112,eo112⟩ := Kd.R_slice HO302.out;subst eo112) | ((with_reducible refine gate_callee (f:=19) rfl ?_);refine goesL_ (some 68) rfl rfl Try.func19 (by kernel_rfl) rfl #[.slice Ao30 t286.length co30, .slice Ao112 t300.length co112] rfl (by (try simp only [List.map_toArray,List.map_cons,List.map_nil]);first | done | rfl | (simp only [List.length_drop,List.length_take];rfl)) ?_;(with_reducible refine (laws_eqWagonS.calls kj17 _ _ t286 _ _ t300 true _ ?side1 ?side2 ?side3 ?side4 A42.out).mono ?_);(case side1 => repeat (first | exact (Kd.R_reads' HO_10.out).2.2 | (with_reducible refine Kd.C_alloc ?_ _) | (with_reducible refine Kd.C_drewN ?_ _) | (with_reducible refine Kd.C_drew ?_)));(case side2 => exact (Kd.R_reads' HO_10.out).2.1);(case side3 => repeat (first | exact (Kd.R_reads' HO302.out).2.2 | (with_reducible refine Kd.C_alloc ?_ _) | (with_reducible refine Kd.C_drewN ?_ _) | (with_reducible refine Kd.C_drew ?_)));(case side4 => exact (Kd.R_reads' HO302.out).2.1);rintro e w113 ⟨rfl,hb⟩;refine ⟨_,rfl, ?_⟩;have n0_:=Aside0.mk (Kd.R_below (by (with_reducible repeat (first | apply Kd.R_alloc | apply Kd.R_drewN | apply Kd.R_drew));exact HO_8.out) hb);have n1_:=Aside0.mk (Kd.R_below (by (with_reducible repeat (first | apply Kd.R_alloc | apply Kd.R_drewN | apply Kd.R_drew));exact HO_10.out) hb);have n2_:=Aside0.mk (Kd.R_below (by (with_reducible repeat (first | apply Kd.R_alloc | apply Kd.R_drewN | apply Kd.R_drew));exact HO_11.out) hb);have n3_:=Aside0.mk (Kd.R_below (by (with_reducible repeat (first | apply Kd.R_alloc | apply Kd.R_drewN | apply Kd.R_drew));exact HO_12.out) hb);have n4_:=Aside0.mk (Kd.R_below (by (with_reducible repeat (first | apply Kd.R_alloc | apply Kd.R_drewN | apply Kd.R_drew));exact HO_13.out) hb);have n5_:=Aside0.mk (Kd.R_below (by (with_reducible repeat (first | apply Kd.R_alloc | apply Kd.R_drewN | apply Kd.R_drew));exact HO302.out) hb);have n6_:=Aside0.mk (below_step (by repeat (first | (with_reducible first | exact HB.out | apply below_alloc | apply pw_below_drewN | apply below_drew1) | exact HB.out)) hb);clear HO_8;clear HO_10;clear HO_11;clear HO_12;clear HO_13;clear HO302;clear HB;have HO_8:=n0_;have HO_10:=n1_;have HO_11:=n2_;have HO_12:=n3_;have HO_13:=n4_;have HO302:=n5_;have HB:=n6_;clear n0_ n1_ n2_ n3_ n4_ n5_ n6_;(try clear hb);(try clear hb2);(try clear hk);(try clear hi)) | ((with_reducible refine gate_callee (f:=22) rfl ?_);refine goesL_ (some 72) rfl rfl Try.func22 (by kernel_rfl) rfl #[.slice A1 l1.length c1] rfl (by (try simp only [List.map_toArray,List.map_cons,List.map_nil]);first | done | rfl | (simp only [List.length_drop,List.length_take];rfl)) ?_;(with_reducible refine (laws_toContainerS.calls kj17 _ _ l1 t304 _ ?side1 ?side2 A44.out).mono ?_);(case side1 => repeat (first | exact (Kd.C_below HR1.out HB.out) | (with_reducible refine Kd.C_alloc ?_ _) | (with_reducible refine Kd.C_drewN ?_ _) | (with_reducible refine Kd.C_drew ?_)));(case side2 => exact HC1.out);rintro e w114 ⟨v305,rfl,ho0,hb⟩;refine ⟨_,rfl, ?_⟩;have n0_:=Aside0.mk (Kd.R_below (by (with_reducible repeat (first | apply Kd.R_alloc | apply Kd.R_drewN | apply Kd.R_drew));exact HO_8.out) hb);have n1_:=Aside0.mk (Kd.R_below (by (with_reducible repeat (first | apply Kd.R_alloc | apply Kd.R_drewN | apply Kd.R_drew));exact HO_10.out) hb);have n2_:=Aside0.mk (Kd.R_elder' (by (with_reducible repeat (first | apply Kd.R_alloc | apply Kd.R_drewN | apply Kd.R_drew));exact HO_11.out) (Kd.R_base ho0) hb);have n3_:=Aside0.mk (Kd.R_below (by (with_reducible repeat (first | apply Kd.R_alloc | apply Kd.R_drewN | apply Kd.R_drew));exact HO_12.out) hb);have n4_:=Aside0.mk (Kd.R_below (by (with_reducible repeat (first | apply Kd.R_alloc | apply Kd.R_drewN | apply Kd.R_drew));exact HO_13.out) hb);have n5_:=Aside0.mk (Kd.R_below (by (with_reducible repeat (first | apply Kd.R_alloc | apply Kd.R_drewN | apply Kd.R_drew));exact HO302.out) hb);have n6_:=Aside0.mk (Kd.R_lower (Kd.R_new' ho0 (Kd.R_lt (by (with_reducible repeat (first | apply Kd.R_alloc | apply Kd.R_drewN | apply Kd.R_drew));exact HO_11.out))) (below_size (by repeat (first | (with_reducible first | exact HB.out | apply below_alloc | apply pw_below_drewN | apply below_drew1) | exact HB.out))));have n7_:=Aside0.mk (below_step (by repeat (first | (with_reducible first | exact HB.out | apply below_alloc | apply pw_below_drewN | apply below_drew1) | exact HB.out)) hb);clear HO_8;clear HO_10;clear HO_11;clear HO_12;clear HO_13;clear HO302;clear HB;have HO_8:=n0_;have HO_10:=n1_;have HO_11:=n2_;have HO_12:=n3_;have HO_13:=n4_;have HO302:=n5_;have HO306:=n6_;have HB:=n7_;clear n0_ n1_ n2_ n3_ n4_ n5_ n6_ n7_;(try clear hb);(try clear hb2);(try clear hk);(try clear hi);(try clear ho0);obtain ⟨Ao115,co115,eo115⟩ := Kd.R_slice HO306.out;subst eo115) | ((with_reducible refine gate_callee (f:=25) rfl ?_);refine goesL_ (some 73) rfl rfl Try.func25 (by kernel_rfl) rfl #[.slice Ao31 t289.length co31, .slice Ao115 t304.length co115] rfl (by (try simp only [List.map_toArray,List.map_cons,List.map_nil]);first | done | rfl | (simp only [List.length_drop,List.length_take];rfl)) ?_;(with_reducible refine (laws_eqContainerS.calls kj17 _ _ t289 _ _ t304 true _ ?side1 ?side2 ?side3 ?side4 A45.out).mono ?_);(case side1 => repeat (first | exact (Kd.R_reads' HO_11.out).2.2 | (with_reducible refine Kd.C_alloc ?_ _) | (with_reducible refine Kd.C_drewN ?_ _) | (with_reducible refine Kd.C_drew ?_)));(case side2 => exact (Kd.R_reads' HO_11.out).2.1);(case side3 => repeat (first | exact (Kd.R_reads' HO306.out).2.2 | (with_reducible refine Kd.C_alloc ?_ _) | (with_reducible refine Kd.C_drewN ?_ _) | (with_reducible refine Kd.C_drew ?_)));(case side4 => exact (Kd.R_reads' HO306.out).2.1);rintro e w116 ⟨rfl,hb⟩;refine ⟨_,rfl, ?_⟩;have n0_:=Aside0.mk (Kd.R_below (by (with_reducible repeat (first | apply Kd.R_alloc | apply Kd.R_drewN | apply Kd.R_drew));exact HO_8.out) hb);have n1_:=Aside0.mk (Kd.R_below (by (with_reducible repeat (first | apply Kd.R_alloc | apply Kd.R_drewN | apply Kd.R_drew));exact HO_10.out) hb);have n2_:=Aside0.mk (Kd.R_below (by (with_reducible repeat (first | apply Kd.R_alloc | apply Kd.R_drewN | apply Kd.R_drew));exact HO_11.out) hb);have n3_:=Aside0.mk (Kd.R_below (by (with_reducible repeat (first | apply Kd.R_alloc | apply Kd.R_drewN | apply Kd.R_drew));exact HO_12.out) hb);have n4_:=Aside0.mk (Kd.R_below (by (with_reducible repeat (first | apply Kd.R_alloc | apply Kd.R_drewN | apply Kd.R_drew));exact HO_13.out) hb);have n5_:=Aside0.mk (Kd.R_below (by (with_reducible repeat (first | apply Kd.R_alloc | apply Kd.R_drewN | apply Kd.R_drew));exact HO302.out) hb);have n6_:=Aside0.mk (Kd.R_below (by (with_reducible repeat (first | apply Kd.R_alloc | apply Kd.R_drewN | apply Kd.R_drew));exact HO306.out) hb);have n7_:=Aside0.mk (below_step (by repeat (first | (with_reducible first | exact HB.out | apply below_alloc | apply pw_below_drewN | apply below_drew1) | exact HB.out)) hb);clear HO_8;clear HO_10;clear HO_11;clear HO_12;clear HO_13;clear HO302;clear HO306;clear HB;have HO_8:=n0_;have HO_10:=n1_;have HO_11:=n2_;have HO_12:=n3_;have HO_13:=n4_;have HO302:=n5_;have HO306:=n6_;have HB:=n7_;clear n0_ n1_ n2_ n3_ n4_ n5_ n6_ n7_;(try clear hb);(try clear hb2);(try clear hk);(try clear hi)) | ((with_reducible refine gate_callee (f:=23) rfl ?_);refine goesL_ (some 77) rfl rfl Try.func23 (by kernel_rfl) rfl #[.slice A2 l2.length c2] rfl (by (try simp only [List.map_toArray,List.map_cons,List.map_nil]);first | done | rfl | (simp only [List.length_drop,List.length_take];rfl)) ?_;(with_reducible refine (laws_toIntS.calls kj17 _ _ l2 t308 _ ?side1 ?side2 A47.out).mono ?_);(case side1 => repeat (first | exact (Kd.C_below HR2.out HB.out) | (with_reducible refine Kd.C_alloc ?_ _) | (with_reducible refine Kd.C_drewN ?_ _) | (with_reducible refine Kd.C_drew ?_)));(case side2 => exact HC2.out);rintro e w117 ⟨v309,rfl,ho0,hb⟩;refine ⟨_,rfl, ?_⟩;have n0_:=Aside0.mk (Kd.R_below (by (with_reducible repeat (first | apply Kd.R_alloc | apply Kd.R_drewN | apply Kd.R_drew));exact HO_8.out) hb);have n1_:=Aside0.mk (Kd.R_below (by (with_reducible repeat (first | apply Kd.R_alloc | apply Kd.R_drewN | apply Kd.R_drew));exact HO_10.out) hb);have n2_:=Aside0.mk (Kd.R_below (by (with_reducible repeat (first | apply Kd.R_alloc | apply Kd.R_drewN | apply Kd.R_drew));exact HO_11.out) hb);have n3_:=Aside0.mk (Kd.R_elder' (by (with_reducible repeat (first | apply Kd.R_alloc | apply Kd.R_drewN | apply Kd.R_drew));exact HO_12.out) (Kd.R_base ho0) hb);have n4_:=Aside0.mk (Kd.R_below (by (with_reducible repeat (first | apply Kd.R_alloc | apply Kd.R_drewN | apply Kd.R_drew));exact HO_13.out) hb);have n5_:=Aside0.mk (Kd.R_below (by (with_reducible repeat (first | apply Kd.R_alloc | apply Kd.R_drewN | apply Kd.R_drew));exact HO302.out) hb);have n6_:=Aside0.mk (Kd.R_below (by (with_reducible repeat (first | apply Kd.R_alloc | apply Kd.R_drewN | apply Kd.R_drew));exact HO306.out) hb);have n7_:=Aside0.mk (Kd.R_lower (Kd.R_new' ho0 (Kd.R_lt (by (with_reducible repeat (first | apply Kd.R_alloc | apply Kd.R_drewN | apply Kd.R_drew));exact HO_12.out))) (below_size (by repeat (first | (with_reducible first | exact HB.out | apply below_alloc | apply pw_below_drewN | apply below_drew1) | exact HB.out))));have n8_:=Aside0.mk (below_step (by repeat (first | (with_reducible first | exact HB.out | apply below_alloc | apply pw_below_drewN | apply below_drew1) | exact HB.out)) hb);clear HO_8;clear HO_10;clear HO_11;clear HO_12;clear HO_13;clear HO302;clear HO306;clear HB;have HO_8:=n0_;have HO_10:=n1_;have HO_11:=n2_;have HO_12:=n3_;have HO_13:=n4_;have HO302:=n5_;have HO306:=n6_;have HO310:=n7_;have HB:=n8_;clear n0_ n1_ n2_ n3_ n4_ n5_ n6_ n7_ n8_;(try clear hb);(try clear hb2);(try clear hk);(try clear hi);(try clear ho0);obtain ⟨Ao118,co118,eo118⟩ := Kd.R_slice HO310.out;subst eo118) | ((with_reducible refine gate_callee (f:=26) rfl ?_);refine goesL_ (some 78) rfl rfl Try.func26 (by kernel_rfl) rfl #[.slice Ao32 t292.length co32, .slice Ao118 t308.length co118] rfl (by (try simp only [List.map_toArray,List.map_cons,List.map_nil]);first | done | rfl | (simp only [List.length_drop,List.length_take];rfl)) ?_;(with_reducible refine (laws_eqIntS.calls kj17 _ _ t292 _ _ t308 false _ ?side1 ?side2 ?side3 ?side4 A48.out).mono ?_);(case side1 => repeat (first | exact (Kd.R_reads' HO_12.out).2.2 | (with_reducible refine Kd.C_alloc ?_ _) | (with_reducible refine Kd.C_drewN ?_ _) | (with_reducible refine Kd.C_drew ?_)));(case side2 => exact (Kd.R_reads' HO_12.out).2.1);(case side3 => repeat (first | exact (Kd.R_reads' HO310.out).2.2 | (with_reducible refine Kd.C_alloc ?_ _) | (with_reducible refine Kd.C_drewN ?_ _) | (with_reducible refine Kd.C_drew ?_)));(case side4 => exact (Kd.R_reads' HO310.out).2.1);rintro e w' ⟨rfl,⟨nd,rfl⟩⟩;refine ⟨_,rfl, ?_⟩))
          go_ret
          exact ⟨by first | rfl | (simp [errW_none,errW_some] <;> rfl) | (simp [*,errW_none,errW_some] <;> rfl),by repeat (first | (with_reducible first | exact HB.out | apply below_alloc | apply pw_below_drewN | apply below_drew1) | exact HB.out)⟩
        ·replace c46:=Bool.eq_false_iff.mpr c46
         subst c46
         have H1 : (some false) = some r:=by rw [if_neg (show ¬ (false = true) by decide)] at H;exact H
         clear H
         have H:=H1
         clear H1
         obtain rfl:=Option.some.inj H
         go_wp2_with (first | ((with_reducible refine gate_callee (f:=17) rfl ?_);refine goesL_ (some 67) rfl rfl Try.func17 (by kernel_rfl) rfl #[.slice A0 l0.length c0] rfl (by (try simp only [List.map_toArray,List.map_cons,List.map_nil]);first | done | rfl | (simp only [List.length_drop,List.length_take];rfl)) ?_;(with_reducible refine (laws_toWagonS.calls kj17 _ _ l0 t300 _ ?side1 ?side2 A41.out).mono ?_);(case side1 => repeat (first | exact (Kd.C_below HR0.out HB.out) | (with_reducible refine Kd.C_alloc ?_ _) | (with_reducible refine Kd.C_drewN ?_ _) | (with_reducible refine Kd.C_drew ?_)));(case side2 => exact HC0.out);rintro e w119 ⟨v301,rfl,ho0,hb⟩;refine ⟨_,rfl, ?_⟩;have n0_:=Aside0.mk (Kd.R_below (by (with_reducible repeat (first | apply Kd.R_alloc | apply Kd.R_drewN | apply Kd.R_drew));exact HO_8.out) hb);have n1_:=Aside0.mk (Kd.R_elder' (by (with_reducible repeat (first | apply Kd.R_alloc | apply Kd.R_drewN | apply Kd.R_drew));exact HO_10.out) (Kd.R_base ho0) hb);have n2_:=Aside0.mk (Kd.R_below (by (with_reducible repeat (first | apply Kd.R_alloc | apply Kd.R_drewN | apply Kd.R_drew));exact HO_11.out) hb);have n3_:=Aside0.mk (Kd.R_below (by (with_reducible repeat (first | apply Kd.R_alloc | apply Kd.R_drewN | apply Kd.R_drew));exact HO_12.out) hb);have n4_:=Aside0.mk (Kd.R_below (by (with_reducible repeat (first | apply Kd.R_alloc | apply Kd.R_drewN | apply Kd.R_drew));exact HO_13.out) hb);have n5_:=Aside0.mk (Kd.R_lower (Kd.R_new' ho0 (Kd.R_lt (by (with_reducible repeat (first | apply Kd.R_alloc | apply Kd.R_drewN | apply Kd.R_drew));exact HO_10.out))) (below_size (by repeat (first | (with_reducible first | exact HB.out | apply below_alloc | apply pw_below_drewN | apply below_drew1) | exact HB.out))));have n6_:=Aside0.mk (below_step (by repeat (first | (with_reducible first | exact HB.out | apply below_alloc | apply pw_below_drewN | apply below_drew1) | exact HB.out)) hb);clear HO_8;clear HO_10;clear HO_11;clear HO_12;clear HO_13;clear HB;have HO_8:=n0_;have HO_10:=n1_;have HO_11:=n2_;have HO_12:=n3_;have HO_13:=n4_;have HO302:=n5_;have HB:=n6_;clear n0_ n1_ n2_ n3_ n4_ n5_ n6_;(try clear hb);(try clear hb2);(try clear hk);(try clear hi);(try clear ho0);obtain ⟨Ao120,co120,eo120⟩ := Kd.R_slice HO302.out;subst eo120) | ((with_reducible refine gate_callee (f:=19) rfl ?_);refine goesL_ (some 68) rfl rfl Try.func19 (by kernel_rfl) rfl #[.slice Ao30 t286.length co30, .slice Ao120 t300.length co120] rfl (by (try simp only [List.map_toArray,List.map_cons,List.map_nil]);first | done | rfl | (simp only [List.length_drop,List.length_take];rfl)) ?_;(with_reducible refine (laws_eqWagonS.calls kj17 _ _ t286 _ _ t300 true _ ?side1 ?side2 ?side3 ?side4 A42.out).mono ?_);(case side1 => repeat (first | exact (Kd.R_reads' HO_10.out).2.2 | (with_reducible refine Kd.C_alloc ?_ _) | (with_reducible refine Kd.C_drewN ?_ _) | (with_reducible refine Kd.C_drew ?_)));(case side2 => exact (Kd.R_reads' HO_10.out).2.1);(case side3 => repeat (first | exact (Kd.R_reads' HO302.out).2.2 | (with_reducible refine Kd.C_alloc ?_ _) | (with_reducible refine Kd.C_drewN ?_ _) | (with_reducible refine Kd.C_drew ?_)));(case side4 => exact (Kd.R_reads' HO302.out).2.1);rintro e w121 ⟨rfl,hb⟩;refine ⟨_,rfl, ?_⟩;have n0_:=Aside0.mk (Kd.R_below (by (with_reducible repeat (first | apply Kd.R_alloc | apply Kd.R_drewN | apply Kd.R_drew));exact HO_8.out) hb);have n1_:=Aside0.mk (Kd.R_below (by (with_reducible repeat (first | apply Kd.R_alloc | apply Kd.R_drewN | apply Kd.R_drew));exact HO_10.out) hb);have n2_:=Aside0.mk (Kd.R_below (by (with_reducible repeat (first | apply Kd.R_alloc | apply Kd.R_drewN | apply Kd.R_drew));exact HO_11.out) hb);have n3_:=Aside0.mk (Kd.R_below (by (with_reducible repeat (first | apply Kd.R_alloc | apply Kd.R_drewN | apply Kd.R_drew));exact HO_12.out) hb);have n4_:=Aside0.mk (Kd.R_below (by (with_reducible repeat (first | apply Kd.R_alloc | apply Kd.R_drewN | apply Kd.R_drew));exact HO_13.out) hb);have n5_:=Aside0.mk (Kd.R_below (by (with_reducible repeat (first | apply Kd.R_alloc | apply Kd.R_drewN | apply Kd.R_drew));exact HO302.out) hb);have n6_:=Aside0.mk (below_step (by repeat (first | (with_reducible first | exact HB.out | apply below_alloc | apply pw_below_drewN | apply below_drew1) | exact HB.out)) hb);clear HO_8;clear HO_10;clear HO_11;clear HO_12;clear HO_13;clear HO302;clear HB;have HO_8:=n0_;have HO_10:=n1_;have HO_11:=n2_;have HO_12:=n3_;have HO_13:=n4_;have HO302:=n5_;have HB:=n6_;clear n0_ n1_ n2_ n3_ n4_ n5_ n6_;(try clear hb);(try clear hb2);(try clear hk);(try clear hi)) | ((with_reducible refine gate_callee (f:=22) rfl ?_);refine goesL_ (some 72) rfl rfl Try.func22 (by kernel_rfl) rfl #[.slice A1 l1.length c1] rfl (by (try simp only [List.map_toArray,List.map_cons,List.map_nil]);first | done | rfl | (simp only [List.length_drop,List.length_take];rfl)) ?_;(with_reducible refine (laws_toContainerS.calls kj17 _ _ l1 t304 _ ?side1 ?side2 A44.out).mono ?_);(case side1 => repeat (first | exact (Kd.C_below HR1.out HB.out) | (with_reducible refine Kd.C_alloc ?_ _) | (with_reducible refine Kd.C_drewN ?_ _) | (with_reducible refine Kd.C_drew ?_)));(case side2 => exact HC1.out);rintro e w122 ⟨v305,rfl,ho0,hb⟩;refine ⟨_,rfl, ?_⟩;have n0_:=Aside0.mk (Kd.R_below (by (with_reducible repeat (first | apply Kd.R_alloc | apply Kd.R_drewN | apply Kd.R_drew));exact HO_8.out) hb);have n1_:=Aside0.mk (Kd.R_below (by (with_reducible repeat (first | apply Kd.R_alloc | apply Kd.R_drewN | apply Kd.R_drew));exact HO_10.out) hb);have n2_:=Aside0.mk (Kd.R_elder' (by (with_reducible repeat (first | apply Kd.R_alloc | apply Kd.R_drewN | apply Kd.R_drew));exact HO_11.out) (Kd.R_base ho0) hb);have n3_:=Aside0.mk (Kd.R_below (by (with_reducible repeat (first | apply Kd.R_alloc | apply Kd.R_drewN | apply Kd.R_drew));exact HO_12.out) hb);have n4_:=Aside0.mk (Kd.R_below (by (with_reducible repeat (first | apply Kd.R_alloc | apply Kd.R_drewN | apply Kd.R_drew));exact HO_13.out) hb);have n5_:=Aside0.mk (Kd.R_below (by (with_reducible repeat (first | apply Kd.R_alloc | apply Kd.R_drewN | apply Kd.R_drew));exact HO302.out) hb);have n6_:=Aside0.mk (Kd.R_lower (Kd.R_new' ho0 (Kd.R_lt (by (with_reducible repeat (first | apply Kd.R_alloc | apply Kd.R_drewN | apply Kd.R_drew));exact HO_11.out))) (below_size (by repeat (first | (with_reducible first | exact HB.out | apply below_alloc | apply pw_below_drewN | apply below_drew1) | exact HB.out))));have n7_:=Aside0.mk (below_step (by repeat (first | (with_reducible first | exact HB.out | apply below_alloc | apply pw_below_drewN | apply below_drew1) | exact HB.out)) hb);clear HO_8;clear HO_10;clear HO_11;clear HO_12;clear HO_13;clear HO302;clear HB;have HO_8:=n0_;have HO_10:=n1_;have HO_11:=n2_;have HO_12:=n3_;have HO_13:=n4_;have HO302:=n5_;have HO306:=n6_;have HB:=n7_;clear n0_ n1_ n2_ n3_ n4_ n5_ n6_ n7_;(try clear hb);(try clear hb2);(try clear hk);(try clear hi);(try clear ho0);obtain ⟨Ao123,co123,eo123⟩ := Kd.R_slice HO306.out;subst eo123) | ((with_reducible refine gate_callee (f:=25) rfl ?_);refine goesL_ (some 73) rfl rfl Try.func25 (by kernel_rfl) rfl #[.slice Ao31 t289.length co31, .slice Ao123 t304.length co123] rfl (by (try simp only [List.map_toArray,List.map_cons,List.map_nil]);first | done | rfl | (simp only [List.length_drop,List.length_take];rfl)) ?_;(with_reducible refine (laws_eqContainerS.calls kj17 _ _ t289 _ _ t304 false _ ?side1 ?side2 ?side3 ?side4 A45.out).mono ?_);(case side1 => repeat (first | exact (Kd.R_reads' HO_11.out).2.2 | (with_reducible refine Kd.C_alloc ?_ _) | (with_reducible refine Kd.C_drewN ?_ _) | (with_reducible refine Kd.C_drew ?_)));(case side2 => exact (Kd.R_reads' HO_11.out).2.1);(case side3 => repeat (first | exact (Kd.R_reads' HO306.out).2.2 | (with_reducible refine Kd.C_alloc ?_ _) | (with_reducible refine Kd.C_drewN ?_ _) | (with_reducible refine Kd.C_drew ?_)));(case side4 => exact (Kd.R_reads' HO306.out).2.1);rintro e w124 ⟨rfl,hb⟩;refine ⟨_,rfl, ?_⟩;have n0_:=Aside0.mk (Kd.R_below (by (with_reducible repeat (first | apply Kd.R_alloc | apply Kd.R_drewN | apply Kd.R_drew));exact HO_8.out) hb);have n1_:=Aside0.mk (Kd.R_below (by (with_reducible repeat (first | apply Kd.R_alloc | apply Kd.R_drewN | apply Kd.R_drew));exact HO_10.out) hb);have n2_:=Aside0.mk (Kd.R_below (by (with_reducible repeat (first | apply Kd.R_alloc | apply Kd.R_drewN | apply Kd.R_drew));exact HO_11.out) hb);have n3_:=Aside0.mk (Kd.R_below (by (with_reducible repeat (first | apply Kd.R_alloc | apply Kd.R_drewN | apply Kd.R_drew));exact HO_12.out) hb);have n4_:=Aside0.mk (Kd.R_below (by (with_reducible repeat (first | apply Kd.R_alloc | apply Kd.R_drewN | apply Kd.R_drew));exact HO_13.out) hb);have n5_:=Aside0.mk (Kd.R_below (by (with_reducible repeat (first | apply Kd.R_alloc | apply Kd.R_drewN | apply Kd.R_drew));exact HO302.out) hb);have n6_:=Aside0.mk (Kd.R_below (by (with_reducible repeat (first | apply Kd.R_alloc | apply Kd.R_drewN | apply Kd.R_drew));exact HO306.out) hb);have n7_:=Aside0.mk (below_step (by repeat (first | (with_reducible first | exact HB.out | apply below_alloc | apply pw_below_drewN | apply below_drew1) | exact HB.out)) hb);clear HO_8;clear HO_10;clear HO_11;clear HO_12;clear HO_13;clear HO302;clear HO306;clear HB;have HO_8:=n0_;have HO_10:=n1_;have HO_11:=n2_;have HO_12:=n3_;have HO_13:=n4_;have HO302:=n5_;have HO306:=n6_;have HB:=n7_;clear n0_ n1_ n2_ n3_ n4_ n5_ n6_ n7_;(try clear hb);(try clear hb2);(try clear hk);(try clear hi)))
         go_ret
         exact ⟨by first | rfl | (simp [errW_none,errW_some] <;> rfl) | (simp [*,errW_none,errW_some] <;> rfl),by repeat (first | (with_reducible first | exact HB.out | apply below_alloc | apply pw_below_drewN | apply below_drew1) | exact HB.out)⟩
       ·replace c43:=Bool.eq_false_iff.mpr c43
        subst c43
        have H1 : (some false) = some r:=by rw [if_neg (show ¬ (false = true) by decide)] at H;exact H
        clear H
        have H:=H1
        clear H1
        obtain rfl:=Option.some.inj H
        go_wp2_with (first | ((with_reducible refine gate_callee (f:=17) rfl ?_);refine goesL_ (some 67) rfl rfl Try.func17 (by kernel_rfl) rfl #[.slice A0 l0.length c0] rfl (by (try simp only [List.map_toArray,List.map_cons,List.map_nil]);first | done | rfl | (simp only [List.length_drop,List.length_take];rfl)) ?_;(with_reducible refine (laws_toWagonS.calls kj17 _ _ l0 t300 _ ?side1 ?side2 A41.out).mono ?_);(case side1 => repeat (first | exact (Kd.C_below HR0.out HB.out) | (with_reducible refine Kd.C_alloc ?_ _) | (with_reducible refine Kd.C_drewN ?_ _) | (with_reducible refine Kd.C_drew ?_)));(case side2 => exact HC0.out);rintro e w125 ⟨v301,rfl,ho0,hb⟩;refine ⟨_,rfl, ?_⟩;have n0_:=Aside0.mk (Kd.R_below (by (with_reducible repeat (first | apply Kd.R_alloc | apply Kd.R_drewN | apply Kd.R_drew));exact HO_8.out) hb);have n1_:=Aside0.mk (Kd.R_elder' (by (with_reducible repeat (first | apply Kd.R_alloc | apply Kd.R_drewN | apply Kd.R_drew));exact HO_10.out) (Kd.R_base ho0) hb);have n2_:=Aside0.mk (Kd.R_below (by (with_reducible repeat (first | apply Kd.R_alloc | apply Kd.R_drewN | apply Kd.R_drew));exact HO_11.out) hb);have n3_:=Aside0.mk (Kd.R_below (by (with_reducible repeat (first | apply Kd.R_alloc | apply Kd.R_drewN | apply Kd.R_drew));exact HO_12.out) hb);have n4_:=Aside0.mk (Kd.R_below (by (with_reducible repeat (first | apply Kd.R_alloc | apply Kd.R_drewN | apply Kd.R_drew));exact HO_13.out) hb);have n5_:=Aside0.mk (Kd.R_lower (Kd.R_new' ho0 (Kd.R_lt (by (with_reducible repeat (first | apply Kd.R_alloc | apply Kd.R_drewN | apply Kd.R_drew));exact HO_10.out))) (below_size (by repeat (first | (with_reducible first | exact HB.out | apply below_alloc | apply pw_below_drewN | apply below_drew1) | exact HB.out))));have n6_:=Aside0.mk (below_step (by repeat (first | (with_reducible first | exact HB.out | apply below_alloc | apply pw_below_drewN | apply below_drew1) | exact HB.out)) hb);clear HO_8;clear HO_10;clear HO_11;clear HO_12;clear HO_13;clear HB;have HO_8:=n0_;have HO_10:=n1_;have HO_11:=n2_;have HO_12:=n3_;have HO_13:=n4_;have HO302:=n5_;have HB:=n6_;clear n0_ n1_ n2_ n3_ n4_ n5_ n6_;(try clear hb);(try clear hb2);(try clear hk);(try clear hi);(try clear ho0);obtain ⟨Ao126,co126,eo126⟩ := Kd.R_slice HO302.out;subst eo126) | ((with_reducible refine gate_callee (f:=19) rfl ?_);refine goesL_ (some 68) rfl rfl Try.func19 (by kernel_rfl) rfl #[.slice Ao30 t286.length co30, .slice Ao126 t300.length co126] rfl (by (try simp only [List.map_toArray,List.map_cons,List.map_nil]);first | done | rfl | (simp only [List.length_drop,List.length_take];rfl)) ?_;(with_reducible refine (laws_eqWagonS.calls kj17 _ _ t286 _ _ t300 false _ ?side1 ?side2 ?side3 ?side4 A42.out).mono ?_);(case side1 => repeat (first | exact (Kd.R_reads' HO_10.out).2.2 | (with_reducible refine Kd.C_alloc ?_ _) | (with_reducible refine Kd.C_drewN ?_ _) | (with_reducible refine Kd.C_drew ?_)));(case side2 => exact (Kd.R_reads' HO_10.out).2.1);(case side3 => repeat (first | exact (Kd.R_reads' HO302.out).2.2 | (with_reducible refine Kd.C_alloc ?_ _) | (with_reducible refine Kd.C_drewN ?_ _) | (with_reducible refine Kd.C_drew ?_)));(case side4 => exact (Kd.R_reads' HO302.out).2.1);rintro e w127 ⟨rfl,hb⟩;refine ⟨_,rfl, ?_⟩;have n0_:=Aside0.mk (Kd.R_below (by (with_reducible repeat (first | apply Kd.R_alloc | apply Kd.R_drewN | apply Kd.R_drew));exact HO_8.out) hb);have n1_:=Aside0.mk (Kd.R_below (by (with_reducible repeat (first | apply Kd.R_alloc | apply Kd.R_drewN | apply Kd.R_drew));exact HO_10.out) hb);have n2_:=Aside0.mk (Kd.R_below (by (with_reducible repeat (first | apply Kd.R_alloc | apply Kd.R_drewN | apply Kd.R_drew));exact HO_11.out) hb);have n3_:=Aside0.mk (Kd.R_below (by (with_reducible repeat (first | apply Kd.R_alloc | apply Kd.R_drewN | apply Kd.R_drew));exact HO_12.out) hb);have n4_:=Aside0.mk (Kd.R_below (by (with_reducible repeat (first | apply Kd.R_alloc | apply Kd.R_drewN | apply Kd.R_drew));exact HO_13.out) hb);have n5_:=Aside0.mk (Kd.R_below (by (with_reducible repeat (first | apply Kd.R_alloc | apply Kd.R_drewN | apply Kd.R_drew));exact HO302.out) hb);have n6_:=Aside0.mk (below_step (by repeat (first | (with_reducible first | exact HB.out | apply below_alloc | apply pw_below_drewN | apply below_drew1) | exact HB.out)) hb);clear HO_8;clear HO_10;clear HO_11;clear HO_12;clear HO_13;clear HO302;clear HB;have HO_8:=n0_;have HO_10:=n1_;have HO_11:=n2_;have HO_12:=n3_;have HO_13:=n4_;have HO302:=n5_;have HB:=n6_;clear n0_ n1_ n2_ n3_ n4_ n5_ n6_;(try clear hb);(try clear hb2);(try clear hk);(try clear hi)))
        go_ret
        exact ⟨by first | rfl | (simp [errW_none,errW_some] <;> rfl) | (simp [*,errW_none,errW_some] <;> rfl),by repeat (first | (with_reducible first | exact HB.out | apply below_alloc | apply pw_below_drewN | apply below_drew1) | exact HB.out)⟩

end Go.Proofs.Ythfbnadlpninaaa.PFnExactLeftBehindContainers
