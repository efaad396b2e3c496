-- Written by a program of this session, over the kit's print (wip/xprint.py)
import Derived.Test.YthfbnadlpninaaaPFnExactEmptyWagonsx0
import Derived.Test.YthfbnadlpninaaaPFnExactEmptyWagonsx1
import Derived.Test.YthfbnadlpninaaaPFnExactEmptyWagonsx2
import Derived.Test.YthfbnadlpninaaaPFnExactEmptyWagonsx3
import Derived.Test.YthfbnadlpninaaaPFnExactEmptyWagonsx6
import Derived.Test.YthfbnadlpninaaaPFnExactEmptyWagonsx9
namespace Go.Proofs.Ythfbnadlpninaaa.PFnExactEmptyWagons
open Go.RowKit Go.Proofs.YthfbnadlpninaaaW.PrintWords Go.Proofs.YthfbnadlpninaaaW.PrintLast Go.Proofs.YthfbnadlpninaaaW.PrintMore
attribute [local go_sem] max2_int min2_int max_two min_two max_three min_three max_four min_four   -- for this text's walks alone
set_option linter.unusedVariables false
set_option linter.unusedSimpArgs false

/-! ### laws_FnExactEmptyWagons: function 12 -/
mutual
def laws_FnExactEmptyWagons.j0 : Nat → List (S74) → List (S80) → List Int → List Int → Bool → List (S70) → List (S64) → List Int → List Int → Bool → Bool → Option (Bool)
 | 0,_,_,_,_,_,_,_,_,_,_,_ => none
 | k + 1,x0,x1,x2,x8,x9,x10,x11,x12,x13,x14,x64 => if x64 = true then (some false) else ((laws_toWagonS.f k x0).bind fun t303 => ((laws_eqWagonS.f k x10 t303).bind fun t306 => (if t306 = true then ((laws_toContainerS.f k x1).bind fun t307 => ((laws_eqContainerS.f k x11 t307).bind fun t310 => (if t310 = true then ((laws_toIntS.f k x2).bind fun t311 => ((laws_eqIntS.f k x12 t311).bind fun t314 => (if t314 = true then ((laws_markWagonS.f k x10 1).bind fun bt315 => ((laws_markContainerS.f k x11 bt315.1).bind fun bt317 => ((laws_markIntS.f k x12 bt317.1).bind fun bt319 => (if bt319.1 < 0 then (laws_FnExactEmptyWagons.j1 k x0 x1 x2 x8 x9 x13 true) else ((laws_eqIntS.f k x13 x8).bind fun t321 => (if t321 = true then (laws_FnExactEmptyWagons.j1 k x0 x1 x2 x8 x9 x13 (x14 != x9)) else (laws_FnExactEmptyWagons.j1 k x0 x1 x2 x8 x9 x13 true))))))) else (some false)))) else (some false)))) else (some false))))
def laws_FnExactEmptyWagons.j1 : Nat → List (S74) → List (S80) → List Int → List Int → Bool → List Int → Bool → Option (Bool)
 | 0,_,_,_,_,_,_,_ => none
 | k + 1,x0,x1,x2,x8,x9,x13,x101 => if x101 = true then (some false) else ((laws_markIntS.f k x13 1).bind fun bt322 => ((laws_heldIntS.f k bt322.2 1).bind fun t324 => (if t324 < 0 then (some false) else (if t324 = bt322.1 then ((laws_toWagonS.f k x0).bind fun t325 => ((laws_toContainerS.f k x1).bind fun t328 => ((laws_toIntS.f k x2).bind fun t331 => ((impl_EmptyWagons.f k t325 t328 t331).bind fun bt334 => ((laws_eqIntS.f k bt334.1 x8).bind fun t338 => (if t338 = true then (laws_FnExactEmptyWagons.j2 k bt322.2 bt322.1 (bt334.2 != x9)) else (laws_FnExactEmptyWagons.j2 k bt322.2 bt322.1 true))))))) else (some false)))))
def laws_FnExactEmptyWagons.j2 : Nat → List Int → Int → Bool → Option (Bool)
 | 0,_,_,_ => none
 | k + 1,x13,x16,x131 => if x131 = true then (some false) else ((laws_heldIntS.f k x13 1).bind fun t339 => (if t339 < 0 then (some false) else (if t339 = x16 then (some true) else (some false))))
end
def laws_FnExactEmptyWagons.f (k : Nat) (l0 : List (S74)) (l1 : List (S80)) (l2 : List Int) : Option (Bool):=if (l2.length : Int) > 1048576 then (some true) else ((laws_szWagonS.f l0 1048576).bind fun t274 => (if t274 < 0 then (some true) else ((laws_szContainerS.f k l1 t274).bind fun t275 => (if t275 < 0 then (some true) else ((laws_toWagonS.f k l0).bind fun t276 => ((laws_toContainerS.f k l1).bind fun t279 => ((laws_toIntS.f k l2).bind fun t282 => ((spec_EmptyWagons.f k t276 t279 t282).bind fun bt285 => ((laws_toWagonS.f k l0).bind fun t289 => ((laws_toContainerS.f k l1).bind fun t292 => ((laws_toIntS.f k l2).bind fun t295 => ((impl_EmptyWagons.f k t289 t292 t295).bind fun bt298 => ((laws_eqIntS.f k bt298.1 bt285.1).bind fun t302 => (if t302 = true then (laws_FnExactEmptyWagons.j0 k l0 l1 l2 bt285.1 bt285.2 t289 t292 t295 bt298.1 bt298.2 (bt298.2 != bt285.2)) else (laws_FnExactEmptyWagons.j0 k l0 l1 l2 bt285.1 bt285.2 t289 t292 t295 bt298.1 bt298.2 true)))))))))))))))
theorem laws_FnExactEmptyWagons.mono_l : ∀ k,(∀ y0 y1 y2 y3 y4 y5 y6 y7 y8 y9 y10,LeO (laws_FnExactEmptyWagons.j0 k y0 y1 y2 y3 y4 y5 y6 y7 y8 y9 y10) (laws_FnExactEmptyWagons.j0 (k + 1) y0 y1 y2 y3 y4 y5 y6 y7 y8 y9 y10)) ∧ (∀ y0 y1 y2 y3 y4 y5 y6,LeO (laws_FnExactEmptyWagons.j1 k y0 y1 y2 y3 y4 y5 y6) (laws_FnExactEmptyWagons.j1 (k + 1) y0 y1 y2 y3 y4 y5 y6)) ∧ (∀ y0 y1 y2,LeO (laws_FnExactEmptyWagons.j2 k y0 y1 y2) (laws_FnExactEmptyWagons.j2 (k + 1) y0 y1 y2))
 | 0 => ⟨fun _ _ _ _ _ _ _ _ _ _ _ r h => by simp [laws_FnExactEmptyWagons.j0] at h,fun _ _ _ _ _ _ _ r h => by simp [laws_FnExactEmptyWagons.j1] at h,fun _ _ _ r h => by simp [laws_FnExactEmptyWagons.j2] at h⟩
 | k + 1 => by
  obtain ⟨ih0,ih1,ih2⟩ := laws_FnExactEmptyWagons.mono_l k
  refine ⟨?_, ?_, ?_⟩
  ·intro y0 y1 y2 y3 y4 y5 y6 y7 y8 y9 y10
   unfold laws_FnExactEmptyWagons.j0
   repeat' first
   | (with_reducible exact ih0 _ _ _ _ _ _ _ _ _ _ _)
   | (with_reducible exact ih1 _ _ _ _ _ _ _)
   | (with_reducible exact ih2 _ _ _)
   | (with_reducible exact impl_EmptyWagons.mono _ _ _ _)
   | (with_reducible exact laws_eqContainerS.mono _ _ _)
   | (with_reducible exact laws_eqIntS.mono _ _ _)
   | (with_reducible exact laws_eqWagonS.mono _ _ _)
   | (with_reducible exact laws_heldIntS.mono _ _ _)
   | (with_reducible exact laws_markContainerS.mono _ _ _)
   | (with_reducible exact laws_markIntS.mono _ _ _)
   | (with_reducible exact laws_markWagonS.mono _ _ _)
   | (with_reducible exact laws_szContainerS.mono _ _ _)
   | (with_reducible exact laws_toContainerS.mono _ _)
   | (with_reducible exact laws_toIntS.mono _ _)
   | (with_reducible exact laws_toWagonS.mono _ _)
   | (with_reducible exact spec_EmptyWagons.mono _ _ _ _)
   | (with_reducible exact LeO.refl _)
   | (with_reducible exact LeO.none _)
   | (with_reducible refine LeO.ite ?_ ?_)
   | (with_reducible refine LeO.bind ?_ (fun _ => ?_))
   | exact ih0 _ _ _ _ _ _ _ _ _ _ _
   | exact ih1 _ _ _ _ _ _ _
   | exact ih2 _ _ _
   | exact impl_EmptyWagons.mono _ _ _ _
   | exact laws_eqContainerS.mono _ _ _
   | exact laws_eqIntS.mono _ _ _
   | exact laws_eqWagonS.mono _ _ _
   | exact laws_heldIntS.mono _ _ _
   | exact laws_markContainerS.mono _ _ _
   | exact laws_markIntS.mono _ _ _
   | exact laws_markWagonS.mono _ _ _
   | exact laws_szContainerS.mono _ _ _
   | exact laws_toContainerS.mono _ _
   | exact laws_toIntS.mono _ _
   | exact laws_toWagonS.mono _ _
   | exact spec_EmptyWagons.mono _ _ _ _
   | exact LeO.none _
   | refine LeO.ite ?_ ?_
   | refine LeO.bind ?_ (fun _ => ?_)
  ·intro y0 y1 y2 y3 y4 y5 y6
   unfold laws_FnExactEmptyWagons.j1
   repeat' first
   | (with_reducible exact ih0 _ _ _ _ _ _ _ _ _ _ _)
   | (with_reducible exact ih1 _ _ _ _ _ _ _)
   | (with_reducible exact ih2 _ _ _)
   | (with_reducible exact impl_EmptyWagons.mono _ _ _ _)
   | (with_reducible exact laws_eqContainerS.mono _ _ _)
   | (with_reducible exact laws_eqIntS.mono _ _ _)
   | (with_reducible exact laws_eqWagonS.mono _ _ _)
   | (with_reducible exact laws_heldIntS.mono _ _ _)
   | (with_reducible exact laws_markContainerS.mono _ _ _)
   | (with_reducible exact laws_markIntS.mono _ _ _)
   | (with_reducible exact laws_markWagonS.mono _ _ _)
   | (with_reducible exact laws_szContainerS.mono _ _ _)
   | (with_reducible exact laws_toContainerS.mono _ _)
   | (with_reducible exact laws_toIntS.mono _ _)
   | (with_reducible exact laws_toWagonS.mono _ _)
   | (with_reducible exact spec_EmptyWagons.mono _ _ _ _)
   | (with_reducible exact LeO.refl _)
   | (with_reducible exact LeO.none _)
   | (with_reducible refine LeO.ite ?_ ?_)
   | (with_reducible refine LeO.bind ?_ (fun _ => ?_))
   | exact ih0 _ _ _ _ _ _ _ _ _ _ _
   | exact ih1 _ _ _ _ _ _ _
   | exact ih2 _ _ _
   | exact impl_EmptyWagons.mono _ _ _ _
   | exact laws_eqContainerS.mono _ _ _
   | exact laws_eqIntS.mono _ _ _
   | exact laws_eqWagonS.mono _ _ _
   | exact laws_heldIntS.mono _ _ _
   | exact laws_markContainerS.mono _ _ _
   | exact laws_markIntS.mono _ _ _
   | exact laws_markWagonS.mono _ _ _
   | exact laws_szContainerS.mono _ _ _
   | exact laws_toContainerS.mono _ _
   | exact laws_toIntS.mono _ _
   | exact laws_toWagonS.mono _ _
   | exact spec_EmptyWagons.mono _ _ _ _
   | exact LeO.none _
   | refine LeO.ite ?_ ?_
   | refine LeO.bind ?_ (fun _ => ?_)
  ·intro y0 y1 y2
   unfold laws_FnExactEmptyWagons.j2
   repeat' first
   | (with_reducible exact ih0 _ _ _ _ _ _ _ _ _ _ _)
   | (with_reducible exact ih1 _ _ _ _ _ _ _)
   | (with_reducible exact ih2 _ _ _)
   | (with_reducible exact impl_EmptyWagons.mono _ _ _ _)
   | (with_reducible exact laws_eqContainerS.mono _ _ _)
   | (with_reducible exact laws_eqIntS.mono _ _ _)
   | (with_reducible exact laws_eqWagonS.mono _ _ _)
   | (with_reducible exact laws_heldIntS.mono _ _ _)
   | (with_reducible exact laws_markContainerS.mono _ _ _)
   | (with_reducible exact laws_markIntS.mono _ _ _)
   | (with_reducible exact laws_markWagonS.mono _ _ _)
   | (with_reducible exact laws_szContainerS.mono _ _ _)
   | (with_reducible exact laws_toContainerS.mono _ _)
   | (with_reducible exact laws_toIntS.mono _ _)
   | (with_reducible exact laws_toWagonS.mono _ _)
   | (with_reducible exact spec_EmptyWagons.mono _ _ _ _)
   | (with_reducible exact LeO.refl _)
   | (with_reducible exact LeO.none _)
   | (with_reducible refine LeO.ite ?_ ?_)
   | (with_reducible refine LeO.bind ?_ (fun _ => ?_))
   | exact ih0 _ _ _ _ _ _ _ _ _ _ _
   | exact ih1 _ _ _ _ _ _ _
   | exact ih2 _ _ _
   | exact impl_EmptyWagons.mono _ _ _ _
   | exact laws_eqContainerS.mono _ _ _
   | exact laws_eqIntS.mono _ _ _
   | exact laws_eqWagonS.mono _ _ _
   | exact laws_heldIntS.mono _ _ _
   | exact laws_markContainerS.mono _ _ _
   | exact laws_markIntS.mono _ _ _
   | exact laws_markWagonS.mono _ _ _
   | exact laws_szContainerS.mono _ _ _
   | exact laws_toContainerS.mono _ _
   | exact laws_toIntS.mono _ _
   | exact laws_toWagonS.mono _ _
   | exact spec_EmptyWagons.mono _ _ _ _
   | exact LeO.none _
   | refine LeO.ite ?_ ?_
   | refine LeO.bind ?_ (fun _ => ?_)
theorem laws_FnExactEmptyWagons.mono : ∀ a0 a1 a2 k,LeO (laws_FnExactEmptyWagons.f k a0 a1 a2) (laws_FnExactEmptyWagons.f (k + 1) a0 a1 a2):=by
 intro a0 a1 a2 k
 obtain ⟨ih0,ih1,ih2⟩ := laws_FnExactEmptyWagons.mono_l k
 unfold laws_FnExactEmptyWagons.f
 repeat' first
   | (with_reducible exact ih0 _ _ _ _ _ _ _ _ _ _ _)
   | (with_reducible exact ih1 _ _ _ _ _ _ _)
   | (with_reducible exact ih2 _ _ _)
   | (with_reducible exact impl_EmptyWagons.mono _ _ _ _)
   | (with_reducible exact laws_eqContainerS.mono _ _ _)
   | (with_reducible exact laws_eqIntS.mono _ _ _)
   | (with_reducible exact laws_eqWagonS.mono _ _ _)
   | (with_reducible exact laws_heldIntS.mono _ _ _)
   | (with_reducible exact laws_markContainerS.mono _ _ _)
   | (with_reducible exact laws_markIntS.mono _ _ _)
   | (with_reducible exact laws_markWagonS.mono _ _ _)
   | (with_reducible exact laws_szContainerS.mono _ _ _)
   | (with_reducible exact laws_toContainerS.mono _ _)
   | (with_reducible exact laws_toIntS.mono _ _)
   | (with_reducible exact laws_toWagonS.mono _ _)
   | (with_reducible exact spec_EmptyWagons.mono _ _ _ _)
   | (with_reducible exact LeO.refl _)
   | (with_reducible exact LeO.none _)
   | (with_reducible refine LeO.ite ?_ ?_)
   | (with_reducible refine LeO.bind ?_ (fun _ => ?_))
   | exact ih0 _ _ _ _ _ _ _ _ _ _ _
   | exact ih1 _ _ _ _ _ _ _
   | exact ih2 _ _ _
   | exact impl_EmptyWagons.mono _ _ _ _
   | exact laws_eqContainerS.mono _ _ _
   | exact laws_eqIntS.mono _ _ _
   | exact laws_eqWagonS.mono _ _ _
   | exact laws_heldIntS.mono _ _ _
   | exact laws_markContainerS.mono _ _ _
   | exact laws_markIntS.mono _ _ _
   | exact laws_markWagonS.mono _ _ _
   | exact laws_szContainerS.mono _ _ _
   | exact laws_toContainerS.mono _ _
   | exact laws_toIntS.mono _ _
   | exact laws_toWagonS.mono _ _
   | exact spec_EmptyWagons.mono _ _ _ _
   | exact LeO.none _
   | refine LeO.ite ?_ ?_
   | refine LeO.bind ?_ (fun _ => ?_)
set_option maxHeartbeats 8000000 in
set_option maxRecDepth 100000 in
theorem laws_FnExactEmptyWagons.calls (k : Nat) (A0 : Option Addr) (c0 : Nat) (l0 : List (S74)) (A1 : Option Addr) (c1 : Nat) (l1 : List (S80)) (A2 : Option Addr) (c2 : Nat) (l2 : List Int) (r : Bool) (w : World) (hr0 : Kd.C k74 w A0 l0.length l0) (hc0 : l0.length ≤ c0) (hr1 : Kd.C k80 w A1 l1.length l1) (hc1 : l1.length ≤ c1) (hr2 : Kd.C (Kd.int .i64) w A2 l2.length l2) (hc2 : l2.length ≤ c2) (h : laws_FnExactEmptyWagons.f k l0 l1 l2 = some r) :
  Calls Try.prog 12 #[.slice A0 l0.length c0, .slice A1 l1.length c1, .slice A2 l2.length c2] w fun e w' => e = .returned (.bool r) ∧ Below w.heap.size w w':=by
 have HR0:=Aside0.mk hr0
 have HC0:=Aside0.mk hc0
 clear hr0 hc0
 have HR1:=Aside0.mk hr1
 have HC1:=Aside0.mk hc1
 clear hr1 hc1
 have HR2:=Aside0.mk hr2
 have HC2:=Aside0.mk hc2
 clear hr2 hc2
 have HB:=Aside0.mk (Below.refl w.heap.size w)
 have H : (if (l2.length : Int) > 1048576 then (some true) else ((laws_szWagonS.f l0 1048576).bind fun t274 => (if t274 < 0 then (some true) else ((laws_szContainerS.f k l1 t274).bind fun t275 => (if t275 < 0 then (some true) else ((laws_toWagonS.f k l0).bind fun t276 => ((laws_toContainerS.f k l1).bind fun t279 => ((laws_toIntS.f k l2).bind fun t282 => ((spec_EmptyWagons.f k t276 t279 t282).bind fun bt285 => ((laws_toWagonS.f k l0).bind fun t289 => ((laws_toContainerS.f k l1).bind fun t292 => ((laws_toIntS.f k l2).bind fun t295 => ((impl_EmptyWagons.f k t289 t292 t295).bind fun bt298 => ((laws_eqIntS.f k bt298.1 bt285.1).bind fun t302 => (if t302 = true then (laws_FnExactEmptyWagons.j0 k l0 l1 l2 bt285.1 bt285.2 t289 t292 t295 bt298.1 bt298.2 (bt298.2 != bt285.2)) else (laws_FnExactEmptyWagons.j0 k l0 l1 l2 bt285.1 bt285.2 t289 t292 t295 bt298.1 bt298.2 true)))))))))))))))) = some r:=h
 clear h
 by_cases c4 : (l2.length : Int) > 1048576
 ·rw [if_pos c4] at H
  have c4b0 : decide (1048576 < (l2.length : Int)) = true:=decide_eq_true c4
  have c4b1 : decide (1048576 < l2.length) = true:=decide_eq_true (by omega)
  clear c4
  obtain rfl:=Option.some.inj H
  go_enter Try.func12,Try.ntmps12
  go_wp2
  go_ret
  exact ⟨by first | rfl | (simp [errW_none,errW_some] <;> rfl) | (simp [*,errW_none,errW_some] <;> rfl),by repeat (first | (with_reducible first | exact HB.out | apply below_alloc | apply pw_below_drewN | apply below_drew1) | exact HB.out)⟩
 ·rw [if_neg c4] at H
  have c4b0 : decide (1048576 < (l2.length : Int)) = false:=decide_eq_false c4
  have c4b1 : decide (1048576 < l2.length) = false:=decide_eq_false (by omega)
  clear c4
  replace H:=Option.bind_eq_some_iff.mp H
  obtain ⟨t274,A50,H⟩ := H
  replace H : (if t274 < 0 then (some true) else ((laws_szContainerS.f k l1 t274).bind fun t275 => (if t275 < 0 then (some true) else ((laws_toWagonS.f k l0).bind fun t276 => ((laws_toContainerS.f k l1).bind fun t279 => ((laws_toIntS.f k l2).bind fun t282 => ((spec_EmptyWagons.f k t276 t279 t282).bind fun bt285 => ((laws_toWagonS.f k l0).bind fun t289 => ((laws_toContainerS.f k l1).bind fun t292 => ((laws_toIntS.f k l2).bind fun t295 => ((impl_EmptyWagons.f k t289 t292 t295).bind fun bt298 => ((laws_eqIntS.f k bt298.1 bt285.1).bind fun t302 => (if t302 = true then (laws_FnExactEmptyWagons.j0 k l0 l1 l2 bt285.1 bt285.2 t289 t292 t295 bt298.1 bt298.2 (bt298.2 != bt285.2)) else (laws_FnExactEmptyWagons.j0 k l0 l1 l2 bt285.1 bt285.2 t289 t292 t295 bt298.1 bt298.2 true)))))))))))))) = some r:=H
  have A5:=Aside0.mk A50
  clear A50
  by_cases c6 : t274 < 0
  ·rw [if_pos c6] at H
   have c6b0 : decide (t274 < 0) = true:=decide_eq_true c6
   clear c6
   obtain rfl:=Option.some.inj H
   go_enter Try.func12,Try.ntmps12
   go_wp2_with (first | ((with_reducible refine gate_callee (f:=15) rfl ?_);refine goesL_ (some 25) rfl rfl Try.func15 (by kernel_rfl) rfl #[.slice A0 l0.length c0, .int .i64 1048576] rfl (by (try simp only [List.map_toArray,List.map_cons,List.map_nil]);first | done | rfl | (simp only [List.length_drop,List.length_take];rfl)) ?_;(with_reducible refine (laws_szWagonS.calls _ _ l0 1048576 t274 _ ?side1 ?side2 A5.out).mono ?_);(case side1 => repeat (first | exact HR0.out | (with_reducible refine Kd.C_alloc ?_ _) | (with_reducible refine Kd.C_drewN ?_ _) | (with_reducible refine Kd.C_drew ?_)));(case side2 => exact HC0.out);rintro e w' ⟨rfl,⟨nd,rfl⟩⟩;refine ⟨_,rfl, ?_⟩))
   go_ret
   exact ⟨by first | rfl | (simp [errW_none,errW_some] <;> rfl) | (simp [*,errW_none,errW_some] <;> rfl),by repeat (first | (with_reducible first | exact HB.out | apply below_alloc | apply pw_below_drewN | apply below_drew1) | exact HB.out)⟩
  ·rw [if_neg c6] at H
   have c6b0 : decide (t274 < 0) = false:=decide_eq_false c6
   clear c6
   replace H:=Option.bind_eq_some_iff.mp H
   obtain ⟨t275,A70,H⟩ := H
   replace H : (if t275 < 0 then (some true) else ((laws_toWagonS.f k l0).bind fun t276 => ((laws_toContainerS.f k l1).bind fun t279 => ((laws_toIntS.f k l2).bind fun t282 => ((spec_EmptyWagons.f k t276 t279 t282).bind fun bt285 => ((laws_toWagonS.f k l0).bind fun t289 => ((laws_toContainerS.f k l1).bind fun t292 => ((laws_toIntS.f k l2).bind fun t295 => ((impl_EmptyWagons.f k t289 t292 t295).bind fun bt298 => ((laws_eqIntS.f k bt298.1 bt285.1).bind fun t302 => (if t302 = true then (laws_FnExactEmptyWagons.j0 k l0 l1 l2 bt285.1 bt285.2 t289 t292 t295 bt298.1 bt298.2 (bt298.2 != bt285.2)) else (laws_FnExactEmptyWagons.j0 k l0 l1 l2 bt285.1 bt285.2 t289 t292 t295 bt298.1 bt298.2 true)))))))))))) = some r:=H
   have A7:=Aside0.mk A70
   clear A70
   by_cases c8 : t275 < 0
   ·rw [if_pos c8] at H
    have c8b0 : decide (t275 < 0) = true:=decide_eq_true c8
    clear c8
    obtain rfl:=Option.some.inj H
    go_enter Try.func12,Try.ntmps12
    go_wp2_with (first | ((with_reducible refine gate_callee (f:=15) rfl ?_);refine goesL_ (some 25) rfl rfl Try.func15 (by kernel_rfl) rfl #[.slice A0 l0.length c0, .int .i64 1048576] rfl (by (try simp only [List.map_toArray,List.map_cons,List.map_nil]);first | done | rfl | (simp only [List.length_drop,List.length_take];rfl)) ?_;(with_reducible refine (laws_szWagonS.calls _ _ l0 1048576 t274 _ ?side1 ?side2 A5.out).mono ?_);(case side1 => repeat (first | exact HR0.out | (with_reducible refine Kd.C_alloc ?_ _) | (with_reducible refine Kd.C_drewN ?_ _) | (with_reducible refine Kd.C_drew ?_)));(case side2 => exact HC0.out);rintro e w' ⟨rfl,⟨nd,rfl⟩⟩;refine ⟨_,rfl, ?_⟩) | ((with_reducible refine gate_callee (f:=20) rfl ?_);refine goesL_ (some 30) rfl rfl Try.func20 (by kernel_rfl) rfl #[.slice A1 l1.length c1, .int .i64 t274] rfl (by (try simp only [List.map_toArray,List.map_cons,List.map_nil]);first | done | rfl | (simp only [List.length_drop,List.length_take];rfl)) ?_;(with_reducible refine (laws_szContainerS.calls k _ _ l1 t274 t275 _ ?side1 ?side2 A7.out).mono ?_);(case side1 => repeat (first | exact HR1.out | (with_reducible refine Kd.C_alloc ?_ _) | (with_reducible refine Kd.C_drewN ?_ _) | (with_reducible refine Kd.C_drew ?_)));(case side2 => exact HC1.out);rintro e w9 ⟨rfl,hb⟩;refine ⟨_,rfl, ?_⟩;have n0_:=Aside0.mk (below_step (by repeat (first | (with_reducible first | exact HB.out | apply below_alloc | apply pw_below_drewN | apply below_drew1) | exact HB.out)) hb);clear HB;have HB:=n0_;clear n0_;(try clear hb);(try clear hb2);(try clear hk);(try clear hi)))
    go_ret
    exact ⟨by first | rfl | (simp [errW_none,errW_some] <;> rfl) | (simp [*,errW_none,errW_some] <;> rfl),by repeat (first | (with_reducible first | exact HB.out | apply below_alloc | apply pw_below_drewN | apply below_drew1) | exact HB.out)⟩
   ·rw [if_neg c8] at H
    have c8b0 : decide (t275 < 0) = false:=decide_eq_false c8
    clear c8
    replace H:=Option.bind_eq_some_iff.mp H
    obtain ⟨t276,A100,H⟩ := H
    replace H : ((laws_toContainerS.f k l1).bind fun t279 => ((laws_toIntS.f k l2).bind fun t282 => ((spec_EmptyWagons.f k t276 t279 t282).bind fun bt285 => ((laws_toWagonS.f k l0).bind fun t289 => ((laws_toContainerS.f k l1).bind fun t292 => ((laws_toIntS.f k l2).bind fun t295 => ((impl_EmptyWagons.f k t289 t292 t295).bind fun bt298 => ((laws_eqIntS.f k bt298.1 bt285.1).bind fun t302 => (if t302 = true then (laws_FnExactEmptyWagons.j0 k l0 l1 l2 bt285.1 bt285.2 t289 t292 t295 bt298.1 bt298.2 (bt298.2 != bt285.2)) else (laws_FnExactEmptyWagons.j0 k l0 l1 l2 bt285.1 bt285.2 t289 t292 t295 bt298.1 bt298.2 true)))))))))) = some r:=H
    have A10:=Aside0.mk A100
    clear A100
    replace H:=Option.bind_eq_some_iff.mp H
    obtain ⟨t279,A110,H⟩ := H
    replace H : ((laws_toIntS.f k l2).bind fun t282 => ((spec_EmptyWagons.f k t276 t279 t282).bind fun bt285 => ((laws_toWagonS.f k l0).bind fun t289 => ((laws_toContainerS.f k l1).bind fun t292 => ((laws_toIntS.f k l2).bind fun t295 => ((impl_EmptyWagons.f k t289 t292 t295).bind fun bt298 => ((laws_eqIntS.f k bt298.1 bt285.1).bind fun t302 => (if t302 = true then (laws_FnExactEmptyWagons.j0 k l0 l1 l2 bt285.1 bt285.2 t289 t292 t295 bt298.1 bt298.2 (bt298.2 != bt285.2)) else (laws_FnExactEmptyWagons.j0 k l0 l1 l2 bt285.1 bt285.2 t289 t292 t295 bt298.1 bt298.2 true))))))))) = some r:=H
    have A11:=Aside0.mk A110
    clear A110
    replace H:=Option.bind_eq_some_iff.mp H
    obtain ⟨t282,A120,H⟩ := H
    replace H : ((spec_EmptyWagons.f k t276 t279 t282).bind fun bt285 => ((laws_toWagonS.f k l0).bind fun t289 => ((laws_toContainerS.f k l1).bind fun t292 => ((laws_toIntS.f k l2).bind fun t295 => ((impl_EmptyWagons.f k t289 t292 t295).bind fun bt298 => ((laws_eqIntS.f k bt298.1 bt285.1).bind fun t302 => (if t302 = true then (laws_FnExactEmptyWagons.j0 k l0 l1 l2 bt285.1 bt285.2 t289 t292 t295 bt298.1 bt298.2 (bt298.2 != bt285.2)) else (laws_FnExactEmptyWagons.j0 k l0 l1 l2 bt285.1 bt285.2 t289 t292 t295 bt298.1 bt298.2 true)))))))) = some r:=H
    have A12:=Aside0.mk A120
    clear A120
    replace H:=Option.bind_eq_some_iff.mp H
    obtain ⟨⟨t285,t286⟩,A130,H⟩ := H
    replace H : ((laws_toWagonS.f k l0).bind fun t289 => ((laws_toContainerS.f k l1).bind fun t292 => ((laws_toIntS.f k l2).bind fun t295 => ((impl_EmptyWagons.f k t289 t292 t295).bind fun bt298 => ((laws_eqIntS.f k bt298.1 t285).bind fun t302 => (if t302 = true then (laws_FnExactEmptyWagons.j0 k l0 l1 l2 t285 t286 t289 t292 t295 bt298.1 bt298.2 (bt298.2 != t286)) else (laws_FnExactEmptyWagons.j0 k l0 l1 l2 t285 t286 t289 t292 t295 bt298.1 bt298.2 true))))))) = some r:=H
    have A13:=Aside0.mk A130
    clear A130
    replace H:=Option.bind_eq_some_iff.mp H
    obtain ⟨t289,A140,H⟩ := H
    replace H : ((laws_toContainerS.f k l1).bind fun t292 => ((laws_toIntS.f k l2).bind fun t295 => ((impl_EmptyWagons.f k t289 t292 t295).bind fun bt298 => ((laws_eqIntS.f k bt298.1 t285).bind fun t302 => (if t302 = true then (laws_FnExactEmptyWagons.j0 k l0 l1 l2 t285 t286 t289 t292 t295 bt298.1 bt298.2 (bt298.2 != t286)) else (laws_FnExactEmptyWagons.j0 k l0 l1 l2 t285 t286 t289 t292 t295 bt298.1 bt298.2 true)))))) = some r:=H
    have A14:=Aside0.mk A140
    clear A140
    replace H:=Option.bind_eq_some_iff.mp H
    obtain ⟨t292,A150,H⟩ := H
    replace H : ((laws_toIntS.f k l2).bind fun t295 => ((impl_EmptyWagons.f k t289 t292 t295).bind fun bt298 => ((laws_eqIntS.f k bt298.1 t285).bind fun t302 => (if t302 = true then (laws_FnExactEmptyWagons.j0 k l0 l1 l2 t285 t286 t289 t292 t295 bt298.1 bt298.2 (bt298.2 != t286)) else (laws_FnExactEmptyWagons.j0 k l0 l1 l2 t285 t286 t289 t292 t295 bt298.1 bt298.2 true))))) = some r:=H
    have A15:=Aside0.mk A150
    clear A150
    replace H:=Option.bind_eq_some_iff.mp H
    obtain ⟨t295,A160,H⟩ := H
    replace H : ((impl_EmptyWagons.f k t289 t292 t295).bind fun bt298 => ((laws_eqIntS.f k bt298.1 t285).bind fun t302 => (if t302 = true then (laws_FnExactEmptyWagons.j0 k l0 l1 l2 t285 t286 t289 t292 t295 bt298.1 bt298.2 (bt298.2 != t286)) else (laws_FnExactEmptyWagons.j0 k l0 l1 l2 t285 t286 t289 t292 t295 bt298.1 bt298.2 true)))) = some r:=H
    have A16:=Aside0.mk A160
    clear A160
    replace H:=Option.bind_eq_some_iff.mp H
    obtain ⟨⟨t298,t299⟩,A170,H⟩ := H
    replace H : ((laws_eqIntS.f k t298 t285).bind fun t302 => (if t302 = true then (laws_FnExactEmptyWagons.j0 k l0 l1 l2 t285 t286 t289 t292 t295 t298 t299 (t299 != t286)) else (laws_FnExactEmptyWagons.j0 k l0 l1 l2 t285 t286 t289 t292 t295 t298 t299 true))) = some r:=H
    have A17:=Aside0.mk A170
    clear A170
    have HC18:=Aside0.mk H
    clear H
    go_enter Try.func12,Try.ntmps12
    go_upto_region 15 with (first | ((with_reducible refine gate_callee (f:=15) rfl ?_);refine goesL_ (some 25) rfl rfl Try.func15 (by kernel_rfl) rfl #[.slice A0 l0.length c0, .int .i64 1048576] rfl (by (try simp only [List.map_toArray,List.map_cons,List.map_nil]);first | done | rfl | (simp only [List.length_drop,List.length_take];rfl)) ?_;(with_reducible refine (laws_szWagonS.calls _ _ l0 1048576 t274 _ ?side1 ?side2 A5.out).mono ?_);(case side1 => repeat (first | exact HR0.out | (with_reducible refine Kd.C_alloc ?_ _) | (with_reducible refine Kd.C_drewN ?_ _) | (with_reducible refine Kd.C_drew ?_)));(case side2 => exact HC0.out);rintro e w' ⟨rfl,⟨nd,rfl⟩⟩;refine ⟨_,rfl, ?_⟩) | ((with_reducible refine gate_callee (f:=20) rfl ?_);refine goesL_ (some 30) rfl rfl Try.func20 (by kernel_rfl) rfl #[.slice A1 l1.length c1, .int .i64 t274] rfl (by (try simp only [List.map_toArray,List.map_cons,List.map_nil]);first | done | rfl | (simp only [List.length_drop,List.length_take];rfl)) ?_;(with_reducible refine (laws_szContainerS.calls k _ _ l1 t274 t275 _ ?side1 ?side2 A7.out).mono ?_);(case side1 => repeat (first | exact HR1.out | (with_reducible refine Kd.C_alloc ?_ _) | (with_reducible refine Kd.C_drewN ?_ _) | (with_reducible refine Kd.C_drew ?_)));(case side2 => exact HC1.out);rintro e w19 ⟨rfl,hb⟩;refine ⟨_,rfl, ?_⟩;have n0_:=Aside0.mk (below_step (by repeat (first | (with_reducible first | exact HB.out | apply below_alloc | apply pw_below_drewN | apply below_drew1) | exact HB.out)) hb);clear HB;have HB:=n0_;clear n0_;(try clear hb);(try clear hb2);(try clear hk);(try clear hi)) | ((with_reducible refine gate_callee (f:=17) rfl ?_);refine goesL_ (some 35) rfl rfl Try.func17 (by kernel_rfl) rfl #[.slice A0 l0.length c0] rfl (by (try simp only [List.map_toArray,List.map_cons,List.map_nil]);first | done | rfl | (simp only [List.length_drop,List.length_take];rfl)) ?_;(with_reducible refine (laws_toWagonS.calls k _ _ l0 t276 _ ?side1 ?side2 A10.out).mono ?_);(case side1 => repeat (first | exact (Kd.C_below HR0.out HB.out) | (with_reducible refine Kd.C_alloc ?_ _) | (with_reducible refine Kd.C_drewN ?_ _) | (with_reducible refine Kd.C_drew ?_)));(case side2 => exact HC0.out);rintro e w20 ⟨v277,rfl,ho0,hb⟩;refine ⟨_,rfl, ?_⟩;have n0_:=Aside0.mk (Kd.R_lower ho0 (below_size (by repeat (first | (with_reducible first | exact HB.out | apply below_alloc | apply pw_below_drewN | apply below_drew1) | exact HB.out))));have n1_:=Aside0.mk (below_step (by repeat (first | (with_reducible first | exact HB.out | apply below_alloc | apply pw_below_drewN | apply below_drew1) | exact HB.out)) hb);clear HB;have HO278:=n0_;have HB:=n1_;clear n0_ n1_;(try clear hb);(try clear hb2);(try clear hk);(try clear hi);(try clear ho0)) | ((with_reducible refine gate_callee (f:=22) rfl ?_);refine goesL_ (some 37) rfl rfl Try.func22 (by kernel_rfl) rfl #[.slice A1 l1.length c1] rfl (by (try simp only [List.map_toArray,List.map_cons,List.map_nil]);first | done | rfl | (simp only [List.length_drop,List.length_take];rfl)) ?_;(with_reducible refine (laws_toContainerS.calls k _ _ l1 t279 _ ?side1 ?side2 A11.out).mono ?_);(case side1 => repeat (first | exact (Kd.C_below HR1.out HB.out) | (with_reducible refine Kd.C_alloc ?_ _) | (with_reducible refine Kd.C_drewN ?_ _) | (with_reducible refine Kd.C_drew ?_)));(case side2 => exact HC1.out);rintro e w21 ⟨v280,rfl,ho0,hb⟩;refine ⟨_,rfl, ?_⟩;have n0_:=Aside0.mk (Kd.R_below (by (with_reducible repeat (first | apply Kd.R_alloc | apply Kd.R_drewN | apply Kd.R_drew));exact HO278.out) hb);have n1_:=Aside0.mk (Kd.R_lower ho0 (below_size (by repeat (first | (with_reducible first | exact HB.out | apply below_alloc | apply pw_below_drewN | apply below_drew1) | exact HB.out))));have n2_:=Aside0.mk (below_step (by repeat (first | (with_reducible first | exact HB.out | apply below_alloc | apply pw_below_drewN | apply below_drew1) | exact HB.out)) hb);clear HO278;clear HB;have HO278:=n0_;have HO281:=n1_;have HB:=n2_;clear n0_ n1_ n2_;(try clear hb);(try clear hb2);(try clear hk);(try clear hi);(try clear ho0)) | ((with_reducible refine gate_callee (f:=23) rfl ?_);refine goesL_ (some 39) rfl rfl Try.func23 (by kernel_rfl) rfl #[.slice A2 l2.length c2] rfl (by (try simp only [List.map_toArray,List.map_cons,List.map_nil]);first | done | rfl | (simp only [List.length_drop,List.length_take];rfl)) ?_;(with_reducible refine (laws_toIntS.calls k _ _ l2 t282 _ ?side1 ?side2 A12.out).mono ?_);(case side1 => repeat (first | exact (Kd.C_below HR2.out HB.out) | (with_reducible refine Kd.C_alloc ?_ _) | (with_reducible refine Kd.C_drewN ?_ _) | (with_reducible refine Kd.C_drew ?_)));(case side2 => exact HC2.out);rintro e w22 ⟨v283,rfl,ho0,hb⟩;refine ⟨_,rfl, ?_⟩;have n0_:=Aside0.mk (Kd.R_below (by (with_reducible repeat (first | apply Kd.R_alloc | apply Kd.R_drewN | apply Kd.R_drew));exact HO278.out) hb);have n1_:=Aside0.mk (Kd.R_below (by (with_reducible repeat (first | apply Kd.R_alloc | apply Kd.R_drewN | apply Kd.R_drew));exact HO281.out) hb);have n2_:=Aside0.mk (Kd.R_lower ho0 (below_size (by repeat (first | (with_reducible first | exact HB.out | apply below_alloc | apply pw_below_drewN | apply below_drew1) | exact HB.out))));have n3_:=Aside0.mk (below_step (by repeat (first | (with_reducible first | exact HB.out | apply below_alloc | apply pw_below_drewN | apply below_drew1) | exact HB.out)) hb);clear HO278;clear HO281;clear HB;have HO278:=n0_;have HO281:=n1_;have HO284:=n2_;have HB:=n3_;clear n0_ n1_ n2_ n3_;(try clear hb);(try clear hb2);(try clear hk);(try clear hi);(try clear ho0);obtain ⟨Ao23,co23,eo23⟩ := Kd.R_slice HO278.out;subst eo23;obtain ⟨Ao24,co24,eo24⟩ := Kd.R_slice HO281.out;subst eo24;obtain ⟨Ao25,co25,eo25⟩ := Kd.R_slice HO284.out;subst eo25) | ((with_reducible refine gate_callee (f:=48) rfl ?_);refine goesL_ (some 40) rfl rfl Try.func48 (by kernel_rfl) rfl #[.slice Ao23 t276.length co23, .slice Ao24 t279.length co24, .slice Ao25 t282.length co25] rfl (by (try simp only [List.map_toArray,List.map_cons,List.map_nil]);first | done | rfl | (simp only [List.length_drop,List.length_take];rfl)) ?_;(with_reducible refine (spec_EmptyWagons.calls k _ _ t276 _ _ t279 _ _ t282 t285 t286 _ ?side1 ?side2 ?side3 ?side4 ?side5 ?side6 A13.out).mono ?_);(case side1 => repeat (first | exact (Kd.R_reads' HO278.out).2.2 | (with_reducible refine Kd.C_alloc ?_ _) | (with_reducible refine Kd.C_drewN ?_ _) | (with_reducible refine Kd.C_drew ?_)));(case side2 => exact (Kd.R_reads' HO278.out).2.1);(case side3 => repeat (first | exact (Kd.R_reads' HO281.out).2.2 | (with_reducible refine Kd.C_alloc ?_ _) | (with_reducible refine Kd.C_drewN ?_ _) | (with_reducible refine Kd.C_drew ?_)));(case side4 => exact (Kd.R_reads' HO281.out).2.1);(case side5 => repeat (first | exact (Kd.R_reads' HO284.out).2.2 | (with_reducible refine Kd.C_alloc ?_ _) | (with_reducible refine Kd.C_drewN ?_ _) | (with_reducible refine Kd.C_drew ?_)));(case side6 => exact (Kd.R_reads' HO284.out).2.1);rintro e w26 ⟨v287,rfl,ho0,hb⟩;refine ⟨_,rfl, ?_⟩;have n0_:=Aside0.mk (Kd.R_below (by (with_reducible repeat (first | apply Kd.R_alloc | apply Kd.R_drewN | apply Kd.R_drew));exact HO278.out) hb);have n1_:=Aside0.mk (Kd.R_below (by (with_reducible repeat (first | apply Kd.R_alloc | apply Kd.R_drewN | apply Kd.R_drew));exact HO281.out) hb);have n2_:=Aside0.mk (Kd.R_elder' (by (with_reducible repeat (first | apply Kd.R_alloc | apply Kd.R_drewN | apply Kd.R_drew));exact HO284.out) (Kd.R_base ho0) hb);have n3_:=Aside0.mk (Kd.R_lower (Kd.R_new' ho0 (Kd.R_lt (by (with_reducible repeat (first | apply Kd.R_alloc | apply Kd.R_drewN | apply Kd.R_drew));exact HO284.out))) (below_size (by repeat (first | (with_reducible first | exact HB.out | apply below_alloc | apply pw_below_drewN | apply below_drew1) | exact HB.out))));have n4_:=Aside0.mk (below_step (by repeat (first | (with_reducible first | exact HB.out | apply below_alloc | apply pw_below_drewN | apply below_drew1) | exact HB.out)) hb);clear HO278;clear HO281;clear HO284;clear HB;have HO278:=n0_;have HO281:=n1_;have HO284:=n2_;have HO288:=n3_;have HB:=n4_;clear n0_ n1_ n2_ n3_ n4_;(try clear hb);(try clear hb2);(try clear hk);(try clear hi);(try clear ho0)) | ((with_reducible refine gate_callee (f:=17) rfl ?_);refine goesL_ (some 44) rfl rfl Try.func17 (by kernel_rfl) rfl #[.slice A0 l0.length c0] rfl (by (try simp only [List.map_toArray,List.map_cons,List.map_nil]);first | done | rfl | (simp only [List.length_drop,List.length_take];rfl)) ?_;(with_reducible refine (laws_toWagonS.calls k _ _ l0 t289 _ ?side1 ?side2 A14.out).mono ?_);(case side1 => repeat (first | exact (Kd.C_below HR0.out HB.out) | (with_reducible refine Kd.C_alloc ?_ _) | (with_reducible refine Kd.C_drewN ?_ _) | (with_reducible refine Kd.C_drew ?_)));(case side2 => exact HC0.out);rintro e w27 ⟨v290,rfl,ho0,hb⟩;refine ⟨_,rfl, ?_⟩;have n0_:=Aside0.mk (Kd.R_elder' (by (with_reducible repeat (first | apply Kd.R_alloc | apply Kd.R_drewN | apply Kd.R_drew));exact HO278.out) (Kd.R_base ho0) hb);have n1_:=Aside0.mk (Kd.R_below (by (with_reducible repeat (first | apply Kd.R_alloc | apply Kd.R_drewN | apply Kd.R_drew));exact HO281.out) hb);have n2_:=Aside0.mk (Kd.R_below (by (with_reducible repeat (first | apply Kd.R_alloc | apply Kd.R_drewN | apply Kd.R_drew));exact HO284.out) hb);have n3_:=Aside0.mk (Kd.R_below (by (with_reducible repeat (first | apply Kd.R_alloc | apply Kd.R_drewN | apply Kd.R_drew));exact HO288.out) hb);have n4_:=Aside0.mk (Kd.R_lower (Kd.R_new' ho0 (Kd.R_lt (by (with_reducible repeat (first | apply Kd.R_alloc | apply Kd.R_drewN | apply Kd.R_drew));exact HO278.out))) (below_size (by repeat (first | (with_reducible first | exact HB.out | apply below_alloc | apply pw_below_drewN | apply below_drew1) | exact HB.out))));have n5_:=Aside0.mk (below_step (by repeat (first | (with_reducible first | exact HB.out | apply below_alloc | apply pw_below_drewN | apply below_drew1) | exact HB.out)) hb);clear HO278;clear HO281;clear HO284;clear HO288;clear HB;have HO278:=n0_;have HO281:=n1_;have HO284:=n2_;have HO288:=n3_;have HO291:=n4_;have HB:=n5_;clear n0_ n1_ n2_ n3_ n4_ n5_;(try clear hb);(try clear hb2);(try clear hk);(try clear hi);(try clear ho0)) | ((with_reducible refine gate_callee (f:=22) rfl ?_);refine goesL_ (some 46) rfl rfl Try.func22 (by kernel_rfl) rfl #[.slice A1 l1.length c1] rfl (by (try simp only [List.map_toArray,List.map_cons,List.map_nil]);first | done | rfl | (simp only [List.length_drop,List.length_take];rfl)) ?_;(with_reducible refine (laws_toContainerS.calls k _ _ l1 t292 _ ?side1 ?side2 A15.out).mono ?_);(case side1 => repeat (first | exact (Kd.C_below HR1.out HB.out) | (with_reducible refine Kd.C_alloc ?_ _) | (with_reducible refine Kd.C_drewN ?_ _) | (with_reducible refine Kd.C_drew ?_)));(case side2 => exact HC1.out);rintro e w28 ⟨v293,rfl,ho0,hb⟩;refine ⟨_,rfl, ?_⟩;have n0_:=Aside0.mk (Kd.R_below (by (with_reducible repeat (first | apply Kd.R_alloc | apply Kd.R_drewN | apply Kd.R_drew));exact HO278.out) hb);have n1_:=Aside0.mk (Kd.R_elder' (by (with_reducible repeat (first | apply Kd.R_alloc | apply Kd.R_drewN | apply Kd.R_drew));exact HO281.out) (Kd.R_base ho0) hb);have n2_:=Aside0.mk (Kd.R_below (by (with_reducible repeat (first | apply Kd.R_alloc | apply Kd.R_drewN | apply Kd.R_drew));exact HO284.out) hb);have n3_:=Aside0.mk (Kd.R_below (by (with_reducible repeat (first | apply Kd.R_alloc | apply Kd.R_drewN | apply Kd.R_drew));exact HO288.out) hb);have n4_:=Aside0.mk (Kd.R_below (by (with_reducible repeat (first | apply Kd.R_alloc | apply Kd.R_drewN | apply Kd.R_drew));exact HO291.out) hb);have n5_:=Aside0.mk (Kd.R_lower (Kd.R_new' ho0 (Kd.R_lt (by (with_reducible repeat (first | apply Kd.R_alloc | apply Kd.R_drewN | apply Kd.R_drew));exact HO281.out))) (below_size (by repeat (first | (with_reducible first | exact HB.out | apply below_alloc | apply pw_below_drewN | apply below_drew1) | exact HB.out))));have n6_:=Aside0.mk (below_step (by repeat (first | (with_reducible first | exact HB.out | apply below_alloc | apply pw_below_drewN | apply below_drew1) | exact HB.out)) hb);clear HO278;clear HO281;clear HO284;clear HO288;clear HO291;clear HB;have HO278:=n0_;have HO281:=n1_;have HO284:=n2_;have HO288:=n3_;have HO291:=n4_;have HO294:=n5_;have HB:=n6_;clear n0_ n1_ n2_ n3_ n4_ n5_ n6_;(try clear hb);(try clear hb2);(try clear hk);(try clear hi);(try clear ho0)) | ((with_reducible refine gate_callee (f:=23) rfl ?_);refine goesL_ (some 48) rfl rfl Try.func23 (by kernel_rfl) rfl #[.slice A2 l2.length c2] rfl (by (try simp only [List.map_toArray,List.map_cons,List.map_nil]);first | done | rfl | (simp only [List.length_drop,List.length_take];rfl)) ?_;(with_reducible refine (laws_toIntS.calls k _ _ l2 t295 _ ?side1 ?side2 A16.out).mono ?_);(case side1 => repeat (first | exact (Kd.C_below HR2.out HB.out) | (with_reducible refine Kd.C_alloc ?_ _) | (with_reducible refine Kd.C_drewN ?_ _) | (with_reducible refine Kd.C_drew ?_)));(case side2 => exact HC2.out);rintro e w29 ⟨v296,rfl,ho0,hb⟩;refine ⟨_,rfl, ?_⟩;have n0_:=Aside0.mk (Kd.R_below (by (with_reducible repeat (first | apply Kd.R_alloc | apply Kd.R_drewN | apply Kd.R_drew));exact HO278.out) hb);have n1_:=Aside0.mk (Kd.R_below (by (with_reducible repeat (first | apply Kd.R_alloc | apply Kd.R_drewN | apply Kd.R_drew));exact HO281.out) hb);have n2_:=Aside0.mk (Kd.R_elder' (by (with_reducible repeat (first | apply Kd.R_alloc | apply Kd.R_drewN | apply Kd.R_drew));exact HO284.out) (Kd.R_base ho0) hb);have n3_:=Aside0.mk (Kd.R_elder' (by (with_reducible repeat (first | apply Kd.R_alloc | apply Kd.R_drewN | apply Kd.R_drew));exact HO288.out) (Kd.R_base ho0) hb);have n4_:=Aside0.mk (Kd.R_below (by (with_reducible repeat (first | apply Kd.R_alloc | apply Kd.R_drewN | apply Kd.R_drew));exact HO291.out) hb);have n5_:=Aside0.mk (Kd.R_below (by (with_reducible repeat (first | apply Kd.R_alloc | apply Kd.R_drewN | apply Kd.R_drew));exact HO294.out) hb);have n6_:=Aside0.mk (Kd.R_lower (Kd.R_new' (Kd.R_new' ho0 (Kd.R_lt (by (with_reducible repeat (first | apply Kd.R_alloc | apply Kd.R_drewN | apply Kd.R_drew));exact HO284.out))) (Kd.R_lt (by (with_reducible repeat (first | apply Kd.R_alloc | apply Kd.R_drewN | apply Kd.R_drew));exact HO288.out))) (below_size (by repeat (first | (with_reducible first | exact HB.out | apply below_alloc | apply pw_below_drewN | apply below_drew1) | exact HB.out))));have n7_:=Aside0.mk (below_step (by repeat (first | (with_reducible first | exact HB.out | apply below_alloc | apply pw_below_drewN | apply below_drew1) | exact HB.out)) hb);clear HO278;clear HO281;clear HO284;clear HO288;clear HO291;clear HO294;clear HB;have HO278:=n0_;have HO281:=n1_;have HO284:=n2_;have HO288:=n3_;have HO291:=n4_;have HO294:=n5_;have HO297:=n6_;have HB:=n7_;clear n0_ n1_ n2_ n3_ n4_ n5_ n6_ n7_;(try clear hb);(try clear hb2);(try clear hk);(try clear hi);(try clear ho0);obtain ⟨Ao30,co30,eo30⟩ := Kd.R_slice HO291.out;subst eo30;obtain ⟨Ao31,co31,eo31⟩ := Kd.R_slice HO294.out;subst eo31;obtain ⟨Ao32,co32,eo32⟩ := Kd.R_slice HO297.out;subst eo32) | ((with_reducible refine gate_callee (f:=49) rfl ?_);refine goesL_ (some 53) rfl rfl Try.func49 (by kernel_rfl) rfl #[.slice Ao30 t289.length co30, .slice Ao31 t292.length co31, .slice Ao32 t295.length co32] rfl (by (try simp only [List.map_toArray,List.map_cons,List.map_nil]);first | done | rfl | (simp only [List.length_drop,List.length_take];rfl)) ?_;(with_reducible refine (impl_EmptyWagons.calls k _ _ t289 _ _ t292 _ _ t295 t298 t299 _ ?side1 ?side2 ?side3 ?side4 ?side5 ?side6 A17.out).mono ?_);(case side1 => repeat (first | exact (Kd.R_reads' HO291.out).2.2 | (with_reducible refine Kd.C_alloc ?_ _) | (with_reducible refine Kd.C_drewN ?_ _) | (with_reducible refine Kd.C_drew ?_)));(case side2 => exact (Kd.R_reads' HO291.out).2.1);(case side3 => repeat (first | exact (Kd.R_reads' HO294.out).2.2 | (with_reducible refine Kd.C_alloc ?_ _) | (with_reducible refine Kd.C_drewN ?_ _) | (with_reducible refine Kd.C_drew ?_)));(case side4 => exact (Kd.R_reads' HO294.out).2.1);(case side5 => repeat (first | exact (Kd.R_reads' HO297.out).2.2 | (with_reducible refine Kd.C_alloc ?_ _) | (with_reducible refine Kd.C_drewN ?_ _) | (with_reducible refine Kd.C_drew ?_)));(case side6 => exact (Kd.R_reads' HO297.out).2.1);rintro e w33 ⟨v300,rfl,ho0,hb⟩;refine ⟨_,rfl, ?_⟩;have n0_:=Aside0.mk (Kd.R_below (by (with_reducible repeat (first | apply Kd.R_alloc | apply Kd.R_drewN | apply Kd.R_drew));exact HO278.out) hb);have n1_:=Aside0.mk (Kd.R_below (by (with_reducible repeat (first | apply Kd.R_alloc | apply Kd.R_drewN | apply Kd.R_drew));exact HO281.out) hb);have n2_:=Aside0.mk (Kd.R_elder' (by (with_reducible repeat (first | apply Kd.R_alloc | apply Kd.R_drewN | apply Kd.R_drew));exact HO284.out) (Kd.R_base ho0) hb);have n3_:=Aside0.mk (Kd.R_elder' (by (with_reducible repeat (first | apply Kd.R_alloc | apply Kd.R_drewN | apply Kd.R_drew));exact HO288.out) (Kd.R_base ho0) hb);have n4_:=Aside0.mk (Kd.R_below (by (with_reducible repeat (first | apply Kd.R_alloc | apply Kd.R_drewN | apply Kd.R_drew));exact HO291.out) hb);have n5_:=Aside0.mk (Kd.R_below (by (with_reducible repeat (first | apply Kd.R_alloc | apply Kd.R_drewN | apply Kd.R_drew));exact HO294.out) hb);have n6_:=Aside0.mk (Kd.R_elder' (by (with_reducible repeat (first | apply Kd.R_alloc | apply Kd.R_drewN | apply Kd.R_drew));exact HO297.out) (Kd.R_base ho0) hb);have n7_:=Aside0.mk (Kd.R_lower (Kd.R_new' (Kd.R_new' (Kd.R_new' ho0 (Kd.R_lt (by (with_reducible repeat (first | apply Kd.R_alloc | apply Kd.R_drewN | apply Kd.R_drew));exact HO284.out))) (Kd.R_lt (by (with_reducible repeat (first | apply Kd.R_alloc | apply Kd.R_drewN | apply Kd.R_drew));exact HO288.out))) (Kd.R_lt (by (with_reducible repeat (first | apply Kd.R_alloc | apply Kd.R_drewN | apply Kd.R_drew));exact HO297.out))) (below_size (by repeat (first | (with_reducible first | exact HB.out | apply below_alloc | apply pw_below_drewN | apply below_drew1) | exact HB.out))));have n8_:=Aside0.mk (below_step (by repeat (first | (with_reducible first | exact HB.out | apply below_alloc | apply pw_below_drewN | apply below_drew1) | exact HB.out)) hb);clear HO278;clear HO281;clear HO284;clear HO288;clear HO291;clear HO294;clear HO297;clear HB;have HO278:=n0_;have HO281:=n1_;have HO284:=n2_;have HO288:=n3_;have HO291:=n4_;have HO294:=n5_;have HO297:=n6_;have HO301:=n7_;have HB:=n8_;clear n0_ n1_ n2_ n3_ n4_ n5_ n6_ n7_ n8_;(try clear hb);(try clear hb2);(try clear hk);(try clear hi);(try clear ho0)))
    (try simp only [Act.put,sA_,s0_,s1_])
    go_cut [64] (fun v64 wc => ∃ (kq : Nat) (x64_17 : Bool),v64 = .bool x64_17 ∧ Aside0 (laws_FnExactEmptyWagons.j0 kq l0 l1 l2 t285 t286 t289 t292 t295 t298 t299 x64_17 = some r) ∧ Aside0 (kq ≤ k) ∧ Aside0 (Kd.R (Kd.int .i64) 3 wc w.heap.size (fun k_ => some k_ ≠ ((.slice Ao32 t295.length co32) : Value).ownBlock ∧ some k_ ≠ (v300 : Value).ownBlock) v287 t285) ∧ Aside0 (Kd.R k70 70 wc w.heap.size (fun _ => True) (.slice Ao30 t289.length co30) t289) ∧ Aside0 (Kd.R k64 64 wc w.heap.size (fun _ => True) (.slice Ao31 t292.length co31) t292) ∧ Aside0 (Kd.R (Kd.int .i64) 3 wc w.heap.size (fun k_ => some k_ ≠ (v287 : Value).ownBlock ∧ some k_ ≠ (v300 : Value).ownBlock) (.slice Ao32 t295.length co32) t295) ∧ Aside0 (Kd.R (Kd.int .i64) 3 wc w.heap.size (fun k_ => some k_ ≠ (v287 : Value).ownBlock ∧ some k_ ≠ ((.slice Ao32 t295.length co32) : Value).ownBlock) v300 t298) ∧ Aside0 (Below w.heap.size w wc))
    case first =>
     have H:=HC18.out
     clear HC18
     replace H:=Option.bind_eq_some_iff.mp H
     obtain ⟨t302,A340,H⟩ := H
     replace H : (if t302 = true then (laws_FnExactEmptyWagons.j0 k l0 l1 l2 t285 t286 t289 t292 t295 t298 t299 (t299 != t286)) else (laws_FnExactEmptyWagons.j0 k l0 l1 l2 t285 t286 t289 t292 t295 t298 t299 true)) = some r:=H
     have A34:=Aside0.mk A340
     clear A340
     by_cases c35 : t302 = true
     ·subst c35
      have H1 : (laws_FnExactEmptyWagons.j0 k l0 l1 l2 t285 t286 t289 t292 t295 t298 t299 (t299 != t286)) = some r:=by rw [if_pos rfl] at H;exact H
      clear H
      have H:=H1
      clear H1
      have H':=Aside0.mk H
      clear H
      obtain ⟨Ao36,co36,eo36⟩ := Kd.R_slice HO301.out
      subst eo36
      obtain ⟨Ao37,co37,eo37⟩ := Kd.R_slice HO288.out
      subst eo37
      go_wp2_with (first | ((with_reducible refine gate_callee (f:=26) rfl ?_);refine goesL_ (some 58) rfl rfl Try.func26 (by kernel_rfl) rfl #[.slice Ao36 t298.length co36, .slice Ao37 t285.length co37] rfl (by (try simp only [List.map_toArray,List.map_cons,List.map_nil]);first | done | rfl | (simp only [List.length_drop,List.length_take];rfl)) ?_;(with_reducible refine (laws_eqIntS.calls k _ _ t298 _ _ t285 true _ ?side1 ?side2 ?side3 ?side4 A34.out).mono ?_);(case side1 => repeat (first | exact (Kd.R_reads' HO301.out).2.2 | (with_reducible refine Kd.C_alloc ?_ _) | (with_reducible refine Kd.C_drewN ?_ _) | (with_reducible refine Kd.C_drew ?_)));(case side2 => exact (Kd.R_reads' HO301.out).2.1);(case side3 => repeat (first | exact (Kd.R_reads' HO288.out).2.2 | (with_reducible refine Kd.C_alloc ?_ _) | (with_reducible refine Kd.C_drewN ?_ _) | (with_reducible refine Kd.C_drew ?_)));(case side4 => exact (Kd.R_reads' HO288.out).2.1);rintro e w' ⟨rfl,⟨nd,rfl⟩⟩;refine ⟨_,rfl, ?_⟩))
      go_meet
      case rel => exact ⟨_,((t299 != t286)),(by first | rfl | (simp;done) | (simp [*];done)),H',⟨by first | omega | exact Nat.le_refl _⟩,⟨by (with_reducible repeat (first | apply Kd.R_alloc | apply Kd.R_drewN | apply Kd.R_drew));exact Kd.R_mono HO288.out (fun _ hk => ⟨hk.1.2,hk.2⟩)⟩,⟨by (with_reducible repeat (first | apply Kd.R_alloc | apply Kd.R_drewN | apply Kd.R_drew));exact Kd.R_mono HO291.out (fun _ hk => trivial)⟩,⟨by (with_reducible repeat (first | apply Kd.R_alloc | apply Kd.R_drewN | apply Kd.R_drew));exact Kd.R_mono HO294.out (fun _ hk => trivial)⟩,⟨by (with_reducible repeat (first | apply Kd.R_alloc | apply Kd.R_drewN | apply Kd.R_drew));exact Kd.R_mono HO297.out (fun _ hk => ⟨hk.1.2,hk.2⟩)⟩,⟨by (with_reducible repeat (first | apply Kd.R_alloc | apply Kd.R_drewN | apply Kd.R_drew));exact Kd.R_mono HO301.out (fun _ hk => ⟨hk.1.2,hk.2⟩)⟩,⟨by repeat (first | (with_reducible first | exact HB.out | apply below_alloc | apply pw_below_drewN | apply below_drew1) | exact HB.out)⟩⟩
     ·replace c35:=Bool.eq_false_iff.mpr c35
      subst c35
      have H1 : (laws_FnExactEmptyWagons.j0 k l0 l1 l2 t285 t286 t289 t292 t295 t298 t299 true) = some r:=by rw [if_neg (show ¬ (false = true) by decide)] at H;exact H
      clear H
      have H:=H1
      clear H1
      have H':=Aside0.mk H
      clear H
      obtain ⟨Ao38,co38,eo38⟩ := Kd.R_slice HO301.out
      subst eo38
      obtain ⟨Ao39,co39,eo39⟩ := Kd.R_slice HO288.out
      subst eo39
      go_wp2_with (first | ((with_reducible refine gate_callee (f:=26) rfl ?_);refine goesL_ (some 58) rfl rfl Try.func26 (by kernel_rfl) rfl #[.slice Ao38 t298.length co38, .slice Ao39 t285.length co39] rfl (by (try simp only [List.map_toArray,List.map_cons,List.map_nil]);first | done | rfl | (simp only [List.length_drop,List.length_take];rfl)) ?_;(with_reducible refine (laws_eqIntS.calls k _ _ t298 _ _ t285 false _ ?side1 ?side2 ?side3 ?side4 A34.out).mono ?_);(case side1 => repeat (first | exact (Kd.R_reads' HO301.out).2.2 | (with_reducible refine Kd.C_alloc ?_ _) | (with_reducible refine Kd.C_drewN ?_ _) | (with_reducible refine Kd.C_drew ?_)));(case side2 => exact (Kd.R_reads' HO301.out).2.1);(case side3 => repeat (first | exact (Kd.R_reads' HO288.out).2.2 | (with_reducible refine Kd.C_alloc ?_ _) | (with_reducible refine Kd.C_drewN ?_ _) | (with_reducible refine Kd.C_drew ?_)));(case side4 => exact (Kd.R_reads' HO288.out).2.1);rintro e w' ⟨rfl,⟨nd,rfl⟩⟩;refine ⟨_,rfl, ?_⟩))
      go_meet
      case rel => exact ⟨_,(true),(by first | rfl | (simp;done) | (simp [*];done)),H',⟨by first | omega | exact Nat.le_refl _⟩,⟨by (with_reducible repeat (first | apply Kd.R_alloc | apply Kd.R_drewN | apply Kd.R_drew));exact Kd.R_mono HO288.out (fun _ hk => ⟨hk.1.2,hk.2⟩)⟩,⟨by (with_reducible repeat (first | apply Kd.R_alloc | apply Kd.R_drewN | apply Kd.R_drew));exact Kd.R_mono HO291.out (fun _ hk => trivial)⟩,⟨by (with_reducible repeat (first | apply Kd.R_alloc | apply Kd.R_drewN | apply Kd.R_drew));exact Kd.R_mono HO294.out (fun _ hk => trivial)⟩,⟨by (with_reducible repeat (first | apply Kd.R_alloc | apply Kd.R_drewN | apply Kd.R_drew));exact Kd.R_mono HO297.out (fun _ hk => ⟨hk.1.2,hk.2⟩)⟩,⟨by (with_reducible repeat (first | apply Kd.R_alloc | apply Kd.R_drewN | apply Kd.R_drew));exact Kd.R_mono HO301.out (fun _ hk => ⟨hk.1.2,hk.2⟩)⟩,⟨by repeat (first | (with_reducible first | exact HB.out | apply below_alloc | apply pw_below_drewN | apply below_drew1) | exact HB.out)⟩⟩
    case rest =>
     clear HC18
     try clear c1
     try clear c2
     try clear p2
     try clear c3
     try clear c4
     try clear c4b0
     try clear c4b1
     try clear c6
     try clear c6b0
     try clear c8
     try clear c8b0
     try clear c12
     try clear c15
     try clear c17
     try clear c20
     try clear c22
     try clear c23
     try clear c26
     try clear c35
     obtain ⟨kq,x64_17,rfl,HA,HJ17,HO_8,HO_10,HO_11,HO_12,HO_13,HB⟩ := hcut
     cases kq with
     | zero => exact absurd HA.out (by simp [laws_FnExactEmptyWagons.j0])
     | succ kj17 =>
      have H:=HA.out
      clear HA
      simp only [laws_FnExactEmptyWagons.j0] at H
      by_cases c40 : x64_17 = true
      ·subst c40
       have H1 : (some false) = some r:=by rw [if_pos rfl] at H;exact H
       clear H
       have H:=H1
       clear H1
       obtain rfl:=Option.some.inj H
       go_wp2
       go_ret
       exact ⟨by first | rfl | (simp [errW_none,errW_some] <;> rfl) | (simp [*,errW_none,errW_some] <;> rfl),by repeat (first | (with_reducible first | exact HB.out | apply below_alloc | apply pw_below_drewN | apply below_drew1) | exact HB.out)⟩
      ·replace c40:=Bool.eq_false_iff.mpr c40
       subst c40
       have H1 : ((laws_toWagonS.f kj17 l0).bind fun t303 => ((laws_eqWagonS.f kj17 t289 t303).bind fun t306 => (if t306 = true then ((laws_toContainerS.f kj17 l1).bind fun t307 => ((laws_eqContainerS.f kj17 t292 t307).bind fun t310 => (if t310 = true then ((laws_toIntS.f kj17 l2).bind fun t311 => ((laws_eqIntS.f kj17 t295 t311).bind fun t314 => (if t314 = true then ((laws_markWagonS.f kj17 t289 1).bind fun bt315 => ((laws_markContainerS.f kj17 t292 bt315.1).bind fun bt317 => ((laws_markIntS.f kj17 t295 bt317.1).bind fun bt319 => (if bt319.1 < 0 then (laws_FnExactEmptyWagons.j1 kj17 l0 l1 l2 t285 t286 t298 true) else ((laws_eqIntS.f kj17 t298 t285).bind fun t321 => (if t321 = true then (laws_FnExactEmptyWagons.j1 kj17 l0 l1 l2 t285 t286 t298 (t299 != t286)) else (laws_FnExactEmptyWagons.j1 kj17 l0 l1 l2 t285 t286 t298 true))))))) else (some false)))) else (some false)))) else (some false)))) = some r:=by rw [if_neg (show ¬ (false = true) by decide)] at H;exact H
       clear H
       have H:=H1
       clear H1
       replace H:=Option.bind_eq_some_iff.mp H
       obtain ⟨t303,A410,H⟩ := H
       replace H : ((laws_eqWagonS.f kj17 t289 t303).bind fun t306 => (if t306 = true then ((laws_toContainerS.f kj17 l1).bind fun t307 => ((laws_eqContainerS.f kj17 t292 t307).bind fun t310 => (if t310 = true then ((laws_toIntS.f kj17 l2).bind fun t311 => ((laws_eqIntS.f kj17 t295 t311).bind fun t314 => (if t314 = true then ((laws_markWagonS.f kj17 t289 1).bind fun bt315 => ((laws_markContainerS.f kj17 t292 bt315.1).bind fun bt317 => ((laws_markIntS.f kj17 t295 bt317.1).bind fun bt319 => (if bt319.1 < 0 then (laws_FnExactEmptyWagons.j1 kj17 l0 l1 l2 t285 t286 t298 true) else ((laws_eqIntS.f kj17 t298 t285).bind fun t321 => (if t321 = true then (laws_FnExactEmptyWagons.j1 kj17 l0 l1 l2 t285 t286 t298 (t299 != t286)) else (laws_FnExactEmptyWagons.j1 kj17 l0 l1 l2 t285 t286 t298 true))))))) else (some false)))) else (some false)))) else (some false))) = some r:=H
       have A41:=Aside0.mk A410
       clear A410
       replace H:=Option.bind_eq_some_iff.mp H
       obtain ⟨t306,A420,H⟩ := H
       replace H : (if t306 = true then ((laws_toContainerS.f kj17 l1).bind fun t307 => ((laws_eqContainerS.f kj17 t292 t307).bind fun t310 => (if t310 = true then ((laws_toIntS.f kj17 l2).bind fun t311 => ((laws_eqIntS.f kj17 t295 t311).bind fun t314 => (if t314 = true then ((laws_markWagonS.f kj17 t289 1).bind fun bt315 => ((laws_markContainerS.f kj17 t292 bt315.1).bind fun bt317 => ((laws_markIntS.f kj17 t295 bt317.1).bind fun bt319 => (if bt319.1 < 0 then (laws_FnExactEmptyWagons.j1 kj17 l0 l1 l2 t285 t286 t298 true) else ((laws_eqIntS.f kj17 t298 t285).bind fun t321 => (if t321 = true then (laws_FnExactEmptyWagons.j1 kj17 l0 l1 l2 t285 t286 t298 (t299 != t286)) else (laws_FnExactEmptyWagons.j1 kj17 l0 l1 l2 t285 t286 t298 true))))))) else (some false)))) else (some false)))) else (some false)) = some r:=H
       have A42:=Aside0.mk A420
       clear A420
       by_cases c43 : t306 = true
       ·subst c43
        have H1 : ((laws_toContainerS.f kj17 l1).bind fun t307 => ((laws_eqContainerS.f kj17 t292 t307).bind fun t310 => (if t310 = true then ((laws_toIntS.f kj17 l2).bind fun t311 => ((laws_eqIntS.f kj17 t295 t311).bind fun t314 => (if t314 = true then ((laws_markWagonS.f kj17 t289 1).bind fun bt315 => ((laws_markContainerS.f kj17 t292 bt315.1).bind fun bt317 => ((laws_markIntS.f kj17 t295 bt317.1).bind fun bt319 => (if bt319.1 < 0 then (laws_FnExactEmptyWagons.j1 kj17 l0 l1 l2 t285 t286 t298 true) else ((laws_eqIntS.f kj17 t298 t285).bind fun t321 => (if t321 = true then (laws_FnExactEmptyWagons.j1 kj17 l0 l1 l2 t285 t286 t298 (t299 != t286)) else (laws_FnExactEmptyWagons.j1 kj17 l0 l1 l2 t285 t286 t298 true))))))) else (some false)))) else (some false)))) = some r:=by rw [if_pos rfl] at H;exact H
        clear H
        have H:=H1
        clear H1
        replace H:=Option.bind_eq_some_iff.mp H
        obtain ⟨t307,A440,H⟩ := H
        replace H : ((laws_eqContainerS.f kj17 t292 t307).bind fun t310 => (if t310 = true then ((laws_toIntS.f kj17 l2).bind fun t311 => ((laws_eqIntS.f kj17 t295 t311).bind fun t314 => (if t314 = true then ((laws_markWagonS.f kj17 t289 1).bind fun bt315 => ((laws_markContainerS.f kj17 t292 bt315.1).bind fun bt317 => ((laws_markIntS.f kj17 t295 bt317.1).bind fun bt319 => (if bt319.1 < 0 then (laws_FnExactEmptyWagons.j1 kj17 l0 l1 l2 t285 t286 t298 true) else ((laws_eqIntS.f kj17 t298 t285).bind fun t321 => (if t321 = true then (laws_FnExactEmptyWagons.j1 kj17 l0 l1 l2 t285 t286 t298 (t299 != t286)) else (laws_FnExactEmptyWagons.j1 kj17 l0 l1 l2 t285 t286 t298 true))))))) else (some false)))) else (some false))) = some r:=H
        have A44:=Aside0.mk A440
        clear A440
        replace H:=Option.bind_eq_some_iff.mp H
        obtain ⟨t310,A450,H⟩ := H
        replace H : (if t310 = true then ((laws_toIntS.f kj17 l2).bind fun t311 => ((laws_eqIntS.f kj17 t295 t311).bind fun t314 => (if t314 = true then ((laws_markWagonS.f kj17 t289 1).bind fun bt315 => ((laws_markContainerS.f kj17 t292 bt315.1).bind fun bt317 => ((laws_markIntS.f kj17 t295 bt317.1).bind fun bt319 => (if bt319.1 < 0 then (laws_FnExactEmptyWagons.j1 kj17 l0 l1 l2 t285 t286 t298 true) else ((laws_eqIntS.f kj17 t298 t285).bind fun t321 => (if t321 = true then (laws_FnExactEmptyWagons.j1 kj17 l0 l1 l2 t285 t286 t298 (t299 != t286)) else (laws_FnExactEmptyWagons.j1 kj17 l0 l1 l2 t285 t286 t298 true))))))) else (some false)))) else (some false)) = some r:=H
        have A45:=Aside0.mk A450
        clear A450
        by_cases c46 : t310 = true
        ·subst c46
         have H1 : ((laws_toIntS.f kj17 l2).bind fun t311 => ((laws_eqIntS.f kj17 t295 t311).bind fun t314 => (if t314 = true then ((laws_markWagonS.f kj17 t289 1).bind fun bt315 => ((laws_markContainerS.f kj17 t292 bt315.1).bind fun bt317 => ((laws_markIntS.f kj17 t295 bt317.1).bind fun bt319 => (if bt319.1 < 0 then (laws_FnExactEmptyWagons.j1 kj17 l0 l1 l2 t285 t286 t298 true) else ((laws_eqIntS.f kj17 t298 t285).bind fun t321 => (if t321 = true then (laws_FnExactEmptyWagons.j1 kj17 l0 l1 l2 t285 t286 t298 (t299 != t286)) else (laws_FnExactEmptyWagons.j1 kj17 l0 l1 l2 t285 t286 t298 true))))))) else (some false)))) = some r:=by rw [if_pos rfl] at H;exact H
         clear H
         have H:=H1
         clear H1
         replace H:=Option.bind_eq_some_iff.mp H
         obtain ⟨t311,A470,H⟩ := H
         replace H : ((laws_eqIntS.f kj17 t295 t311).bind fun t314 => (if t314 = true then ((laws_markWagonS.f kj17 t289 1).bind fun bt315 => ((laws_markContainerS.f kj17 t292 bt315.1).bind fun bt317 => ((laws_markIntS.f kj17 t295 bt317.1).bind fun bt319 => (if bt319.1 < 0 then (laws_FnExactEmptyWagons.j1 kj17 l0 l1 l2 t285 t286 t298 true) else ((laws_eqIntS.f kj17 t298 t285).bind fun t321 => (if t321 = true then (laws_FnExactEmptyWagons.j1 kj17 l0 l1 l2 t285 t286 t298 (t299 != t286)) else (laws_FnExactEmptyWagons.j1 kj17 l0 l1 l2 t285 t286 t298 true))))))) else (some false))) = some r:=H
         have A47:=Aside0.mk A470
         clear A470
         replace H:=Option.bind_eq_some_iff.mp H
         obtain ⟨t314,A480,H⟩ := H
         replace H : (if t314 = true then ((laws_markWagonS.f kj17 t289 1).bind fun bt315 => ((laws_markContainerS.f kj17 t292 bt315.1).bind fun bt317 => ((laws_markIntS.f kj17 t295 bt317.1).bind fun bt319 => (if bt319.1 < 0 then (laws_FnExactEmptyWagons.j1 kj17 l0 l1 l2 t285 t286 t298 true) else ((laws_eqIntS.f kj17 t298 t285).bind fun t321 => (if t321 = true then (laws_FnExactEmptyWagons.j1 kj17 l0 l1 l2 t285 t286 t298 (t299 != t286)) else (laws_FnExactEmptyWagons.j1 kj17 l0 l1 l2 t285 t286 t298 true))))))) else (some false)) = some r:=H
         have A48:=Aside0.mk A480
         clear A480
         by_cases c49 : t314 = true
         ·subst c49
          have H1 : ((laws_markWagonS.f kj17 t289 1).bind fun bt315 => ((laws_markContainerS.f kj17 t292 bt315.1).bind fun bt317 => ((laws_markIntS.f kj17 t295 bt317.1).bind fun bt319 => (if bt319.1 < 0 then (laws_FnExactEmptyWagons.j1 kj17 l0 l1 l2 t285 t286 t298 true) else ((laws_eqIntS.f kj17 t298 t285).bind fun t321 => (if t321 = true then (laws_FnExactEmptyWagons.j1 kj17 l0 l1 l2 t285 t286 t298 (t299 != t286)) else (laws_FnExactEmptyWagons.j1 kj17 l0 l1 l2 t285 t286 t298 true))))))) = some r:=by rw [if_pos rfl] at H;exact H
          clear H
          have H:=H1
          clear H1
          replace H:=Option.bind_eq_some_iff.mp H
          obtain ⟨⟨t315,t316⟩,A500,H⟩ := H
          replace H : ((laws_markContainerS.f kj17 t292 t315).bind fun bt317 => ((laws_markIntS.f kj17 t295 bt317.1).bind fun bt319 => (if bt319.1 < 0 then (laws_FnExactEmptyWagons.j1 kj17 l0 l1 l2 t285 t286 t298 true) else ((laws_eqIntS.f kj17 t298 t285).bind fun t321 => (if t321 = true then (laws_FnExactEmptyWagons.j1 kj17 l0 l1 l2 t285 t286 t298 (t299 != t286)) else (laws_FnExactEmptyWagons.j1 kj17 l0 l1 l2 t285 t286 t298 true)))))) = some r:=H
          have A50:=Aside0.mk A500
          clear A500
          replace H:=Option.bind_eq_some_iff.mp H
          obtain ⟨⟨t317,t318⟩,A510,H⟩ := H
          replace H : ((laws_markIntS.f kj17 t295 t317).bind fun bt319 => (if bt319.1 < 0 then (laws_FnExactEmptyWagons.j1 kj17 l0 l1 l2 t285 t286 t298 true) else ((laws_eqIntS.f kj17 t298 t285).bind fun t321 => (if t321 = true then (laws_FnExactEmptyWagons.j1 kj17 l0 l1 l2 t285 t286 t298 (t299 != t286)) else (laws_FnExactEmptyWagons.j1 kj17 l0 l1 l2 t285 t286 t298 true))))) = some r:=H
          have A51:=Aside0.mk A510
          clear A510
          replace H:=Option.bind_eq_some_iff.mp H
          obtain ⟨⟨t319,t320⟩,A520,H⟩ := H
          replace H : (if t319 < 0 then (laws_FnExactEmptyWagons.j1 kj17 l0 l1 l2 t285 t286 t298 true) else ((laws_eqIntS.f kj17 t298 t285).bind fun t321 => (if t321 = true then (laws_FnExactEmptyWagons.j1 kj17 l0 l1 l2 t285 t286 t298 (t299 != t286)) else (laws_FnExactEmptyWagons.j1 kj17 l0 l1 l2 t285 t286 t298 true)))) = some r:=H
          have A52:=Aside0.mk A520
          clear A520
          have HC53:=Aside0.mk H
          clear H
          go_upto_region 27 with (first | ((with_reducible refine gate_callee (f:=17) rfl ?_);refine goesL_ (some 67) rfl rfl Try.func17 (by kernel_rfl) rfl #[.slice A0 l0.length c0] rfl (by (try simp only [List.map_toArray,List.map_cons,List.map_nil]);first | done | rfl | (simp only [List.length_drop,List.length_take];rfl)) ?_;(with_reducible refine (laws_toWagonS.calls kj17 _ _ l0 t303 _ ?side1 ?side2 A41.out).mono ?_);(case side1 => repeat (first | exact (Kd.C_below HR0.out HB.out) | (with_reducible refine Kd.C_alloc ?_ _) | (with_reducible refine Kd.C_drewN ?_ _) | (with_reducible refine Kd.C_drew ?_)));(case side2 => exact HC0.out);rintro e w54 ⟨v304,rfl,ho0,hb⟩;refine ⟨_,rfl, ?_⟩;have n0_:=Aside0.mk (Kd.R_below (by (with_reducible repeat (first | apply Kd.R_alloc | apply Kd.R_drewN | apply Kd.R_drew));exact HO_8.out) hb);have n1_:=Aside0.mk (Kd.R_elder' (by (with_reducible repeat (first | apply Kd.R_alloc | apply Kd.R_drewN | apply Kd.R_drew));exact HO_10.out) (Kd.R_base ho0) hb);have n2_:=Aside0.mk (Kd.R_below (by (with_reducible repeat (first | apply Kd.R_alloc | apply Kd.R_drewN | apply Kd.R_drew));exact HO_11.out) hb);have n3_:=Aside0.mk (Kd.R_below (by (with_reducible repeat (first | apply Kd.R_alloc | apply Kd.R_drewN | apply Kd.R_drew));exact HO_12.out) hb);have n4_:=Aside0.mk (Kd.R_below (by (with_reducible repeat (first | apply Kd.R_alloc | apply Kd.R_drewN | apply Kd.R_drew));exact HO_13.out) hb);have n5_:=Aside0.mk (Kd.R_lower (Kd.R_new' ho0 (Kd.R_lt (by (with_reducible repeat (first | apply Kd.R_alloc | apply Kd.R_drewN | apply Kd.R_drew));exact HO_10.out))) (below_size (by repeat (first | (with_reducible first | exact HB.out | apply below_alloc | apply pw_below_drewN | apply below_drew1) | exact HB.out))));have n6_:=Aside0.mk (below_step (by repeat (first | (with_reducible first | exact HB.out | apply below_alloc | apply pw_below_drewN | apply below_drew1) | exact HB.out)) hb);clear HO_8;clear HO_10;clear HO_11;clear HO_12;clear HO_13;clear HB;have HO_8:=n0_;have HO_10:=n1_;have HO_11:=n2_;have HO_12:=n3_;have HO_13:=n4_;have HO305:=n5_;have HB:=n6_;clear n0_ n1_ n2_ n3_ n4_ n5_ n6_;(try clear hb);(try clear hb2);(try clear hk);(try clear hi);(try clear ho0);obtain ⟨Ao55,co55,eo55⟩ := Kd.R_slice HO305.out;subst eo55) | ((with_reducible refine gate_callee (f:=19) rfl ?_);refine goesL_ (some 68) rfl rfl Try.func19 (by kernel_rfl) rfl #[.slice Ao30 t289.length co30, .slice Ao55 t303.length co55] rfl (by (try simp only [List.map_toArray,List.map_cons,List.map_nil]);first | done | rfl | (simp only [List.length_drop,List.length_take];rfl)) ?_;(with_reducible refine (laws_eqWagonS.calls kj17 _ _ t289 _ _ t303 true _ ?side1 ?side2 ?side3 ?side4 A42.out).mono ?_);(case side1 => repeat (first | exact (Kd.R_reads' HO_10.out).2.2 | (with_reducible refine Kd.C_alloc ?_ _) | (with_reducible refine Kd.C_drewN ?_ _) | (with_reducible refine Kd.C_drew ?_)));(case side2 => exact (Kd.R_reads' HO_10.out).2.1);(case side3 => repeat (first | exact (Kd.R_reads' HO305.out).2.2 | (with_reducible refine Kd.C_alloc ?_ _) | (with_reducible refine Kd.C_drewN ?_ _) | (with_reducible refine Kd.C_drew ?_)));(case side4 => exact (Kd.R_reads' HO305.out).2.1);rintro e w56 ⟨rfl,hb⟩;refine ⟨_,rfl, ?_⟩;have n0_:=Aside0.mk (Kd.R_below (by (with_reducible repeat (first | apply Kd.R_alloc | apply Kd.R_drewN | apply Kd.R_drew));exact HO_8.out) hb);have n1_:=Aside0.mk (Kd.R_below (by (with_reducible repeat (first | apply Kd.R_alloc | apply Kd.R_drewN | apply Kd.R_drew));exact HO_10.out) hb);have n2_:=Aside0.mk (Kd.R_below (by (with_reducible repeat (first | apply Kd.R_alloc | apply Kd.R_drewN | apply Kd.R_drew));exact HO_11.out) hb);have n3_:=Aside0.mk (Kd.R_below (by (with_reducible repeat (first | apply Kd.R_alloc | apply Kd.R_drewN | apply Kd.R_drew));exact HO_12.out) hb);have n4_:=Aside0.mk (Kd.R_below (by (with_reducible repeat (first | apply Kd.R_alloc | apply Kd.R_drewN | apply Kd.R_drew));exact HO_13.out) hb);have n5_:=Aside0.mk (Kd.R_below (by (with_reducible repeat (first | apply Kd.R_alloc | apply Kd.R_drewN | apply Kd.R_drew));exact HO305.out) hb);have n6_:=Aside0.mk (below_step (by repeat (first | (with_reducible first | exact HB.out | apply below_alloc | apply pw_below_drewN | apply below_drew1) | exact HB.out)) hb);clear HO_8;clear HO_10;clear HO_11;clear HO_12;clear HO_13;clear HO305;clear HB;have HO_8:=n0_;have HO_10:=n1_;have HO_11:=n2_;have HO_12:=n3_;have HO_13:=n4_;have HO305:=n5_;have HB:=n6_;clear n0_ n1_ n2_ n3_ n4_ n5_ n6_;(try clear hb);(try clear hb2);(try clear hk);(try clear hi)) | ((with_reducible refine gate_callee (f:=22) rfl ?_);refine goesL_ (some 72) rfl rfl Try.func22 (by kernel_rfl) rfl #[.slice A1 l1.length c1] rfl (by (try simp only [List.map_toArray,List.map_cons,List.map_nil]);first | done | rfl | (simp only [List.length_drop,List.length_take];rfl)) ?_;(with_reducible refine (laws_toContainerS.calls kj17 _ _ l1 t307 _ ?side1 ?side2 A44.out).mono ?_);(case side1 => repeat (first | exact (Kd.C_below HR1.out HB.out) | (with_reducible refine Kd.C_alloc ?_ _) | (with_reducible refine Kd.C_drewN ?_ _) | (with_reducible refine Kd.C_drew ?_)));(case side2 => exact HC1.out);rintro e w57 ⟨v308,rfl,ho0,hb⟩;refine ⟨_,rfl, ?_⟩;have n0_:=Aside0.mk (Kd.R_below (by (with_reducible repeat (first | apply Kd.R_alloc | apply Kd.R_drewN | apply Kd.R_drew));exact HO_8.out) hb);have n1_:=Aside0.mk (Kd.R_below (by (with_reducible repeat (first | apply Kd.R_alloc | apply Kd.R_drewN | apply Kd.R_drew));exact HO_10.out) hb);have n2_:=Aside0.mk (Kd.R_elder' (by (with_reducible repeat (first | apply Kd.R_alloc | apply Kd.R_drewN | apply Kd.R_drew));exact HO_11.out) (Kd.R_base ho0) hb);have n3_:=Aside0.mk (Kd.R_below (by (with_reducible repeat (first | apply Kd.R_alloc | apply Kd.R_drewN | apply Kd.R_drew));exact HO_12.out) hb);have n4_:=Aside0.mk (Kd.R_below (by (with_reducible repeat (first | apply Kd.R_alloc | apply Kd.R_drewN | apply Kd.R_drew));exact HO_13.out) hb);have n5_:=Aside0.mk (Kd.R_below (by (with_reducible repeat (first | apply Kd.R_alloc | apply Kd.R_drewN | apply Kd.R_drew));exact HO305.out) hb);have n6_:=Aside0.mk (Kd.R_lower (Kd.R_new' ho0 (Kd.R_lt (by (with_reducible repeat (first | apply Kd.R_alloc | apply Kd.R_drewN | apply Kd.R_drew));exact HO_11.out))) (below_size (by repeat (first | (with_reducible first | exact HB.out | apply below_alloc | apply pw_below_drewN | apply below_drew1) | exact HB.out))));have n7_:=Aside0.mk (below_step (by repeat (first | (with_reducible first | exact HB.out | apply below_alloc | apply pw_below_drewN | apply below_drew1) | exact HB.out)) hb);clear HO_8;clear HO_10;clear HO_11;clear HO_12;clear HO_13;clear HO305;clear HB;have HO_8:=n0_;have HO_10:=n1_;have HO_11:=n2_;have HO_12:=n3_;have HO_13:=n4_;have HO305:=n5_;have HO309:=n6_;have HB:=n7_;clear n0_ n1_ n2_ n3_ n4_ n5_ n6_ n7_;(try clear hb);(try clear hb2);(try clear hk);(try clear hi);(try clear ho0);obtain ⟨Ao58,co58,eo58⟩ := Kd.R_slice HO309.out;subst eo58) | ((with_reducible refine gate_callee (f:=25) rfl ?_);refine goesL_ (some 73) rfl rfl Try.func25 (by kernel_rfl) rfl #[.slice Ao31 t292.length co31, .slice Ao58 t307.length co58] rfl (by (try simp only [List.map_toArray,List.map_cons,List.map_nil]);first | done | rfl | (simp only [List.length_drop,List.length_take];rfl)) ?_;(with_reducible refine (laws_eqContainerS.calls kj17 _ _ t292 _ _ t307 true _ ?side1 ?side2 ?side3 ?side4 A45.out).mono ?_);(case side1 => repeat (first | exact (Kd.R_reads' HO_11.out).2.2 | (with_reducible refine Kd.C_alloc ?_ _) | (with_reducible refine Kd.C_drewN ?_ _) | (with_reducible refine Kd.C_drew ?_)));(case side2 => exact (Kd.R_reads' HO_11.out).2.1);(case side3 => repeat (first | exact (Kd.R_reads' HO309.out).2.2 | (with_reducible refine Kd.C_alloc ?_ _) | (with_reducible refine Kd.C_drewN ?_ _) | (with_reducible refine Kd.C_drew ?_)));(case side4 => exact (Kd.R_reads' HO309.out).2.1);rintro e w59 ⟨rfl,hb⟩;refine ⟨_,rfl, ?_⟩;have n0_:=Aside0.mk (Kd.R_below (by (with_reducible repeat (first | apply Kd.R_alloc | apply Kd.R_drewN | apply Kd.R_drew));exact HO_8.out) hb);have n1_:=Aside0.mk (Kd.R_below (by (with_reducible repeat (first | apply Kd.R_alloc | apply Kd.R_drewN | apply Kd.R_drew));exact HO_10.out) hb);have n2_:=Aside0.mk (Kd.R_below (by (with_reducible repeat (first | apply Kd.R_alloc | apply Kd.R_drewN | apply Kd.R_drew));exact HO_11.out) hb);have n3_:=Aside0.mk (Kd.R_below (by (with_reducible repeat (first | apply Kd.R_alloc | apply Kd.R_drewN | apply Kd.R_drew));exact HO_12.out) hb);have n4_:=Aside0.mk (Kd.R_below (by (with_reducible repeat (first | apply Kd.R_alloc | apply Kd.R_drewN | apply Kd.R_drew));exact HO_13.out) hb);have n5_:=Aside0.mk (Kd.R_below (by (with_reducible repeat (first | apply Kd.R_alloc | apply Kd.R_drewN | apply Kd.R_drew));exact HO305.out) hb);have n6_:=Aside0.mk (Kd.R_below (by (with_reducible repeat (first | apply Kd.R_alloc | apply Kd.R_drewN | apply Kd.R_drew));exact HO309.out) hb);have n7_:=Aside0.mk (below_step (by repeat (first | (with_reducible first | exact HB.out | apply below_alloc | apply pw_below_drewN | apply below_drew1) | exact HB.out)) hb);clear HO_8;clear HO_10;clear HO_11;clear HO_12;clear HO_13;clear HO305;clear HO309;clear HB;have HO_8:=n0_;have HO_10:=n1_;have HO_11:=n2_;have HO_12:=n3_;have HO_13:=n4_;have HO305:=n5_;have HO309:=n6_;have HB:=n7_;clear n0_ n1_ n2_ n3_ n4_ n5_ n6_ n7_;(try clear hb);(try clear hb2);(try clear hk);(try clear hi)) | ((with_reducible refine gate_callee (f:=23) rfl ?_);refine goesL_ (some 77) rfl rfl Try.func23 (by kernel_rfl) rfl #[.slice A2 l2.length c2] rfl (by (try simp only [List.map_toArray,List.map_cons,List.map_nil]);first | done | rfl | (simp only [List.length_drop,List.length_take];rfl)) ?_;(with_reducible refine (laws_toIntS.calls kj17 _ _ l2 t311 _ ?side1 ?side2 A47.out).mono ?_);(case side1 => repeat (first | exact (Kd.C_below HR2.out HB.out) | (with_reducible refine Kd.C_alloc ?_ _) | (with_reducible refine Kd.C_drewN ?_ _) | (with_reducible refine Kd.C_drew ?_)));(case side2 => exact HC2.out);rintro e w60 ⟨v312,rfl,ho0,hb⟩;refine ⟨_,rfl, ?_⟩;have n0_:=Aside0.mk (Kd.R_elder' (by (with_reducible repeat (first | apply Kd.R_alloc | apply Kd.R_drewN | apply Kd.R_drew));exact HO_8.out) (Kd.R_base ho0) hb);have n1_:=Aside0.mk (Kd.R_below (by (with_reducible repeat (first | apply Kd.R_alloc | apply Kd.R_drewN | apply Kd.R_drew));exact HO_10.out) hb);have n2_:=Aside0.mk (Kd.R_below (by (with_reducible repeat (first | apply Kd.R_alloc | apply Kd.R_drewN | apply Kd.R_drew));exact HO_11.out) hb);have n3_:=Aside0.mk (Kd.R_elder' (by (with_reducible repeat (first | apply Kd.R_alloc | apply Kd.R_drewN | apply Kd.R_drew));exact HO_12.out) (Kd.R_base ho0) hb);have n4_:=Aside0.mk (Kd.R_elder' (by (with_reducible repeat (first | apply Kd.R_alloc | apply Kd.R_drewN | apply Kd.R_drew));exact HO_13.out) (Kd.R_base ho0) hb);have n5_:=Aside0.mk (Kd.R_below (by (with_reducible repeat (first | apply Kd.R_alloc | apply Kd.R_drewN | apply Kd.R_drew));exact HO305.out) hb);have n6_:=Aside0.mk (Kd.R_below (by (with_reducible repeat (first | apply Kd.R_alloc | apply Kd.R_drewN | apply Kd.R_drew));exact HO309.out) hb);have n7_:=Aside0.mk (Kd.R_lower (Kd.R_new' (Kd.R_new' (Kd.R_new' ho0 (Kd.R_lt (by (with_reducible repeat (first | apply Kd.R_alloc | apply Kd.R_drewN | apply Kd.R_drew));exact HO_8.out))) (Kd.R_lt (by (with_reducible repeat (first | apply Kd.R_alloc | apply Kd.R_drewN | apply Kd.R_drew));exact HO_12.out))) (Kd.R_lt (by (with_reducible repeat (first | apply Kd.R_alloc | apply Kd.R_drewN | apply Kd.R_drew));exact HO_13.out))) (below_size (by repeat (first | (with_reducible first | exact HB.out | apply below_alloc | apply pw_below_drewN | apply below_drew1) | exact HB.out))));have n8_:=Aside0.mk (below_step (by repeat (first | (with_reducible first | exact HB.out | apply below_alloc | apply pw_below_drewN | apply below_drew1) | exact HB.out)) hb);clear HO_8;clear HO_10;clear HO_11;clear HO_12;clear HO_13;clear HO305;clear HO309;clear HB;have HO_8:=n0_;have HO_10:=n1_;have HO_11:=n2_;have HO_12:=n3_;have HO_13:=n4_;have HO305:=n5_;have HO309:=n6_;have HO313:=n7_;have HB:=n8_;clear n0_ n1_ n2_ n3_ n4_ n5_ n6_ n7_ n8_;(try clear hb);(try clear hb2);(try clear hk);(try clear hi);(try clear ho0);obtain ⟨Ao61,co61,eo61⟩ := Kd.R_slice HO313.out;subst eo61) | ((with_reducible refine gate_callee (f:=26) rfl ?_);refine goesL_ (some 78) rfl rfl Try.func26 (by kernel_rfl) rfl #[.slice Ao32 t295.length co32, .slice Ao61 t311.length co61] rfl (by (try simp only [List.map_toArray,List.map_cons,List.map_nil]);first | done | rfl | (simp only [List.length_drop,List.length_take];rfl)) ?_;(with_reducible refine (laws_eqIntS.calls kj17 _ _ t295 _ _ t311 true _ ?side1 ?side2 ?side3 ?side4 A48.out).mono ?_);(case side1 => repeat (first | exact (Kd.R_reads' HO_12.out).2.2 | (with_reducible refine Kd.C_alloc ?_ _) | (with_reducible refine Kd.C_drewN ?_ _) | (with_reducible refine Kd.C_drew ?_)));(case side2 => exact (Kd.R_reads' HO_12.out).2.1);(case side3 => repeat (first | exact (Kd.R_reads' HO313.out).2.2 | (with_reducible refine Kd.C_alloc ?_ _) | (with_reducible refine Kd.C_drewN ?_ _) | (with_reducible refine Kd.C_drew ?_)));(case side4 => exact (Kd.R_reads' HO313.out).2.1);rintro e w' ⟨rfl,⟨nd,rfl⟩⟩;refine ⟨_,rfl, ?_⟩) | ((with_reducible refine gate_callee (f:=33) rfl ?_);refine goesL_ (some 82) rfl rfl Try.func33 (by kernel_rfl) rfl #[.slice Ao30 t289.length co30, .int .i64 1] rfl (by (try simp only [List.map_toArray,List.map_cons,List.map_nil]);first | done | rfl | (simp only [List.length_drop,List.length_take];rfl)) ?_;(with_reducible refine (laws_markWagonS.calls kj17 (fun k_ => some k_ = (.slice Ao30 t289.length co30 : Value).ownBlock) (.slice Ao30 t289.length co30) t289 1 t315 t316 w _ ?side1 ?side2 A50.out).mono ?_);(case side1 => repeat (first | (with_reducible first | exact HB.out | apply below_alloc | apply pw_below_drewN | apply below_drew1) | exact HB.out));(case side2 => exact Kd.R_tight rfl HO_10.out);rintro e w62 ⟨rfl,hy0,hb,hkp⟩;refine ⟨_,rfl, ?_⟩;have n0_:=Aside0.mk (Kd.R_mono (ok':=fun k_ => some k_ ≠ (.slice Ao32 t295.length co32 : Value).ownBlock ∧ some k_ ≠ (v300 : Value).ownBlock ∧ some k_ ≠ (.slice Ao61 t311.length co61 : Value).ownBlock) (Kd.R_keptB ((Kd.R_apart' HO_8.out (Kd.R_typed HO_10.out) (by decide))) hkp (fun k_ hk_ hs_ => (hk_.2) hs_)) (fun k_ hk_ => ⟨hk_.1.1.1.1,hk_.1.1.1.2,hk_.1.1.2⟩));have n1_:=Aside0.mk (Kd.R_reok rfl hy0 (fun k_ e_ => HO_10.out.1 k_ e_));have n2_:=Aside0.mk (Kd.R_mono (ok':=fun k_ => some k_ ≠ (.slice Ao58 t307.length co58 : Value).ownBlock) (Kd.R_keptB ((Kd.R_apart' HO_11.out (Kd.R_typed HO_10.out) (by decide))) hkp (fun k_ hk_ hs_ => (hk_.2) hs_)) (fun k_ hk_ => hk_.1.1.2));have n3_:=Aside0.mk (Kd.R_mono (ok':=fun k_ => some k_ ≠ (v287 : Value).ownBlock ∧ some k_ ≠ (v300 : Value).ownBlock ∧ some k_ ≠ (.slice Ao61 t311.length co61 : Value).ownBlock) (Kd.R_keptB ((Kd.R_apart' HO_12.out (Kd.R_typed HO_10.out) (by decide))) hkp (fun k_ hk_ hs_ => (hk_.2) hs_)) (fun k_ hk_ => ⟨hk_.1.1.1.1,hk_.1.1.1.2,hk_.1.1.2⟩));have n4_:=Aside0.mk (Kd.R_mono (ok':=fun k_ => some k_ ≠ (v287 : Value).ownBlock ∧ some k_ ≠ (.slice Ao32 t295.length co32 : Value).ownBlock ∧ some k_ ≠ (.slice Ao61 t311.length co61 : Value).ownBlock) (Kd.R_keptB ((Kd.R_apart' HO_13.out (Kd.R_typed HO_10.out) (by decide))) hkp (fun k_ hk_ hs_ => (hk_.2) hs_)) (fun k_ hk_ => ⟨hk_.1.1.1.1,hk_.1.1.1.2,hk_.1.1.2⟩));have n5_:=Aside0.mk (Kd.R_mono (ok':=fun k_ => some k_ ≠ (.slice Ao30 t289.length co30 : Value).ownBlock) (Kd.R_keptB (HO305.out) hkp (fun k_ hk_ hs_ => (hk_.2) hs_)) (fun k_ hk_ => hk_.1.2));have n6_:=Aside0.mk (Kd.R_mono (ok':=fun k_ => some k_ ≠ (.slice Ao31 t292.length co31 : Value).ownBlock) (Kd.R_keptB ((Kd.R_apart' HO309.out (Kd.R_typed HO_10.out) (by decide))) hkp (fun k_ hk_ hs_ => (hk_.2) hs_)) (fun k_ hk_ => hk_.1.1.2));have n7_:=Aside0.mk (Kd.R_mono (ok':=fun k_ => some k_ ≠ (v287 : Value).ownBlock ∧ some k_ ≠ (.slice Ao32 t295.length co32 : Value).ownBlock ∧ some k_ ≠ (v300 : Value).ownBlock) (Kd.R_keptB ((Kd.R_apart' HO313.out (Kd.R_typed HO_10.out) (by decide))) hkp (fun k_ hk_ hs_ => (hk_.2) hs_)) (fun k_ hk_ => ⟨hk_.1.1.1.1.2,hk_.1.1.1.2,hk_.1.1.2⟩));have n8_:=Aside0.mk (hb);clear HO_8;clear HO_10;clear HO_11;clear HO_12;clear HO_13;clear HO305;clear HO309;clear HO313;clear HB;have HO_8:=n0_;have HO_10:=n1_;have HO_11:=n2_;have HO_12:=n3_;have HO_13:=n4_;have HO305:=n5_;have HO309:=n6_;have HO313:=n7_;have HB:=n8_;clear n0_ n1_ n2_ n3_ n4_ n5_ n6_ n7_ n8_;(try clear hb);(try clear hkp);(try clear hy0)) | ((with_reducible refine gate_callee (f:=34) rfl ?_);refine goesL_ (some 85) rfl rfl Try.func34 (by kernel_rfl) rfl #[.slice Ao31 t292.length co31, .int .i64 t315] rfl (by (try simp only [List.map_toArray,List.map_cons,List.map_nil]);first | done | rfl | (simp only [List.length_drop,List.length_take];rfl)) ?_;(with_reducible refine (laws_markContainerS.calls kj17 (fun k_ => some k_ = (.slice Ao31 t292.length co31 : Value).ownBlock) (.slice Ao31 t292.length co31) t292 t315 t317 t318 w _ ?side1 ?side2 A51.out).mono ?_);(case side1 => repeat (first | (with_reducible first | exact HB.out | apply below_alloc | apply pw_below_drewN | apply below_drew1) | exact HB.out));(case side2 => exact Kd.R_tight rfl HO_11.out);rintro e w63 ⟨rfl,hy0,hb,hkp⟩;refine ⟨_,rfl, ?_⟩;have n0_:=Aside0.mk (Kd.R_mono (ok':=fun k_ => some k_ ≠ (.slice Ao32 t295.length co32 : Value).ownBlock ∧ some k_ ≠ (v300 : Value).ownBlock ∧ some k_ ≠ (.slice Ao61 t311.length co61 : Value).ownBlock) (Kd.R_keptB ((Kd.R_apart' HO_8.out (Kd.R_typed HO_11.out) (by decide))) hkp (fun k_ hk_ hs_ => (hk_.2) hs_)) (fun k_ hk_ => ⟨hk_.1.1.1,hk_.1.1.2.1,hk_.1.1.2.2⟩));have n1_:=Aside0.mk (Kd.R_mono (ok':=fun k_ => some k_ ≠ (.slice Ao55 t303.length co55 : Value).ownBlock) (Kd.R_keptB ((Kd.R_apart' HO_10.out (Kd.R_typed HO_11.out) (by decide))) hkp (fun k_ hk_ hs_ => (hk_.2) hs_)) (fun k_ hk_ => hk_.1.1.2));have n2_:=Aside0.mk (Kd.R_reok rfl hy0 (fun k_ e_ => HO_11.out.1 k_ e_));have n3_:=Aside0.mk (Kd.R_mono (ok':=fun k_ => some k_ ≠ (v287 : Value).ownBlock ∧ some k_ ≠ (v300 : Value).ownBlock ∧ some k_ ≠ (.slice Ao61 t311.length co61 : Value).ownBlock) (Kd.R_keptB ((Kd.R_apart' HO_12.out (Kd.R_typed HO_11.out) (by decide))) hkp (fun k_ hk_ hs_ => (hk_.2) hs_)) (fun k_ hk_ => ⟨hk_.1.1.1,hk_.1.1.2.1,hk_.1.1.2.2⟩));have n4_:=Aside0.mk (Kd.R_mono (ok':=fun k_ => some k_ ≠ (v287 : Value).ownBlock ∧ some k_ ≠ (.slice Ao32 t295.length co32 : Value).ownBlock ∧ some k_ ≠ (.slice Ao61 t311.length co61 : Value).ownBlock) (Kd.R_keptB ((Kd.R_apart' HO_13.out (Kd.R_typed HO_11.out) (by decide))) hkp (fun k_ hk_ hs_ => (hk_.2) hs_)) (fun k_ hk_ => ⟨hk_.1.1.1,hk_.1.1.2.1,hk_.1.1.2.2⟩));have n5_:=Aside0.mk (Kd.R_mono (ok':=fun k_ => some k_ ≠ (.slice Ao30 t289.length co30 : Value).ownBlock) (Kd.R_keptB ((Kd.R_apart' HO305.out (Kd.R_typed HO_11.out) (by decide))) hkp (fun k_ hk_ hs_ => (hk_.2) hs_)) (fun k_ hk_ => hk_.1.1));have n6_:=Aside0.mk (Kd.R_mono (ok':=fun k_ => some k_ ≠ (.slice Ao31 t292.length co31 : Value).ownBlock) (Kd.R_keptB (HO309.out) hkp (fun k_ hk_ hs_ => (hk_) hs_)) (fun k_ hk_ => hk_.1));have n7_:=Aside0.mk (Kd.R_mono (ok':=fun k_ => some k_ ≠ (v287 : Value).ownBlock ∧ some k_ ≠ (.slice Ao32 t295.length co32 : Value).ownBlock ∧ some k_ ≠ (v300 : Value).ownBlock) (Kd.R_keptB ((Kd.R_apart' HO313.out (Kd.R_typed HO_11.out) (by decide))) hkp (fun k_ hk_ hs_ => (hk_.2) hs_)) (fun k_ hk_ => ⟨hk_.1.1.1,hk_.1.1.2.1,hk_.1.1.2.2⟩));have n8_:=Aside0.mk (hb);clear HO_8;clear HO_10;clear HO_11;clear HO_12;clear HO_13;clear HO305;clear HO309;clear HO313;clear HB;have HO_8:=n0_;have HO_10:=n1_;have HO_11:=n2_;have HO_12:=n3_;have HO_13:=n4_;have HO305:=n5_;have HO309:=n6_;have HO313:=n7_;have HB:=n8_;clear n0_ n1_ n2_ n3_ n4_ n5_ n6_ n7_ n8_;(try clear hb);(try clear hkp);(try clear hy0)) | ((with_reducible refine gate_callee (f:=35) rfl ?_);refine goesL_ (some 88) rfl rfl Try.func35 (by kernel_rfl) rfl #[.slice Ao32 t295.length co32, .int .i64 t317] rfl (by (try simp only [List.map_toArray,List.map_cons,List.map_nil]);first | done | rfl | (simp only [List.length_drop,List.length_take];rfl)) ?_;(with_reducible refine (laws_markIntS.calls kj17 (fun k_ => some k_ = (.slice Ao32 t295.length co32 : Value).ownBlock) (.slice Ao32 t295.length co32) t295 t317 t319 t320 w _ ?side1 ?side2 A52.out).mono ?_);(case side1 => repeat (first | (with_reducible first | exact HB.out | apply below_alloc | apply pw_below_drewN | apply below_drew1) | exact HB.out));(case side2 => exact Kd.R_tight rfl HO_12.out);rintro e w64 ⟨rfl,hy0,hb,hkp⟩;refine ⟨_,rfl, ?_⟩;have n0_:=Aside0.mk (Kd.R_mono (ok':=fun k_ => some k_ ≠ (.slice Ao32 t295.length co32 : Value).ownBlock ∧ some k_ ≠ (v300 : Value).ownBlock ∧ some k_ ≠ (.slice Ao61 t311.length co61 : Value).ownBlock) (Kd.R_keptB (HO_8.out) hkp (fun k_ hk_ hs_ => (hk_.1) hs_)) (fun k_ hk_ => ⟨hk_.1.1,hk_.1.2.1,hk_.1.2.2⟩));have n1_:=Aside0.mk (Kd.R_mono (ok':=fun k_ => some k_ ≠ (.slice Ao55 t303.length co55 : Value).ownBlock) (Kd.R_keptB ((Kd.R_apart' HO_10.out (Kd.R_typed HO_12.out) (by decide))) hkp (fun k_ hk_ hs_ => (hk_.2) hs_)) (fun k_ hk_ => hk_.1.1));have n2_:=Aside0.mk (Kd.R_mono (ok':=fun k_ => some k_ ≠ (.slice Ao58 t307.length co58 : Value).ownBlock) (Kd.R_keptB ((Kd.R_apart' HO_11.out (Kd.R_typed HO_12.out) (by decide))) hkp (fun k_ hk_ hs_ => (hk_.2) hs_)) (fun k_ hk_ => hk_.1.1));have n3_:=Aside0.mk (Kd.R_reok rfl hy0 (fun k_ e_ => HO_12.out.1 k_ e_));have n4_:=Aside0.mk (Kd.R_mono (ok':=fun k_ => some k_ ≠ (v287 : Value).ownBlock ∧ some k_ ≠ (.slice Ao32 t295.length co32 : Value).ownBlock ∧ some k_ ≠ (.slice Ao61 t311.length co61 : Value).ownBlock) (Kd.R_keptB (HO_13.out) hkp (fun k_ hk_ hs_ => (hk_.2.1) hs_)) (fun k_ hk_ => ⟨hk_.1.1,hk_.1.2.1,hk_.1.2.2⟩));have n5_:=Aside0.mk (Kd.R_mono (ok':=fun k_ => some k_ ≠ (.slice Ao30 t289.length co30 : Value).ownBlock) (Kd.R_keptB ((Kd.R_apart' HO305.out (Kd.R_typed HO_12.out) (by decide))) hkp (fun k_ hk_ hs_ => (hk_.2) hs_)) (fun k_ hk_ => hk_.1.1));have n6_:=Aside0.mk (Kd.R_mono (ok':=fun k_ => some k_ ≠ (.slice Ao31 t292.length co31 : Value).ownBlock) (Kd.R_keptB ((Kd.R_apart' HO309.out (Kd.R_typed HO_12.out) (by decide))) hkp (fun k_ hk_ hs_ => (hk_.2) hs_)) (fun k_ hk_ => hk_.1.1));have n7_:=Aside0.mk (Kd.R_mono (ok':=fun k_ => some k_ ≠ (v287 : Value).ownBlock ∧ some k_ ≠ (.slice Ao32 t295.length co32 : Value).ownBlock ∧ some k_ ≠ (v300 : Value).ownBlock) (Kd.R_keptB (HO313.out) hkp (fun k_ hk_ hs_ => (hk_.2.1) hs_)) (fun k_ hk_ => ⟨hk_.1.1,hk_.1.2.1,hk_.1.2.2⟩));have n8_:=Aside0.mk (hb);clear HO_8;clear HO_10;clear HO_11;clear HO_12;clear HO_13;clear HO305;clear HO309;clear HO313;clear HB;have HO_8:=n0_;have HO_10:=n1_;have HO_11:=n2_;have HO_12:=n3_;have HO_13:=n4_;have HO305:=n5_;have HO309:=n6_;have HO313:=n7_;have HB:=n8_;clear n0_ n1_ n2_ n3_ n4_ n5_ n6_ n7_ n8_;(try clear hb);(try clear hkp);(try clear hy0)))
          (try simp only [Act.put,sA_,s0_,s1_])
          go_cut [101] (fun v101 wc => ∃ (kq : Nat) (x101_52 : Bool),v101 = .bool x101_52 ∧ Aside0 (laws_FnExactEmptyWagons.j1 kq l0 l1 l2 t285 t286 t298 x101_52 = some r) ∧ Aside0 (kq ≤ kj17) ∧ Aside0 (Kd.R (Kd.int .i64) 3 wc w.heap.size (fun k_ => some k_ ≠ (v300 : Value).ownBlock) v287 t285) ∧ Aside0 (Kd.R (Kd.int .i64) 3 wc w.heap.size (fun k_ => some k_ ≠ (v287 : Value).ownBlock) v300 t298) ∧ Aside0 (Below w.heap.size w wc))
          case first =>
           have H:=HC53.out
           clear HC53
           by_cases c65 : t319 < 0
           ·rw [if_pos c65] at H
            have c65b0 : decide (t319 < 0) = true:=decide_eq_true c65
            clear c65
            (first | rw [c65b0] | (simp only [i64_w,i32_w];rw [c65b0]) | skip)
            have H':=Aside0.mk H
            clear H
            go_wp2
            go_meet
            case rel => exact ⟨_,(true),(by first | rfl | (simp;done) | (simp [*];done)),H',⟨by have:=HJ17.out;first | omega | exact Nat.le_refl _⟩,⟨by (with_reducible repeat (first | apply Kd.R_alloc | apply Kd.R_drewN | apply Kd.R_drew));exact Kd.R_mono HO_8.out (fun _ hk => hk.2.1)⟩,⟨by (with_reducible repeat (first | apply Kd.R_alloc | apply Kd.R_drewN | apply Kd.R_drew));exact Kd.R_mono HO_13.out (fun _ hk => hk.1)⟩,⟨by repeat (first | (with_reducible first | exact HB.out | apply below_alloc | apply pw_below_drewN | apply below_drew1) | exact HB.out)⟩⟩
           ·rw [if_neg c65] at H
            have c65b0 : decide (t319 < 0) = false:=decide_eq_false c65
            clear c65
            (first | rw [c65b0] | (simp only [i64_w,i32_w];rw [c65b0]) | skip)
            replace H:=Option.bind_eq_some_iff.mp H
            obtain ⟨t321,A660,H⟩ := H
            replace H : (if t321 = true then (laws_FnExactEmptyWagons.j1 kj17 l0 l1 l2 t285 t286 t298 (t299 != t286)) else (laws_FnExactEmptyWagons.j1 kj17 l0 l1 l2 t285 t286 t298 true)) = some r:=H
            have A66:=Aside0.mk A660
            clear A660
            by_cases c67 : t321 = true
            ·subst c67
             have H1 : (laws_FnExactEmptyWagons.j1 kj17 l0 l1 l2 t285 t286 t298 (t299 != t286)) = some r:=by rw [if_pos rfl] at H;exact H
             clear H
             have H:=H1
             clear H1
             have H':=Aside0.mk H
             clear H
             obtain ⟨Ao68,co68,eo68⟩ := Kd.R_slice HO_13.out
             subst eo68
             obtain ⟨Ao69,co69,eo69⟩ := Kd.R_slice HO_8.out
             subst eo69
             go_wp2_with (first | (go_at_call 26;(with_reducible refine (laws_eqIntS.calls kj17 _ _ t298 _ _ t285 true _ ?side1 ?side2 ?side3 ?side4 A66.out).mono ?_);(case side1 => repeat (first | exact (Kd.R_reads' HO_13.out).2.2 | (with_reducible refine Kd.C_alloc ?_ _) | (with_reducible refine Kd.C_drewN ?_ _) | (with_reducible refine Kd.C_drew ?_)));(case side2 => exact (Kd.R_reads' HO_13.out).2.1);(case side3 => repeat (first | exact (Kd.R_reads' HO_8.out).2.2 | (with_reducible refine Kd.C_alloc ?_ _) | (with_reducible refine Kd.C_drewN ?_ _) | (with_reducible refine Kd.C_drew ?_)));(case side4 => exact (Kd.R_reads' HO_8.out).2.1);rintro e w' ⟨rfl,⟨nd,rfl⟩⟩))
             go_meet
             case rel => exact ⟨_,((t299 != t286)),(by first | rfl | (simp;done) | (simp [*];done)),H',⟨by have:=HJ17.out;first | omega | exact Nat.le_refl _⟩,⟨by (with_reducible repeat (first | apply Kd.R_alloc | apply Kd.R_drewN | apply Kd.R_drew));exact Kd.R_mono HO_8.out (fun _ hk => hk.2.1)⟩,⟨by (with_reducible repeat (first | apply Kd.R_alloc | apply Kd.R_drewN | apply Kd.R_drew));exact Kd.R_mono HO_13.out (fun _ hk => hk.1)⟩,⟨by repeat (first | (with_reducible first | exact HB.out | apply below_alloc | apply pw_below_drewN | apply below_drew1) | exact HB.out)⟩⟩
            ·replace c67:=Bool.eq_false_iff.mpr c67
             subst c67
             have H1 : (laws_FnExactEmptyWagons.j1 kj17 l0 l1 l2 t285 t286 t298 true) = some r:=by rw [if_neg (show ¬ (false = true) by decide)] at H;exact H
             clear H
             have H:=H1
             clear H1
             have H':=Aside0.mk H
             clear H
             obtain ⟨Ao70,co70,eo70⟩ := Kd.R_slice HO_13.out
             subst eo70
             obtain ⟨Ao71,co71,eo71⟩ := Kd.R_slice HO_8.out
             subst eo71
             go_wp2_with (first | (go_at_call 26;(with_reducible refine (laws_eqIntS.calls kj17 _ _ t298 _ _ t285 false _ ?side1 ?side2 ?side3 ?side4 A66.out).mono ?_);(case side1 => repeat (first | exact (Kd.R_reads' HO_13.out).2.2 | (with_reducible refine Kd.C_alloc ?_ _) | (with_reducible refine Kd.C_drewN ?_ _) | (with_reducible refine Kd.C_drew ?_)));(case side2 => exact (Kd.R_reads' HO_13.out).2.1);(case side3 => repeat (first | exact (Kd.R_reads' HO_8.out).2.2 | (with_reducible refine Kd.C_alloc ?_ _) | (with_reducible refine Kd.C_drewN ?_ _) | (with_reducible refine Kd.C_drew ?_)));(case side4 => exact (Kd.R_reads' HO_8.out).2.1);rintro e w' ⟨rfl,⟨nd,rfl⟩⟩))
             go_meet
             case rel => exact ⟨_,(true),(by first | rfl | (simp;done) | (simp [*];done)),H',⟨by have:=HJ17.out;first | omega | exact Nat.le_refl _⟩,⟨by (with_reducible repeat (first | apply Kd.R_alloc | apply Kd.R_drewN | apply Kd.R_drew));exact Kd.R_mono HO_8.out (fun _ hk => hk.2.1)⟩,⟨by (with_reducible repeat (first | apply Kd.R_alloc | apply Kd.R_drewN | apply Kd.R_drew));exact Kd.R_mono HO_13.out (fun _ hk => hk.1)⟩,⟨by repeat (first | (with_reducible first | exact HB.out | apply below_alloc | apply pw_below_drewN | apply below_drew1) | exact HB.out)⟩⟩
          case rest =>
           clear HC53
           try clear c1
           try clear c2
           try clear p2
           try clear c3
           try clear c4
           try clear c4b0
           try clear c4b1
           try clear c6
           try clear c6b0
           try clear c8
           try clear c8b0
           try clear c12
           try clear c15
           try clear c17
           try clear c19
           try clear c20
           try clear c22
           try clear c23
           try clear c25
           try clear c26
           try clear c33
           try clear c34
           try clear c35
           try clear c40
           try clear c43
           try clear c46
           try clear c48
           try clear c49
           try clear c65
           try clear c65b0
           try clear c67
           try clear p2
           obtain ⟨kq,x101_52,rfl,HA,HJ52,HO_8,HO_13,HB⟩ := hcut
           cases kq with
           | zero => exact absurd HA.out (by simp [laws_FnExactEmptyWagons.j1])
           | succ kj52 =>
            have H:=HA.out
            clear HA
            simp only [laws_FnExactEmptyWagons.j1] at H
            by_cases c72 : x101_52 = true
            ·subst c72
             have H1 : (some false) = some r:=by rw [if_pos rfl] at H;exact H
             clear H
             have H:=H1
             clear H1
             obtain rfl:=Option.some.inj H
             go_wp2
             go_ret
             exact ⟨by first | rfl | (simp [errW_none,errW_some] <;> rfl) | (simp [*,errW_none,errW_some] <;> rfl),by repeat (first | (with_reducible first | exact HB.out | apply below_alloc | apply pw_below_drewN | apply below_drew1) | exact HB.out)⟩
            ·replace c72:=Bool.eq_false_iff.mpr c72
             subst c72
             have H1 : ((laws_markIntS.f kj52 t298 1).bind fun bt322 => ((laws_heldIntS.f kj52 bt322.2 1).bind fun t324 => (if t324 < 0 then (some false) else (if t324 = bt322.1 then ((laws_toWagonS.f kj52 l0).bind fun t325 => ((laws_toContainerS.f kj52 l1).bind fun t328 => ((laws_toIntS.f kj52 l2).bind fun t331 => ((impl_EmptyWagons.f kj52 t325 t328 t331).bind fun bt334 => ((laws_eqIntS.f kj52 bt334.1 t285).bind fun t338 => (if t338 = true then (laws_FnExactEmptyWagons.j2 kj52 bt322.2 bt322.1 (bt334.2 != t286)) else (laws_FnExactEmptyWagons.j2 kj52 bt322.2 bt322.1 true))))))) else (some false))))) = some r:=by rw [if_neg (show ¬ (false = true) by decide)] at H;exact H
             clear H
             have H:=H1
             clear H1
             replace H:=Option.bind_eq_some_iff.mp H
             obtain ⟨⟨t322,t323⟩,A730,H⟩ := H
             replace H : ((laws_heldIntS.f kj52 t323 1).bind fun t324 => (if t324 < 0 then (some false) else (if t324 = t322 then ((laws_toWagonS.f kj52 l0).bind fun t325 => ((laws_toContainerS.f kj52 l1).bind fun t328 => ((laws_toIntS.f kj52 l2).bind fun t331 => ((impl_EmptyWagons.f kj52 t325 t328 t331).bind fun bt334 => ((laws_eqIntS.f kj52 bt334.1 t285).bind fun t338 => (if t338 = true then (laws_FnExactEmptyWagons.j2 kj52 t323 t322 (bt334.2 != t286)) else (laws_FnExactEmptyWagons.j2 kj52 t323 t322 true))))))) else (some false)))) = some r:=H
             have A73:=Aside0.mk A730
             clear A730
             replace H:=Option.bind_eq_some_iff.mp H
             obtain ⟨t324,A740,H⟩ := H
             replace H : (if t324 < 0 then (some false) else (if t324 = t322 then ((laws_toWagonS.f kj52 l0).bind fun t325 => ((laws_toContainerS.f kj52 l1).bind fun t328 => ((laws_toIntS.f kj52 l2).bind fun t331 => ((impl_EmptyWagons.f kj52 t325 t328 t331).bind fun bt334 => ((laws_eqIntS.f kj52 bt334.1 t285).bind fun t338 => (if t338 = true then (laws_FnExactEmptyWagons.j2 kj52 t323 t322 (bt334.2 != t286)) else (laws_FnExactEmptyWagons.j2 kj52 t323 t322 true))))))) else (some false))) = some r:=H
             have A74:=Aside0.mk A740
             clear A740
             by_cases c75 : t324 < 0
             ·rw [if_pos c75] at H
              have c75b0 : decide (t324 < 0) = true:=decide_eq_true c75
              clear c75
              obtain rfl:=Option.some.inj H
              obtain ⟨Ao76,co76,eo76⟩ := Kd.R_slice HO_13.out
              subst eo76
              go_wp2_with (first | ((with_reducible refine gate_callee (f:=35) rfl ?_);refine goesL_ (some 104) rfl rfl Try.func35 (by kernel_rfl) rfl #[.slice Ao76 t298.length co76, .int .i64 1] rfl (by (try simp only [List.map_toArray,List.map_cons,List.map_nil]);first | done | rfl | (simp only [List.length_drop,List.length_take];rfl)) ?_;(with_reducible refine (laws_markIntS.calls kj52 (fun k_ => some k_ = (.slice Ao76 t298.length co76 : Value).ownBlock) (.slice Ao76 t298.length co76) t298 1 t322 t323 w _ ?side1 ?side2 A73.out).mono ?_);(case side1 => repeat (first | (with_reducible first | exact HB.out | apply below_alloc | apply pw_below_drewN | apply below_drew1) | exact HB.out));(case side2 => exact Kd.R_tight rfl HO_13.out);rintro e w77 ⟨rfl,hy0,hb,hkp⟩;refine ⟨_,rfl, ?_⟩;have n0_:=Aside0.mk (Kd.R_mono (ok':=fun k_ => some k_ ≠ (.slice Ao76 t298.length co76 : Value).ownBlock) (Kd.R_keptB (HO_8.out) hkp (fun k_ hk_ hs_ => (hk_) hs_)) (fun k_ hk_ => hk_.1));have n1_:=Aside0.mk (Kd.R_reok rfl hy0 (fun k_ e_ => HO_13.out.1 k_ e_));have n2_:=Aside0.mk (hb);clear HO_8;clear HO_13;clear HB;have HO_8:=n0_;have HO_13:=n1_;have HB:=n2_;clear n0_ n1_ n2_;(try clear hb);(try clear hkp);(try clear hy0)) | ((with_reducible refine gate_callee (f:=36) rfl ?_);refine goesL_ (some 107) rfl rfl Try.func36 (by kernel_rfl) rfl #[.slice Ao76 t323.length co76, .int .i64 1] rfl (by (try simp only [List.map_toArray,List.map_cons,List.map_nil]);first | done | (rw [show t323.length = t298.length from (Kd.R_reads' HO_13.out).1.symm] <;> rfl) | rfl | (simp only [List.length_drop,List.length_take];rfl)) ?_;(with_reducible refine (laws_heldIntS.calls kj52 _ _ t323 1 t324 _ ?side1 ?side2 A74.out).mono ?_);(case side1 => repeat (first | exact (Kd.R_reads' HO_13.out).2.2 | (with_reducible refine Kd.C_alloc ?_ _) | (with_reducible refine Kd.C_drewN ?_ _) | (with_reducible refine Kd.C_drew ?_)));(case side2 => rw [show t323.length = t298.length from (Kd.R_reads' HO_13.out).1.symm];exact (Kd.R_reads' HO_13.out).2.1);rintro e w' ⟨rfl,⟨nd,rfl⟩⟩;refine ⟨_,rfl, ?_⟩))
              go_ret
              exact ⟨by first | rfl | (simp [errW_none,errW_some] <;> rfl) | (simp [*,errW_none,errW_some] <;> rfl),by repeat (first | (with_reducible first | exact HB.out | apply below_alloc | apply pw_below_drewN | apply below_drew1) | exact HB.out)⟩
             ·rw [if_neg c75] at H
              have c75b0 : decide (t324 < 0) = false:=decide_eq_false c75
              clear c75
              by_cases c78 : t324 = t322
              ·rw [if_pos c78] at H
               have c78b0 : (t324 == t322) = true:=beq_iff_eq.mpr c78
               have c78b1 : (t324 != t322) = false:=bne_eq_false_iff_eq.mpr c78
               clear c78
               replace H:=Option.bind_eq_some_iff.mp H
               obtain ⟨t325,A790,H⟩ := H
               replace H : ((laws_toContainerS.f kj52 l1).bind fun t328 => ((laws_toIntS.f kj52 l2).bind fun t331 => ((impl_EmptyWagons.f kj52 t325 t328 t331).bind fun bt334 => ((laws_eqIntS.f kj52 bt334.1 t285).bind fun t338 => (if t338 = true then (laws_FnExactEmptyWagons.j2 kj52 t323 t322 (bt334.2 != t286)) else (laws_FnExactEmptyWagons.j2 kj52 t323 t322 true)))))) = some r:=H
               have A79:=Aside0.mk A790
               clear A790
               replace H:=Option.bind_eq_some_iff.mp H
               obtain ⟨t328,A800,H⟩ := H
               replace H : ((laws_toIntS.f kj52 l2).bind fun t331 => ((impl_EmptyWagons.f kj52 t325 t328 t331).bind fun bt334 => ((laws_eqIntS.f kj52 bt334.1 t285).bind fun t338 => (if t338 = true then (laws_FnExactEmptyWagons.j2 kj52 t323 t322 (bt334.2 != t286)) else (laws_FnExactEmptyWagons.j2 kj52 t323 t322 true))))) = some r:=H
               have A80:=Aside0.mk A800
               clear A800
               replace H:=Option.bind_eq_some_iff.mp H
               obtain ⟨t331,A810,H⟩ := H
               replace H : ((impl_EmptyWagons.f kj52 t325 t328 t331).bind fun bt334 => ((laws_eqIntS.f kj52 bt334.1 t285).bind fun t338 => (if t338 = true then (laws_FnExactEmptyWagons.j2 kj52 t323 t322 (bt334.2 != t286)) else (laws_FnExactEmptyWagons.j2 kj52 t323 t322 true)))) = some r:=H
               have A81:=Aside0.mk A810
               clear A810
               replace H:=Option.bind_eq_some_iff.mp H
               obtain ⟨⟨t334,t335⟩,A820,H⟩ := H
               replace H : ((laws_eqIntS.f kj52 t334 t285).bind fun t338 => (if t338 = true then (laws_FnExactEmptyWagons.j2 kj52 t323 t322 (t335 != t286)) else (laws_FnExactEmptyWagons.j2 kj52 t323 t322 true))) = some r:=H
               have A82:=Aside0.mk A820
               clear A820
               have HC83:=Aside0.mk H
               clear H
               obtain ⟨Ao84,co84,eo84⟩ := Kd.R_slice HO_13.out
               subst eo84
               go_upto_region 38 with (first | ((with_reducible refine gate_callee (f:=35) rfl ?_);refine goesL_ (some 104) rfl rfl Try.func35 (by kernel_rfl) rfl #[.slice Ao84 t298.length co84, .int .i64 1] rfl (by (try simp only [List.map_toArray,List.map_cons,List.map_nil]);first | done | rfl | (simp only [List.length_drop,List.length_take];rfl)) ?_;(with_reducible refine (laws_markIntS.calls kj52 (fun k_ => some k_ = (.slice Ao84 t298.length co84 : Value).ownBlock) (.slice Ao84 t298.length co84) t298 1 t322 t323 w _ ?side1 ?side2 A73.out).mono ?_);(case side1 => repeat (first | (with_reducible first | exact HB.out | apply below_alloc | apply pw_below_drewN | apply below_drew1) | exact HB.out));(case side2 => exact Kd.R_tight rfl HO_13.out);rintro e w85 ⟨rfl,hy0,hb,hkp⟩;refine ⟨_,rfl, ?_⟩;have n0_:=Aside0.mk (Kd.R_mono (ok':=fun k_ => some k_ ≠ (.slice Ao84 t298.length co84 : Value).ownBlock) (Kd.R_keptB (HO_8.out) hkp (fun k_ hk_ hs_ => (hk_) hs_)) (fun k_ hk_ => hk_.1));have n1_:=Aside0.mk (Kd.R_reok rfl hy0 (fun k_ e_ => HO_13.out.1 k_ e_));have n2_:=Aside0.mk (hb);clear HO_8;clear HO_13;clear HB;have HO_8:=n0_;have HO_13:=n1_;have HB:=n2_;clear n0_ n1_ n2_;(try clear hb);(try clear hkp);(try clear hy0)) | ((with_reducible refine gate_callee (f:=36) rfl ?_);refine goesL_ (some 107) rfl rfl Try.func36 (by kernel_rfl) rfl #[.slice Ao84 t323.length co84, .int .i64 1] rfl (by (try simp only [List.map_toArray,List.map_cons,List.map_nil]);first | done | (rw [show t323.length = t298.length from (Kd.R_reads' HO_13.out).1.symm] <;> rfl) | rfl | (simp only [List.length_drop,List.length_take];rfl)) ?_;(with_reducible refine (laws_heldIntS.calls kj52 _ _ t323 1 t324 _ ?side1 ?side2 A74.out).mono ?_);(case side1 => repeat (first | exact (Kd.R_reads' HO_13.out).2.2 | (with_reducible refine Kd.C_alloc ?_ _) | (with_reducible refine Kd.C_drewN ?_ _) | (with_reducible refine Kd.C_drew ?_)));(case side2 => rw [show t323.length = t298.length from (Kd.R_reads' HO_13.out).1.symm];exact (Kd.R_reads' HO_13.out).2.1);rintro e w' ⟨rfl,⟨nd,rfl⟩⟩;refine ⟨_,rfl, ?_⟩) | ((with_reducible refine gate_callee (f:=17) rfl ?_);refine goesL_ (some 115) rfl rfl Try.func17 (by kernel_rfl) rfl #[.slice A0 l0.length c0] rfl (by (try simp only [List.map_toArray,List.map_cons,List.map_nil]);first | done | rfl | (simp only [List.length_drop,List.length_take];rfl)) ?_;(with_reducible refine (laws_toWagonS.calls kj52 _ _ l0 t325 _ ?side1 ?side2 A79.out).mono ?_);(case side1 => repeat (first | exact (Kd.C_below HR0.out (by repeat (first | (with_reducible first | exact HB.out | apply below_alloc | apply pw_below_drewN | apply below_drew1) | exact HB.out))) | (with_reducible refine Kd.C_alloc ?_ _) | (with_reducible refine Kd.C_drewN ?_ _) | (with_reducible refine Kd.C_drew ?_)));(case side2 => exact HC0.out);rintro e w86 ⟨v326,rfl,ho0,hb⟩;refine ⟨_,rfl, ?_⟩;have n0_:=Aside0.mk (Kd.R_below (by (with_reducible repeat (first | apply Kd.R_alloc | apply Kd.R_drewN | apply Kd.R_drew));exact HO_8.out) hb);have n1_:=Aside0.mk (Kd.R_below (by (with_reducible repeat (first | apply Kd.R_alloc | apply Kd.R_drewN | apply Kd.R_drew));exact HO_13.out) hb);have n2_:=Aside0.mk (Kd.R_lower ho0 (below_size (by repeat (first | (with_reducible first | exact HB.out | apply below_alloc | apply pw_below_drewN | apply below_drew1) | exact HB.out))));have n3_:=Aside0.mk (below_step (by repeat (first | (with_reducible first | exact HB.out | apply below_alloc | apply pw_below_drewN | apply below_drew1) | exact HB.out)) hb);clear HO_8;clear HO_13;clear HB;have HO_8:=n0_;have HO_13:=n1_;have HO327:=n2_;have HB:=n3_;clear n0_ n1_ n2_ n3_;(try clear hb);(try clear hb2);(try clear hk);(try clear hi);(try clear ho0)) | ((with_reducible refine gate_callee (f:=22) rfl ?_);refine goesL_ (some 117) rfl rfl Try.func22 (by kernel_rfl) rfl #[.slice A1 l1.length c1] rfl (by (try simp only [List.map_toArray,List.map_cons,List.map_nil]);first | done | rfl | (simp only [List.length_drop,List.length_take];rfl)) ?_;(with_reducible refine (laws_toContainerS.calls kj52 _ _ l1 t328 _ ?side1 ?side2 A80.out).mono ?_);(case side1 => repeat (first | exact (Kd.C_below HR1.out HB.out) | (with_reducible refine Kd.C_alloc ?_ _) | (with_reducible refine Kd.C_drewN ?_ _) | (with_reducible refine Kd.C_drew ?_)));(case side2 => exact HC1.out);rintro e w87 ⟨v329,rfl,ho0,hb⟩;refine ⟨_,rfl, ?_⟩;have n0_:=Aside0.mk (Kd.R_below (by (with_reducible repeat (first | apply Kd.R_alloc | apply Kd.R_drewN | apply Kd.R_drew));exact HO_8.out) hb);have n1_:=Aside0.mk (Kd.R_below (by (with_reducible repeat (first | apply Kd.R_alloc | apply Kd.R_drewN | apply Kd.R_drew));exact HO_13.out) hb);have n2_:=Aside0.mk (Kd.R_below (by (with_reducible repeat (first | apply Kd.R_alloc | apply Kd.R_drewN | apply Kd.R_drew));exact HO327.out) hb);have n3_:=Aside0.mk (Kd.R_lower ho0 (below_size (by repeat (first | (with_reducible first | exact HB.out | apply below_alloc | apply pw_below_drewN | apply below_drew1) | exact HB.out))));have n4_:=Aside0.mk (below_step (by repeat (first | (with_reducible first | exact HB.out | apply below_alloc | apply pw_below_drewN | apply below_drew1) | exact HB.out)) hb);clear HO_8;clear HO_13;clear HO327;clear HB;have HO_8:=n0_;have HO_13:=n1_;have HO327:=n2_;have HO330:=n3_;have HB:=n4_;clear n0_ n1_ n2_ n3_ n4_;(try clear hb);(try clear hb2);(try clear hk);(try clear hi);(try clear ho0)) | ((with_reducible refine gate_callee (f:=23) rfl ?_);refine goesL_ (some 119) rfl rfl Try.func23 (by kernel_rfl) rfl #[.slice A2 l2.length c2] rfl (by (try simp only [List.map_toArray,List.map_cons,List.map_nil]);first | done | rfl | (simp only [List.length_drop,List.length_take];rfl)) ?_;(with_reducible refine (laws_toIntS.calls kj52 _ _ l2 t331 _ ?side1 ?side2 A81.out).mono ?_);(case side1 => repeat (first | exact (Kd.C_below HR2.out HB.out) | (with_reducible refine Kd.C_alloc ?_ _) | (with_reducible refine Kd.C_drewN ?_ _) | (with_reducible refine Kd.C_drew ?_)));(case side2 => exact HC2.out);rintro e w88 ⟨v332,rfl,ho0,hb⟩;refine ⟨_,rfl, ?_⟩;have n0_:=Aside0.mk (Kd.R_elder' (by (with_reducible repeat (first | apply Kd.R_alloc | apply Kd.R_drewN | apply Kd.R_drew));exact HO_8.out) (Kd.R_base ho0) hb);have n1_:=Aside0.mk (Kd.R_elder' (by (with_reducible repeat (first | apply Kd.R_alloc | apply Kd.R_drewN | apply Kd.R_drew));exact HO_13.out) (Kd.R_base ho0) hb);have n2_:=Aside0.mk (Kd.R_below (by (with_reducible repeat (first | apply Kd.R_alloc | apply Kd.R_drewN | apply Kd.R_drew));exact HO327.out) hb);have n3_:=Aside0.mk (Kd.R_below (by (with_reducible repeat (first | apply Kd.R_alloc | apply Kd.R_drewN | apply Kd.R_drew));exact HO330.out) hb);have n4_:=Aside0.mk (Kd.R_lower (Kd.R_new' (Kd.R_new' ho0 (Kd.R_lt (by (with_reducible repeat (first | apply Kd.R_alloc | apply Kd.R_drewN | apply Kd.R_drew));exact HO_8.out))) (Kd.R_lt (by (with_reducible repeat (first | apply Kd.R_alloc | apply Kd.R_drewN | apply Kd.R_drew));exact HO_13.out))) (below_size (by repeat (first | (with_reducible first | exact HB.out | apply below_alloc | apply pw_below_drewN | apply below_drew1) | exact HB.out))));have n5_:=Aside0.mk (below_step (by repeat (first | (with_reducible first | exact HB.out | apply below_alloc | apply pw_below_drewN | apply below_drew1) | exact HB.out)) hb);clear HO_8;clear HO_13;clear HO327;clear HO330;clear HB;have HO_8:=n0_;have HO_13:=n1_;have HO327:=n2_;have HO330:=n3_;have HO333:=n4_;have HB:=n5_;clear n0_ n1_ n2_ n3_ n4_ n5_;(try clear hb);(try clear hb2);(try clear hk);(try clear hi);(try clear ho0);obtain ⟨Ao89,co89,eo89⟩ := Kd.R_slice HO327.out;subst eo89;obtain ⟨Ao90,co90,eo90⟩ := Kd.R_slice HO330.out;subst eo90;obtain ⟨Ao91,co91,eo91⟩ := Kd.R_slice HO333.out;subst eo91) | ((with_reducible refine gate_callee (f:=49) rfl ?_);refine goesL_ (some 120) rfl rfl Try.func49 (by kernel_rfl) rfl #[.slice Ao89 t325.length co89, .slice Ao90 t328.length co90, .slice Ao91 t331.length co91] rfl (by (try simp only [List.map_toArray,List.map_cons,List.map_nil]);first | done | rfl | (simp only [List.length_drop,List.length_take];rfl)) ?_;(with_reducible refine (impl_EmptyWagons.calls kj52 _ _ t325 _ _ t328 _ _ t331 t334 t335 _ ?side1 ?side2 ?side3 ?side4 ?side5 ?side6 A82.out).mono ?_);(case side1 => repeat (first | exact (Kd.R_reads' HO327.out).2.2 | (with_reducible refine Kd.C_alloc ?_ _) | (with_reducible refine Kd.C_drewN ?_ _) | (with_reducible refine Kd.C_drew ?_)));(case side2 => exact (Kd.R_reads' HO327.out).2.1);(case side3 => repeat (first | exact (Kd.R_reads' HO330.out).2.2 | (with_reducible refine Kd.C_alloc ?_ _) | (with_reducible refine Kd.C_drewN ?_ _) | (with_reducible refine Kd.C_drew ?_)));(case side4 => exact (Kd.R_reads' HO330.out).2.1);(case side5 => repeat (first | exact (Kd.R_reads' HO333.out).2.2 | (with_reducible refine Kd.C_alloc ?_ _) | (with_reducible refine Kd.C_drewN ?_ _) | (with_reducible refine Kd.C_drew ?_)));(case side6 => exact (Kd.R_reads' HO333.out).2.1);rintro e w92 ⟨v336,rfl,ho0,hb⟩;refine ⟨_,rfl, ?_⟩;have n0_:=Aside0.mk (Kd.R_elder' (by (with_reducible repeat (first | apply Kd.R_alloc | apply Kd.R_drewN | apply Kd.R_drew));exact HO_8.out) (Kd.R_base ho0) hb);have n1_:=Aside0.mk (Kd.R_elder' (by (with_reducible repeat (first | apply Kd.R_alloc | apply Kd.R_drewN | apply Kd.R_drew));exact HO_13.out) (Kd.R_base ho0) hb);have n2_:=Aside0.mk (Kd.R_below (by (with_reducible repeat (first | apply Kd.R_alloc | apply Kd.R_drewN | apply Kd.R_drew));exact HO327.out) hb);have n3_:=Aside0.mk (Kd.R_below (by (with_reducible repeat (first | apply Kd.R_alloc | apply Kd.R_drewN | apply Kd.R_drew));exact HO330.out) hb);have n4_:=Aside0.mk (Kd.R_elder' (by (with_reducible repeat (first | apply Kd.R_alloc | apply Kd.R_drewN | apply Kd.R_drew));exact HO333.out) (Kd.R_base ho0) hb);have n5_:=Aside0.mk (Kd.R_lower (Kd.R_new' (Kd.R_new' (Kd.R_new' ho0 (Kd.R_lt (by (with_reducible repeat (first | apply Kd.R_alloc | apply Kd.R_drewN | apply Kd.R_drew));exact HO_8.out))) (Kd.R_lt (by (with_reducible repeat (first | apply Kd.R_alloc | apply Kd.R_drewN | apply Kd.R_drew));exact HO_13.out))) (Kd.R_lt (by (with_reducible repeat (first | apply Kd.R_alloc | apply Kd.R_drewN | apply Kd.R_drew));exact HO333.out))) (below_size (by repeat (first | (with_reducible first | exact HB.out | apply below_alloc | apply pw_below_drewN | apply below_drew1) | exact HB.out))));have n6_:=Aside0.mk (below_step (by repeat (first | (with_reducible first | exact HB.out | apply below_alloc | apply pw_below_drewN | apply below_drew1) | exact HB.out)) hb);clear HO_8;clear HO_13;clear HO327;clear HO330;clear HO333;clear HB;have HO_8:=n0_;have HO_13:=n1_;have HO327:=n2_;have HO330:=n3_;have HO333:=n4_;have HO337:=n5_;have HB:=n6_;clear n0_ n1_ n2_ n3_ n4_ n5_ n6_;(try clear hb);(try clear hb2);(try clear hk);(try clear hi);(try clear ho0)))
               (try simp only [Act.put,sA_,s0_,s1_])
               go_cut [131] (fun v131 wc => ∃ (kq : Nat) (x131_82 : Bool),v131 = .bool x131_82 ∧ Aside0 (laws_FnExactEmptyWagons.j2 kq t323 t322 x131_82 = some r) ∧ Aside0 (kq ≤ kj52) ∧ Aside0 (Kd.R (Kd.int .i64) 3 wc w.heap.size (fun _ => True) (.slice Ao84 t298.length co84) t323) ∧ Aside0 (Below w.heap.size w wc))
               case first =>
                have H:=HC83.out
                clear HC83
                replace H:=Option.bind_eq_some_iff.mp H
                obtain ⟨t338,A930,H⟩ := H
                replace H : (if t338 = true then (laws_FnExactEmptyWagons.j2 kj52 t323 t322 (t335 != t286)) else (laws_FnExactEmptyWagons.j2 kj52 t323 t322 true)) = some r:=H
                have A93:=Aside0.mk A930
                clear A930
                by_cases c94 : t338 = true
                ·subst c94
                 have H1 : (laws_FnExactEmptyWagons.j2 kj52 t323 t322 (t335 != t286)) = some r:=by rw [if_pos rfl] at H;exact H
                 clear H
                 have H:=H1
                 clear H1
                 have H':=Aside0.mk H
                 clear H
                 obtain ⟨Ao95,co95,eo95⟩ := Kd.R_slice HO337.out
                 subst eo95
                 obtain ⟨Ao96,co96,eo96⟩ := Kd.R_slice HO_8.out
                 subst eo96
                 go_wp2_with (first | ((with_reducible refine gate_callee (f:=26) rfl ?_);refine goesL_ (some 125) rfl rfl Try.func26 (by kernel_rfl) rfl #[.slice Ao95 t334.length co95, .slice Ao96 t285.length co96] rfl (by (try simp only [List.map_toArray,List.map_cons,List.map_nil]);first | done | rfl | (simp only [List.length_drop,List.length_take];rfl)) ?_;(with_reducible refine (laws_eqIntS.calls kj52 _ _ t334 _ _ t285 true _ ?side1 ?side2 ?side3 ?side4 A93.out).mono ?_);(case side1 => repeat (first | exact (Kd.R_reads' HO337.out).2.2 | (with_reducible refine Kd.C_alloc ?_ _) | (with_reducible refine Kd.C_drewN ?_ _) | (with_reducible refine Kd.C_drew ?_)));(case side2 => exact (Kd.R_reads' HO337.out).2.1);(case side3 => repeat (first | exact (Kd.R_reads' HO_8.out).2.2 | (with_reducible refine Kd.C_alloc ?_ _) | (with_reducible refine Kd.C_drewN ?_ _) | (with_reducible refine Kd.C_drew ?_)));(case side4 => exact (Kd.R_reads' HO_8.out).2.1);rintro e w' ⟨rfl,⟨nd,rfl⟩⟩;refine ⟨_,rfl, ?_⟩))
                 go_meet
                 case rel => exact ⟨_,((t335 != t286)),(by first | rfl | (simp;done) | (simp [*];done)),H',⟨by have:=HJ17.out;have:=HJ52.out;first | omega | exact Nat.le_refl _⟩,⟨by (with_reducible repeat (first | apply Kd.R_alloc | apply Kd.R_drewN | apply Kd.R_drew));exact Kd.R_mono HO_13.out (fun _ hk => trivial)⟩,⟨by repeat (first | (with_reducible first | exact HB.out | apply below_alloc | apply pw_below_drewN | apply below_drew1) | exact HB.out)⟩⟩
                ·replace c94:=Bool.eq_false_iff.mpr c94
                 subst c94
                 have H1 : (laws_FnExactEmptyWagons.j2 kj52 t323 t322 true) = some r:=by rw [if_neg (show ¬ (false = true) by decide)] at H;exact H
                 clear H
                 have H:=H1
                 clear H1
                 have H':=Aside0.mk H
                 clear H
                 obtain ⟨Ao97,co97,eo97⟩ := Kd.R_slice HO337.out
                 subst eo97
                 obtain ⟨Ao98,co98,eo98⟩ := Kd.R_slice HO_8.out
                 subst eo98
                 go_wp2_with (first | ((with_reducible refine gate_callee (f:=26) rfl ?_);refine goesL_ (some 125) rfl rfl Try.func26 (by kernel_rfl) rfl #[.slice Ao97 t334.length co97, .slice Ao98 t285.length co98] rfl (by (try simp only [List.map_toArray,List.map_cons,List.map_nil]);first | done | rfl | (simp only [List.length_drop,List.length_take];rfl)) ?_;(with_reducible refine (laws_eqIntS.calls kj52 _ _ t334 _ _ t285 false _ ?side1 ?side2 ?side3 ?side4 A93.out).mono ?_);(case side1 => repeat (first | exact (Kd.R_reads' HO337.out).2.2 | (with_reducible refine Kd.C_alloc ?_ _) | (with_reducible refine Kd.C_drewN ?_ _) | (with_reducible refine Kd.C_drew ?_)));(case side2 => exact (Kd.R_reads' HO337.out).2.1);(case side3 => repeat (first | exact (Kd.R_reads' HO_8.out).2.2 | (with_reducible refine Kd.C_alloc ?_ _) | (with_reducible refine Kd.C_drewN ?_ _) | (with_reducible refine Kd.C_drew ?_)));(case side4 => exact (Kd.R_reads' HO_8.out).2.1);rintro e w' ⟨rfl,⟨nd,rfl⟩⟩;refine ⟨_,rfl, ?_⟩))
                 go_meet
                 case rel => exact ⟨_,(true),(by first | rfl | (simp;done) | (simp [*];done)),H',⟨by have:=HJ17.out;have:=HJ52.out;first | omega | exact Nat.le_refl _⟩,⟨by (with_reducible repeat (first | apply Kd.R_alloc | apply Kd.R_drewN | apply Kd.R_drew));exact Kd.R_mono HO_13.out (fun _ hk => trivial)⟩,⟨by repeat (first | (with_reducible first | exact HB.out | apply below_alloc | apply pw_below_drewN | apply below_drew1) | exact HB.out)⟩⟩
               case rest =>
                clear HC83
                try clear c1
                try clear c2
                try clear p2
                try clear c3
                try clear c4
                try clear c4b0
                try clear c4b1
                try clear c6
                try clear c6b0
                try clear c7
                try clear c8
                try clear c8b0
                try clear c9
                try clear c12
                try clear c15
                try clear c17
                try clear c19
                try clear c20
                try clear c22
                try clear c23
                try clear c25
                try clear c26
                try clear c33
                try clear c34
                try clear c35
                try clear c36
                try clear c40
                try clear c43
                try clear c46
                try clear c48
                try clear c49
                try clear c65
                try clear c65b0
                try clear c67
                try clear c72
                try clear c75
                try clear c75b0
                try clear c78
                try clear c78b0
                try clear c78b1
                try clear c94
                try clear p2
                obtain ⟨kq,x131_82,rfl,HA,HJ82,HO_13,HB⟩ := hcut
                have hl13_82:=(Kd.R_reads' HO_13.out).1
                rw [hl13_82] at HO_13
                (try simp only [hl13_82])
                cases kq with
                | zero => exact absurd HA.out (by simp [laws_FnExactEmptyWagons.j2])
                | succ kj82 =>
                 have H:=HA.out
                 clear HA
                 simp only [laws_FnExactEmptyWagons.j2] at H
                 by_cases c99 : x131_82 = true
                 ·subst c99
                  have H1 : (some false) = some r:=by rw [if_pos rfl] at H;exact H
                  clear H
                  have H:=H1
                  clear H1
                  obtain rfl:=Option.some.inj H
                  go_wp2
                  go_ret
                  exact ⟨by first | rfl | (simp [errW_none,errW_some] <;> rfl) | (simp [*,errW_none,errW_some] <;> rfl),by repeat (first | (with_reducible first | exact HB.out | apply below_alloc | apply pw_below_drewN | apply below_drew1) | exact HB.out)⟩
                 ·replace c99:=Bool.eq_false_iff.mpr c99
                  subst c99
                  have H1 : ((laws_heldIntS.f kj82 t323 1).bind fun t339 => (if t339 < 0 then (some false) else (if t339 = t322 then (some true) else (some false)))) = some r:=by rw [if_neg (show ¬ (false = true) by decide)] at H;exact H
                  clear H
                  have H:=H1
                  clear H1
                  replace H:=Option.bind_eq_some_iff.mp H
                  obtain ⟨t339,A1000,H⟩ := H
                  replace H : (if t339 < 0 then (some false) else (if t339 = t322 then (some true) else (some false))) = some r:=H
                  have A100:=Aside0.mk A1000
                  clear A1000
                  by_cases c101 : t339 < 0
                  ·rw [if_pos c101] at H
                   have c101b0 : decide (t339 < 0) = true:=decide_eq_true c101
                   clear c101
                   obtain rfl:=Option.some.inj H
                   go_wp2_with (first | ((with_reducible refine gate_callee (f:=36) rfl ?_);refine goesL_ (some 134) rfl rfl Try.func36 (by kernel_rfl) rfl #[.slice Ao84 t323.length co84, .int .i64 1] rfl (by (try simp only [List.map_toArray,List.map_cons,List.map_nil]);first | done | rfl | (simp only [List.length_drop,List.length_take];rfl)) ?_;(with_reducible refine (laws_heldIntS.calls kj82 _ _ t323 1 t339 _ ?side1 ?side2 A100.out).mono ?_);(case side1 => repeat (first | exact (Kd.R_reads' HO_13.out).2.2 | (with_reducible refine Kd.C_alloc ?_ _) | (with_reducible refine Kd.C_drewN ?_ _) | (with_reducible refine Kd.C_drew ?_)));(case side2 => exact (Kd.R_reads' HO_13.out).2.1);rintro e w' ⟨rfl,⟨nd,rfl⟩⟩;refine ⟨_,rfl, ?_⟩))
                   go_ret
                   exact ⟨by first | rfl | (simp [errW_none,errW_some] <;> rfl) | (simp [*,errW_none,errW_some] <;> rfl),by repeat (first | (with_reducible first | exact HB.out | apply below_alloc | apply pw_below_drewN | apply below_drew1) | exact HB.out)⟩
                  ·rw [if_neg c101] at H
                   have c101b0 : decide (t339 < 0) = false:=decide_eq_false c101
                   clear c101
                   by_cases c102 : t339 = t322
                   ·rw [if_pos c102] at H
                    have c102b0 : (t339 == t322) = true:=beq_iff_eq.mpr c102
                    have c102b1 : (t339 != t322) = false:=bne_eq_false_iff_eq.mpr c102
                    clear c102
                    obtain rfl:=Option.some.inj H
                    go_wp2_with (first | ((with_reducible refine gate_callee (f:=36) rfl ?_);refine goesL_ (some 134) rfl rfl Try.func36 (by kernel_rfl) rfl #[.slice Ao84 t323.length co84, .int .i64 1] rfl (by (try simp only [List.map_toArray,List.map_cons,List.map_nil]);first | done | rfl | (simp only [List.length_drop,List.length_take];rfl)) ?_;(with_reducible refine (laws_heldIntS.calls kj82 _ _ t323 1 t339 _ ?side1 ?side2 A100.out).mono ?_);(case side1 => repeat (first | exact (Kd.R_reads' HO_13.out).2.2 | (with_reducible refine Kd.C_alloc ?_ _) | (with_reducible refine Kd.C_drewN ?_ _) | (with_reducible refine Kd.C_drew ?_)));(case side2 => exact (Kd.R_reads' HO_13.out).2.1);rintro e w' ⟨rfl,⟨nd,rfl⟩⟩;refine ⟨_,rfl, ?_⟩))
                    go_ret
                    exact ⟨by first | rfl | (simp [errW_none,errW_some] <;> rfl) | (simp [*,errW_none,errW_some] <;> rfl),by repeat (first | (with_reducible first | exact HB.out | apply below_alloc | apply pw_below_drewN | apply below_drew1) | exact HB.out)⟩
                   ·rw [if_neg c102] at H
                    have c102b0 : (t339 == t322) = false:=beq_eq_false_iff_ne.mpr c102
                    have c102b1 : (t339 != t322) = true:=bne_iff_ne.mpr c102
                    obtain rfl:=Option.some.inj H
                    go_wp2_with (first | ((with_reducible refine gate_callee (f:=36) rfl ?_);refine goesL_ (some 134) rfl rfl Try.func36 (by kernel_rfl) rfl #[.slice Ao84 t323.length co84, .int .i64 1] rfl (by (try simp only [List.map_toArray,List.map_cons,List.map_nil]);first | done | rfl | (simp only [List.length_drop,List.length_take];rfl)) ?_;(with_reducible refine (laws_heldIntS.calls kj82 _ _ t323 1 t339 _ ?side1 ?side2 A100.out).mono ?_);(case side1 => repeat (first | exact (Kd.R_reads' HO_13.out).2.2 | (with_reducible refine Kd.C_alloc ?_ _) | (with_reducible refine Kd.C_drewN ?_ _) | (with_reducible refine Kd.C_drew ?_)));(case side2 => exact (Kd.R_reads' HO_13.out).2.1);rintro e w' ⟨rfl,⟨nd,rfl⟩⟩;refine ⟨_,rfl, ?_⟩))
                    go_ret
                    exact ⟨by first | rfl | (simp [errW_none,errW_some] <;> rfl) | (simp [*,errW_none,errW_some] <;> rfl),by repeat (first | (with_reducible first | exact HB.out | apply below_alloc | apply pw_below_drewN | apply below_drew1) | exact HB.out)⟩
              ·rw [if_neg c78] at H
               have c78b0 : (t324 == t322) = false:=beq_eq_false_iff_ne.mpr c78
               have c78b1 : (t324 != t322) = true:=bne_iff_ne.mpr c78
               obtain rfl:=Option.some.inj H
               obtain ⟨Ao103,co103,eo103⟩ := Kd.R_slice HO_13.out
               subst eo103
               go_wp2_with (first | ((with_reducible refine gate_callee (f:=35) rfl ?_);refine goesL_ (some 104) rfl rfl Try.func35 (by kernel_rfl) rfl #[.slice Ao103 t298.length co103, .int .i64 1] rfl (by (try simp only [List.map_toArray,List.map_cons,List.map_nil]);first | done | rfl | (simp only [List.length_drop,List.length_take];rfl)) ?_;(with_reducible refine (laws_markIntS.calls kj52 (fun k_ => some k_ = (.slice Ao103 t298.length co103 : Value).ownBlock) (.slice Ao103 t298.length co103) t298 1 t322 t323 w _ ?side1 ?side2 A73.out).mono ?_);(case side1 => repeat (first | (with_reducible first | exact HB.out | apply below_alloc | apply pw_below_drewN | apply below_drew1) | exact HB.out));(case side2 => exact Kd.R_tight rfl HO_13.out);rintro e w104 ⟨rfl,hy0,hb,hkp⟩;refine ⟨_,rfl, ?_⟩;have n0_:=Aside0.mk (Kd.R_mono (ok':=fun k_ => some k_ ≠ (.slice Ao103 t298.length co103 : Value).ownBlock) (Kd.R_keptB (HO_8.out) hkp (fun k_ hk_ hs_ => (hk_) hs_)) (fun k_ hk_ => hk_.1));have n1_:=Aside0.mk (Kd.R_reok rfl hy0 (fun k_ e_ => HO_13.out.1 k_ e_));have n2_:=Aside0.mk (hb);clear HO_8;clear HO_13;clear HB;have HO_8:=n0_;have HO_13:=n1_;have HB:=n2_;clear n0_ n1_ n2_;(try clear hb);(try clear hkp);(try clear hy0)) | ((with_reducible refine gate_callee (f:=36) rfl ?_);refine goesL_ (some 107) rfl rfl Try.func36 (by kernel_rfl) rfl #[.slice Ao103 t323.length co103, .int .i64 1] rfl (by (try simp only [List.map_toArray,List.map_cons,List.map_nil]);first | done | (rw [show t323.length = t298.length from (Kd.R_reads' HO_13.out).1.symm] <;> rfl) | rfl | (simp only [List.length_drop,List.length_take];rfl)) ?_;(with_reducible refine (laws_heldIntS.calls kj52 _ _ t323 1 t324 _ ?side1 ?side2 A74.out).mono ?_);(case side1 => repeat (first | exact (Kd.R_reads' HO_13.out).2.2 | (with_reducible refine Kd.C_alloc ?_ _) | (with_reducible refine Kd.C_drewN ?_ _) | (with_reducible refine Kd.C_drew ?_)));(case side2 => rw [show t323.length = t298.length from (Kd.R_reads' HO_13.out).1.symm];exact (Kd.R_reads' HO_13.out).2.1);rintro e w' ⟨rfl,⟨nd,rfl⟩⟩;refine ⟨_,rfl, ?_⟩))
               go_ret
               exact ⟨by first | rfl | (simp [errW_none,errW_some] <;> rfl) | (simp [*,errW_none,errW_some] <;> rfl),by repeat (first | (with_reducible first | exact HB.out | apply below_alloc | apply pw_below_drewN | apply below_drew1) | exact HB.out)⟩
         ·replace c49:=Bool.eq_false_iff.mpr c49
          subst c49
          have H1 : (some false) = some r:=by rw [if_neg (show ¬ (false = true) by decide)] at H;exact H
          clear H
          have H:=H1
          clear H1
          obtain rfl:=Option.some.inj H
          go_wp2_with (first | ((with_reducible refine gate_callee (f:=17) rfl ?_);refine goesL_ (some 67) rfl rfl Try.func17 (by kernel_rfl) rfl #[.slice A0 l0.length c0] rfl (by (try simp only [List.map_toArray,List.map_cons,List.map_nil]);first | done | rfl | (simp only [List.length_drop,List.length_take];rfl)) ?_;(with_reducible refine (laws_toWagonS.calls kj17 _ _ l0 t303 _ ?side1 ?side2 A41.out).mono ?_);(case side1 => repeat (first | exact (Kd.C_below HR0.out HB.out) | (with_reducible refine Kd.C_alloc ?_ _) | (with_reducible refine Kd.C_drewN ?_ _) | (with_reducible refine Kd.C_drew ?_)));(case side2 => exact HC0.out);rintro e w105 ⟨v304,rfl,ho0,hb⟩;refine ⟨_,rfl, ?_⟩;have n0_:=Aside0.mk (Kd.R_below (by (with_reducible repeat (first | apply Kd.R_alloc | apply Kd.R_drewN | apply Kd.R_drew));exact HO_8.out) hb);have n1_:=Aside0.mk (Kd.R_elder' (by (with_reducible repeat (first | apply Kd.R_alloc | apply Kd.R_drewN | apply Kd.R_drew));exact HO_10.out) (Kd.R_base ho0) hb);have n2_:=Aside0.mk (Kd.R_below (by (with_reducible repeat (first | apply Kd.R_alloc | apply Kd.R_drewN | apply Kd.R_drew));exact HO_11.out) hb);have n3_:=Aside0.mk (Kd.R_below (by (with_reducible repeat (first | apply Kd.R_alloc | apply Kd.R_drewN | apply Kd.R_drew));exact HO_12.out) hb);have n4_:=Aside0.mk (Kd.R_below (by (with_reducible repeat (first | apply Kd.R_alloc | apply Kd.R_drewN | apply Kd.R_drew));exact HO_13.out) hb);have n5_:=Aside0.mk (Kd.R_lower (Kd.R_new' ho0 (Kd.R_lt (by (with_reducible repeat (first | apply Kd.R_alloc | apply Kd.R_drewN | apply Kd.R_drew));exact HO_10.out))) (below_size (by repeat (first | (with_reducible first | exact HB.out | apply below_alloc | apply pw_below_drewN | apply below_drew1) | exact HB.out))));have n6_:=Aside0.mk (below_step (by repeat (first | (with_reducible first | exact HB.out | apply below_alloc | apply pw_below_drewN | apply below_drew1) | exact HB.out)) hb);clear HO_8;clear HO_10;clear HO_11;clear HO_12;clear HO_13;clear HB;have HO_8:=n0_;have HO_10:=n1_;have HO_11:=n2_;have HO_12:=n3_;have HO_13:=n4_;have HO305:=n5_;have HB:=n6_;clear n0_ n1_ n2_ n3_ n4_ n5_ n6_;(try clear hb);(try clear hb2);(try clear hk);(try clear hi);(try clear ho0);obtain ⟨Ao106,co106,eo106⟩ := Kd.R_slice HO305.out;subst eo106) | ((with_reducible refine gate_callee (f:=19) rfl ?_);refine goesL_ (some 68) rfl rfl Try.func19 (by kernel_rfl) rfl #[.slice Ao30 t289.length co30, .slice Ao106 t303.length co106] rfl (by (try simp only [List.map_toArray,List.map_cons,List.map_nil]);first | done | rfl | (simp only [List.length_drop,List.length_take];rfl)) ?_;(with_reducible refine (laws_eqWagonS.calls kj17 _ _ t289 _ _ t303 true _ ?side1 ?side2 ?side3 ?side4 A42.out).mono ?_);(case side1 => repeat (first | exact (Kd.R_reads' HO_10.out).2.2 | (with_reducible refine Kd.C_alloc ?_ _) | (with_reducible refine Kd.C_drewN ?_ _) | (with_reducible refine Kd.C_drew ?_)));(case side2 => exact (Kd.R_reads' HO_10.out).2.1);(case side3 => repeat (first | exact (Kd.R_reads' HO305.out).2.2 | (with_reducible refine Kd.C_alloc ?_ _) | (with_reducible refine Kd.C_drewN ?_ _) | (with_reducible refine Kd.C_drew ?_)));(case side4 => exact (Kd.R_reads' HO305.out).2.1);rintro e w107 ⟨rfl,hb⟩;refine ⟨_,rfl, ?_⟩;have n0_:=Aside0.mk (Kd.R_below (by (with_reducible repeat (first | apply Kd.R_alloc | apply Kd.R_drewN | apply Kd.R_drew));exact HO_8.out) hb);have n1_:=Aside0.mk (Kd.R_below (by (with_reducible repeat (first | apply Kd.R_alloc | apply Kd.R_drewN | apply Kd.R_drew));exact HO_10.out) hb);have n2_:=Aside0.mk (Kd.R_below (by (with_reducible repeat (first | apply Kd.R_alloc | apply Kd.R_drewN | apply Kd.R_drew));exact HO_11.out) hb);have n3_:=Aside0.mk (Kd.R_below (by (with_reducible repeat (first | apply Kd.R_alloc | apply Kd.R_drewN | apply Kd.R_drew));exact HO_12.out) hb);have n4_:=Aside0.mk (Kd.R_below (by (with_reducible repeat (first | apply Kd.R_alloc | apply Kd.R_drewN | apply Kd.R_drew));exact HO_13.out) hb);have n5_:=Aside0.mk (Kd.R_below (by (with_reducible repeat (first | apply Kd.R_alloc | apply Kd.R_drewN | apply Kd.R_drew));exact HO305.out) hb);have n6_:=Aside0.mk (below_step (by repeat (first | (with_reducible first | exact HB.out | apply below_alloc | apply pw_below_drewN | apply below_drew1) | exact HB.out)) hb);clear HO_8;clear HO_10;clear HO_11;clear HO_12;clear HO_13;clear HO305;clear HB;have HO_8:=n0_;have HO_10:=n1_;have HO_11:=n2_;have HO_12:=n3_;have HO_13:=n4_;have HO305:=n5_;have HB:=n6_;clear n0_ n1_ n2_ n3_ n4_ n5_ n6_;(try clear hb);(try clear hb2);(try clear hk);(try clear hi)) | ((with_reducible refine gate_callee (f:=22) rfl ?_);refine goesL_ (some 72) rfl rfl Try.func22 (by kernel_rfl) rfl #[.slice A1 l1.length c1] rfl (by (try simp only [List.map_toArray,List.map_cons,List.map_nil]);first | done | rfl | (simp only [List.length_drop,List.length_take];rfl)) ?_;(with_reducible refine (laws_toContainerS.calls kj17 _ _ l1 t307 _ ?side1 ?side2 A44.out).mono ?_);(case side1 => repeat (first | exact (Kd.C_below HR1.out HB.out) | (with_reducible refine Kd.C_alloc ?_ _) | (with_reducible refine Kd.C_drewN ?_ _) | (with_reducible refine Kd.C_drew ?_)));(case side2 => exact HC1.out);rintro e w108 ⟨v308,rfl,ho0,hb⟩;refine ⟨_,rfl, ?_⟩;have n0_:=Aside0.mk (Kd.R_below (by (with_reducible repeat (first | apply Kd.R_alloc | apply Kd.R_drewN | apply Kd.R_drew));exact HO_8.out) hb);have n1_:=Aside0.mk (Kd.R_below (by (with_reducible repeat (first | apply Kd.R_alloc | apply Kd.R_drewN | apply Kd.R_drew));exact HO_10.out) hb);have n2_:=Aside0.mk (Kd.R_elder' (by (with_reducible repeat (first | apply Kd.R_alloc | apply Kd.R_drewN | apply Kd.R_drew));exact HO_11.out) (Kd.R_base ho0) hb);have n3_:=Aside0.mk (Kd.R_below (by (with_reducible repeat (first | apply Kd.R_alloc | apply Kd.R_drewN | apply Kd.R_drew));exact HO_12.out) hb);have n4_:=Aside0.mk (Kd.R_below (by (with_reducible repeat (first | apply Kd.R_alloc | apply Kd.R_drewN | apply Kd.R_drew));exact HO_13.out) hb);have n5_:=Aside0.mk (Kd.R_below (by (with_reducible repeat (first | apply Kd.R_alloc | apply Kd.R_drewN | apply Kd.R_drew));exact HO305.out) hb);have n6_:=Aside0.mk (Kd.R_lower (Kd.R_new' ho0 (Kd.R_lt (by (with_reducible repeat (first | apply Kd.R_alloc | apply Kd.R_drewN | apply Kd.R_drew));exact HO_11.out))) (below_size (by repeat (first | (with_reducible first | exact HB.out | apply below_alloc | apply pw_below_drewN | apply below_drew1) | exact HB.out))));have n7_:=Aside0.mk (below_step (by repeat (first | (with_reducible first | exact HB.out | apply below_alloc | apply pw_below_drewN | apply below_drew1) | exact HB.out)) hb);clear HO_8;clear HO_10;clear HO_11;clear HO_12;clear HO_13;clear HO305;clear HB;have HO_8:=n0_;have HO_10:=n1_;have HO_11:=n2_;have HO_12:=n3_;have HO_13:=n4_;have HO305:=n5_;have HO309:=n6_;have HB:=n7_;clear n0_ n1_ n2_ n3_ n4_ n5_ n6_ n7_;(try clear hb);(try clear hb2);(try clear hk);(try clear hi);(try clear ho0);obtain ⟨Ao109,co109,eo109⟩ := Kd.R_slice HO309.out;subst eo109) | ((with_reducible refine gate_callee (f:=25) rfl ?_);refine goesL_ (some 73) rfl rfl Try.func25 (by kernel_rfl) rfl #[.slice Ao31 t292.length co31, .slice Ao109 t307.length co109] rfl (by (try simp only [List.map_toArray,List.map_cons,List.map_nil]);first | done | rfl | (simp only [List.length_drop,List.length_take];rfl)) ?_;(with_reducible refine (laws_eqContainerS.calls kj17 _ _ t292 _ _ t307 true _ ?side1 ?side2 ?side3 ?side4 A45.out).mono ?_);(case side1 => repeat (first | exact (Kd.R_reads' HO_11.out).2.2 | (with_reducible refine Kd.C_alloc ?_ _) | (with_reducible refine Kd.C_drewN ?_ _) | (with_reducible refine Kd.C_drew ?_)));(case side2 => exact (Kd.R_reads' HO_11.out).2.1);(case side3 => repeat (first | exact (Kd.R_reads' HO309.out).2.2 | (with_reducible refine Kd.C_alloc ?_ _) | (with_reducible refine Kd.C_drewN ?_ _) | (with_reducible refine Kd.C_drew ?_)));(case side4 => exact (Kd.R_reads' HO309.out).2.1);rintro e w110 ⟨rfl,hb⟩;refine ⟨_,rfl, ?_⟩;have n0_:=Aside0.mk (Kd.R_below (by (with_reducible repeat (first | apply Kd.R_alloc | apply Kd.R_drewN | apply Kd.R_drew));exact HO_8.out) hb);have n1_:=Aside0.mk (Kd.R_below (by (with_reducible repeat (first | apply Kd.R_alloc | apply Kd.R_drewN | apply Kd.R_drew));exact HO_10.out) hb);have n2_:=Aside0.mk (Kd.R_below (by (with_reducible repeat (first | apply Kd.R_alloc | apply Kd.R_drewN | apply Kd.R_drew));exact HO_11.out) hb);have n3_:=Aside0.mk (Kd.R_below (by (with_reducible repeat (first | apply Kd.R_alloc | apply Kd.R_drewN | apply Kd.R_drew));exact HO_12.out) hb);have n4_:=Aside0.mk (Kd.R_below (by (with_reducible repeat (first | apply Kd.R_alloc | apply Kd.R_drewN | apply Kd.R_drew));exact HO_13.out) hb);have n5_:=Aside0.mk (Kd.R_below (by (with_reducible repeat (first | apply Kd.R_alloc | apply Kd.R_drewN | apply Kd.R_drew));exact HO305.out) hb);have n6_:=Aside0.mk (Kd.R_below (by (with_reducible repeat (first | apply Kd.R_alloc | apply Kd.R_drewN | apply Kd.R_drew));exact HO309.out) hb);have n7_:=Aside0.mk (below_step (by repeat (first | (with_reducible first | exact HB.out | apply below_alloc | apply pw_below_drewN | apply below_drew1) | exact HB.out)) hb);clear HO_8;clear HO_10;clear HO_11;clear HO_12;clear HO_13;clear HO305;clear HO309;clear HB;have HO_8:=n0_;have HO_10:=n1_;have HO_11:=n2_;have HO_12:=n3_;have HO_13:=n4_;have HO305:=n5_;have HO309:=n6_;have HB:=n7_;clear n0_ n1_ n2_ n3_ n4_ n5_ n6_ n7_;(try clear hb);(try clear hb2);(try clear hk);(try clear hi)) | ((with_reducible refine gate_callee (f:=23) rfl ?_);refine goesL_ (some 77) rfl rfl Try.func23 (by kernel_rfl) rfl #[.slice A2 l2.length c2] rfl (by (try simp only [List.map_toArray,List.map_cons,List.map_nil]);first | done | rfl | (simp only [List.length_drop,List.length_take];rfl)) ?_;(with_reducible refine (laws_toIntS.calls kj17 _ _ l2 t311 _ ?side1 ?side2 A47.out).mono ?_);(case side1 => repeat (first | exact (Kd.C_below HR2.out HB.out) | (with_reducible refine Kd.C_alloc ?_ _) | (with_reducible refine Kd.C_drewN ?_ _) | (with_reducible refine Kd.C_drew ?_)));(case side2 => exact HC2.out);rintro e w111 ⟨v312,rfl,ho0,hb⟩;refine ⟨_,rfl, ?_⟩;have n0_:=Aside0.mk (Kd.R_elder' (by (with_reducible repeat (first | apply Kd.R_alloc | apply Kd.R_drewN | apply Kd.R_drew));exact HO_8.out) (Kd.R_base ho0) hb);have n1_:=Aside0.mk (Kd.R_below (by (with_reducible repeat (first | apply Kd.R_alloc | apply Kd.R_drewN | apply Kd.R_drew));exact HO_10.out) hb);have n2_:=Aside0.mk (Kd.R_below (by (with_reducible repeat (first | apply Kd.R_alloc | apply Kd.R_drewN | apply Kd.R_drew));exact HO_11.out) hb);have n3_:=Aside0.mk (Kd.R_elder' (by (with_reducible repeat (first | apply Kd.R_alloc | apply Kd.R_drewN | apply Kd.R_drew));exact HO_12.out) (Kd.R_base ho0) hb);have n4_:=Aside0.mk (Kd.R_elder' (by (with_reducible repeat (first | apply Kd.R_alloc | apply Kd.R_drewN | apply Kd.R_drew));exact HO_13.out) (Kd.R_base ho0) hb);have n5_:=Aside0.mk (Kd.R_below (by (with_reducible repeat (first | apply Kd.R_alloc | apply Kd.R_drewN | apply Kd.R_drew));exact HO305.out) hb);have n6_:=Aside0.mk (Kd.R_below (by (with_reducible repeat (first | apply Kd.R_alloc | apply Kd.R_drewN | apply Kd.R_drew));exact HO309.out) hb);have n7_:=Aside0.mk (Kd.R_lower (Kd.R_new' (Kd.R_new' (Kd.R_new' ho0 (Kd.R_lt (by (with_reducible repeat (first | apply Kd.R_alloc | apply Kd.R_drewN | apply Kd.R_drew));exact HO_8.out))) (Kd.R_lt (by (with_reducible repeat (first | apply Kd.R_alloc | apply Kd.R_drewN | apply Kd.R_drew));exact HO_12.out))) (Kd.R_lt (by (with_reducible repeat (first | apply Kd.R_alloc | apply Kd.R_drewN | apply Kd.R_drew));exact HO_13.out))) (below_size (by repeat (first | (with_reducible first | exact HB.out | apply below_alloc | apply pw_below_drewN | apply below_drew1) | exact HB.out))));have n8_:=Aside0.mk (below_step (by repeat (first | (with_reducible first | exact HB.out | apply below_alloc | apply pw_below_drewN | apply below_drew1) | exact HB.out)) hb);clear HO_8;clear HO_10;clear HO_11;clear HO_12;clear HO_13;clear HO305;clear HO309;clear HB;have HO_8:=n0_;have HO_10:=n1_;have HO_11:=n2_;have HO_12:=n3_;have HO_13:=n4_;have HO305:=n5_;have HO309:=n6_;have HO313:=n7_;have HB:=n8_;clear n0_ n1_ n2_ n3_ n4_ n5_ n6_ n7_ n8_;(try clear hb);(try clear hb2);(try clear hk);(try clear hi);(try clear ho0);obtain ⟨Ao112,co112,eo112⟩ := Kd.R_slice HO313.out;subst eo112) | ((with_reducible refine gate_callee (f:=26) rfl ?_);refine goesL_ (some 78) rfl rfl Try.func26 (by kernel_rfl) rfl #[.slice Ao32 t295.length co32, .slice Ao112 t311.length co112] rfl (by (try simp only [List.map_toArray,List.map_cons,List.map_nil]);first | done | rfl | (simp only [List.length_drop,List.length_take];rfl)) ?_;(with_reducible refine (laws_eqIntS.calls kj17 _ _ t295 _ _ t311 false _ ?side1 ?side2 ?side3 ?side4 A48.out).mono ?_);(case side1 => repeat (first | exact (Kd.R_reads' HO_12.out).2.2 | (with_reducible refine Kd.C_alloc ?_ _) | (with_reducible refine Kd.C_drewN ?_ _) | (with_reducible refine Kd.C_drew ?_)));(case side2 => exact (Kd.R_reads' HO_12.out).2.1);(case side3 => repeat (first | exact (Kd.R_reads' HO313.out).2.2 | (with_reducible refine Kd.C_alloc ?_ _) | (with_reducible refine Kd.C_drewN ?_ _) | (with_reducible refine Kd.C_drew ?_)));(case side4 => exact (Kd.R_reads' HO313.out).2.1);rintro e w' ⟨rfl,⟨nd,rfl⟩⟩;refine ⟨_,rfl, ?_⟩))
          go_ret
          exact ⟨by first | rfl | (simp [errW_none,errW_some] <;> rfl) | (simp [*,errW_none,errW_some] <;> rfl),by repeat (first | (with_reducible first | exact HB.out | apply below_alloc | apply pw_below_drewN | apply below_drew1) | exact HB.out)⟩
        ·replace c46:=Bool.eq_false_iff.mpr c46
         subst c46
         have H1 : (some false) = some r:=by rw [if_neg (show ¬ (false = true) by decide)] at H;exact H
         clear H
         have H:=H1
         clear H1
         obtain rfl:=Option.some.inj H
         go_wp2_with (first | ((with_reducible refine gate_callee (f:=17) rfl ?_);refine goesL_ (some 67) rfl rfl Try.func17 (by kernel_rfl) rfl #[.slice A0 l0.length c0] rfl (by (try simp only [List.map_toArray,List.map_cons,List.map_nil]);first | done | rfl | (simp only [List.length_drop,List.length_take];rfl)) ?_;(with_reducible refine (laws_toWagonS.calls kj17 _ _ l0 t303 _ ?side1 ?side2 A41.out).mono ?_);(case side1 => repeat (first | exact (Kd.C_below HR0.out HB.out) | (with_reducible refine Kd.C_alloc ?_ _) | (with_reducible refine Kd.C_drewN ?_ _) | (with_reducible refine Kd.C_drew ?_)));(case side2 => exact HC0.out);rintro e w113 ⟨v304,rfl,ho0,hb⟩;refine ⟨_,rfl, ?_⟩;have n0_:=Aside0.mk (Kd.R_below (by (with_reducible repeat (first | apply Kd.R_alloc | apply Kd.R_drewN | apply Kd.R_drew));exact HO_8.out) hb);have n1_:=Aside0.mk (Kd.R_elder' (by (with_reducible repeat (first | apply Kd.R_alloc | apply Kd.R_drewN | apply Kd.R_drew));exact HO_10.out) (Kd.R_base ho0) hb);have n2_:=Aside0.mk (Kd.R_below (by (with_reducible repeat (first | apply Kd.R_alloc | apply Kd.R_drewN | apply Kd.R_drew));exact HO_11.out) hb);have n3_:=Aside0.mk (Kd.R_below (by (with_reducible repeat (first | apply Kd.R_alloc | apply Kd.R_drewN | apply Kd.R_drew));exact HO_12.out) hb);have n4_:=Aside0.mk (Kd.R_below (by (with_reducible repeat (first | apply Kd.R_alloc | apply Kd.R_drewN | apply Kd.R_drew));exact HO_13.out) hb);have n5_:=Aside0.mk (Kd.R_lower (Kd.R_new' ho0 (Kd.R_lt (by (with_reducible repeat (first | apply Kd.R_alloc | apply Kd.R_drewN | apply Kd.R_drew));exact HO_10.out))) (below_size (by repeat (first | (with_reducible first | exact HB.out | apply below_alloc | apply pw_below_drewN | apply below_drew1) | exact HB.out))));have n6_:=Aside0.mk (below_step (by repeat (first | (with_reducible first | exact HB.out | apply below_alloc | apply pw_below_drewN | apply below_drew1) | exact HB.out)) hb);clear HO_8;clear HO_10;clear HO_11;clear HO_12;clear HO_13;clear HB;have HO_8:=n0_;have HO_10:=n1_;have HO_11:=n2_;have HO_12:=n3_;have HO_13:=n4_;have HO305:=n5_;have HB:=n6_;clear n0_ n1_ n2_ n3_ n4_ n5_ n6_;(try clear hb);(try clear hb2);(try clear hk);(try clear hi);(try clear ho0);obtain ⟨Ao114,co114,eo114⟩ := Kd.R_slice HO305.out;subst eo114) | ((with_reducible refine gate_callee (f:=19) rfl ?_);refine goesL_ (some 68) rfl rfl Try.func19 (by kernel_rfl) rfl #[.slice Ao30 t289.length co30, .slice Ao114 t303.length co114] rfl (by (try simp only [List.map_toArray,List.map_cons,List.map_nil]);first | done | rfl | (simp only [List.length_drop,List.length_take];rfl)) ?_;(with_reducible refine (laws_eqWagonS.calls kj17 _ _ t289 _ _ t303 true _ ?side1 ?side2 ?side3 ?side4 A42.out).mono ?_);(case side1 => repeat (first | exact (Kd.R_reads' HO_10.out).2.2 | (with_reducible refine Kd.C_alloc ?_ _) | (with_reducible refine Kd.C_drewN ?_ _) | (with_reducible refine Kd.C_drew ?_)));(case side2 => exact (Kd.R_reads' HO_10.out).2.1);(case side3 => repeat (first | exact (Kd.R_reads' HO305.out).2.2 | (with_reducible refine Kd.C_alloc ?_ _) | (with_reducible refine Kd.C_drewN ?_ _) | (with_reducible refine Kd.C_drew ?_)));(case side4 => exact (Kd.R_reads' HO305.out).2.1);rintro e w115 ⟨rfl,hb⟩;refine ⟨_,rfl, ?_⟩;have n0_:=Aside0.mk (Kd.R_below (by (with_reducible repeat (first | apply Kd.R_alloc | apply Kd.R_drewN | apply Kd.R_drew));exact HO_8.out) hb);have n1_:=Aside0.mk (Kd.R_below (by (with_reducible repeat (first | apply Kd.R_alloc | apply Kd.R_drewN | apply Kd.R_drew));exact HO_10.out) hb);have n2_:=Aside0.mk (Kd.R_below (by (with_reducible repeat (first | apply Kd.R_alloc | apply Kd.R_drewN | apply Kd.R_drew));exact HO_11.out) hb);have n3_:=Aside0.mk (Kd.R_below (by (with_reducible repeat (first | apply Kd.R_alloc | apply Kd.R_drewN | apply Kd.R_drew));exact HO_12.out) hb);have n4_:=Aside0.mk (Kd.R_below (by (with_reducible repeat (first | apply Kd.R_alloc | apply Kd.R_drewN | apply Kd.R_drew));exact HO_13.out) hb);have n5_:=Aside0.mk (Kd.R_below (by (with_reducible repeat (first | apply Kd.R_alloc | apply Kd.R_drewN | apply Kd.R_drew));exact HO305.out) hb);have n6_:=Aside0.mk (below_step (by repeat (first | (with_reducible first | exact HB.out | apply below_alloc | apply pw_below_drewN | apply below_drew1) | exact HB.out)) hb);clear HO_8;clear HO_10;clear HO_11;clear HO_12;clear HO_13;clear HO305;clear HB;have HO_8:=n0_;have HO_10:=n1_;have HO_11:=n2_;have HO_12:=n3_;have HO_13:=n4_;have HO305:=n5_;have HB:=n6_;clear n0_ n1_ n2_ n3_ n4_ n5_ n6_;(try clear hb);(try clear hb2);(try clear hk);(try clear hi)) | ((with_reducible refine gate_callee (f:=22) rfl ?_);refine goesL_ (some 72) rfl rfl Try.func22 (by kernel_rfl) rfl #[.slice A1 l1.length c1] rfl (by (try simp only [List.map_toArray,List.map_cons,List.map_nil]);first | done | rfl | (simp only [List.length_drop,List.length_take];rfl)) ?_;(with_reducible refine (laws_toContainerS.calls kj17 _ _ l1 t307 _ ?side1 ?side2 A44.out).mono ?_);(case side1 => repeat (first | exact (Kd.C_below HR1.out HB.out) | (with_reducible refine Kd.C_alloc ?_ _) | (with_reducible refine Kd.C_drewN ?_ _) | (with_reducible refine Kd.C_drew ?_)));(case side2 => exact HC1.out);rintro e w116 ⟨v308,rfl,ho0,hb⟩;refine ⟨_,rfl, ?_⟩;have n0_:=Aside0.mk (Kd.R_below (by (with_reducible repeat (first | apply Kd.R_alloc | apply Kd.R_drewN | apply Kd.R_drew));exact HO_8.out) hb);have n1_:=Aside0.mk (Kd.R_below (by (with_reducible repeat (first | apply Kd.R_alloc | apply Kd.R_drewN | apply Kd.R_drew));exact HO_10.out) hb);have n2_:=Aside0.mk (Kd.R_elder' (by (with_reducible repeat (first | apply Kd.R_alloc | apply Kd.R_drewN | apply Kd.R_drew));exact HO_11.out) (Kd.R_base ho0) hb);have n3_:=Aside0.mk (Kd.R_below (by (with_reducible repeat (first | apply Kd.R_alloc | apply Kd.R_drewN | apply Kd.R_drew));exact HO_12.out) hb);have n4_:=Aside0.mk (Kd.R_below (by (with_reducible repeat (first | apply Kd.R_alloc | apply Kd.R_drewN | apply Kd.R_drew));exact HO_13.out) hb);have n5_:=Aside0.mk (Kd.R_below (by (with_reducible repeat (first | apply Kd.R_alloc | apply Kd.R_drewN | apply Kd.R_drew));exact HO305.out) hb);have n6_:=Aside0.mk (Kd.R_lower (Kd.R_new' ho0 (Kd.R_lt (by (with_reducible repeat (first | apply Kd.R_alloc | apply Kd.R_drewN | apply Kd.R_drew));exact HO_11.out))) (below_size (by repeat (first | (with_reducible first | exact HB.out | apply below_alloc | apply pw_below_drewN | apply below_drew1) | exact HB.out))));have n7_:=Aside0.mk (below_step (by repeat (first | (with_reducible first | exact HB.out | apply below_alloc | apply pw_below_drewN | apply below_drew1) | exact HB.out)) hb);clear HO_8;clear HO_10;clear HO_11;clear HO_12;clear HO_13;clear HO305;clear HB;have HO_8:=n0_;have HO_10:=n1_;have HO_11:=n2_;have HO_12:=n3_;have HO_13:=n4_;have HO305:=n5_;have HO309:=n6_;have HB:=n7_;clear n0_ n1_ n2_ n3_ n4_ n5_ n6_ n7_;(try clear hb);(try clear hb2);(try clear hk);(try clear hi);(try clear ho0);obtain ⟨Ao117,co117,eo117⟩ := Kd.R_slice HO309.out;subst eo117) | ((with_reducible refine gate_callee (f:=25) rfl ?_);refine goesL_ (some 73) rfl rfl Try.func25 (by kernel_rfl) rfl #[.slice Ao31 t292.length co31, .slice Ao117 t307.length co117] rfl (by (try simp only [List.map_toArray,List.map_cons,List.map_nil]);first | done | rfl | (simp only [List.length_drop,List.length_take];rfl)) ?_;(with_reducible refine (laws_eqContainerS.calls kj17 _ _ t292 _ _ t307 false _ ?side1 ?side2 ?side3 ?side4 A45.out).mono ?_);(case side1 => repeat (first | exact (Kd.R_reads' HO_11.out).2.2 | (with_reducible refine Kd.C_alloc ?_ _) | (with_reducible refine Kd.C_drewN ?_ _) | (with_reducible refine Kd.C_drew ?_)));(case side2 => exact (Kd.R_reads' HO_11.out).2.1);(case side3 => repeat (first | exact (Kd.R_reads' HO309.out).2.2 | (with_reducible refine Kd.C_alloc ?_ _) | (with_reducible refine Kd.C_drewN ?_ _) | (with_reducible refine Kd.C_drew ?_)));(case side4 => exact (Kd.R_reads' HO309.out).2.1);rintro e w118 ⟨rfl,hb⟩;refine ⟨_,rfl, ?_⟩;have n0_:=Aside0.mk (Kd.R_below (by (with_reducible repeat (first | apply Kd.R_alloc | apply Kd.R_drewN | apply Kd.R_drew));exact HO_8.out) hb);have n1_:=Aside0.mk (Kd.R_below (by (with_reducible repeat (first | apply Kd.R_alloc | apply Kd.R_drewN | apply Kd.R_drew));exact HO_10.out) hb);have n2_:=Aside0.mk (Kd.R_below (by (with_reducible repeat (first | apply Kd.R_alloc | apply Kd.R_drewN | apply Kd.R_drew));exact HO_11.out) hb);have n3_:=Aside0.mk (Kd.R_below (by (with_reducible repeat (first | apply Kd.R_alloc | apply Kd.R_drewN | apply Kd.R_drew));exact HO_12.out) hb);have n4_:=Aside0.mk (Kd.R_below (by (with_reducible repeat (first | apply Kd.R_alloc | apply Kd.R_drewN | apply Kd.R_drew));exact HO_13.out) hb);have n5_:=Aside0.mk (Kd.R_below (by (with_reducible repeat (first | apply Kd.R_alloc | apply Kd.R_drewN | apply Kd.R_drew));exact HO305.out) hb);have n6_:=Aside0.mk (Kd.R_below (by (with_reducible repeat (first | apply Kd.R_alloc | apply Kd.R_drewN | apply Kd.R_drew));exact HO309.out) hb);have n7_:=Aside0.mk (below_step (by repeat (first | (with_reducible first | exact HB.out | apply below_alloc | apply pw_below_drewN | apply below_drew1) | exact HB.out)) hb);clear HO_8;clear HO_10;clear HO_11;clear HO_12;clear HO_13;clear HO305;clear HO309;clear HB;have HO_8:=n0_;have HO_10:=n1_;have HO_11:=n2_;have HO_12:=n3_;have HO_13:=n4_;have HO305:=n5_;have HO309:=n6_;have HB:=n7_;clear n0_ n1_ n2_ n3_ n4_ n5_ n6_ n7_;(try clear hb);(try clear hb2);(try clear hk);(try clear hi)))
         go_ret
         exact ⟨by first | rfl | (simp [errW_none,errW_some] <;> rfl) | (simp [*,errW_none,errW_some] <;> rfl),by repeat (first | (with_reducible first | exact HB.out | apply below_alloc | apply pw_below_drewN | apply below_drew1) | exact HB.out)⟩
       ·replace c43:=Bool.eq_false_iff.mpr c43
        subst c43
        have H1 : (some false) = some r:=by rw [if_neg (show ¬ (false = true) by decide)] at H;exact H
        clear H
        have H:=H1
        clear H1
        obtain rfl:=Option.some.inj H
        go_wp2_with (first | ((with_reducible refine gate_callee (f:=17) rfl ?_);refine goesL_ (some 67) rfl rfl Try.func17 (by kernel_rfl) rfl #[.slice A0 l0.length c0] rfl (by (try simp only [List.map_toArray,List.map_cons,List.map_nil]);first | done | rfl | (simp only [List.length_drop,List.length_take];rfl)) ?_;(with_reducible refine (laws_toWagonS.calls kj17 _ _ l0 t303 _ ?side1 ?side2 A41.out).mono ?_);(case side1 => repeat (first | exact (Kd.C_below HR0.out HB.out) | (with_reducible refine Kd.C_alloc ?_ _) | (with_reducible refine Kd.C_drewN ?_ _) | (with_reducible refine Kd.C_drew ?_)));(case side2 => exact HC0.out);rintro e w119 ⟨v304,rfl,ho0,hb⟩;refine ⟨_,rfl, ?_⟩;have n0_:=Aside0.mk (Kd.R_below (by (with_reducible repeat (first | apply Kd.R_alloc | apply Kd.R_drewN | apply Kd.R_drew));exact HO_8.out) hb);have n1_:=Aside0.mk (Kd.R_elder' (by (with_reducible repeat (first | apply Kd.R_alloc | apply Kd.R_drewN | apply Kd.R_drew));exact HO_10.out) (Kd.R_base ho0) hb);have n2_:=Aside0.mk (Kd.R_below (by (with_reducible repeat (first | apply Kd.R_alloc | apply Kd.R_drewN | apply Kd.R_drew));exact HO_11.out) hb);have n3_:=Aside0.mk (Kd.R_below (by (with_reducible repeat (first | apply Kd.R_alloc | apply Kd.R_drewN | apply Kd.R_drew));exact HO_12.out) hb);have n4_:=Aside0.mk (Kd.R_below (by (with_reducible repeat (first | apply Kd.R_alloc | apply Kd.R_drewN | apply Kd.R_drew));exact HO_13.out) hb);have n5_:=Aside0.mk (Kd.R_lower (Kd.R_new' ho0 (Kd.R_lt (by (with_reducible repeat (first | apply Kd.R_alloc | apply Kd.R_drewN | apply Kd.R_drew));exact HO_10.out))) (below_size (by repeat (first | (with_reducible first | exact HB.out | apply below_alloc | apply pw_below_drewN | apply below_drew1) | exact HB.out))));have n6_:=Aside0.mk (below_step (by repeat (first | (with_reducible first | exact HB.out | apply below_alloc | apply pw_below_drewN | apply below_drew1) | exact HB.out)) hb);clear HO_8;clear HO_10;clear HO_11;clear HO_12;clear HO_13;clear HB;have HO_8:=n0_;have HO_10:=n1_;have HO_11:=n2_;have HO_12:=n3_;have HO_13:=n4_;have HO305:=n5_;have HB:=n6_;clear n0_ n1_ n2_ n3_ n4_ n5_ n6_;(try clear hb);(try clear hb2);(try clear hk);(try clear hi);(try clear ho0);obtain ⟨Ao120,co120,eo120⟩ := Kd.R_slice HO305.out;subst eo120) | ((with_reducible refine gate_callee (f:=19) rfl ?_);refine goesL_ (some 68) rfl rfl Try.func19 (by kernel_rfl) rfl #[.slice Ao30 t289.length co30, .slice Ao120 t303.length co120] rfl (by (try simp only [List.map_toArray,List.map_cons,List.map_nil]);first | done | rfl | (simp only [List.length_drop,List.length_take];rfl)) ?_;(with_reducible refine (laws_eqWagonS.calls kj17 _ _ t289 _ _ t303 false _ ?side1 ?side2 ?side3 ?side4 A42.out).mono ?_);(case side1 => repeat (first | exact (Kd.R_reads' HO_10.out).2.2 | (with_reducible refine Kd.C_alloc ?_ _) | (with_reducible refine Kd.C_drewN ?_ _) | (with_reducible refine Kd.C_drew ?_)));(case side2 => exact (Kd.R_reads' HO_10.out).2.1);(case side3 => repeat (first | exact (Kd.R_reads' HO305.out).2.2 | (with_reducible refine Kd.C_alloc ?_ _) | (with_reducible refine Kd.C_drewN ?_ _) | (with_reducible refine Kd.C_drew ?_)));(case side4 => exact (Kd.R_reads' HO305.out).2.1);rintro e w121 ⟨rfl,hb⟩;refine ⟨_,rfl, ?_⟩;have n0_:=Aside0.mk (Kd.R_below (by (with_reducible repeat (first | apply Kd.R_alloc | apply Kd.R_drewN | apply Kd.R_drew));exact HO_8.out) hb);have n1_:=Aside0.mk (Kd.R_below (by (with_reducible repeat (first | apply Kd.R_alloc | apply Kd.R_drewN | apply Kd.R_drew));exact HO_10.out) hb);have n2_:=Aside0.mk (Kd.R_below (by (with_reducible repeat (first | apply Kd.R_alloc | apply Kd.R_drewN | apply Kd.R_drew));exact HO_11.out) hb);have n3_:=Aside0.mk (Kd.R_below (by (with_reducible repeat (first | apply Kd.R_alloc | apply Kd.R_drewN | apply Kd.R_drew));exact HO_12.out) hb);have n4_:=Aside0.mk (Kd.R_below (by (with_reducible repeat (first | apply Kd.R_alloc | apply Kd.R_drewN | apply Kd.R_drew));exact HO_13.out) hb);have n5_:=Aside0.mk (Kd.R_below (by (with_reducible repeat (first | apply Kd.R_alloc | apply Kd.R_drewN | apply Kd.R_drew));exact HO305.out) hb);have n6_:=Aside0.mk (below_step (by repeat (first | (with_reducible first | exact HB.out | apply below_alloc | apply pw_below_drewN | apply below_drew1) | exact HB.out)) hb);clear HO_8;clear HO_10;clear HO_11;clear HO_12;clear HO_13;clear HO305;clear HB;have HO_8:=n0_;have HO_10:=n1_;have HO_11:=n2_;have HO_12:=n3_;have HO_13:=n4_;have HO305:=n5_;have HB:=n6_;clear n0_ n1_ n2_ n3_ n4_ n5_ n6_;(try clear hb);(try clear hb2);(try clear hk);(try clear hi)))
        go_ret
        exact ⟨by first | rfl | (simp [errW_none,errW_some] <;> rfl) | (simp [*,errW_none,errW_some] <;> rfl),by repeat (first | (with_reducible first | exact HB.out | apply below_alloc | apply pw_below_drewN | apply below_drew1) | exact HB.out)⟩

end Go.Proofs.Ythfbnadlpninaaa.PFnExactEmptyWagons
