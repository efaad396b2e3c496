-- Written by a program of this session, over the kit's print (wip/xprint.py)
import Derived.Test.YthfbnadlpninaaaPFnExactFreeLengthsx0
import Derived.Test.YthfbnadlpninaaaPFnExactFreeLengthsx1
import Derived.Test.YthfbnadlpninaaaPFnExactFreeLengthsx2
import Derived.Test.YthfbnadlpninaaaPFnExactFreeLengthsx3
import Derived.Test.YthfbnadlpninaaaPFnExactFreeLengthsx6
import Derived.Test.YthfbnadlpninaaaPFnExactFreeLengthsx9
namespace Go.Proofs.Ythfbnadlpninaaa.PFnExactFreeLengths
open Go.RowKit Go.Proofs.YthfbnadlpninaaaW.PrintWords Go.Proofs.YthfbnadlpninaaaW.PrintLast Go.Proofs.YthfbnadlpninaaaW.PrintMore
attribute [local go_sem] max2_int min2_int max_two min_two max_three min_three max_four min_four   -- for this text's walks alone
set_option linter.unusedVariables false
set_option linter.unusedSimpArgs false

/-! ### laws_FnExactFreeLengths: function 8 -/
mutual
def laws_FnExactFreeLengths.j0 : Nat → List (S74) → List (S80) → List Int → List Int → Bool → List (S70) → List (S64) → List Int → List Int → Bool → Bool → Option (Bool)
 | 0,_,_,_,_,_,_,_,_,_,_,_ => none
 | k + 1,x0,x1,x2,x8,x9,x10,x11,x12,x13,x14,x64 => if x64 = true then (some false) else ((laws_toWagonS.f k x0).bind fun t298 => ((laws_eqWagonS.f k x10 t298).bind fun t301 => (if t301 = true then ((laws_toContainerS.f k x1).bind fun t302 => ((laws_eqContainerS.f k x11 t302).bind fun t305 => (if t305 = true then ((laws_toIntS.f k x2).bind fun t306 => ((laws_eqIntS.f k x12 t306).bind fun t309 => (if t309 = true then ((laws_markWagonS.f k x10 1).bind fun bt310 => ((laws_markContainerS.f k x11 bt310.1).bind fun bt312 => ((laws_markIntS.f k x12 bt312.1).bind fun bt314 => (if bt314.1 < 0 then (laws_FnExactFreeLengths.j1 k x0 x1 x2 x8 x9 x13 true) else ((laws_eqIntS.f k x13 x8).bind fun t316 => (if t316 = true then (laws_FnExactFreeLengths.j1 k x0 x1 x2 x8 x9 x13 (x14 != x9)) else (laws_FnExactFreeLengths.j1 k x0 x1 x2 x8 x9 x13 true))))))) else (some false)))) else (some false)))) else (some false))))
def laws_FnExactFreeLengths.j1 : Nat → List (S74) → List (S80) → List Int → List Int → Bool → List Int → Bool → Option (Bool)
 | 0,_,_,_,_,_,_,_ => none
 | k + 1,x0,x1,x2,x8,x9,x13,x101 => if x101 = true then (some false) else ((laws_markIntS.f k x13 1).bind fun bt317 => ((laws_heldIntS.f k bt317.2 1).bind fun t319 => (if t319 < 0 then (some false) else (if t319 = bt317.1 then ((laws_toWagonS.f k x0).bind fun t320 => ((laws_toContainerS.f k x1).bind fun t323 => ((laws_toIntS.f k x2).bind fun t326 => ((impl_FreeLengths.f k t320 t323 t326).bind fun bt329 => ((laws_eqIntS.f k bt329.1 x8).bind fun t333 => (if t333 = true then (laws_FnExactFreeLengths.j2 k bt317.2 bt317.1 (bt329.2 != x9)) else (laws_FnExactFreeLengths.j2 k bt317.2 bt317.1 true))))))) else (some false)))))
def laws_FnExactFreeLengths.j2 : Nat → List Int → Int → Bool → Option (Bool)
 | 0,_,_,_ => none
 | k + 1,x13,x16,x131 => if x131 = true then (some false) else ((laws_heldIntS.f k x13 1).bind fun t334 => (if t334 < 0 then (some false) else (if t334 = x16 then (some true) else (some false))))
end
def laws_FnExactFreeLengths.f (k : Nat) (l0 : List (S74)) (l1 : List (S80)) (l2 : List Int) : Option (Bool):=if (l2.length : Int) > 1048576 then (some true) else ((laws_szWagonS.f l0 1048576).bind fun t269 => (if t269 < 0 then (some true) else ((laws_szContainerS.f k l1 t269).bind fun t270 => (if t270 < 0 then (some true) else ((laws_toWagonS.f k l0).bind fun t271 => ((laws_toContainerS.f k l1).bind fun t274 => ((laws_toIntS.f k l2).bind fun t277 => ((spec_FreeLengths.f k t271 t274 t277).bind fun bt280 => ((laws_toWagonS.f k l0).bind fun t284 => ((laws_toContainerS.f k l1).bind fun t287 => ((laws_toIntS.f k l2).bind fun t290 => ((impl_FreeLengths.f k t284 t287 t290).bind fun bt293 => ((laws_eqIntS.f k bt293.1 bt280.1).bind fun t297 => (if t297 = true then (laws_FnExactFreeLengths.j0 k l0 l1 l2 bt280.1 bt280.2 t284 t287 t290 bt293.1 bt293.2 (bt293.2 != bt280.2)) else (laws_FnExactFreeLengths.j0 k l0 l1 l2 bt280.1 bt280.2 t284 t287 t290 bt293.1 bt293.2 true)))))))))))))))
theorem laws_FnExactFreeLengths.mono_l : ∀ k,(∀ y0 y1 y2 y3 y4 y5 y6 y7 y8 y9 y10,LeO (laws_FnExactFreeLengths.j0 k y0 y1 y2 y3 y4 y5 y6 y7 y8 y9 y10) (laws_FnExactFreeLengths.j0 (k + 1) y0 y1 y2 y3 y4 y5 y6 y7 y8 y9 y10)) ∧ (∀ y0 y1 y2 y3 y4 y5 y6,LeO (laws_FnExactFreeLengths.j1 k y0 y1 y2 y3 y4 y5 y6) (laws_FnExactFreeLengths.j1 (k + 1) y0 y1 y2 y3 y4 y5 y6)) ∧ (∀ y0 y1 y2,LeO (laws_FnExactFreeLengths.j2 k y0 y1 y2) (laws_FnExactFreeLengths.j2 (k + 1) y0 y1 y2))
 | 0 => ⟨fun _ _ _ _ _ _ _ _ _ _ _ r h => by simp [laws_FnExactFreeLengths.j0] at h,fun _ _ _ _ _ _ _ r h => by simp [laws_FnExactFreeLengths.j1] at h,fun _ _ _ r h => by simp [laws_FnExactFreeLengths.j2] at h⟩
 | k + 1 => by
  obtain ⟨ih0,ih1,ih2⟩ := laws_FnExactFreeLengths.mono_l k
  refine ⟨?_, ?_, ?_⟩
  ·intro y0 y1 y2 y3 y4 y5 y6 y7 y8 y9 y10
   unfold laws_FnExactFreeLengths.j0
   repeat' first
   | (with_reducible exact ih0 _ _ _ _ _ _ _ _ _ _ _)
   | (with_reducible exact ih1 _ _ _ _ _ _ _)
   | (with_reducible exact ih2 _ _ _)
   | (with_reducible exact impl_FreeLengths.mono _ _ _ _)
   | (with_reducible exact laws_eqContainerS.mono _ _ _)
   | (with_reducible exact laws_eqIntS.mono _ _ _)
   | (with_reducible exact laws_eqWagonS.mono _ _ _)
   | (with_reducible exact laws_heldIntS.mono _ _ _)
   | (with_reducible exact laws_markContainerS.mono _ _ _)
   | (with_reducible exact laws_markIntS.mono _ _ _)
   | (with_reducible exact laws_markWagonS.mono _ _ _)
   | (with_reducible exact laws_szContainerS.mono _ _ _)
   | (with_reducible exact laws_toContainerS.mono _ _)
   | (with_reducible exact laws_toIntS.mono _ _)
   | (with_reducible exact laws_toWagonS.mono _ _)
   | (with_reducible exact spec_FreeLengths.mono _ _ _ _)
   | (with_reducible exact LeO.refl _)
   | (with_reducible exact LeO.none _)
   | (with_reducible refine LeO.ite ?_ ?_)
   | (with_reducible refine LeO.bind ?_ (fun _ => ?_))
   | exact ih0 _ _ _ _ _ _ _ _ _ _ _
   | exact ih1 _ _ _ _ _ _ _
   | exact ih2 _ _ _
   | exact impl_FreeLengths.mono _ _ _ _
   | exact laws_eqContainerS.mono _ _ _
   | exact laws_eqIntS.mono _ _ _
   | exact laws_eqWagonS.mono _ _ _
   | exact laws_heldIntS.mono _ _ _
   | exact laws_markContainerS.mono _ _ _
   | exact laws_markIntS.mono _ _ _
   | exact laws_markWagonS.mono _ _ _
   | exact laws_szContainerS.mono _ _ _
   | exact laws_toContainerS.mono _ _
   | exact laws_toIntS.mono _ _
   | exact laws_toWagonS.mono _ _
   | exact spec_FreeLengths.mono _ _ _ _
   | exact LeO.none _
   | refine LeO.ite ?_ ?_
   | refine LeO.bind ?_ (fun _ => ?_)
  ·intro y0 y1 y2 y3 y4 y5 y6
   unfold laws_FnExactFreeLengths.j1
   repeat' first
   | (with_reducible exact ih0 _ _ _ _ _ _ _ _ _ _ _)
   | (with_reducible exact ih1 _ _ _ _ _ _ _)
   | (with_reducible exact ih2 _ _ _)
   | (with_reducible exact impl_FreeLengths.mono _ _ _ _)
   | (with_reducible exact laws_eqContainerS.mono _ _ _)
   | (with_reducible exact laws_eqIntS.mono _ _ _)
   | (with_reducible exact laws_eqWagonS.mono _ _ _)
   | (with_reducible exact laws_heldIntS.mono _ _ _)
   | (with_reducible exact laws_markContainerS.mono _ _ _)
   | (with_reducible exact laws_markIntS.mono _ _ _)
   | (with_reducible exact laws_markWagonS.mono _ _ _)
   | (with_reducible exact laws_szContainerS.mono _ _ _)
   | (with_reducible exact laws_toContainerS.mono _ _)
   | (with_reducible exact laws_toIntS.mono _ _)
   | (with_reducible exact laws_toWagonS.mono _ _)
   | (with_reducible exact spec_FreeLengths.mono _ _ _ _)
   | (with_reducible exact LeO.refl _)
   | (with_reducible exact LeO.none _)
   | (with_reducible refine LeO.ite ?_ ?_)
   | (with_reducible refine LeO.bind ?_ (fun _ => ?_))
   | exact ih0 _ _ _ _ _ _ _ _ _ _ _
   | exact ih1 _ _ _ _ _ _ _
   | exact ih2 _ _ _
   | exact impl_FreeLengths.mono _ _ _ _
   | exact laws_eqContainerS.mono _ _ _
   | exact laws_eqIntS.mono _ _ _
   | exact laws_eqWagonS.mono _ _ _
   | exact laws_heldIntS.mono _ _ _
   | exact laws_markContainerS.mono _ _ _
   | exact laws_markIntS.mono _ _ _
   | exact laws_markWagonS.mono _ _ _
   | exact laws_szContainerS.mono _ _ _
   | exact laws_toContainerS.mono _ _
   | exact laws_toIntS.mono _ _
   | exact laws_toWagonS.mono _ _
   | exact spec_FreeLengths.mono _ _ _ _
   | exact LeO.none _
   | refine LeO.ite ?_ ?_
   | refine LeO.bind ?_ (fun _ => ?_)
  ·intro y0 y1 y2
   unfold laws_FnExactFreeLengths.j2
   repeat' first
   | (with_reducible exact ih0 _ _ _ _ _ _ _ _ _ _ _)
   | (with_reducible exact ih1 _ _ _ _ _ _ _)
   | (with_reducible exact ih2 _ _ _)
   | (with_reducible exact impl_FreeLengths.mono _ _ _ _)
   | (with_reducible exact laws_eqContainerS.mono _ _ _)
   | (with_reducible exact laws_eqIntS.mono _ _ _)
   | (with_reducible exact laws_eqWagonS.mono _ _ _)
   | (with_reducible exact laws_heldIntS.mono _ _ _)
   | (with_reducible exact laws_markContainerS.mono _ _ _)
   | (with_reducible exact laws_markIntS.mono _ _ _)
   | (with_reducible exact laws_markWagonS.mono _ _ _)
   | (with_reducible exact laws_szContainerS.mono _ _ _)
   | (with_reducible exact laws_toContainerS.mono _ _)
   | (with_reducible exact laws_toIntS.mono _ _)
   | (with_reducible exact laws_toWagonS.mono _ _)
   | (with_reducible exact spec_FreeLengths.mono _ _ _ _)
   | (with_reducible exact LeO.refl _)
   | (with_reducible exact LeO.none _)
   | (with_reducible refine LeO.ite ?_ ?_)
   | (with_reducible refine LeO.bind ?_ (fun _ => ?_))
   | exact ih0 _ _ _ _ _ _ _ _ _ _ _
   | exact ih1 _ _ _ _ _ _ _
   | exact ih2 _ _ _
   | exact impl_FreeLengths.mono _ _ _ _
   | exact laws_eqContainerS.mono _ _ _
   | exact laws_eqIntS.mono _ _ _
   | exact laws_eqWagonS.mono _ _ _
   | exact laws_heldIntS.mono _ _ _
   | exact laws_markContainerS.mono _ _ _
   | exact laws_markIntS.mono _ _ _
   | exact laws_markWagonS.mono _ _ _
   | exact laws_szContainerS.mono _ _ _
   | exact laws_toContainerS.mono _ _
   | exact laws_toIntS.mono _ _
   | exact laws_toWagonS.mono _ _
   | exact spec_FreeLengths.mono _ _ _ _
   | exact LeO.none _
   | refine LeO.ite ?_ ?_
   | refine LeO.bind ?_ (fun _ => ?_)
theorem laws_FnExactFreeLengths.mono : ∀ a0 a1 a2 k,LeO (laws_FnExactFreeLengths.f k a0 a1 a2) (laws_FnExactFreeLengths.f (k + 1) a0 a1 a2):=by
 intro a0 a1 a2 k
 obtain ⟨ih0,ih1,ih2⟩ := laws_FnExactFreeLengths.mono_l k
 unfold laws_FnExactFreeLengths.f
 repeat' first
   | (with_reducible exact ih0 _ _ _ _ _ _ _ _ _ _ _)
   | (with_reducible exact ih1 _ _ _ _ _ _ _)
   | (with_reducible exact ih2 _ _ _)
   | (with_reducible exact impl_FreeLengths.mono _ _ _ _)
   | (with_reducible exact laws_eqContainerS.mono _ _ _)
   | (with_reducible exact laws_eqIntS.mono _ _ _)
   | (with_reducible exact laws_eqWagonS.mono _ _ _)
   | (with_reducible exact laws_heldIntS.mono _ _ _)
   | (with_reducible exact laws_markContainerS.mono _ _ _)
   | (with_reducible exact laws_markIntS.mono _ _ _)
   | (with_reducible exact laws_markWagonS.mono _ _ _)
   | (with_reducible exact laws_szContainerS.mono _ _ _)
   | (with_reducible exact laws_toContainerS.mono _ _)
   | (with_reducible exact laws_toIntS.mono _ _)
   | (with_reducible exact laws_toWagonS.mono _ _)
   | (with_reducible exact spec_FreeLengths.mono _ _ _ _)
   | (with_reducible exact LeO.refl _)
   | (with_reducible exact LeO.none _)
   | (with_reducible refine LeO.ite ?_ ?_)
   | (with_reducible refine LeO.bind ?_ (fun _ => ?_))
   | exact ih0 _ _ _ _ _ _ _ _ _ _ _
   | exact ih1 _ _ _ _ _ _ _
   | exact ih2 _ _ _
   | exact impl_FreeLengths.mono _ _ _ _
   | exact laws_eqContainerS.mono _ _ _
   | exact laws_eqIntS.mono _ _ _
   | exact laws_eqWagonS.mono _ _ _
   | exact laws_heldIntS.mono _ _ _
   | exact laws_markContainerS.mono _ _ _
   | exact laws_markIntS.mono _ _ _
   | exact laws_markWagonS.mono _ _ _
   | exact laws_szContainerS.mono _ _ _
   | exact laws_toContainerS.mono _ _
   | exact laws_toIntS.mono _ _
   | exact laws_toWagonS.mono _ _
   | exact spec_FreeLengths.mono _ _ _ _
   | exact LeO.none _
   | refine LeO.ite ?_ ?_
   | refine LeO.bind ?_ (fun _ => ?_)
set_option maxHeartbeats 8000000 in
set_option maxRecDepth 100000 in
theorem laws_FnExactFreeLengths.calls (k : Nat) (A0 : Option Addr) (c0 : Nat) (l0 : List (S74)) (A1 : Option Addr) (c1 : Nat) (l1 : List (S80)) (A2 : Option Addr) (c2 : Nat) (l2 : List Int) (r : Bool) (w : World) (hr0 : Kd.C k74 w A0 l0.length l0) (hc0 : l0.length ≤ c0) (hr1 : Kd.C k80 w A1 l1.length l1) (hc1 : l1.length ≤ c1) (hr2 : Kd.C (Kd.int .i64) w A2 l2.length l2) (hc2 : l2.length ≤ c2) (h : laws_FnExactFreeLengths.f k l0 l1 l2 = some r) :
  Calls Try.prog 8 #[.slice A0 l0.length c0, .slice A1 l1.length c1, .slice A2 l2.length c2] w fun e w' => e = .returned (.bool r) ∧ Below w.heap.size w w':=by
 have HR0:=Aside0.mk hr0
 have HC0:=Aside0.mk hc0
 clear hr0 hc0
 have HR1:=Aside0.mk hr1
 have HC1:=Aside0.mk hc1
 clear hr1 hc1
 have HR2:=Aside0.mk hr2
 have HC2:=Aside0.mk hc2
 clear hr2 hc2
 have HB:=Aside0.mk (Below.refl w.heap.size w)
 have H : (if (l2.length : Int) > 1048576 then (some true) else ((laws_szWagonS.f l0 1048576).bind fun t269 => (if t269 < 0 then (some true) else ((laws_szContainerS.f k l1 t269).bind fun t270 => (if t270 < 0 then (some true) else ((laws_toWagonS.f k l0).bind fun t271 => ((laws_toContainerS.f k l1).bind fun t274 => ((laws_toIntS.f k l2).bind fun t277 => ((spec_FreeLengths.f k t271 t274 t277).bind fun bt280 => ((laws_toWagonS.f k l0).bind fun t284 => ((laws_toContainerS.f k l1).bind fun t287 => ((laws_toIntS.f k l2).bind fun t290 => ((impl_FreeLengths.f k t284 t287 t290).bind fun bt293 => ((laws_eqIntS.f k bt293.1 bt280.1).bind fun t297 => (if t297 = true then (laws_FnExactFreeLengths.j0 k l0 l1 l2 bt280.1 bt280.2 t284 t287 t290 bt293.1 bt293.2 (bt293.2 != bt280.2)) else (laws_FnExactFreeLengths.j0 k l0 l1 l2 bt280.1 bt280.2 t284 t287 t290 bt293.1 bt293.2 true)))))))))))))))) = some r:=h
 clear h
 by_cases c4 : (l2.length : Int) > 1048576
 ·rw [if_pos c4] at H
  have c4b0 : decide (1048576 < (l2.length : Int)) = true:=decide_eq_true c4
  have c4b1 : decide (1048576 < l2.length) = true:=decide_eq_true (by omega)
  clear c4
  obtain rfl:=Option.some.inj H
  go_enter Try.func8,Try.ntmps8
  go_wp2
  go_ret
  exact ⟨by first | rfl | (simp [errW_none,errW_some] <;> rfl) | (simp [*,errW_none,errW_some] <;> rfl),by repeat (first | (with_reducible first | exact HB.out | apply below_alloc | apply pw_below_drewN | apply below_drew1) | exact HB.out)⟩
 ·rw [if_neg c4] at H
  have c4b0 : decide (1048576 < (l2.length : Int)) = false:=decide_eq_false c4
  have c4b1 : decide (1048576 < l2.length) = false:=decide_eq_false (by omega)
  clear c4
  replace H:=Option.bind_eq_some_iff.mp H
  obtain ⟨t269,A50,H⟩ := H
  replace H : (if t269 < 0 then (some true) else ((laws_szContainerS.f k l1 t269).bind fun t270 => (if t270 < 0 then (some true) else ((laws_toWagonS.f k l0).bind fun t271 => ((laws_toContainerS.f k l1).bind fun t274 => ((laws_toIntS.f k l2).bind fun t277 => ((spec_FreeLengths.f k t271 t274 t277).bind fun bt280 => ((laws_toWagonS.f k l0).bind fun t284 => ((laws_toContainerS.f k l1).bind fun t287 => ((laws_toIntS.f k l2).bind fun t290 => ((impl_FreeLengths.f k t284 t287 t290).bind fun bt293 => ((laws_eqIntS.f k bt293.1 bt280.1).bind fun t297 => (if t297 = true then (laws_FnExactFreeLengths.j0 k l0 l1 l2 bt280.1 bt280.2 t284 t287 t290 bt293.1 bt293.2 (bt293.2 != bt280.2)) else (laws_FnExactFreeLengths.j0 k l0 l1 l2 bt280.1 bt280.2 t284 t287 t290 bt293.1 bt293.2 true)))))))))))))) = some r:=H
  have A5:=Aside0.mk A50
  clear A50
  by_cases c6 : t269 < 0
  ·rw [if_pos c6] at H
   have c6b0 : decide (t269 < 0) = true:=decide_eq_true c6
   clear c6
   obtain rfl:=Option.some.inj H
   go_enter Try.func8,Try.ntmps8
   go_wp2_with (first | ((with_reducible refine gate_callee (f:=15) rfl ?_);refine goesL_ (some 25) rfl rfl Try.func15 (by kernel_rfl) rfl #[.slice A0 l0.length c0, .int .i64 1048576] rfl (by (try simp only [List.map_toArray,List.map_cons,List.map_nil]);first | done | rfl | (simp only [List.length_drop,List.length_take];rfl)) ?_;(with_reducible refine (laws_szWagonS.calls _ _ l0 1048576 t269 _ ?side1 ?side2 A5.out).mono ?_);(case side1 => repeat (first | exact HR0.out | (with_reducible refine Kd.C_alloc ?_ _) | (with_reducible refine Kd.C_drewN ?_ _) | (with_reducible refine Kd.C_drew ?_)));(case side2 => exact HC0.out);rintro e w' ⟨rfl,⟨nd,rfl⟩⟩;refine ⟨_,rfl, ?_⟩))
   go_ret
   exact ⟨by first | rfl | (simp [errW_none,errW_some] <;> rfl) | (simp [*,errW_none,errW_some] <;> rfl),by repeat (first | (with_reducible first | exact HB.out | apply below_alloc | apply pw_below_drewN | apply below_drew1) | exact HB.out)⟩
  ·rw [if_neg c6] at H
   have c6b0 : decide (t269 < 0) = false:=decide_eq_false c6
   clear c6
   replace H:=Option.bind_eq_some_iff.mp H
   obtain ⟨t270,A70,H⟩ := H
   replace H : (if t270 < 0 then (some true) else ((laws_toWagonS.f k l0).bind fun t271 => ((laws_toContainerS.f k l1).bind fun t274 => ((laws_toIntS.f k l2).bind fun t277 => ((spec_FreeLengths.f k t271 t274 t277).bind fun bt280 => ((laws_toWagonS.f k l0).bind fun t284 => ((laws_toContainerS.f k l1).bind fun t287 => ((laws_toIntS.f k l2).bind fun t290 => ((impl_FreeLengths.f k t284 t287 t290).bind fun bt293 => ((laws_eqIntS.f k bt293.1 bt280.1).bind fun t297 => (if t297 = true then (laws_FnExactFreeLengths.j0 k l0 l1 l2 bt280.1 bt280.2 t284 t287 t290 bt293.1 bt293.2 (bt293.2 != bt280.2)) else (laws_FnExactFreeLengths.j0 k l0 l1 l2 bt280.1 bt280.2 t284 t287 t290 bt293.1 bt293.2 true)))))))))))) = some r:=H
   have A7:=Aside0.mk A70
   clear A70
   by_cases c8 : t270 < 0
   ·rw [if_pos c8] at H
    have c8b0 : decide (t270 < 0) = true:=decide_eq_true c8
    clear c8
    obtain rfl:=Option.some.inj H
    go_enter Try.func8,Try.ntmps8
    go_wp2_with (first | ((with_reducible refine gate_callee (f:=15) rfl ?_);refine goesL_ (some 25) rfl rfl Try.func15 (by kernel_rfl) rfl #[.slice A0 l0.length c0, .int .i64 1048576] rfl (by (try simp only [List.map_toArray,List.map_cons,List.map_nil]);first | done | rfl | (simp only [List.length_drop,List.length_take];rfl)) ?_;(with_reducible refine (laws_szWagonS.calls _ _ l0 1048576 t269 _ ?side1 ?side2 A5.out).mono ?_);(case side1 => repeat (first | exact HR0.out | (with_reducible refine Kd.C_alloc ?_ _) | (with_reducible refine Kd.C_drewN ?_ _) | (with_reducible refine Kd.C_drew ?_)));(case side2 => exact HC0.out);rintro e w' ⟨rfl,⟨nd,rfl⟩⟩;refine ⟨_,rfl, ?_⟩) | ((with_reducible refine gate_callee (f:=20) rfl ?_);refine goesL_ (some 30) rfl rfl Try.func20 (by kernel_rfl) rfl #[.slice A1 l1.length c1, .int .i64 t269] rfl (by (try simp only [List.map_toArray,List.map_cons,List.map_nil]);first | done | rfl | (simp only [List.length_drop,List.length_take];rfl)) ?_;(with_reducible refine (laws_szContainerS.calls k _ _ l1 t269 t270 _ ?side1 ?side2 A7.out).mono ?_);(case side1 => repeat (first | exact HR1.out | (with_reducible refine Kd.C_alloc ?_ _) | (with_reducible refine Kd.C_drewN ?_ _) | (with_reducible refine Kd.C_drew ?_)));(case side2 => exact HC1.out);rintro e w9 ⟨rfl,hb⟩;refine ⟨_,rfl, ?_⟩;have n0_:=Aside0.mk (below_step (by repeat (first | (with_reducible first | exact HB.out | apply below_alloc | apply pw_below_drewN | apply below_drew1) | exact HB.out)) hb);clear HB;have HB:=n0_;clear n0_;(try clear hb);(try clear hb2);(try clear hk);(try clear hi)))
    go_ret
    exact ⟨by first | rfl | (simp [errW_none,errW_some] <;> rfl) | (simp [*,errW_none,errW_some] <;> rfl),by repeat (first | (with_reducible first | exact HB.out | apply below_alloc | apply pw_below_drewN | apply below_drew1) | exact HB.out)⟩
   ·rw [if_neg c8] at H
    have c8b0 : decide (t270 < 0) = false:=decide_eq_false c8
    clear c8
    replace H:=Option.bind_eq_some_iff.mp H
    obtain ⟨t271,A100,H⟩ := H
    replace H : ((laws_toContainerS.f k l1).bind fun t274 => ((laws_toIntS.f k l2).bind fun t277 => ((spec_FreeLengths.f k t271 t274 t277).bind fun bt280 => ((laws_toWagonS.f k l0).bind fun t284 => ((laws_toContainerS.f k l1).bind fun t287 => ((laws_toIntS.f k l2).bind fun t290 => ((impl_FreeLengths.f k t284 t287 t290).bind fun bt293 => ((laws_eqIntS.f k bt293.1 bt280.1).bind fun t297 => (if t297 = true then (laws_FnExactFreeLengths.j0 k l0 l1 l2 bt280.1 bt280.2 t284 t287 t290 bt293.1 bt293.2 (bt293.2 != bt280.2)) else (laws_FnExactFreeLengths.j0 k l0 l1 l2 bt280.1 bt280.2 t284 t287 t290 bt293.1 bt293.2 true)))))))))) = some r:=H
    have A10:=Aside0.mk A100
    clear A100
    replace H:=Option.bind_eq_some_iff.mp H
    obtain ⟨t274,A110,H⟩ := H
    replace H : ((laws_toIntS.f k l2).bind fun t277 => ((spec_FreeLengths.f k t271 t274 t277).bind fun bt280 => ((laws_toWagonS.f k l0).bind fun t284 => ((laws_toContainerS.f k l1).bind fun t287 => ((laws_toIntS.f k l2).bind fun t290 => ((impl_FreeLengths.f k t284 t287 t290).bind fun bt293 => ((laws_eqIntS.f k bt293.1 bt280.1).bind fun t297 => (if t297 = true then (laws_FnExactFreeLengths.j0 k l0 l1 l2 bt280.1 bt280.2 t284 t287 t290 bt293.1 bt293.2 (bt293.2 != bt280.2)) else (laws_FnExactFreeLengths.j0 k l0 l1 l2 bt280.1 bt280.2 t284 t287 t290 bt293.1 bt293.2 true))))))))) = some r:=H
    have A11:=Aside0.mk A110
    clear A110
    replace H:=Option.bind_eq_some_iff.mp H
    obtain ⟨t277,A120,H⟩ := H
    replace H : ((spec_FreeLengths.f k t271 t274 t277).bind fun bt280 => ((laws_toWagonS.f k l0).bind fun t284 => ((laws_toContainerS.f k l1).bind fun t287 => ((laws_toIntS.f k l2).bind fun t290 => ((impl_FreeLengths.f k t284 t287 t290).bind fun bt293 => ((laws_eqIntS.f k bt293.1 bt280.1).bind fun t297 => (if t297 = true then (laws_FnExactFreeLengths.j0 k l0 l1 l2 bt280.1 bt280.2 t284 t287 t290 bt293.1 bt293.2 (bt293.2 != bt280.2)) else (laws_FnExactFreeLengths.j0 k l0 l1 l2 bt280.1 bt280.2 t284 t287 t290 bt293.1 bt293.2 true)))))))) = some r:=H
    have A12:=Aside0.mk A120
    clear A120
    replace H:=Option.bind_eq_some_iff.mp H
    obtain ⟨⟨t280,t281⟩,A130,H⟩ := H
    replace H : ((laws_toWagonS.f k l0).bind fun t284 => ((laws_toContainerS.f k l1).bind fun t287 => ((laws_toIntS.f k l2).bind fun t290 => ((impl_FreeLengths.f k t284 t287 t290).bind fun bt293 => ((laws_eqIntS.f k bt293.1 t280).bind fun t297 => (if t297 = true then (laws_FnExactFreeLengths.j0 k l0 l1 l2 t280 t281 t284 t287 t290 bt293.1 bt293.2 (bt293.2 != t281)) else (laws_FnExactFreeLengths.j0 k l0 l1 l2 t280 t281 t284 t287 t290 bt293.1 bt293.2 true))))))) = some r:=H
    have A13:=Aside0.mk A130
    clear A130
    replace H:=Option.bind_eq_some_iff.mp H
    obtain ⟨t284,A140,H⟩ := H
    replace H : ((laws_toContainerS.f k l1).bind fun t287 => ((laws_toIntS.f k l2).bind fun t290 => ((impl_FreeLengths.f k t284 t287 t290).bind fun bt293 => ((laws_eqIntS.f k bt293.1 t280).bind fun t297 => (if t297 = true then (laws_FnExactFreeLengths.j0 k l0 l1 l2 t280 t281 t284 t287 t290 bt293.1 bt293.2 (bt293.2 != t281)) else (laws_FnExactFreeLengths.j0 k l0 l1 l2 t280 t281 t284 t287 t290 bt293.1 bt293.2 true)))))) = some r:=H
    have A14:=Aside0.mk A140
    clear A140
    replace H:=Option.bind_eq_some_iff.mp H
    obtain ⟨t287,A150,H⟩ := H
    replace H : ((laws_toIntS.f k l2).bind fun t290 => ((impl_FreeLengths.f k t284 t287 t290).bind fun bt293 => ((laws_eqIntS.f k bt293.1 t280).bind fun t297 => (if t297 = true then (laws_FnExactFreeLengths.j0 k l0 l1 l2 t280 t281 t284 t287 t290 bt293.1 bt293.2 (bt293.2 != t281)) else (laws_FnExactFreeLengths.j0 k l0 l1 l2 t280 t281 t284 t287 t290 bt293.1 bt293.2 true))))) = some r:=H
    have A15:=Aside0.mk A150
    clear A150
    replace H:=Option.bind_eq_some_iff.mp H
    obtain ⟨t290,A160,H⟩ := H
    replace H : ((impl_FreeLengths.f k t284 t287 t290).bind fun bt293 => ((laws_eqIntS.f k bt293.1 t280).bind fun t297 => (if t297 = true then (laws_FnExactFreeLengths.j0 k l0 l1 l2 t280 t281 t284 t287 t290 bt293.1 bt293.2 (bt293.2 != t281)) else (laws_FnExactFreeLengths.j0 k l0 l1 l2 t280 t281 t284 t287 t290 bt293.1 bt293.2 true)))) = some r:=H
    have A16:=Aside0.mk A160
    clear A160
    replace H:=Option.bind_eq_some_iff.mp H
    obtain ⟨⟨t293,t294⟩,A170,H⟩ := H
    replace H : ((laws_eqIntS.f k t293 t280).bind fun t297 => (if t297 = true then (laws_FnExactFreeLengths.j0 k l0 l1 l2 t280 t281 t284 t287 t290 t293 t294 (t294 != t281)) else (laws_FnExactFreeLengths.j0 k l0 l1 l2 t280 t281 t284 t287 t290 t293 t294 true))) = some r:=H
    have A17:=Aside0.mk A170
    clear A170
    have HC18:=Aside0.mk H
    clear H
    go_enter Try.func8,Try.ntmps8
    go_upto_region 15 with (first | ((with_reducible refine gate_callee (f:=15) rfl ?_);refine goesL_ (some 25) rfl rfl Try.func15 (by kernel_rfl) rfl #[.slice A0 l0.length c0, .int .i64 1048576] rfl (by (try simp only [List.map_toArray,List.map_cons,List.map_nil]);first | done | rfl | (simp only [List.length_drop,List.length_take];rfl)) ?_;(with_reducible refine (laws_szWagonS.calls _ _ l0 1048576 t269 _ ?side1 ?side2 A5.out).mono ?_);(case side1 => repeat (first | exact HR0.out | (with_reducible refine Kd.C_alloc ?_ _) | (with_reducible refine Kd.C_drewN ?_ _) | (with_reducible refine Kd.C_drew ?_)));(case side2 => exact HC0.out);rintro e w' ⟨rfl,⟨nd,rfl⟩⟩;refine ⟨_,rfl, ?_⟩) | ((with_reducible refine gate_callee (f:=20) rfl ?_);refine goesL_ (some 30) rfl rfl Try.func20 (by kernel_rfl) rfl #[.slice A1 l1.length c1, .int .i64 t269] rfl (by (try simp only [List.map_toArray,List.map_cons,List.map_nil]);first | done | rfl | (simp only [List.length_drop,List.length_take];rfl)) ?_;(with_reducible refine (laws_szContainerS.calls k _ _ l1 t269 t270 _ ?side1 ?side2 A7.out).mono ?_);(case side1 => repeat (first | exact HR1.out | (with_reducible refine Kd.C_alloc ?_ _) | (with_reducible refine Kd.C_drewN ?_ _) | (with_reducible refine Kd.C_drew ?_)));(case side2 => exact HC1.out);rintro e w19 ⟨rfl,hb⟩;refine ⟨_,rfl, ?_⟩;have n0_:=Aside0.mk (below_step (by repeat (first | (with_reducible first | exact HB.out | apply below_alloc | apply pw_below_drewN | apply below_drew1) | exact HB.out)) hb);clear HB;have HB:=n0_;clear n0_;(try clear hb);(try clear hb2);(try clear hk);(try clear hi)) | ((with_reducible refine gate_callee (f:=17) rfl ?_);refine goesL_ (some 35) rfl rfl Try.func17 (by kernel_rfl) rfl #[.slice A0 l0.length c0] rfl (by (try simp only [List.map_toArray,List.map_cons,List.map_nil]);first | done | rfl | (simp only [List.length_drop,List.length_take];rfl)) ?_;(with_reducible refine (laws_toWagonS.calls k _ _ l0 t271 _ ?side1 ?side2 A10.out).mono ?_);(case side1 => repeat (first | exact (Kd.C_below HR0.out HB.out) | (with_reducible refine Kd.C_alloc ?_ _) | (with_reducible refine Kd.C_drewN ?_ _) | (with_reducible refine Kd.C_drew ?_)));(case side2 => exact HC0.out);rintro e w20 ⟨v272,rfl,ho0,hb⟩;refine ⟨_,rfl, ?_⟩;have n0_:=Aside0.mk (Kd.R_lower ho0 (below_size (by repeat (first | (with_reducible first | exact HB.out | apply below_alloc | apply pw_below_drewN | apply below_drew1) | exact HB.out))));have n1_:=Aside0.mk (below_step (by repeat (first | (with_reducible first | exact HB.out | apply below_alloc | apply pw_below_drewN | apply below_drew1) | exact HB.out)) hb);clear HB;have HO273:=n0_;have HB:=n1_;clear n0_ n1_;(try clear hb);(try clear hb2);(try clear hk);(try clear hi);(try clear ho0)) | ((with_reducible refine gate_callee (f:=22) rfl ?_);refine goesL_ (some 37) rfl rfl Try.func22 (by kernel_rfl) rfl #[.slice A1 l1.length c1] rfl (by (try simp only [List.map_toArray,List.map_cons,List.map_nil]);first | done | rfl | (simp only [List.length_drop,List.length_take];rfl)) ?_;(with_reducible refine (laws_toContainerS.calls k _ _ l1 t274 _ ?side1 ?side2 A11.out).mono ?_);(case side1 => repeat (first | exact (Kd.C_below HR1.out HB.out) | (with_reducible refine Kd.C_alloc ?_ _) | (with_reducible refine Kd.C_drewN ?_ _) | (with_reducible refine Kd.C_drew ?_)));(case side2 => exact HC1.out);rintro e w21 ⟨v275,rfl,ho0,hb⟩;refine ⟨_,rfl, ?_⟩;have n0_:=Aside0.mk (Kd.R_below (by (with_reducible repeat (first | apply Kd.R_alloc | apply Kd.R_drewN | apply Kd.R_drew));exact HO273.out) hb);have n1_:=Aside0.mk (Kd.R_lower ho0 (below_size (by repeat (first | (with_reducible first | exact HB.out | apply below_alloc | apply pw_below_drewN | apply below_drew1) | exact HB.out))));have n2_:=Aside0.mk (below_step (by repeat (first | (with_reducible first | exact HB.out | apply below_alloc | apply pw_below_drewN | apply below_drew1) | exact HB.out)) hb);clear HO273;clear HB;have HO273:=n0_;have HO276:=n1_;have HB:=n2_;clear n0_ n1_ n2_;(try clear hb);(try clear hb2);(try clear hk);(try clear hi);(try clear ho0)) | ((with_reducible refine gate_callee (f:=23) rfl ?_);refine goesL_ (some 39) rfl rfl Try.func23 (by kernel_rfl) rfl #[.slice A2 l2.length c2] rfl (by (try simp only [List.map_toArray,List.map_cons,List.map_nil]);first | done | rfl | (simp only [List.length_drop,List.length_take];rfl)) ?_;(with_reducible refine (laws_toIntS.calls k _ _ l2 t277 _ ?side1 ?side2 A12.out).mono ?_);(case side1 => repeat (first | exact (Kd.C_below HR2.out HB.out) | (with_reducible refine Kd.C_alloc ?_ _) | (with_reducible refine Kd.C_drewN ?_ _) | (with_reducible refine Kd.C_drew ?_)));(case side2 => exact HC2.out);rintro e w22 ⟨v278,rfl,ho0,hb⟩;refine ⟨_,rfl, ?_⟩;have n0_:=Aside0.mk (Kd.R_below (by (with_reducible repeat (first | apply Kd.R_alloc | apply Kd.R_drewN | apply Kd.R_drew));exact HO273.out) hb);have n1_:=Aside0.mk (Kd.R_below (by (with_reducible repeat (first | apply Kd.R_alloc | apply Kd.R_drewN | apply Kd.R_drew));exact HO276.out) hb);have n2_:=Aside0.mk (Kd.R_lower ho0 (below_size (by repeat (first | (with_reducible first | exact HB.out | apply below_alloc | apply pw_below_drewN | apply below_drew1) | exact HB.out))));have n3_:=Aside0.mk (below_step (by repeat (first | (with_reducible first | exact HB.out | apply below_alloc | apply pw_below_drewN | apply below_drew1) | exact HB.out)) hb);clear HO273;clear HO276;clear HB;have HO273:=n0_;have HO276:=n1_;have HO279:=n2_;have HB:=n3_;clear n0_ n1_ n2_ n3_;(try clear hb);(try clear hb2);(try clear hk);(try clear hi);(try clear ho0);obtain ⟨Ao23,co23,eo23⟩ := Kd.R_slice HO273.out;subst eo23;obtain ⟨Ao24,co24,eo24⟩ := Kd.R_slice HO276.out;subst eo24;obtain ⟨Ao25,co25,eo25⟩ := Kd.R_slice HO279.out;subst eo25) | ((with_reducible refine gate_callee (f:=37) rfl ?_);refine goesL_ (some 40) rfl rfl Try.func37 (by kernel_rfl) rfl #[.slice Ao23 t271.length co23, .slice Ao24 t274.length co24, .slice Ao25 t277.length co25] rfl (by (try simp only [List.map_toArray,List.map_cons,List.map_nil]);first | done | rfl | (simp only [List.length_drop,List.length_take];rfl)) ?_;(with_reducible refine (spec_FreeLengths.calls k _ _ t271 _ _ t274 _ _ t277 t280 t281 _ ?side1 ?side2 ?side3 ?side4 ?side5 ?side6 A13.out).mono ?_);(case side1 => repeat (first | exact (Kd.R_reads' HO273.out).2.2 | (with_reducible refine Kd.C_alloc ?_ _) | (with_reducible refine Kd.C_drewN ?_ _) | (with_reducible refine Kd.C_drew ?_)));(case side2 => exact (Kd.R_reads' HO273.out).2.1);(case side3 => repeat (first | exact (Kd.R_reads' HO276.out).2.2 | (with_reducible refine Kd.C_alloc ?_ _) | (with_reducible refine Kd.C_drewN ?_ _) | (with_reducible refine Kd.C_drew ?_)));(case side4 => exact (Kd.R_reads' HO276.out).2.1);(case side5 => repeat (first | exact (Kd.R_reads' HO279.out).2.2 | (with_reducible refine Kd.C_alloc ?_ _) | (with_reducible refine Kd.C_drewN ?_ _) | (with_reducible refine Kd.C_drew ?_)));(case side6 => exact (Kd.R_reads' HO279.out).2.1);rintro e w26 ⟨v282,rfl,ho0,hb⟩;refine ⟨_,rfl, ?_⟩;have n0_:=Aside0.mk (Kd.R_below (by (with_reducible repeat (first | apply Kd.R_alloc | apply Kd.R_drewN | apply Kd.R_drew));exact HO273.out) hb);have n1_:=Aside0.mk (Kd.R_below (by (with_reducible repeat (first | apply Kd.R_alloc | apply Kd.R_drewN | apply Kd.R_drew));exact HO276.out) hb);have n2_:=Aside0.mk (Kd.R_elder' (by (with_reducible repeat (first | apply Kd.R_alloc | apply Kd.R_drewN | apply Kd.R_drew));exact HO279.out) (Kd.R_base ho0) hb);have n3_:=Aside0.mk (Kd.R_lower (Kd.R_new' ho0 (Kd.R_lt (by (with_reducible repeat (first | apply Kd.R_alloc | apply Kd.R_drewN | apply Kd.R_drew));exact HO279.out))) (below_size (by repeat (first | (with_reducible first | exact HB.out | apply below_alloc | apply pw_below_drewN | apply below_drew1) | exact HB.out))));have n4_:=Aside0.mk (below_step (by repeat (first | (with_reducible first | exact HB.out | apply below_alloc | apply pw_below_drewN | apply below_drew1) | exact HB.out)) hb);clear HO273;clear HO276;clear HO279;clear HB;have HO273:=n0_;have HO276:=n1_;have HO279:=n2_;have HO283:=n3_;have HB:=n4_;clear n0_ n1_ n2_ n3_ n4_;(try clear hb);(try clear hb2);(try clear hk);(try clear hi);(try clear ho0)) | ((with_reducible refine gate_callee (f:=17) rfl ?_);refine goesL_ (some 44) rfl rfl Try.func17 (by kernel_rfl) rfl #[.slice A0 l0.length c0] rfl (by (try simp only [List.map_toArray,List.map_cons,List.map_nil]);first | done | rfl | (simp only [List.length_drop,List.length_take];rfl)) ?_;(with_reducible refine (laws_toWagonS.calls k _ _ l0 t284 _ ?side1 ?side2 A14.out).mono ?_);(case side1 => repeat (first | exact (Kd.C_below HR0.out HB.out) | (with_reducible refine Kd.C_alloc ?_ _) | (with_reducible refine Kd.C_drewN ?_ _) | (with_reducible refine Kd.C_drew ?_)));(case side2 => exact HC0.out);rintro e w27 ⟨v285,rfl,ho0,hb⟩;refine ⟨_,rfl, ?_⟩;have n0_:=Aside0.mk (Kd.R_elder' (by (with_reducible repeat (first | apply Kd.R_alloc | apply Kd.R_drewN | apply Kd.R_drew));exact HO273.out) (Kd.R_base ho0) hb);have n1_:=Aside0.mk (Kd.R_below (by (with_reducible repeat (first | apply Kd.R_alloc | apply Kd.R_drewN | apply Kd.R_drew));exact HO276.out) hb);have n2_:=Aside0.mk (Kd.R_below (by (with_reducible repeat (first | apply Kd.R_alloc | apply Kd.R_drewN | apply Kd.R_drew));exact HO279.out) hb);have n3_:=Aside0.mk (Kd.R_below (by (with_reducible repeat (first | apply Kd.R_alloc | apply Kd.R_drewN | apply Kd.R_drew));exact HO283.out) hb);have n4_:=Aside0.mk (Kd.R_lower (Kd.R_new' ho0 (Kd.R_lt (by (with_reducible repeat (first | apply Kd.R_alloc | apply Kd.R_drewN | apply Kd.R_drew));exact HO273.out))) (below_size (by repeat (first | (with_reducible first | exact HB.out | apply below_alloc | apply pw_below_drewN | apply below_drew1) | exact HB.out))));have n5_:=Aside0.mk (below_step (by repeat (first | (with_reducible first | exact HB.out | apply below_alloc | apply pw_below_drewN | apply below_drew1) | exact HB.out)) hb);clear HO273;clear HO276;clear HO279;clear HO283;clear HB;have HO273:=n0_;have HO276:=n1_;have HO279:=n2_;have HO283:=n3_;have HO286:=n4_;have HB:=n5_;clear n0_ n1_ n2_ n3_ n4_ n5_;(try clear hb);(try clear hb2);(try clear hk);(try clear hi);(try clear ho0)) | ((with_reducible refine gate_callee (f:=22) rfl ?_);refine goesL_ (some 46) rfl rfl Try.func22 (by kernel_rfl) rfl #[.slice A1 l1.length c1] rfl (by (try simp only [List.map_toArray,List.map_cons,List.map_nil]);first | done | rfl | (simp only [List.length_drop,List.length_take];rfl)) ?_;(with_reducible refine (laws_toContainerS.calls k _ _ l1 t287 _ ?side1 ?side2 A15.out).mono ?_);(case side1 => repeat (first | exact (Kd.C_below HR1.out HB.out) | (with_reducible refine Kd.C_alloc ?_ _) | (with_reducible refine Kd.C_drewN ?_ _) | (with_reducible refine Kd.C_drew ?_)));(case side2 => exact HC1.out);rintro e w28 ⟨v288,rfl,ho0,hb⟩;refine ⟨_,rfl, ?_⟩;have n0_:=Aside0.mk (Kd.R_below (by (with_reducible repeat (first | apply Kd.R_alloc | apply Kd.R_drewN | apply Kd.R_drew));exact HO273.out) hb);have n1_:=Aside0.mk (Kd.R_elder' (by (with_reducible repeat (first | apply Kd.R_alloc | apply Kd.R_drewN | apply Kd.R_drew));exact HO276.out) (Kd.R_base ho0) hb);have n2_:=Aside0.mk (Kd.R_below (by (with_reducible repeat (first | apply Kd.R_alloc | apply Kd.R_drewN | apply Kd.R_drew));exact HO279.out) hb);have n3_:=Aside0.mk (Kd.R_below (by (with_reducible repeat (first | apply Kd.R_alloc | apply Kd.R_drewN | apply Kd.R_drew));exact HO283.out) hb);have n4_:=Aside0.mk (Kd.R_below (by (with_reducible repeat (first | apply Kd.R_alloc | apply Kd.R_drewN | apply Kd.R_drew));exact HO286.out) hb);have n5_:=Aside0.mk (Kd.R_lower (Kd.R_new' ho0 (Kd.R_lt (by (with_reducible repeat (first | apply Kd.R_alloc | apply Kd.R_drewN | apply Kd.R_drew));exact HO276.out))) (below_size (by repeat (first | (with_reducible first | exact HB.out | apply below_alloc | apply pw_below_drewN | apply below_drew1) | exact HB.out))));have n6_:=Aside0.mk (below_step (by repeat (first | (with_reducible first | exact HB.out | apply below_alloc | apply pw_below_drewN | apply below_drew1) | exact HB.out)) hb);clear HO273;clear HO276;clear HO279;clear HO283;clear HO286;clear HB;have HO273:=n0_;have HO276:=n1_;have HO279:=n2_;have HO283:=n3_;have HO286:=n4_;have HO289:=n5_;have HB:=n6_;clear n0_ n1_ n2_ n3_ n4_ n5_ n6_;(try clear hb);(try clear hb2);(try clear hk);(try clear hi);(try clear ho0)) | ((with_reducible refine gate_callee (f:=23) rfl ?_);refine goesL_ (some 48) rfl rfl Try.func23 (by kernel_rfl) rfl #[.slice A2 l2.length c2] rfl (by (try simp only [List.map_toArray,List.map_cons,List.map_nil]);first | done | rfl | (simp only [List.length_drop,List.length_take];rfl)) ?_;(with_reducible refine (laws_toIntS.calls k _ _ l2 t290 _ ?side1 ?side2 A16.out).mono ?_);(case side1 => repeat (first | exact (Kd.C_below HR2.out HB.out) | (with_reducible refine Kd.C_alloc ?_ _) | (with_reducible refine Kd.C_drewN ?_ _) | (with_reducible refine Kd.C_drew ?_)));(case side2 => exact HC2.out);rintro e w29 ⟨v291,rfl,ho0,hb⟩;refine ⟨_,rfl, ?_⟩;have n0_:=Aside0.mk (Kd.R_below (by (with_reducible repeat (first | apply Kd.R_alloc | apply Kd.R_drewN | apply Kd.R_drew));exact HO273.out) hb);have n1_:=Aside0.mk (Kd.R_below (by (with_reducible repeat (first | apply Kd.R_alloc | apply Kd.R_drewN | apply Kd.R_drew));exact HO276.out) hb);have n2_:=Aside0.mk (Kd.R_elder' (by (with_reducible repeat (first | apply Kd.R_alloc | apply Kd.R_drewN | apply Kd.R_drew));exact HO279.out) (Kd.R_base ho0) hb);have n3_:=Aside0.mk (Kd.R_elder' (by (with_reducible repeat (first | apply Kd.R_alloc | apply Kd.R_drewN | apply Kd.R_drew));exact HO283.out) (Kd.R_base ho0) hb);have n4_:=Aside0.mk (Kd.R_below (by (with_reducible repeat (first | apply Kd.R_alloc | apply Kd.R_drewN | apply Kd.R_drew));exact HO286.out) hb);have n5_:=Aside0.mk (Kd.R_below (by (with_reducible repeat (first | apply Kd.R_alloc | apply Kd.R_drewN | apply Kd.R_drew));exact HO289.out) hb);have n6_:=Aside0.mk (Kd.R_lower (Kd.R_new' (Kd.R_new' ho0 (Kd.R_lt (by (with_reducible repeat (first | apply Kd.R_alloc | apply Kd.R_drewN | apply Kd.R_drew));exact HO279.out))) (Kd.R_lt (by (with_reducible repeat (first | apply Kd.R_alloc | apply Kd.R_drewN | apply Kd.R_drew));exact HO283.out))) (below_size (by repeat (first | (with_reducible first | exact HB.out | apply below_alloc | apply pw_below_drewN | apply below_drew1) | exact HB.out))));have n7_:=Aside0.mk (below_step (by repeat (first | (with_reducible first | exact HB.out | apply below_alloc | apply pw_below_drewN | apply below_drew1) | exact HB.out)) hb);clear HO273;clear HO276;clear HO279;clear HO283;clear HO286;clear HO289;clear HB;have HO273:=n0_;have HO276:=n1_;have HO279:=n2_;have HO283:=n3_;have HO286:=n4_;have HO289:=n5_;have HO292:=n6_;have HB:=n7_;clear n0_ n1_ n2_ n3_ n4_ n5_ n6_ n7_;(try clear hb);(try clear hb2);(try clear hk);(try clear hi);(try clear ho0);obtain ⟨Ao30,co30,eo30⟩ := Kd.R_slice HO286.out;subst eo30;obtain ⟨Ao31,co31,eo31⟩ := Kd.R_slice HO289.out;subst eo31;obtain ⟨Ao32,co32,eo32⟩ := Kd.R_slice HO292.out;subst eo32) | ((with_reducible refine gate_callee (f:=38) rfl ?_);refine goesL_ (some 53) rfl rfl Try.func38 (by kernel_rfl) rfl #[.slice Ao30 t284.length co30, .slice Ao31 t287.length co31, .slice Ao32 t290.length co32] rfl (by (try simp only [List.map_toArray,List.map_cons,List.map_nil]);first | done | rfl | (simp only [List.length_drop,List.length_take];rfl)) ?_;(with_reducible refine (impl_FreeLengths.calls k _ _ t284 _ _ t287 _ _ t290 t293 t294 _ ?side1 ?side2 ?side3 ?side4 ?side5 ?side6 A17.out).mono ?_);(case side1 => repeat (first | exact (Kd.R_reads' HO286.out).2.2 | (with_reducible refine Kd.C_alloc ?_ _) | (with_reducible refine Kd.C_drewN ?_ _) | (with_reducible refine Kd.C_drew ?_)));(case side2 => exact (Kd.R_reads' HO286.out).2.1);(case side3 => repeat (first | exact (Kd.R_reads' HO289.out).2.2 | (with_reducible refine Kd.C_alloc ?_ _) | (with_reducible refine Kd.C_drewN ?_ _) | (with_reducible refine Kd.C_drew ?_)));(case side4 => exact (Kd.R_reads' HO289.out).2.1);(case side5 => repeat (first | exact (Kd.R_reads' HO292.out).2.2 | (with_reducible refine Kd.C_alloc ?_ _) | (with_reducible refine Kd.C_drewN ?_ _) | (with_reducible refine Kd.C_drew ?_)));(case side6 => exact (Kd.R_reads' HO292.out).2.1);rintro e w33 ⟨v295,rfl,ho0,hb⟩;refine ⟨_,rfl, ?_⟩;have n0_:=Aside0.mk (Kd.R_below (by (with_reducible repeat (first | apply Kd.R_alloc | apply Kd.R_drewN | apply Kd.R_drew));exact HO273.out) hb);have n1_:=Aside0.mk (Kd.R_below (by (with_reducible repeat (first | apply Kd.R_alloc | apply Kd.R_drewN | apply Kd.R_drew));exact HO276.out) hb);have n2_:=Aside0.mk (Kd.R_elder' (by (with_reducible repeat (first | apply Kd.R_alloc | apply Kd.R_drewN | apply Kd.R_drew));exact HO279.out) (Kd.R_base ho0) hb);have n3_:=Aside0.mk (Kd.R_elder' (by (with_reducible repeat (first | apply Kd.R_alloc | apply Kd.R_drewN | apply Kd.R_drew));exact HO283.out) (Kd.R_base ho0) hb);have n4_:=Aside0.mk (Kd.R_below (by (with_reducible repeat (first | apply Kd.R_alloc | apply Kd.R_drewN | apply Kd.R_drew));exact HO286.out) hb);have n5_:=Aside0.mk (Kd.R_below (by (with_reducible repeat (first | apply Kd.R_alloc | apply Kd.R_drewN | apply Kd.R_drew));exact HO289.out) hb);have n6_:=Aside0.mk (Kd.R_elder' (by (with_reducible repeat (first | apply Kd.R_alloc | apply Kd.R_drewN | apply Kd.R_drew));exact HO292.out) (Kd.R_base ho0) hb);have n7_:=Aside0.mk (Kd.R_lower (Kd.R_new' (Kd.R_new' (Kd.R_new' ho0 (Kd.R_lt (by (with_reducible repeat (first | apply Kd.R_alloc | apply Kd.R_drewN | apply Kd.R_drew));exact HO279.out))) (Kd.R_lt (by (with_reducible repeat (first | apply Kd.R_alloc | apply Kd.R_drewN | apply Kd.R_drew));exact HO283.out))) (Kd.R_lt (by (with_reducible repeat (first | apply Kd.R_alloc | apply Kd.R_drewN | apply Kd.R_drew));exact HO292.out))) (below_size (by repeat (first | (with_reducible first | exact HB.out | apply below_alloc | apply pw_below_drewN | apply below_drew1) | exact HB.out))));have n8_:=Aside0.mk (below_step (by repeat (first | (with_reducible first | exact HB.out | apply below_alloc | apply pw_below_drewN | apply below_drew1) | exact HB.out)) hb);clear HO273;clear HO276;clear HO279;clear HO283;clear HO286;clear HO289;clear HO292;clear HB;have HO273:=n0_;have HO276:=n1_;have HO279:=n2_;have HO283:=n3_;have HO286:=n4_;have HO289:=n5_;have HO292:=n6_;have HO296:=n7_;have HB:=n8_;clear n0_ n1_ n2_ n3_ n4_ n5_ n6_ n7_ n8_;(try clear hb);(try clear hb2);(try clear hk);(try clear hi);(try clear ho0)))
    (try simp only [Act.put,sA_,s0_,s1_])
    go_cut [64] (fun v64 wc => ∃ (kq : Nat) (x64_17 : Bool),v64 = .bool x64_17 ∧ Aside0 (laws_FnExactFreeLengths.j0 kq l0 l1 l2 t280 t281 t284 t287 t290 t293 t294 x64_17 = some r) ∧ Aside0 (kq ≤ k) ∧ Aside0 (Kd.R (Kd.int .i64) 3 wc w.heap.size (fun k_ => some k_ ≠ ((.slice Ao32 t290.length co32) : Value).ownBlock ∧ some k_ ≠ (v295 : Value).ownBlock) v282 t280) ∧ Aside0 (Kd.R k70 70 wc w.heap.size (fun _ => True) (.slice Ao30 t284.length co30) t284) ∧ Aside0 (Kd.R k64 64 wc w.heap.size (fun _ => True) (.slice Ao31 t287.length co31) t287) ∧ Aside0 (Kd.R (Kd.int .i64) 3 wc w.heap.size (fun k_ => some k_ ≠ (v282 : Value).ownBlock ∧ some k_ ≠ (v295 : Value).ownBlock) (.slice Ao32 t290.length co32) t290) ∧ Aside0 (Kd.R (Kd.int .i64) 3 wc w.heap.size (fun k_ => some k_ ≠ (v282 : Value).ownBlock ∧ some k_ ≠ ((.slice Ao32 t290.length co32) : Value).ownBlock) v295 t293) ∧ Aside0 (Below w.heap.size w wc))
    case first =>
     have H:=HC18.out
     clear HC18
     replace H:=Option.bind_eq_some_iff.mp H
     obtain ⟨t297,A340,H⟩ := H
     replace H : (if t297 = true then (laws_FnExactFreeLengths.j0 k l0 l1 l2 t280 t281 t284 t287 t290 t293 t294 (t294 != t281)) else (laws_FnExactFreeLengths.j0 k l0 l1 l2 t280 t281 t284 t287 t290 t293 t294 true)) = some r:=H
     have A34:=Aside0.mk A340
     clear A340
     by_cases c35 : t297 = true
     ·subst c35
      have H1 : (laws_FnExactFreeLengths.j0 k l0 l1 l2 t280 t281 t284 t287 t290 t293 t294 (t294 != t281)) = some r:=by rw [if_pos rfl] at H;exact H
      clear H
      have H:=H1
      clear H1
      have H':=Aside0.mk H
      clear H
      obtain ⟨Ao36,co36,eo36⟩ := Kd.R_slice HO296.out
      subst eo36
      obtain ⟨Ao37,co37,eo37⟩ := Kd.R_slice HO283.out
      subst eo37
      go_wp2_with (first | ((with_reducible refine gate_callee (f:=26) rfl ?_);refine goesL_ (some 58) rfl rfl Try.func26 (by kernel_rfl) rfl #[.slice Ao36 t293.length co36, .slice Ao37 t280.length co37] rfl (by (try simp only [List.map_toArray,List.map_cons,List.map_nil]);first | done | rfl | (simp only [List.length_drop,List.length_take];rfl)) ?_;(with_reducible refine (laws_eqIntS.calls k _ _ t293 _ _ t280 true _ ?side1 ?side2 ?side3 ?side4 A34.out).mono ?_);(case side1 => repeat (first | exact (Kd.R_reads' HO296.out).2.2 | (with_reducible refine Kd.C_alloc ?_ _) | (with_reducible refine Kd.C_drewN ?_ _) | (with_reducible refine Kd.C_drew ?_)));(case side2 => exact (Kd.R_reads' HO296.out).2.1);(case side3 => repeat (first | exact (Kd.R_reads' HO283.out).2.2 | (with_reducible refine Kd.C_alloc ?_ _) | (with_reducible refine Kd.C_drewN ?_ _) | (with_reducible refine Kd.C_drew ?_)));(case side4 => exact (Kd.R_reads' HO283.out).2.1);rintro e w' ⟨rfl,⟨nd,rfl⟩⟩;refine ⟨_,rfl, ?_⟩))
      go_meet
      case rel => exact ⟨_,((t294 != t281)),(by first | rfl | (simp;done) | (simp [*];done)),H',⟨by first | omega | exact Nat.le_refl _⟩,⟨by (with_reducible repeat (first | apply Kd.R_alloc | apply Kd.R_drewN | apply Kd.R_drew));exact Kd.R_mono HO283.out (fun _ hk => ⟨hk.1.2,hk.2⟩)⟩,⟨by (with_reducible repeat (first | apply Kd.R_alloc | apply Kd.R_drewN | apply Kd.R_drew));exact Kd.R_mono HO286.out (fun _ hk => trivial)⟩,⟨by (with_reducible repeat (first | apply Kd.R_alloc | apply Kd.R_drewN | apply Kd.R_drew));exact Kd.R_mono HO289.out (fun _ hk => trivial)⟩,⟨by (with_reducible repeat (first | apply Kd.R_alloc | apply Kd.R_drewN | apply Kd.R_drew));exact Kd.R_mono HO292.out (fun _ hk => ⟨hk.1.2,hk.2⟩)⟩,⟨by (with_reducible repeat (first | apply Kd.R_alloc | apply Kd.R_drewN | apply Kd.R_drew));exact Kd.R_mono HO296.out (fun _ hk => ⟨hk.1.2,hk.2⟩)⟩,⟨by repeat (first | (with_reducible first | exact HB.out | apply below_alloc | apply pw_below_drewN | apply below_drew1) | exact HB.out)⟩⟩
     ·replace c35:=Bool.eq_false_iff.mpr c35
      subst c35
      have H1 : (laws_FnExactFreeLengths.j0 k l0 l1 l2 t280 t281 t284 t287 t290 t293 t294 true) = some r:=by rw [if_neg (show ¬ (false = true) by decide)] at H;exact H
      clear H
      have H:=H1
      clear H1
      have H':=Aside0.mk H
      clear H
      obtain ⟨Ao38,co38,eo38⟩ := Kd.R_slice HO296.out
      subst eo38
      obtain ⟨Ao39,co39,eo39⟩ := Kd.R_slice HO283.out
      subst eo39
      go_wp2_with (first | ((with_reducible refine gate_callee (f:=26) rfl ?_);refine goesL_ (some 58) rfl rfl Try.func26 (by kernel_rfl) rfl #[.slice Ao38 t293.length co38, .slice Ao39 t280.length co39] rfl (by (try simp only [List.map_toArray,List.map_cons,List.map_nil]);first | done | rfl | (simp only [List.length_drop,List.length_take];rfl)) ?_;(with_reducible refine (laws_eqIntS.calls k _ _ t293 _ _ t280 false _ ?side1 ?side2 ?side3 ?side4 A34.out).mono ?_);(case side1 => repeat (first | exact (Kd.R_reads' HO296.out).2.2 | (with_reducible refine Kd.C_alloc ?_ _) | (with_reducible refine Kd.C_drewN ?_ _) | (with_reducible refine Kd.C_drew ?_)));(case side2 => exact (Kd.R_reads' HO296.out).2.1);(case side3 => repeat (first | exact (Kd.R_reads' HO283.out).2.2 | (with_reducible refine Kd.C_alloc ?_ _) | (with_reducible refine Kd.C_drewN ?_ _) | (with_reducible refine Kd.C_drew ?_)));(case side4 => exact (Kd.R_reads' HO283.out).2.1);rintro e w' ⟨rfl,⟨nd,rfl⟩⟩;refine ⟨_,rfl, ?_⟩))
      go_meet
      case rel => exact ⟨_,(true),(by first | rfl | (simp;done) | (simp [*];done)),H',⟨by first | omega | exact Nat.le_refl _⟩,⟨by (with_reducible repeat (first | apply Kd.R_alloc | apply Kd.R_drewN | apply Kd.R_drew));exact Kd.R_mono HO283.out (fun _ hk => ⟨hk.1.2,hk.2⟩)⟩,⟨by (with_reducible repeat (first | apply Kd.R_alloc | apply Kd.R_drewN | apply Kd.R_drew));exact Kd.R_mono HO286.out (fun _ hk => trivial)⟩,⟨by (with_reducible repeat (first | apply Kd.R_alloc | apply Kd.R_drewN | apply Kd.R_drew));exact Kd.R_mono HO289.out (fun _ hk => trivial)⟩,⟨by (with_reducible repeat (first | apply Kd.R_alloc | apply Kd.R_drewN | apply Kd.R_drew));exact Kd.R_mono HO292.out (fun _ hk => ⟨hk.1.2,hk.2⟩)⟩,⟨by (with_reducible repeat (first | apply Kd.R_alloc | apply Kd.R_drewN | apply Kd.R_drew));exact Kd.R_mono HO296.out (fun _ hk => ⟨hk.1.2,hk.2⟩)⟩,⟨by repeat (first | (with_reducible first | exact HB.out | apply below_alloc | apply pw_below_drewN | apply below_drew1) | exact HB.out)⟩⟩
    case rest =>
     clear HC18
     try clear c1
     try clear c2
     try clear p2
     try clear c3
     try clear c4
     try clear c4b0
     try clear c4b1
     try clear c6
     try clear c6b0
     try clear c8
     try clear c8b0
     try clear c15
     try clear c17
     try clear c20
     try clear c22
     try clear c23
     try clear c26
     try clear c35
     try clear c37
     try clear c38
     obtain ⟨kq,x64_17,rfl,HA,HJ17,HO_8,HO_10,HO_11,HO_12,HO_13,HB⟩ := hcut
     cases kq with
     | zero => exact absurd HA.out (by simp [laws_FnExactFreeLengths.j0])
     | succ kj17 =>
      have H:=HA.out
      clear HA
      simp only [laws_FnExactFreeLengths.j0] at H
      by_cases c40 : x64_17 = true
      ·subst c40
       have H1 : (some false) = some r:=by rw [if_pos rfl] at H;exact H
       clear H
       have H:=H1
       clear H1
       obtain rfl:=Option.some.inj H
       go_wp2
       go_ret
       exact ⟨by first | rfl | (simp [errW_none,errW_some] <;> rfl) | (simp [*,errW_none,errW_some] <;> rfl),by repeat (first | (with_reducible first | exact HB.out | apply below_alloc | apply pw_below_drewN | apply below_drew1) | exact HB.out)⟩
      ·replace c40:=Bool.eq_false_iff.mpr c40
       subst c40
       have H1 : ((laws_toWagonS.f kj17 l0).bind fun t298 => ((laws_eqWagonS.f kj17 t284 t298).bind fun t301 => (if t301 = true then ((laws_toContainerS.f kj17 l1).bind fun t302 => ((laws_eqContainerS.f kj17 t287 t302).bind fun t305 => (if t305 = true then ((laws_toIntS.f kj17 l2).bind fun t306 => ((laws_eqIntS.f kj17 t290 t306).bind fun t309 => (if t309 = true then ((laws_markWagonS.f kj17 t284 1).bind fun bt310 => ((laws_markContainerS.f kj17 t287 bt310.1).bind fun bt312 => ((laws_markIntS.f kj17 t290 bt312.1).bind fun bt314 => (if bt314.1 < 0 then (laws_FnExactFreeLengths.j1 kj17 l0 l1 l2 t280 t281 t293 true) else ((laws_eqIntS.f kj17 t293 t280).bind fun t316 => (if t316 = true then (laws_FnExactFreeLengths.j1 kj17 l0 l1 l2 t280 t281 t293 (t294 != t281)) else (laws_FnExactFreeLengths.j1 kj17 l0 l1 l2 t280 t281 t293 true))))))) else (some false)))) else (some false)))) else (some false)))) = some r:=by rw [if_neg (show ¬ (false = true) by decide)] at H;exact H
       clear H
       have H:=H1
       clear H1
       replace H:=Option.bind_eq_some_iff.mp H
       obtain ⟨t298,A410,H⟩ := H
       replace H : ((laws_eqWagonS.f kj17 t284 t298).bind fun t301 => (if t301 = true then ((laws_toContainerS.f kj17 l1).bind fun t302 => ((laws_eqContainerS.f kj17 t287 t302).bind fun t305 => (if t305 = true then ((laws_toIntS.f kj17 l2).bind fun t306 => ((laws_eqIntS.f kj17 t290 t306).bind fun t309 => (if t309 = true then ((laws_markWagonS.f kj17 t284 1).bind fun bt310 => ((laws_markContainerS.f kj17 t287 bt310.1).bind fun bt312 => ((laws_markIntS.f kj17 t290 bt312.1).bind fun bt314 => (if bt314.1 < 0 then (laws_FnExactFreeLengths.j1 kj17 l0 l1 l2 t280 t281 t293 true) else ((laws_eqIntS.f kj17 t293 t280).bind fun t316 => (if t316 = true then (laws_FnExactFreeLengths.j1 kj17 l0 l1 l2 t280 t281 t293 (t294 != t281)) else (laws_FnExactFreeLengths.j1 kj17 l0 l1 l2 t280 t281 t293 true))))))) else (some false)))) else (some false)))) else (some false))) = some r:=H
       have A41:=Aside0.mk A410
       clear A410
       replace H:=Option.bind_eq_some_iff.mp H
       obtain ⟨t301,A420,H⟩ := H
       replace H : (if t301 = true then ((laws_toContainerS.f kj17 l1).bind fun t302 => ((laws_eqContainerS.f kj17 t287 t302).bind fun t305 => (if t305 = true then ((laws_toIntS.f kj17 l2).bind fun t306 => ((laws_eqIntS.f kj17 t290 t306).bind fun t309 => (if t309 = true then ((laws_markWagonS.f kj17 t284 1).bind fun bt310 => ((laws_markContainerS.f kj17 t287 bt310.1).bind fun bt312 => ((laws_markIntS.f kj17 t290 bt312.1).bind fun bt314 => (if bt314.1 < 0 then (laws_FnExactFreeLengths.j1 kj17 l0 l1 l2 t280 t281 t293 true) else ((laws_eqIntS.f kj17 t293 t280).bind fun t316 => (if t316 = true then (laws_FnExactFreeLengths.j1 kj17 l0 l1 l2 t280 t281 t293 (t294 != t281)) else (laws_FnExactFreeLengths.j1 kj17 l0 l1 l2 t280 t281 t293 true))))))) else (some false)))) else (some false)))) else (some false)) = some r:=H
       have A42:=Aside0.mk A420
       clear A420
       by_cases c43 : t301 = true
       ·subst c43
        have H1 : ((laws_toContainerS.f kj17 l1).bind fun t302 => ((laws_eqContainerS.f kj17 t287 t302).bind fun t305 => (if t305 = true then ((laws_toIntS.f kj17 l2).bind fun t306 => ((laws_eqIntS.f kj17 t290 t306).bind fun t309 => (if t309 = true then ((laws_markWagonS.f kj17 t284 1).bind fun bt310 => ((laws_markContainerS.f kj17 t287 bt310.1).bind fun bt312 => ((laws_markIntS.f kj17 t290 bt312.1).bind fun bt314 => (if bt314.1 < 0 then (laws_FnExactFreeLengths.j1 kj17 l0 l1 l2 t280 t281 t293 true) else ((laws_eqIntS.f kj17 t293 t280).bind fun t316 => (if t316 = true then (laws_FnExactFreeLengths.j1 kj17 l0 l1 l2 t280 t281 t293 (t294 != t281)) else (laws_FnExactFreeLengths.j1 kj17 l0 l1 l2 t280 t281 t293 true))))))) else (some false)))) else (some false)))) = some r:=by rw [if_pos rfl] at H;exact H
        clear H
        have H:=H1
        clear H1
        replace H:=Option.bind_eq_some_iff.mp H
        obtain ⟨t302,A440,H⟩ := H
        replace H : ((laws_eqContainerS.f kj17 t287 t302).bind fun t305 => (if t305 = true then ((laws_toIntS.f kj17 l2).bind fun t306 => ((laws_eqIntS.f kj17 t290 t306).bind fun t309 => (if t309 = true then ((laws_markWagonS.f kj17 t284 1).bind fun bt310 => ((laws_markContainerS.f kj17 t287 bt310.1).bind fun bt312 => ((laws_markIntS.f kj17 t290 bt312.1).bind fun bt314 => (if bt314.1 < 0 then (laws_FnExactFreeLengths.j1 kj17 l0 l1 l2 t280 t281 t293 true) else ((laws_eqIntS.f kj17 t293 t280).bind fun t316 => (if t316 = true then (laws_FnExactFreeLengths.j1 kj17 l0 l1 l2 t280 t281 t293 (t294 != t281)) else (laws_FnExactFreeLengths.j1 kj17 l0 l1 l2 t280 t281 t293 true))))))) else (some false)))) else (some false))) = some r:=H
        have A44:=Aside0.mk A440
        clear A440
        replace H:=Option.bind_eq_some_iff.mp H
        obtain ⟨t305,A450,H⟩ := H
        replace H : (if t305 = true then ((laws_toIntS.f kj17 l2).bind fun t306 => ((laws_eqIntS.f kj17 t290 t306).bind fun t309 => (if t309 = true then ((laws_markWagonS.f kj17 t284 1).bind fun bt310 => ((laws_markContainerS.f kj17 t287 bt310.1).bind fun bt312 => ((laws_markIntS.f kj17 t290 bt312.1).bind fun bt314 => (if bt314.1 < 0 then (laws_FnExactFreeLengths.j1 kj17 l0 l1 l2 t280 t281 t293 true) else ((laws_eqIntS.f kj17 t293 t280).bind fun t316 => (if t316 = true then (laws_FnExactFreeLengths.j1 kj17 l0 l1 l2 t280 t281 t293 (t294 != t281)) else (laws_FnExactFreeLengths.j1 kj17 l0 l1 l2 t280 t281 t293 true))))))) else (some false)))) else (some false)) = some r:=H
        have A45:=Aside0.mk A450
        clear A450
        by_cases c46 : t305 = true
        ·subst c46
         have H1 : ((laws_toIntS.f kj17 l2).bind fun t306 => ((laws_eqIntS.f kj17 t290 t306).bind fun t309 => (if t309 = true then ((laws_markWagonS.f kj17 t284 1).bind fun bt310 => ((laws_markContainerS.f kj17 t287 bt310.1).bind fun bt312 => ((laws_markIntS.f kj17 t290 bt312.1).bind fun bt314 => (if bt314.1 < 0 then (laws_FnExactFreeLengths.j1 kj17 l0 l1 l2 t280 t281 t293 true) else ((laws_eqIntS.f kj17 t293 t280).bind fun t316 => (if t316 = true then (laws_FnExactFreeLengths.j1 kj17 l0 l1 l2 t280 t281 t293 (t294 != t281)) else (laws_FnExactFreeLengths.j1 kj17 l0 l1 l2 t280 t281 t293 true))))))) else (some false)))) = some r:=by rw [if_pos rfl] at H;exact H
         clear H
         have H:=H1
         clear H1
         replace H:=Option.bind_eq_some_iff.mp H
         obtain ⟨t306,A470,H⟩ := H
         replace H : ((laws_eqIntS.f kj17 t290 t306).bind fun t309 => (if t309 = true then ((laws_markWagonS.f kj17 t284 1).bind fun bt310 => ((laws_markContainerS.f kj17 t287 bt310.1).bind fun bt312 => ((laws_markIntS.f kj17 t290 bt312.1).bind fun bt314 => (if bt314.1 < 0 then (laws_FnExactFreeLengths.j1 kj17 l0 l1 l2 t280 t281 t293 true) else ((laws_eqIntS.f kj17 t293 t280).bind fun t316 => (if t316 = true then (laws_FnExactFreeLengths.j1 kj17 l0 l1 l2 t280 t281 t293 (t294 != t281)) else (laws_FnExactFreeLengths.j1 kj17 l0 l1 l2 t280 t281 t293 true))))))) else (some false))) = some r:=H
         have A47:=Aside0.mk A470
         clear A470
         replace H:=Option.bind_eq_some_iff.mp H
         obtain ⟨t309,A480,H⟩ := H
         replace H : (if t309 = true then ((laws_markWagonS.f kj17 t284 1).bind fun bt310 => ((laws_markContainerS.f kj17 t287 bt310.1).bind fun bt312 => ((laws_markIntS.f kj17 t290 bt312.1).bind fun bt314 => (if bt314.1 < 0 then (laws_FnExactFreeLengths.j1 kj17 l0 l1 l2 t280 t281 t293 true) else ((laws_eqIntS.f kj17 t293 t280).bind fun t316 => (if t316 = true then (laws_FnExactFreeLengths.j1 kj17 l0 l1 l2 t280 t281 t293 (t294 != t281)) else (laws_FnExactFreeLengths.j1 kj17 l0 l1 l2 t280 t281 t293 true))))))) else (some false)) = some r:=H
         have A48:=Aside0.mk A480
         clear A480
         by_cases c49 : t309 = true
         ·subst c49
          have H1 : ((laws_markWagonS.f kj17 t284 1).bind fun bt310 => ((laws_markContainerS.f kj17 t287 bt310.1).bind fun bt312 => ((laws_markIntS.f kj17 t290 bt312.1).bind fun bt314 => (if bt314.1 < 0 then (laws_FnExactFreeLengths.j1 kj17 l0 l1 l2 t280 t281 t293 true) else ((laws_eqIntS.f kj17 t293 t280).bind fun t316 => (if t316 = true then (laws_FnExactFreeLengths.j1 kj17 l0 l1 l2 t280 t281 t293 (t294 != t281)) else (laws_FnExactFreeLengths.j1 kj17 l0 l1 l2 t280 t281 t293 true))))))) = some r:=by rw [if_pos rfl] at H;exact H
          clear H
          have H:=H1
          clear H1
          replace H:=Option.bind_eq_some_iff.mp H
          obtain ⟨⟨t310,t311⟩,A500,H⟩ := H
          replace H : ((laws_markContainerS.f kj17 t287 t310).bind fun bt312 => ((laws_markIntS.f kj17 t290 bt312.1).bind fun bt314 => (if bt314.1 < 0 then (laws_FnExactFreeLengths.j1 kj17 l0 l1 l2 t280 t281 t293 true) else ((laws_eqIntS.f kj17 t293 t280).bind fun t316 => (if t316 = true then (laws_FnExactFreeLengths.j1 kj17 l0 l1 l2 t280 t281 t293 (t294 != t281)) else (laws_FnExactFreeLengths.j1 kj17 l0 l1 l2 t280 t281 t293 true)))))) = some r:=H
          have A50:=Aside0.mk A500
          clear A500
          replace H:=Option.bind_eq_some_iff.mp H
          obtain ⟨⟨t312,t313⟩,A510,H⟩ := H
          replace H : ((laws_markIntS.f kj17 t290 t312).bind fun bt314 => (if bt314.1 < 0 then (laws_FnExactFreeLengths.j1 kj17 l0 l1 l2 t280 t281 t293 true) else ((laws_eqIntS.f kj17 t293 t280).bind fun t316 => (if t316 = true then (laws_FnExactFreeLengths.j1 kj17 l0 l1 l2 t280 t281 t293 (t294 != t281)) else (laws_FnExactFreeLengths.j1 kj17 l0 l1 l2 t280 t281 t293 true))))) = some r:=H
          have A51:=Aside0.mk A510
          clear A510
          replace H:=Option.bind_eq_some_iff.mp H
          obtain ⟨⟨t314,t315⟩,A520,H⟩ := H
          replace H : (if t314 < 0 then (laws_FnExactFreeLengths.j1 kj17 l0 l1 l2 t280 t281 t293 true) else ((laws_eqIntS.f kj17 t293 t280).bind fun t316 => (if t316 = true then (laws_FnExactFreeLengths.j1 kj17 l0 l1 l2 t280 t281 t293 (t294 != t281)) else (laws_FnExactFreeLengths.j1 kj17 l0 l1 l2 t280 t281 t293 true)))) = some r:=H
          have A52:=Aside0.mk A520
          clear A520
          have HC53:=Aside0.mk H
          clear H
          go_upto_region 27 with (first | ((with_reducible refine gate_callee (f:=17) rfl ?_);refine goesL_ (some 67) rfl rfl Try.func17 (by kernel_rfl) rfl #[.slice A0 l0.length c0] rfl (by (try simp only [List.map_toArray,List.map_cons,List.map_nil]);first | done | rfl | (simp only [List.length_drop,List.length_take];rfl)) ?_;(with_reducible refine (laws_toWagonS.calls kj17 _ _ l0 t298 _ ?side1 ?side2 A41.out).mono ?_);(case side1 => repeat (first | exact (Kd.C_below HR0.out HB.out) | (with_reducible refine Kd.C_alloc ?_ _) | (with_reducible refine Kd.C_drewN ?_ _) | (with_reducible refine Kd.C_drew ?_)));(case side2 => exact HC0.out);rintro e w54 ⟨v299,rfl,ho0,hb⟩;refine ⟨_,rfl, ?_⟩;have n0_:=Aside0.mk (Kd.R_below (by (with_reducible repeat (first | apply Kd.R_alloc | apply Kd.R_drewN | apply Kd.R_drew));exact HO_8.out) hb);have n1_:=Aside0.mk (Kd.R_elder' (by (with_reducible repeat (first | apply Kd.R_alloc | apply Kd.R_drewN | apply Kd.R_drew));exact HO_10.out) (Kd.R_base ho0) hb);have n2_:=Aside0.mk (Kd.R_below (by (with_reducible repeat (first | apply Kd.R_alloc | apply Kd.R_drewN | apply Kd.R_drew));exact HO_11.out) hb);have n3_:=Aside0.mk (Kd.R_below (by (with_reducible repeat (first | apply Kd.R_alloc | apply Kd.R_drewN | apply Kd.R_drew));exact HO_12.out) hb);have n4_:=Aside0.mk (Kd.R_below (by (with_reducible repeat (first | apply Kd.R_alloc | apply Kd.R_drewN | apply Kd.R_drew));exact HO_13.out) hb);have n5_:=Aside0.mk (Kd.R_lower (Kd.R_new' ho0 (Kd.R_lt (by (with_reducible repeat (first | apply Kd.R_alloc | apply Kd.R_drewN | apply Kd.R_drew));exact HO_10.out))) (below_size (by repeat (first | (with_reducible first | exact HB.out | apply below_alloc | apply pw_below_drewN | apply below_drew1) | exact HB.out))));have n6_:=Aside0.mk (below_step (by repeat (first | (with_reducible first | exact HB.out | apply below_alloc | apply pw_below_drewN | apply below_drew1) | exact HB.out)) hb);clear HO_8;clear HO_10;clear HO_11;clear HO_12;clear HO_13;clear HB;have HO_8:=n0_;have HO_10:=n1_;have HO_11:=n2_;have HO_12:=n3_;have HO_13:=n4_;have HO300:=n5_;have HB:=n6_;clear n0_ n1_ n2_ n3_ n4_ n5_ n6_;(try clear hb);(try clear hb2);(try clear hk);(try clear hi);(try clear ho0);obtain ⟨Ao55,co55,eo55⟩ := Kd.R_slice HO300.out;subst eo55) | ((with_reducible refine gate_callee (f:=19) rfl ?_);refine goesL_ (some 68) rfl rfl Try.func19 (by kernel_rfl) rfl #[.slice Ao30 t284.length co30, .slice Ao55 t298.length co55] rfl (by (try simp only [List.map_toArray,List.map_cons,List.map_nil]);first | done | rfl | (simp only [List.length_drop,List.length_take];rfl)) ?_;(with_reducible refine (laws_eqWagonS.calls kj17 _ _ t284 _ _ t298 true _ ?side1 ?side2 ?side3 ?side4 A42.out).mono ?_);(case side1 => repeat (first | exact (Kd.R_reads' HO_10.out).2.2 | (with_reducible refine Kd.C_alloc ?_ _) | (with_reducible refine Kd.C_drewN ?_ _) | (with_reducible refine Kd.C_drew ?_)));(case side2 => exact (Kd.R_reads' HO_10.out).2.1);(case side3 => repeat (first | exact (Kd.R_reads' HO300.out).2.2 | (with_reducible refine Kd.C_alloc ?_ _) | (with_reducible refine Kd.C_drewN ?_ _) | (with_reducible refine Kd.C_drew ?_)));(case side4 => exact (Kd.R_reads' HO300.out).2.1);rintro e w56 ⟨rfl,hb⟩;refine ⟨_,rfl, ?_⟩;have n0_:=Aside0.mk (Kd.R_below (by (with_reducible repeat (first | apply Kd.R_alloc | apply Kd.R_drewN | apply Kd.R_drew));exact HO_8.out) hb);have n1_:=Aside0.mk (Kd.R_below (by (with_reducible repeat (first | apply Kd.R_alloc | apply Kd.R_drewN | apply Kd.R_drew));exact HO_10.out) hb);have n2_:=Aside0.mk (Kd.R_below (by (with_reducible repeat (first | apply Kd.R_alloc | apply Kd.R_drewN | apply Kd.R_drew));exact HO_11.out) hb);have n3_:=Aside0.mk (Kd.R_below (by (with_reducible repeat (first | apply Kd.R_alloc | apply Kd.R_drewN | apply Kd.R_drew));exact HO_12.out) hb);have n4_:=Aside0.mk (Kd.R_below (by (with_reducible repeat (first | apply Kd.R_alloc | apply Kd.R_drewN | apply Kd.R_drew));exact HO_13.out) hb);have n5_:=Aside0.mk (Kd.R_below (by (with_reducible repeat (first | apply Kd.R_alloc | apply Kd.R_drewN | apply Kd.R_drew));exact HO300.out) hb);have n6_:=Aside0.mk (below_step (by repeat (first | (with_reducible first | exact HB.out | apply below_alloc | apply pw_below_drewN | apply below_drew1) | exact HB.out)) hb);clear HO_8;clear HO_10;clear HO_11;clear HO_12;clear HO_13;clear HO300;clear HB;have HO_8:=n0_;have HO_10:=n1_;have HO_11:=n2_;have HO_12:=n3_;have HO_13:=n4_;have HO300:=n5_;have HB:=n6_;clear n0_ n1_ n2_ n3_ n4_ n5_ n6_;(try clear hb);(try clear hb2);(try clear hk);(try clear hi)) | ((with_reducible refine gate_callee (f:=22) rfl ?_);refine goesL_ (some 72) rfl rfl Try.func22 (by kernel_rfl) rfl #[.slice A1 l1.length c1] rfl (by (try simp only [List.map_toArray,List.map_cons,List.map_nil]);first | done | rfl | (simp only [List.length_drop,List.length_take];rfl)) ?_;(with_reducible refine (laws_toContainerS.calls kj17 _ _ l1 t302 _ ?side1 ?side2 A44.out).mono ?_);(case side1 => repeat (first | exact (Kd.C_below HR1.out HB.out) | (with_reducible refine Kd.C_alloc ?_ _) | (with_reducible refine Kd.C_drewN ?_ _) | (with_reducible refine Kd.C_drew ?_)));(case side2 => exact HC1.out);rintro e w57 ⟨v303,rfl,ho0,hb⟩;refine ⟨_,rfl, ?_⟩;have n0_:=Aside0.mk (Kd.R_below (by (with_reducible repeat (first | apply Kd.R_alloc | apply Kd.R_drewN | apply Kd.R_drew));exact HO_8.out) hb);have n1_:=Aside0.mk (Kd.R_below (by (with_reducible repeat (first | apply Kd.R_alloc | apply Kd.R_drewN | apply Kd.R_drew));exact HO_10.out) hb);have n2_:=Aside0.mk (Kd.R_elder' (by (with_reducible repeat (first | apply Kd.R_alloc | apply Kd.R_drewN | apply Kd.R_drew));exact HO_11.out) (Kd.R_base ho0) hb);have n3_:=Aside0.mk (Kd.R_below (by (with_reducible repeat (first | apply Kd.R_alloc | apply Kd.R_drewN | apply Kd.R_drew));exact HO_12.out) hb);have n4_:=Aside0.mk (Kd.R_below (by (with_reducible repeat (first | apply Kd.R_alloc | apply Kd.R_drewN | apply Kd.R_drew));exact HO_13.out) hb);have n5_:=Aside0.mk (Kd.R_below (by (with_reducible repeat (first | apply Kd.R_alloc | apply Kd.R_drewN | apply Kd.R_drew));exact HO300.out) hb);have n6_:=Aside0.mk (Kd.R_lower (Kd.R_new' ho0 (Kd.R_lt (by (with_reducible repeat (first | apply Kd.R_alloc | apply Kd.R_drewN | apply Kd.R_drew));exact HO_11.out))) (below_size (by repeat (first | (with_reducible first | exact HB.out | apply below_alloc | apply pw_below_drewN | apply below_drew1) | exact HB.out))));have n7_:=Aside0.mk (below_step (by repeat (first | (with_reducible first | exact HB.out | apply below_alloc | apply pw_below_drewN | apply below_drew1) | exact HB.out)) hb);clear HO_8;clear HO_10;clear HO_11;clear HO_12;clear HO_13;clear HO300;clear HB;have HO_8:=n0_;have HO_10:=n1_;have HO_11:=n2_;have HO_12:=n3_;have HO_13:=n4_;have HO300:=n5_;have HO304:=n6_;have HB:=n7_;clear n0_ n1_ n2_ n3_ n4_ n5_ n6_ n7_;(try clear hb);(try clear hb2);(try clear hk);(try clear hi);(try clear ho0);obtain ⟨Ao58,co58,eo58⟩ := Kd.R_slice HO304.out;subst eo58) | ((with_reducible refine gate_callee (f:=25) rfl ?_);refine goesL_ (some 73) rfl rfl Try.func25 (by kernel_rfl) rfl #[.slice Ao31 t287.length co31, .slice Ao58 t302.length co58] rfl (by (try simp only [List.map_toArray,List.map_cons,List.map_nil]);first | done | rfl | (simp only [List.length_drop,List.length_take];rfl)) ?_;(with_reducible refine (laws_eqContainerS.calls kj17 _ _ t287 _ _ t302 true _ ?side1 ?side2 ?side3 ?side4 A45.out).mono ?_);(case side1 => repeat (first | exact (Kd.R_reads' HO_11.out).2.2 | (with_reducible refine Kd.C_alloc ?_ _) | (with_reducible refine Kd.C_drewN ?_ _) | (with_reducible refine Kd.C_drew ?_)));(case side2 => exact (Kd.R_reads' HO_11.out).2.1);(case side3 => repeat (first | exact (Kd.R_reads' HO304.out).2.2 | (with_reducible refine Kd.C_alloc ?_ _) | (with_reducible refine Kd.C_drewN ?_ _) | (with_reducible refine Kd.C_drew ?_)));(case side4 => exact (Kd.R_reads' HO304.out).2.1);rintro e w59 ⟨rfl,hb⟩;refine ⟨_,rfl, ?_⟩;have n0_:=Aside0.mk (Kd.R_below (by (with_reducible repeat (first | apply Kd.R_alloc | apply Kd.R_drewN | apply Kd.R_drew));exact HO_8.out) hb);have n1_:=Aside0.mk (Kd.R_below (by (with_reducible repeat (first | apply Kd.R_alloc | apply Kd.R_drewN | apply Kd.R_drew));exact HO_10.out) hb);have n2_:=Aside0.mk (Kd.R_below (by (with_reducible repeat (first | apply Kd.R_alloc | apply Kd.R_drewN | apply Kd.R_drew));exact HO_11.out) hb);have n3_:=Aside0.mk (Kd.R_below (by (with_reducible repeat (first | apply Kd.R_alloc | apply Kd.R_drewN | apply Kd.R_drew));exact HO_12.out) hb);have n4_:=Aside0.mk (Kd.R_below (by (with_reducible repeat (first | apply Kd.R_alloc | apply Kd.R_drewN | apply Kd.R_drew));exact HO_13.out) hb);have n5_:=Aside0.mk (Kd.R_below (by (with_reducible repeat (first | apply Kd.R_alloc | apply Kd.R_drewN | apply Kd.R_drew));exact HO300.out) hb);have n6_:=Aside0.mk (Kd.R_below (by (with_reducible repeat (first | apply Kd.R_alloc | apply Kd.R_drewN | apply Kd.R_drew));exact HO304.out) hb);have n7_:=Aside0.mk (below_step (by repeat (first | (with_reducible first | exact HB.out | apply below_alloc | apply pw_below_drewN | apply below_drew1) | exact HB.out)) hb);clear HO_8;clear HO_10;clear HO_11;clear HO_12;clear HO_13;clear HO300;clear HO304;clear HB;have HO_8:=n0_;have HO_10:=n1_;have HO_11:=n2_;have HO_12:=n3_;have HO_13:=n4_;have HO300:=n5_;have HO304:=n6_;have HB:=n7_;clear n0_ n1_ n2_ n3_ n4_ n5_ n6_ n7_;(try clear hb);(try clear hb2);(try clear hk);(try clear hi)) | ((with_reducible refine gate_callee (f:=23) rfl ?_);refine goesL_ (some 77) rfl rfl Try.func23 (by kernel_rfl) rfl #[.slice A2 l2.length c2] rfl (by (try simp only [List.map_toArray,List.map_cons,List.map_nil]);first | done | rfl | (simp only [List.length_drop,List.length_take];rfl)) ?_;(with_reducible refine (laws_toIntS.calls kj17 _ _ l2 t306 _ ?side1 ?side2 A47.out).mono ?_);(case side1 => repeat (first | exact (Kd.C_below HR2.out HB.out) | (with_reducible refine Kd.C_alloc ?_ _) | (with_reducible refine Kd.C_drewN ?_ _) | (with_reducible refine Kd.C_drew ?_)));(case side2 => exact HC2.out);rintro e w60 ⟨v307,rfl,ho0,hb⟩;refine ⟨_,rfl, ?_⟩;have n0_:=Aside0.mk (Kd.R_elder' (by (with_reducible repeat (first | apply Kd.R_alloc | apply Kd.R_drewN | apply Kd.R_drew));exact HO_8.out) (Kd.R_base ho0) hb);have n1_:=Aside0.mk (Kd.R_below (by (with_reducible repeat (first | apply Kd.R_alloc | apply Kd.R_drewN | apply Kd.R_drew));exact HO_10.out) hb);have n2_:=Aside0.mk (Kd.R_below (by (with_reducible repeat (first | apply Kd.R_alloc | apply Kd.R_drewN | apply Kd.R_drew));exact HO_11.out) hb);have n3_:=Aside0.mk (Kd.R_elder' (by (with_reducible repeat (first | apply Kd.R_alloc | apply Kd.R_drewN | apply Kd.R_drew));exact HO_12.out) (Kd.R_base ho0) hb);have n4_:=Aside0.mk (Kd.R_elder' (by (with_reducible repeat (first | apply Kd.R_alloc | apply Kd.R_drewN | apply Kd.R_drew));exact HO_13.out) (Kd.R_base ho0) hb);have n5_:=Aside0.mk (Kd.R_below (by (with_reducible repeat (first | apply Kd.R_alloc | apply Kd.R_drewN | apply Kd.R_drew));exact HO300.out) hb);have n6_:=Aside0.mk (Kd.R_below (by (with_reducible repeat (first | apply Kd.R_alloc | apply Kd.R_drewN | apply Kd.R_drew));exact HO304.out) hb);have n7_:=Aside0.mk (Kd.R_lower (Kd.R_new' (Kd.R_new' (Kd.R_new' ho0 (Kd.R_lt (by (with_reducible repeat (first | apply Kd.R_alloc | apply Kd.R_drewN | apply Kd.R_drew));exact HO_8.out))) (Kd.R_lt (by (with_reducible repeat (first | apply Kd.R_alloc | apply Kd.R_drewN | apply Kd.R_drew));exact HO_12.out))) (Kd.R_lt (by (with_reducible repeat (first | apply Kd.R_alloc | apply Kd.R_drewN | apply Kd.R_drew));exact HO_13.out))) (below_size (by repeat (first | (with_reducible first | exact HB.out | apply below_alloc | apply pw_below_drewN | apply below_drew1) | exact HB.out))));have n8_:=Aside0.mk (below_step (by repeat (first | (with_reducible first | exact HB.out | apply below_alloc | apply pw_below_drewN | apply below_drew1) | exact HB.out)) hb);clear HO_8;clear HO_10;clear HO_11;clear HO_12;clear HO_13;clear HO300;clear HO304;clear HB;have HO_8:=n0_;have HO_10:=n1_;have HO_11:=n2_;have HO_12:=n3_;have HO_13:=n4_;have HO300:=n5_;have HO304:=n6_;have HO308:=n7_;have HB:=n8_;clear n0_ n1_ n2_ n3_ n4_ n5_ n6_ n7_ n8_;(try clear hb);(try clear hb2);(try clear hk);(try clear hi);(try clear ho0);obtain ⟨Ao61,co61,eo61⟩ := Kd.R_slice HO308.out;subst eo61) | ((with_reducible refine gate_callee (f:=26) rfl ?_);refine goesL_ (some 78) rfl rfl Try.func26 (by kernel_rfl) rfl #[.slice Ao32 t290.length co32, .slice Ao61 t306.length co61] rfl (by (try simp only [List.map_toArray,List.map_cons,List.map_nil]);first | done | rfl | (simp only [List.length_drop,List.length_take];rfl)) ?_;(with_reducible refine (laws_eqIntS.calls kj17 _ _ t290 _ _ t306 true _ ?side1 ?side2 ?side3 ?side4 A48.out).mono ?_);(case side1 => repeat (first | exact (Kd.R_reads' HO_12.out).2.2 | (with_reducible refine Kd.C_alloc ?_ _) | (with_reducible refine Kd.C_drewN ?_ _) | (with_reducible refine Kd.C_drew ?_)));(case side2 => exact (Kd.R_reads' HO_12.out).2.1);(case side3 => repeat (first | exact (Kd.R_reads' HO308.out).2.2 | (with_reducible refine Kd.C_alloc ?_ _) | (with_reducible refine Kd.C_drewN ?_ _) | (with_reducible refine Kd.C_drew ?_)));(case side4 => exact (Kd.R_reads' HO308.out).2.1);rintro e w' ⟨rfl,⟨nd,rfl⟩⟩;refine ⟨_,rfl, ?_⟩) | ((with_reducible refine gate_callee (f:=33) rfl ?_);refine goesL_ (some 82) rfl rfl Try.func33 (by kernel_rfl) rfl #[.slice Ao30 t284.length co30, .int .i64 1] rfl (by (try simp only [List.map_toArray,List.map_cons,List.map_nil]);first | done | rfl | (simp only [List.length_drop,List.length_take];rfl)) ?_;(with_reducible refine (laws_markWagonS.calls kj17 (fun k_ => some k_ = (.slice Ao30 t284.length co30 : Value).ownBlock) (.slice Ao30 t284.length co30) t284 1 t310 t311 w _ ?side1 ?side2 A50.out).mono ?_);(case side1 => repeat (first | (with_reducible first | exact HB.out | apply below_alloc | apply pw_below_drewN | apply below_drew1) | exact HB.out));(case side2 => exact Kd.R_tight rfl HO_10.out);rintro e w62 ⟨rfl,hy0,hb,hkp⟩;refine ⟨_,rfl, ?_⟩;have n0_:=Aside0.mk (Kd.R_mono (ok':=fun k_ => some k_ ≠ (.slice Ao32 t290.length co32 : Value).ownBlock ∧ some k_ ≠ (v295 : Value).ownBlock ∧ some k_ ≠ (.slice Ao61 t306.length co61 : Value).ownBlock) (Kd.R_keptB ((Kd.R_apart' HO_8.out (Kd.R_typed HO_10.out) (by decide))) hkp (fun k_ hk_ hs_ => (hk_.2) hs_)) (fun k_ hk_ => ⟨hk_.1.1.1.1,hk_.1.1.1.2,hk_.1.1.2⟩));have n1_:=Aside0.mk (Kd.R_reok rfl hy0 (fun k_ e_ => HO_10.out.1 k_ e_));have n2_:=Aside0.mk (Kd.R_mono (ok':=fun k_ => some k_ ≠ (.slice Ao58 t302.length co58 : Value).ownBlock) (Kd.R_keptB ((Kd.R_apart' HO_11.out (Kd.R_typed HO_10.out) (by decide))) hkp (fun k_ hk_ hs_ => (hk_.2) hs_)) (fun k_ hk_ => hk_.1.1.2));have n3_:=Aside0.mk (Kd.R_mono (ok':=fun k_ => some k_ ≠ (v282 : Value).ownBlock ∧ some k_ ≠ (v295 : Value).ownBlock ∧ some k_ ≠ (.slice Ao61 t306.length co61 : Value).ownBlock) (Kd.R_keptB ((Kd.R_apart' HO_12.out (Kd.R_typed HO_10.out) (by decide))) hkp (fun k_ hk_ hs_ => (hk_.2) hs_)) (fun k_ hk_ => ⟨hk_.1.1.1.1,hk_.1.1.1.2,hk_.1.1.2⟩));have n4_:=Aside0.mk (Kd.R_mono (ok':=fun k_ => some k_ ≠ (v282 : Value).ownBlock ∧ some k_ ≠ (.slice Ao32 t290.length co32 : Value).ownBlock ∧ some k_ ≠ (.slice Ao61 t306.length co61 : Value).ownBlock) (Kd.R_keptB ((Kd.R_apart' HO_13.out (Kd.R_typed HO_10.out) (by decide))) hkp (fun k_ hk_ hs_ => (hk_.2) hs_)) (fun k_ hk_ => ⟨hk_.1.1.1.1,hk_.1.1.1.2,hk_.1.1.2⟩));have n5_:=Aside0.mk (Kd.R_mono (ok':=fun k_ => some k_ ≠ (.slice Ao30 t284.length co30 : Value).ownBlock) (Kd.R_keptB (HO300.out) hkp (fun k_ hk_ hs_ => (hk_.2) hs_)) (fun k_ hk_ => hk_.1.2));have n6_:=Aside0.mk (Kd.R_mono (ok':=fun k_ => some k_ ≠ (.slice Ao31 t287.length co31 : Value).ownBlock) (Kd.R_keptB ((Kd.R_apart' HO304.out (Kd.R_typed HO_10.out) (by decide))) hkp (fun k_ hk_ hs_ => (hk_.2) hs_)) (fun k_ hk_ => hk_.1.1.2));have n7_:=Aside0.mk (Kd.R_mono (ok':=fun k_ => some k_ ≠ (v282 : Value).ownBlock ∧ some k_ ≠ (.slice Ao32 t290.length co32 : Value).ownBlock ∧ some k_ ≠ (v295 : Value).ownBlock) (Kd.R_keptB ((Kd.R_apart' HO308.out (Kd.R_typed HO_10.out) (by decide))) hkp (fun k_ hk_ hs_ => (hk_.2) hs_)) (fun k_ hk_ => ⟨hk_.1.1.1.1.2,hk_.1.1.1.2,hk_.1.1.2⟩));have n8_:=Aside0.mk (hb);clear HO_8;clear HO_10;clear HO_11;clear HO_12;clear HO_13;clear HO300;clear HO304;clear HO308;clear HB;have HO_8:=n0_;have HO_10:=n1_;have HO_11:=n2_;have HO_12:=n3_;have HO_13:=n4_;have HO300:=n5_;have HO304:=n6_;have HO308:=n7_;have HB:=n8_;clear n0_ n1_ n2_ n3_ n4_ n5_ n6_ n7_ n8_;(try clear hb);(try clear hkp);(try clear hy0)) | ((with_reducible refine gate_callee (f:=34) rfl ?_);refine goesL_ (some 85) rfl rfl Try.func34 (by kernel_rfl) rfl #[.slice Ao31 t287.length co31, .int .i64 t310] rfl (by (try simp only [List.map_toArray,List.map_cons,List.map_nil]);first | done | rfl | (simp only [List.length_drop,List.length_take];rfl)) ?_;(with_reducible refine (laws_markContainerS.calls kj17 (fun k_ => some k_ = (.slice Ao31 t287.length co31 : Value).ownBlock) (.slice Ao31 t287.length co31) t287 t310 t312 t313 w _ ?side1 ?side2 A51.out).mono ?_);(case side1 => repeat (first | (with_reducible first | exact HB.out | apply below_alloc | apply pw_below_drewN | apply below_drew1) | exact HB.out));(case side2 => exact Kd.R_tight rfl HO_11.out);rintro e w63 ⟨rfl,hy0,hb,hkp⟩;refine ⟨_,rfl, ?_⟩;have n0_:=Aside0.mk (Kd.R_mono (ok':=fun k_ => some k_ ≠ (.slice Ao32 t290.length co32 : Value).ownBlock ∧ some k_ ≠ (v295 : Value).ownBlock ∧ some k_ ≠ (.slice Ao61 t306.length co61 : Value).ownBlock) (Kd.R_keptB ((Kd.R_apart' HO_8.out (Kd.R_typed HO_11.out) (by decide))) hkp (fun k_ hk_ hs_ => (hk_.2) hs_)) (fun k_ hk_ => ⟨hk_.1.1.1,hk_.1.1.2.1,hk_.1.1.2.2⟩));have n1_:=Aside0.mk (Kd.R_mono (ok':=fun k_ => some k_ ≠ (.slice Ao55 t298.length co55 : Value).ownBlock) (Kd.R_keptB ((Kd.R_apart' HO_10.out (Kd.R_typed HO_11.out) (by decide))) hkp (fun k_ hk_ hs_ => (hk_.2) hs_)) (fun k_ hk_ => hk_.1.1.2));have n2_:=Aside0.mk (Kd.R_reok rfl hy0 (fun k_ e_ => HO_11.out.1 k_ e_));have n3_:=Aside0.mk (Kd.R_mono (ok':=fun k_ => some k_ ≠ (v282 : Value).ownBlock ∧ some k_ ≠ (v295 : Value).ownBlock ∧ some k_ ≠ (.slice Ao61 t306.length co61 : Value).ownBlock) (Kd.R_keptB ((Kd.R_apart' HO_12.out (Kd.R_typed HO_11.out) (by decide))) hkp (fun k_ hk_ hs_ => (hk_.2) hs_)) (fun k_ hk_ => ⟨hk_.1.1.1,hk_.1.1.2.1,hk_.1.1.2.2⟩));have n4_:=Aside0.mk (Kd.R_mono (ok':=fun k_ => some k_ ≠ (v282 : Value).ownBlock ∧ some k_ ≠ (.slice Ao32 t290.length co32 : Value).ownBlock ∧ some k_ ≠ (.slice Ao61 t306.length co61 : Value).ownBlock) (Kd.R_keptB ((Kd.R_apart' HO_13.out (Kd.R_typed HO_11.out) (by decide))) hkp (fun k_ hk_ hs_ => (hk_.2) hs_)) (fun k_ hk_ => ⟨hk_.1.1.1,hk_.1.1.2.1,hk_.1.1.2.2⟩));have n5_:=Aside0.mk (Kd.R_mono (ok':=fun k_ => some k_ ≠ (.slice Ao30 t284.length co30 : Value).ownBlock) (Kd.R_keptB ((Kd.R_apart' HO300.out (Kd.R_typed HO_11.out) (by decide))) hkp (fun k_ hk_ hs_ => (hk_.2) hs_)) (fun k_ hk_ => hk_.1.1));have n6_:=Aside0.mk (Kd.R_mono (ok':=fun k_ => some k_ ≠ (.slice Ao31 t287.length co31 : Value).ownBlock) (Kd.R_keptB (HO304.out) hkp (fun k_ hk_ hs_ => (hk_) hs_)) (fun k_ hk_ => hk_.1));have n7_:=Aside0.mk (Kd.R_mono (ok':=fun k_ => some k_ ≠ (v282 : Value).ownBlock ∧ some k_ ≠ (.slice Ao32 t290.length co32 : Value).ownBlock ∧ some k_ ≠ (v295 : Value).ownBlock) (Kd.R_keptB ((Kd.R_apart' HO308.out (Kd.R_typed HO_11.out) (by decide))) hkp (fun k_ hk_ hs_ => (hk_.2) hs_)) (fun k_ hk_ => ⟨hk_.1.1.1,hk_.1.1.2.1,hk_.1.1.2.2⟩));have n8_:=Aside0.mk (hb);clear HO_8;clear HO_10;clear HO_11;clear HO_12;clear HO_13;clear HO300;clear HO304;clear HO308;clear HB;have HO_8:=n0_;have HO_10:=n1_;have HO_11:=n2_;have HO_12:=n3_;have HO_13:=n4_;have HO300:=n5_;have HO304:=n6_;have HO308:=n7_;have HB:=n8_;clear n0_ n1_ n2_ n3_ n4_ n5_ n6_ n7_ n8_;(try clear hb);(try clear hkp);(try clear hy0)) | ((with_reducible refine gate_callee (f:=35) rfl ?_);refine goesL_ (some 88) rfl rfl Try.func35 (by kernel_rfl) rfl #[.slice Ao32 t290.length co32, .int .i64 t312] rfl (by (try simp only [List.map_toArray,List.map_cons,List.map_nil]);first | done | rfl | (simp only [List.length_drop,List.length_take];rfl)) ?_;(with_reducible refine (laws_markIntS.calls kj17 (fun k_ => some k_ = (.slice Ao32 t290.length co32 : Value).ownBlock) (.slice Ao32 t290.length co32) t290 t312 t314 t315 w _ ?side1 ?side2 A52.out).mono ?_);(case side1 => repeat (first | (with_reducible first | exact HB.out | apply below_alloc | apply pw_below_drewN | apply below_drew1) | exact HB.out));(case side2 => exact Kd.R_tight rfl HO_12.out);rintro e w64 ⟨rfl,hy0,hb,hkp⟩;refine ⟨_,rfl, ?_⟩;have n0_:=Aside0.mk (Kd.R_mono (ok':=fun k_ => some k_ ≠ (.slice Ao32 t290.length co32 : Value).ownBlock ∧ some k_ ≠ (v295 : Value).ownBlock ∧ some k_ ≠ (.slice Ao61 t306.length co61 : Value).ownBlock) (Kd.R_keptB (HO_8.out) hkp (fun k_ hk_ hs_ => (hk_.1) hs_)) (fun k_ hk_ => ⟨hk_.1.1,hk_.1.2.1,hk_.1.2.2⟩));have n1_:=Aside0.mk (Kd.R_mono (ok':=fun k_ => some k_ ≠ (.slice Ao55 t298.length co55 : Value).ownBlock) (Kd.R_keptB ((Kd.R_apart' HO_10.out (Kd.R_typed HO_12.out) (by decide))) hkp (fun k_ hk_ hs_ => (hk_.2) hs_)) (fun k_ hk_ => hk_.1.1));have n2_:=Aside0.mk (Kd.R_mono (ok':=fun k_ => some k_ ≠ (.slice Ao58 t302.length co58 : Value).ownBlock) (Kd.R_keptB ((Kd.R_apart' HO_11.out (Kd.R_typed HO_12.out) (by decide))) hkp (fun k_ hk_ hs_ => (hk_.2) hs_)) (fun k_ hk_ => hk_.1.1));have n3_:=Aside0.mk (Kd.R_reok rfl hy0 (fun k_ e_ => HO_12.out.1 k_ e_));have n4_:=Aside0.mk (Kd.R_mono (ok':=fun k_ => some k_ ≠ (v282 : Value).ownBlock ∧ some k_ ≠ (.slice Ao32 t290.length co32 : Value).ownBlock ∧ some k_ ≠ (.slice Ao61 t306.length co61 : Value).ownBlock) (Kd.R_keptB (HO_13.out) hkp (fun k_ hk_ hs_ => (hk_.2.1) hs_)) (fun k_ hk_ => ⟨hk_.1.1,hk_.1.2.1,hk_.1.2.2⟩));have n5_:=Aside0.mk (Kd.R_mono (ok':=fun k_ => some k_ ≠ (.slice Ao30 t284.length co30 : Value).ownBlock) (Kd.R_keptB ((Kd.R_apart' HO300.out (Kd.R_typed HO_12.out) (by decide))) hkp (fun k_ hk_ hs_ => (hk_.2) hs_)) (fun k_ hk_ => hk_.1.1));have n6_:=Aside0.mk (Kd.R_mono (ok':=fun k_ => some k_ ≠ (.slice Ao31 t287.length co31 : Value).ownBlock) (Kd.R_keptB ((Kd.R_apart' HO304.out (Kd.R_typed HO_12.out) (by decide))) hkp (fun k_ hk_ hs_ => (hk_.2) hs_)) (fun k_ hk_ => hk_.1.1));have n7_:=Aside0.mk (Kd.R_mono (ok':=fun k_ => some k_ ≠ (v282 : Value).ownBlock ∧ some k_ ≠ (.slice Ao32 t290.length co32 : Value).ownBlock ∧ some k_ ≠ (v295 : Value).ownBlock) (Kd.R_keptB (HO308.out) hkp (fun k_ hk_ hs_ => (hk_.2.1) hs_)) (fun k_ hk_ => ⟨hk_.1.1,hk_.1.2.1,hk_.1.2.2⟩));have n8_:=Aside0.mk (hb);clear HO_8;clear HO_10;clear HO_11;clear HO_12;clear HO_13;clear HO300;clear HO304;clear HO308;clear HB;have HO_8:=n0_;have HO_10:=n1_;have HO_11:=n2_;have HO_12:=n3_;have HO_13:=n4_;have HO300:=n5_;have HO304:=n6_;have HO308:=n7_;have HB:=n8_;clear n0_ n1_ n2_ n3_ n4_ n5_ n6_ n7_ n8_;(try clear hb);(try clear hkp);(try clear hy0)))
          (try simp only [Act.put,sA_,s0_,s1_])
          go_cut [101] (fun v101 wc => ∃ (kq : Nat) (x101_52 : Bool),v101 = .bool x101_52 ∧ Aside0 (laws_FnExactFreeLengths.j1 kq l0 l1 l2 t280 t281 t293 x101_52 = some r) ∧ Aside0 (kq ≤ kj17) ∧ Aside0 (Kd.R (Kd.int .i64) 3 wc w.heap.size (fun k_ => some k_ ≠ (v295 : Value).ownBlock) v282 t280) ∧ Aside0 (Kd.R (Kd.int .i64) 3 wc w.heap.size (fun k_ => some k_ ≠ (v282 : Value).ownBlock) v295 t293) ∧ Aside0 (Below w.heap.size w wc))
          case first =>
           have H:=HC53.out
           clear HC53
           by_cases c65 : t314 < 0
           ·rw [if_pos c65] at H
            have c65b0 : decide (t314 < 0) = true:=decide_eq_true c65
            clear c65
            (first | rw [c65b0] | (simp only [i64_w,i32_w];rw [c65b0]) | skip)
            have H':=Aside0.mk H
            clear H
            go_wp2
            go_meet
            case rel => exact ⟨_,(true),(by first | rfl | (simp;done) | (simp [*];done)),H',⟨by have:=HJ17.out;first | omega | exact Nat.le_refl _⟩,⟨by (with_reducible repeat (first | apply Kd.R_alloc | apply Kd.R_drewN | apply Kd.R_drew));exact Kd.R_mono HO_8.out (fun _ hk => hk.2.1)⟩,⟨by (with_reducible repeat (first | apply Kd.R_alloc | apply Kd.R_drewN | apply Kd.R_drew));exact Kd.R_mono HO_13.out (fun _ hk => hk.1)⟩,⟨by repeat (first | (with_reducible first | exact HB.out | apply below_alloc | apply pw_below_drewN | apply below_drew1) | exact HB.out)⟩⟩
           ·rw [if_neg c65] at H
            have c65b0 : decide (t314 < 0) = false:=decide_eq_false c65
            clear c65
            (first | rw [c65b0] | (simp only [i64_w,i32_w];rw [c65b0]) | skip)
            replace H:=Option.bind_eq_some_iff.mp H
            obtain ⟨t316,A660,H⟩ := H
            replace H : (if t316 = true then (laws_FnExactFreeLengths.j1 kj17 l0 l1 l2 t280 t281 t293 (t294 != t281)) else (laws_FnExactFreeLengths.j1 kj17 l0 l1 l2 t280 t281 t293 true)) = some r:=H
            have A66:=Aside0.mk A660
            clear A660
            by_cases c67 : t316 = true
            ·subst c67
             have H1 : (laws_FnExactFreeLengths.j1 kj17 l0 l1 l2 t280 t281 t293 (t294 != t281)) = some r:=by rw [if_pos rfl] at H;exact H
             clear H
             have H:=H1
             clear H1
             have H':=Aside0.mk H
             clear H
             obtain ⟨Ao68,co68,eo68⟩ := Kd.R_slice HO_13.out
             subst eo68
             obtain ⟨Ao69,co69,eo69⟩ := Kd.R_slice HO_8.out
             subst eo69
             go_wp2_with (first | (go_at_call 26;(with_reducible refine (laws_eqIntS.calls kj17 _ _ t293 _ _ t280 true _ ?side1 ?side2 ?side3 ?side4 A66.out).mono ?_);(case side1 => repeat (first | exact (Kd.R_reads' HO_13.out).2.2 | (with_reducible refine Kd.C_alloc ?_ _) | (with_reducible refine Kd.C_drewN ?_ _) | (with_reducible refine Kd.C_drew ?_)));(case side2 => exact (Kd.R_reads' HO_13.out).2.1);(case side3 => repeat (first | exact (Kd.R_reads' HO_8.out).2.2 | (with_reducible refine Kd.C_alloc ?_ _) | (with_reducible refine Kd.C_drewN ?_ _) | (with_reducible refine Kd.C_drew ?_)));(case side4 => exact (Kd.R_reads' HO_8.out).2.1);rintro e w' ⟨rfl,⟨nd,rfl⟩⟩))
             go_meet
             case rel => exact ⟨_,((t294 != t281)),(by first | rfl | (simp;done) | (simp [*];done)),H',⟨by have:=HJ17.out;first | omega | exact Nat.le_refl _⟩,⟨by (with_reducible repeat (first | apply Kd.R_alloc | apply Kd.R_drewN | apply Kd.R_drew));exact Kd.R_mono HO_8.out (fun _ hk => hk.2.1)⟩,⟨by (with_reducible repeat (first | apply Kd.R_alloc | apply Kd.R_drewN | apply Kd.R_drew));exact Kd.R_mono HO_13.out (fun _ hk => hk.1)⟩,⟨by repeat (first | (with_reducible first | exact HB.out | apply below_alloc | apply pw_below_drewN | apply below_drew1) | exact HB.out)⟩⟩
            ·replace c67:=Bool.eq_false_iff.mpr c67
             subst c67
             have H1 : (laws_FnExactFreeLengths.j1 kj17 l0 l1 l2 t280 t281 t293 true) = some r:=by rw [if_neg (show ¬ (false = true) by decide)] at H;exact H
             clear H
             have H:=H1
             clear H1
             have H':=Aside0.mk H
             clear H
             obtain ⟨Ao70,co70,eo70⟩ := Kd.R_slice HO_13.out
             subst eo70
             obtain ⟨Ao71,co71,eo71⟩ := Kd.R_slice HO_8.out
             subst eo71
             go_wp2_with (first | (go_at_call 26;(with_reducible refine (laws_eqIntS.calls kj17 _ _ t293 _ _ t280 false _ ?side1 ?side2 ?side3 ?side4 A66.out).mono ?_);(case side1 => repeat (first | exact (Kd.R_reads' HO_13.out).2.2 | (with_reducible refine Kd.C_alloc ?_ _) | (with_reducible refine Kd.C_drewN ?_ _) | (with_reducible refine Kd.C_drew ?_)));(case side2 => exact (Kd.R_reads' HO_13.out).2.1);(case side3 => repeat (first | exact (Kd.R_reads' HO_8.out).2.2 | (with_reducible refine Kd.C_alloc ?_ _) | (with_reducible refine Kd.C_drewN ?_ _) | (with_reducible refine Kd.C_drew ?_)));(case side4 => exact (Kd.R_reads' HO_8.out).2.1);rintro e w' ⟨rfl,⟨nd,rfl⟩⟩))
             go_meet
             case rel => exact ⟨_,(true),(by first | rfl | (simp;done) | (simp [*];done)),H',⟨by have:=HJ17.out;first | omega | exact Nat.le_refl _⟩,⟨by (with_reducible repeat (first | apply Kd.R_alloc | apply Kd.R_drewN | apply Kd.R_drew));exact Kd.R_mono HO_8.out (fun _ hk => hk.2.1)⟩,⟨by (with_reducible repeat (first | apply Kd.R_alloc | apply Kd.R_drewN | apply Kd.R_drew));exact Kd.R_mono HO_13.out (fun _ hk => hk.1)⟩,⟨by repeat (first | (with_reducible first | exact HB.out | apply below_alloc | apply pw_below_drewN | apply below_drew1) | exact HB.out)⟩⟩
          case rest =>
           clear HC53
           try clear c1
           try clear c2
           try clear p2
           try clear c3
           try clear c4
           try clear c4b0
           try clear c4b1
           try clear c6
           try clear c6b0
           try clear c8
           try clear c8b0
           try clear c15
           try clear c17
           try clear c19
           try clear c20
           try clear c22
           try clear c23
           try clear c25
           try clear c26
           try clear c33
           try clear c34
           try clear c35
           try clear c37
           try clear c38
           try clear c40
           try clear c43
           try clear c46
           try clear c49
           try clear c65
           try clear c65b0
           try clear c67
           try clear p2
           obtain ⟨kq,x101_52,rfl,HA,HJ52,HO_8,HO_13,HB⟩ := hcut
           cases kq with
           | zero => exact absurd HA.out (by simp [laws_FnExactFreeLengths.j1])
           | succ kj52 =>
            have H:=HA.out
            clear HA
            simp only [laws_FnExactFreeLengths.j1] at H
            by_cases c72 : x101_52 = true
            ·subst c72
             have H1 : (some false) = some r:=by rw [if_pos rfl] at H;exact H
             clear H
             have H:=H1
             clear H1
             obtain rfl:=Option.some.inj H
             go_wp2
             go_ret
             exact ⟨by first | rfl | (simp [errW_none,errW_some] <;> rfl) | (simp [*,errW_none,errW_some] <;> rfl),by repeat (first | (with_reducible first | exact HB.out | apply below_alloc | apply pw_below_drewN | apply below_drew1) | exact HB.out)⟩
            ·replace c72:=Bool.eq_false_iff.mpr c72
             subst c72
             have H1 : ((laws_markIntS.f kj52 t293 1).bind fun bt317 => ((laws_heldIntS.f kj52 bt317.2 1).bind fun t319 => (if t319 < 0 then (some false) else (if t319 = bt317.1 then ((laws_toWagonS.f kj52 l0).bind fun t320 => ((laws_toContainerS.f kj52 l1).bind fun t323 => ((laws_toIntS.f kj52 l2).bind fun t326 => ((impl_FreeLengths.f kj52 t320 t323 t326).bind fun bt329 => ((laws_eqIntS.f kj52 bt329.1 t280).bind fun t333 => (if t333 = true then (laws_FnExactFreeLengths.j2 kj52 bt317.2 bt317.1 (bt329.2 != t281)) else (laws_FnExactFreeLengths.j2 kj52 bt317.2 bt317.1 true))))))) else (some false))))) = some r:=by rw [if_neg (show ¬ (false = true) by decide)] at H;exact H
             clear H
             have H:=H1
             clear H1
             replace H:=Option.bind_eq_some_iff.mp H
             obtain ⟨⟨t317,t318⟩,A730,H⟩ := H
             replace H : ((laws_heldIntS.f kj52 t318 1).bind fun t319 => (if t319 < 0 then (some false) else (if t319 = t317 then ((laws_toWagonS.f kj52 l0).bind fun t320 => ((laws_toContainerS.f kj52 l1).bind fun t323 => ((laws_toIntS.f kj52 l2).bind fun t326 => ((impl_FreeLengths.f kj52 t320 t323 t326).bind fun bt329 => ((laws_eqIntS.f kj52 bt329.1 t280).bind fun t333 => (if t333 = true then (laws_FnExactFreeLengths.j2 kj52 t318 t317 (bt329.2 != t281)) else (laws_FnExactFreeLengths.j2 kj52 t318 t317 true))))))) else (some false)))) = some r:=H
             have A73:=Aside0.mk A730
             clear A730
             replace H:=Option.bind_eq_some_iff.mp H
             obtain ⟨t319,A740,H⟩ := H
             replace H : (if t319 < 0 then (some false) else (if t319 = t317 then ((laws_toWagonS.f kj52 l0).bind fun t320 => ((laws_toContainerS.f kj52 l1).bind fun t323 => ((laws_toIntS.f kj52 l2).bind fun t326 => ((impl_FreeLengths.f kj52 t320 t323 t326).bind fun bt329 => ((laws_eqIntS.f kj52 bt329.1 t280).bind fun t333 => (if t333 = true then (laws_FnExactFreeLengths.j2 kj52 t318 t317 (bt329.2 != t281)) else (laws_FnExactFreeLengths.j2 kj52 t318 t317 true))))))) else (some false))) = some r:=H
             have A74:=Aside0.mk A740
             clear A740
             by_cases c75 : t319 < 0
             ·rw [if_pos c75] at H
              have c75b0 : decide (t319 < 0) = true:=decide_eq_true c75
              clear c75
              obtain rfl:=Option.some.inj H
              obtain ⟨Ao76,co76,eo76⟩ := Kd.R_slice HO_13.out
              subst eo76
              go_wp2_with (first | ((with_reducible refine gate_callee (f:=35) rfl ?_);refine goesL_ (some 104) rfl rfl Try.func35 (by kernel_rfl) rfl #[.slice Ao76 t293.length co76, .int .i64 1] rfl (by (try simp only [List.map_toArray,List.map_cons,List.map_nil]);first | done | rfl | (simp only [List.length_drop,List.length_take];rfl)) ?_;(with_reducible refine (laws_markIntS.calls kj52 (fun k_ => some k_ = (.slice Ao76 t293.length co76 : Value).ownBlock) (.slice Ao76 t293.length co76) t293 1 t317 t318 w _ ?side1 ?side2 A73.out).mono ?_);(case side1 => repeat (first | (with_reducible first | exact HB.out | apply below_alloc | apply pw_below_drewN | apply below_drew1) | exact HB.out));(case side2 => exact Kd.R_tight rfl HO_13.out);rintro e w77 ⟨rfl,hy0,hb,hkp⟩;refine ⟨_,rfl, ?_⟩;have n0_:=Aside0.mk (Kd.R_mono (ok':=fun k_ => some k_ ≠ (.slice Ao76 t293.length co76 : Value).ownBlock) (Kd.R_keptB (HO_8.out) hkp (fun k_ hk_ hs_ => (hk_) hs_)) (fun k_ hk_ => hk_.1));have n1_:=Aside0.mk (Kd.R_reok rfl hy0 (fun k_ e_ => HO_13.out.1 k_ e_));have n2_:=Aside0.mk (hb);clear HO_8;clear HO_13;clear HB;have HO_8:=n0_;have HO_13:=n1_;have HB:=n2_;clear n0_ n1_ n2_;(try clear hb);(try clear hkp);(try clear hy0)) | ((with_reducible refine gate_callee (f:=36) rfl ?_);refine goesL_ (some 107) rfl rfl Try.func36 (by kernel_rfl) rfl #[.slice Ao76 t318.length co76, .int .i64 1] rfl (by (try simp only [List.map_toArray,List.map_cons,List.map_nil]);first | done | (rw [show t318.length = t293.length from (Kd.R_reads' HO_13.out).1.symm] <;> rfl) | rfl | (simp only [List.length_drop,List.length_take];rfl)) ?_;(with_reducible refine (laws_heldIntS.calls kj52 _ _ t318 1 t319 _ ?side1 ?side2 A74.out).mono ?_);(case side1 => repeat (first | exact (Kd.R_reads' HO_13.out).2.2 | (with_reducible refine Kd.C_alloc ?_ _) | (with_reducible refine Kd.C_drewN ?_ _) | (with_reducible refine Kd.C_drew ?_)));(case side2 => rw [show t318.length = t293.length from (Kd.R_reads' HO_13.out).1.symm];exact (Kd.R_reads' HO_13.out).2.1);rintro e w' ⟨rfl,⟨nd,rfl⟩⟩;refine ⟨_,rfl, ?_⟩))
              go_ret
              exact ⟨by first | rfl | (simp [errW_none,errW_some] <;> rfl) | (simp [*,errW_none,errW_some] <;> rfl),by repeat (first | (with_reducible first | exact HB.out | apply below_alloc | apply pw_below_drewN | apply below_drew1) | exact HB.out)⟩
             ·rw [if_neg c75] at H
              have c75b0 : decide (t319 < 0) = false:=decide_eq_false c75
              clear c75
              by_cases c78 : t319 = t317
              ·rw [if_pos c78] at H
               have c78b0 : (t319 == t317) = true:=beq_iff_eq.mpr c78
               have c78b1 : (t319 != t317) = false:=bne_eq_false_iff_eq.mpr c78
               clear c78
               replace H:=Option.bind_eq_some_iff.mp H
               obtain ⟨t320,A790,H⟩ := H
               replace H : ((laws_toContainerS.f kj52 l1).bind fun t323 => ((laws_toIntS.f kj52 l2).bind fun t326 => ((impl_FreeLengths.f kj52 t320 t323 t326).bind fun bt329 => ((laws_eqIntS.f kj52 bt329.1 t280).bind fun t333 => (if t333 = true then (laws_FnExactFreeLengths.j2 kj52 t318 t317 (bt329.2 != t281)) else (laws_FnExactFreeLengths.j2 kj52 t318 t317 true)))))) = some r:=H
               have A79:=Aside0.mk A790
               clear A790
               replace H:=Option.bind_eq_some_iff.mp H
               obtain ⟨t323,A800,H⟩ := H
               replace H : ((laws_toIntS.f kj52 l2).bind fun t326 => ((impl_FreeLengths.f kj52 t320 t323 t326).bind fun bt329 => ((laws_eqIntS.f kj52 bt329.1 t280).bind fun t333 => (if t333 = true then (laws_FnExactFreeLengths.j2 kj52 t318 t317 (bt329.2 != t281)) else (laws_FnExactFreeLengths.j2 kj52 t318 t317 true))))) = some r:=H
               have A80:=Aside0.mk A800
               clear A800
               replace H:=Option.bind_eq_some_iff.mp H
               obtain ⟨t326,A810,H⟩ := H
               replace H : ((impl_FreeLengths.f kj52 t320 t323 t326).bind fun bt329 => ((laws_eqIntS.f kj52 bt329.1 t280).bind fun t333 => (if t333 = true then (laws_FnExactFreeLengths.j2 kj52 t318 t317 (bt329.2 != t281)) else (laws_FnExactFreeLengths.j2 kj52 t318 t317 true)))) = some r:=H
               have A81:=Aside0.mk A810
               clear A810
               replace H:=Option.bind_eq_some_iff.mp H
               obtain ⟨⟨t329,t330⟩,A820,H⟩ := H
               replace H : ((laws_eqIntS.f kj52 t329 t280).bind fun t333 => (if t333 = true then (laws_FnExactFreeLengths.j2 kj52 t318 t317 (t330 != t281)) else (laws_FnExactFreeLengths.j2 kj52 t318 t317 true))) = some r:=H
               have A82:=Aside0.mk A820
               clear A820
               have HC83:=Aside0.mk H
               clear H
               obtain ⟨Ao84,co84,eo84⟩ := Kd.R_slice HO_13.out
               subst eo84
               go_upto_region 38 with (first | ((with_reducible refine gate_callee (f:=35) rfl ?_);refine goesL_ (some 104) rfl rfl Try.func35 (by kernel_rfl) rfl #[.slice Ao84 t293.length co84, .int .i64 1] rfl (by (try simp only [List.map_toArray,List.map_cons,List.map_nil]);first | done | rfl | (simp only [List.length_drop,List.length_take];rfl)) ?_;(with_reducible refine (laws_markIntS.calls kj52 (fun k_ => some k_ = (.slice Ao84 t293.length co84 : Value).ownBlock) (.slice Ao84 t293.length co84) t293 1 t317 t318 w _ ?side1 ?side2 A73.out).mono ?_);(case side1 => repeat (first | (with_reducible first | exact HB.out | apply below_alloc | apply pw_below_drewN | apply below_drew1) | exact HB.out));(case side2 => exact Kd.R_tight rfl HO_13.out);rintro e w85 ⟨rfl,hy0,hb,hkp⟩;refine ⟨_,rfl, ?_⟩;have n0_:=Aside0.mk (Kd.R_mono (ok':=fun k_ => some k_ ≠ (.slice Ao84 t293.length co84 : Value).ownBlock) (Kd.R_keptB (HO_8.out) hkp (fun k_ hk_ hs_ => (hk_) hs_)) (fun k_ hk_ => hk_.1));have n1_:=Aside0.mk (Kd.R_reok rfl hy0 (fun k_ e_ => HO_13.out.1 k_ e_));have n2_:=Aside0.mk (hb);clear HO_8;clear HO_13;clear HB;have HO_8:=n0_;have HO_13:=n1_;have HB:=n2_;clear n0_ n1_ n2_;(try clear hb);(try clear hkp);(try clear hy0)) | ((with_reducible refine gate_callee (f:=36) rfl ?_);refine goesL_ (some 107) rfl rfl Try.func36 (by kernel_rfl) rfl #[.slice Ao84 t318.length co84, .int .i64 1] rfl (by (try simp only [List.map_toArray,List.map_cons,List.map_nil]);first | done | (rw [show t318.length = t293.length from (Kd.R_reads' HO_13.out).1.symm] <;> rfl) | rfl | (simp only [List.length_drop,List.length_take];rfl)) ?_;(with_reducible refine (laws_heldIntS.calls kj52 _ _ t318 1 t319 _ ?side1 ?side2 A74.out).mono ?_);(case side1 => repeat (first | exact (Kd.R_reads' HO_13.out).2.2 | (with_reducible refine Kd.C_alloc ?_ _) | (with_reducible refine Kd.C_drewN ?_ _) | (with_reducible refine Kd.C_drew ?_)));(case side2 => rw [show t318.length = t293.length from (Kd.R_reads' HO_13.out).1.symm];exact (Kd.R_reads' HO_13.out).2.1);rintro e w' ⟨rfl,⟨nd,rfl⟩⟩;refine ⟨_,rfl, ?_⟩) | ((with_reducible refine gate_callee (f:=17) rfl ?_);refine goesL_ (some 115) rfl rfl Try.func17 (by kernel_rfl) rfl #[.slice A0 l0.length c0] rfl (by (try simp only [List.map_toArray,List.map_cons,List.map_nil]);first | done | rfl | (simp only [List.length_drop,List.length_take];rfl)) ?_;(with_reducible refine (laws_toWagonS.calls kj52 _ _ l0 t320 _ ?side1 ?side2 A79.out).mono ?_);(case side1 => repeat (first | exact (Kd.C_below HR0.out (by repeat (first | (with_reducible first | exact HB.out | apply below_alloc | apply pw_below_drewN | apply below_drew1) | exact HB.out))) | (with_reducible refine Kd.C_alloc ?_ _) | (with_reducible refine Kd.C_drewN ?_ _) | (with_reducible refine Kd.C_drew ?_)));(case side2 => exact HC0.out);rintro e w86 ⟨v321,rfl,ho0,hb⟩;refine ⟨_,rfl, ?_⟩;have n0_:=Aside0.mk (Kd.R_below (by (with_reducible repeat (first | apply Kd.R_alloc | apply Kd.R_drewN | apply Kd.R_drew));exact HO_8.out) hb);have n1_:=Aside0.mk (Kd.R_below (by (with_reducible repeat (first | apply Kd.R_alloc | apply Kd.R_drewN | apply Kd.R_drew));exact HO_13.out) hb);have n2_:=Aside0.mk (Kd.R_lower ho0 (below_size (by repeat (first | (with_reducible first | exact HB.out | apply below_alloc | apply pw_below_drewN | apply below_drew1) | exact HB.out))));have n3_:=Aside0.mk (below_step (by repeat (first | (with_reducible first | exact HB.out | apply below_alloc | apply pw_below_drewN | apply below_drew1) | exact HB.out)) hb);clear HO_8;clear HO_13;clear HB;have HO_8:=n0_;have HO_13:=n1_;have HO322:=n2_;have HB:=n3_;clear n0_ n1_ n2_ n3_;(try clear hb);(try clear hb2);(try clear hk);(try clear hi);(try clear ho0)) | ((with_reducible refine gate_callee (f:=22) rfl ?_);refine goesL_ (some 117) rfl rfl Try.func22 (by kernel_rfl) rfl #[.slice A1 l1.length c1] rfl (by (try simp only [List.map_toArray,List.map_cons,List.map_nil]);first | done | rfl | (simp only [List.length_drop,List.length_take];rfl)) ?_;(with_reducible refine (laws_toContainerS.calls kj52 _ _ l1 t323 _ ?side1 ?side2 A80.out).mono ?_);(case side1 => repeat (first | exact (Kd.C_below HR1.out HB.out) | (with_reducible refine Kd.C_alloc ?_ _) | (with_reducible refine Kd.C_drewN ?_ _) | (with_reducible refine Kd.C_drew ?_)));(case side2 => exact HC1.out);rintro e w87 ⟨v324,rfl,ho0,hb⟩;refine ⟨_,rfl, ?_⟩;have n0_:=Aside0.mk (Kd.R_below (by (with_reducible repeat (first | apply Kd.R_alloc | apply Kd.R_drewN | apply Kd.R_drew));exact HO_8.out) hb);have n1_:=Aside0.mk (Kd.R_below (by (with_reducible repeat (first | apply Kd.R_alloc | apply Kd.R_drewN | apply Kd.R_drew));exact HO_13.out) hb);have n2_:=Aside0.mk (Kd.R_below (by (with_reducible repeat (first | apply Kd.R_alloc | apply Kd.R_drewN | apply Kd.R_drew));exact HO322.out) hb);have n3_:=Aside0.mk (Kd.R_lower ho0 (below_size (by repeat (first | (with_reducible first | exact HB.out | apply below_alloc | apply pw_below_drewN | apply below_drew1) | exact HB.out))));have n4_:=Aside0.mk (below_step (by repeat (first | (with_reducible first | exact HB.out | apply below_alloc | apply pw_below_drewN | apply below_drew1) | exact HB.out)) hb);clear HO_8;clear HO_13;clear HO322;clear HB;have HO_8:=n0_;have HO_13:=n1_;have HO322:=n2_;have HO325:=n3_;have HB:=n4_;clear n0_ n1_ n2_ n3_ n4_;(try clear hb);(try clear hb2);(try clear hk);(try clear hi);(try clear ho0)) | ((with_reducible refine gate_callee (f:=23) rfl ?_);refine goesL_ (some 119) rfl rfl Try.func23 (by kernel_rfl) rfl #[.slice A2 l2.length c2] rfl (by (try simp only [List.map_toArray,List.map_cons,List.map_nil]);first | done | rfl | (simp only [List.length_drop,List.length_take];rfl)) ?_;(with_reducible refine (laws_toIntS.calls kj52 _ _ l2 t326 _ ?side1 ?side2 A81.out).mono ?_);(case side1 => repeat (first | exact (Kd.C_below HR2.out HB.out) | (with_reducible refine Kd.C_alloc ?_ _) | (with_reducible refine Kd.C_drewN ?_ _) | (with_reducible refine Kd.C_drew ?_)));(case side2 => exact HC2.out);rintro e w88 ⟨v327,rfl,ho0,hb⟩;refine ⟨_,rfl, ?_⟩;have n0_:=Aside0.mk (Kd.R_elder' (by (with_reducible repeat (first | apply Kd.R_alloc | apply Kd.R_drewN | apply Kd.R_drew));exact HO_8.out) (Kd.R_base ho0) hb);have n1_:=Aside0.mk (Kd.R_elder' (by (with_reducible repeat (first | apply Kd.R_alloc | apply Kd.R_drewN | apply Kd.R_drew));exact HO_13.out) (Kd.R_base ho0) hb);have n2_:=Aside0.mk (Kd.R_below (by (with_reducible repeat (first | apply Kd.R_alloc | apply Kd.R_drewN | apply Kd.R_drew));exact HO322.out) hb);have n3_:=Aside0.mk (Kd.R_below (by (with_reducible repeat (first | apply Kd.R_alloc | apply Kd.R_drewN | apply Kd.R_drew));exact HO325.out) hb);have n4_:=Aside0.mk (Kd.R_lower (Kd.R_new' (Kd.R_new' ho0 (Kd.R_lt (by (with_reducible repeat (first | apply Kd.R_alloc | apply Kd.R_drewN | apply Kd.R_drew));exact HO_8.out))) (Kd.R_lt (by (with_reducible repeat (first | apply Kd.R_alloc | apply Kd.R_drewN | apply Kd.R_drew));exact HO_13.out))) (below_size (by repeat (first | (with_reducible first | exact HB.out | apply below_alloc | apply pw_below_drewN | apply below_drew1) | exact HB.out))));have n5_:=Aside0.mk (below_step (by repeat (first | (with_reducible first | exact HB.out | apply below_alloc | apply pw_below_drewN | apply below_drew1) | exact HB.out)) hb);clear HO_8;clear HO_13;clear HO322;clear HO325;clear HB;have HO_8:=n0_;have HO_13:=n1_;have HO322:=n2_;have HO325:=n3_;have HO328:=n4_;have HB:=n5_;clear n0_ n1_ n2_ n3_ n4_ n5_;(try clear hb);(try clear hb2);(try clear hk);(try clear hi);(try clear ho0);obtain ⟨Ao89,co89,eo89⟩ := Kd.R_slice HO322.out;subst eo89;obtain ⟨Ao90,co90,eo90⟩ := Kd.R_slice HO325.out;subst eo90;obtain ⟨Ao91,co91,eo91⟩ := Kd.R_slice HO328.out;subst eo91) | ((with_reducible refine gate_callee (f:=38) rfl ?_);refine goesL_ (some 120) rfl rfl Try.func38 (by kernel_rfl) rfl #[.slice Ao89 t320.length co89, .slice Ao90 t323.length co90, .slice Ao91 t326.length co91] rfl (by (try simp only [List.map_toArray,List.map_cons,List.map_nil]);first | done | rfl | (simp only [List.length_drop,List.length_take];rfl)) ?_;(with_reducible refine (impl_FreeLengths.calls kj52 _ _ t320 _ _ t323 _ _ t326 t329 t330 _ ?side1 ?side2 ?side3 ?side4 ?side5 ?side6 A82.out).mono ?_);(case side1 => repeat (first | exact (Kd.R_reads' HO322.out).2.2 | (with_reducible refine Kd.C_alloc ?_ _) | (with_reducible refine Kd.C_drewN ?_ _) | (with_reducible refine Kd.C_drew ?_)));(case side2 => exact (Kd.R_reads' HO322.out).2.1);(case side3 => repeat (first | exact (Kd.R_reads' HO325.out).2.2 | (with_reducible refine Kd.C_alloc ?_ _) | (with_reducible refine Kd.C_drewN ?_ _) | (with_reducible refine Kd.C_drew ?_)));(case side4 => exact (Kd.R_reads' HO325.out).2.1);(case side5 => repeat (first | exact (Kd.R_reads' HO328.out).2.2 | (with_reducible refine Kd.C_alloc ?_ _) | (with_reducible refine Kd.C_drewN ?_ _) | (with_reducible refine Kd.C_drew ?_)));(case side6 => exact (Kd.R_reads' HO328.out).2.1);rintro e w92 ⟨v331,rfl,ho0,hb⟩;refine ⟨_,rfl, ?_⟩;have n0_:=Aside0.mk (Kd.R_elder' (by (with_reducible repeat (first | apply Kd.R_alloc | apply Kd.R_drewN | apply Kd.R_drew));exact HO_8.out) (Kd.R_base ho0) hb);have n1_:=Aside0.mk (Kd.R_elder' (by (with_reducible repeat (first | apply Kd.R_alloc | apply Kd.R_drewN | apply Kd.R_drew));exact HO_13.out) (Kd.R_base ho0) hb);have n2_:=Aside0.mk (Kd.R_below (by (with_reducible repeat (first | apply Kd.R_alloc | apply Kd.R_drewN | apply Kd.R_drew));exact HO322.out) hb);have n3_:=Aside0.mk (Kd.R_below (by (with_reducible repeat (first | apply Kd.R_alloc | apply Kd.R_drewN | apply Kd.R_drew));exact HO325.out) hb);have n4_:=Aside0.mk (Kd.R_elder' (by (with_reducible repeat (first | apply Kd.R_alloc | apply Kd.R_drewN | apply Kd.R_drew));exact HO328.out) (Kd.R_base ho0) hb);have n5_:=Aside0.mk (Kd.R_lower (Kd.R_new' (Kd.R_new' (Kd.R_new' ho0 (Kd.R_lt (by (with_reducible repeat (first | apply Kd.R_alloc | apply Kd.R_drewN | apply Kd.R_drew));exact HO_8.out))) (Kd.R_lt (by (with_reducible repeat (first | apply Kd.R_alloc | apply Kd.R_drewN | apply Kd.R_drew));exact HO_13.out))) (Kd.R_lt (by (with_reducible repeat (first | apply Kd.R_alloc | apply Kd.R_drewN | apply Kd.R_drew));exact HO328.out))) (below_size (by repeat (first | (with_reducible first | exact HB.out | apply below_alloc | apply pw_below_drewN | apply below_drew1) | exact HB.out))));have n6_:=Aside0.mk (below_step (by repeat (first | (with_reducible first | exact HB.out | apply below_alloc | apply pw_below_drewN | apply below_drew1) | exact HB.out)) hb);clear HO_8;clear HO_13;clear HO322;clear HO325;clear HO328;clear HB;have HO_8:=n0_;have HO_13:=n1_;have HO322:=n2_;have HO325:=n3_;have HO328:=n4_;have HO332:=n5_;have HB:=n6_;clear n0_ n1_ n2_ n3_ n4_ n5_ n6_;(try clear hb);(try clear hb2);(try clear hk);(try clear hi);(try clear ho0)))
               (try simp only [Act.put,sA_,s0_,s1_])
               go_cut [131] (fun v131 wc => ∃ (kq : Nat) (x131_82 : Bool),v131 = .bool x131_82 ∧ Aside0 (laws_FnExactFreeLengths.j2 kq t318 t317 x131_82 = some r) ∧ Aside0 (kq ≤ kj52) ∧ Aside0 (Kd.R (Kd.int .i64) 3 wc w.heap.size (fun _ => True) (.slice Ao84 t293.length co84) t318) ∧ Aside0 (Below w.heap.size w wc))
               case first =>
                have H:=HC83.out
                clear HC83
                replace H:=Option.bind_eq_some_iff.mp H
                obtain ⟨t333,A930,H⟩ := H
                replace H : (if t333 = true then (laws_FnExactFreeLengths.j2 kj52 t318 t317 (t330 != t281)) else (laws_FnExactFreeLengths.j2 kj52 t318 t317 true)) = some r:=H
                have A93:=Aside0.mk A930
                clear A930
                by_cases c94 : t333 = true
                ·subst c94
                 have H1 : (laws_FnExactFreeLengths.j2 kj52 t318 t317 (t330 != t281)) = some r:=by rw [if_pos rfl] at H;exact H
                 clear H
                 have H:=H1
                 clear H1
                 have H':=Aside0.mk H
                 clear H
                 obtain ⟨Ao95,co95,eo95⟩ := Kd.R_slice HO332.out
                 subst eo95
                 obtain ⟨Ao96,co96,eo96⟩ := Kd.R_slice HO_8.out
                 subst eo96
                 go_wp2_with (first | ((with_reducible refine gate_callee (f:=26) rfl ?_);refine goesL_ (some 125) rfl rfl Try.func26 (by kernel_rfl) rfl #[.slice Ao95 t329.length co95, .slice Ao96 t280.length co96] rfl (by (try simp only [List.map_toArray,List.map_cons,List.map_nil]);first | done | rfl | (simp only [List.length_drop,List.length_take];rfl)) ?_;(with_reducible refine (laws_eqIntS.calls kj52 _ _ t329 _ _ t280 true _ ?side1 ?side2 ?side3 ?side4 A93.out).mono ?_);(case side1 => repeat (first | exact (Kd.R_reads' HO332.out).2.2 | (with_reducible refine Kd.C_alloc ?_ _) | (with_reducible refine Kd.C_drewN ?_ _) | (with_reducible refine Kd.C_drew ?_)));(case side2 => exact (Kd.R_reads' HO332.out).2.1);(case side3 => repeat (first | exact (Kd.R_reads' HO_8.out).2.2 | (with_reducible refine Kd.C_alloc ?_ _) | (with_reducible refine Kd.C_drewN ?_ _) | (with_reducible refine Kd.C_drew ?_)));(case side4 => exact (Kd.R_reads' HO_8.out).2.1);rintro e w' ⟨rfl,⟨nd,rfl⟩⟩;refine ⟨_,rfl, ?_⟩))
                 go_meet
                 case rel => exact ⟨_,((t330 != t281)),(by first | rfl | (simp;done) | (simp [*];done)),H',⟨by have:=HJ17.out;have:=HJ52.out;first | omega | exact Nat.le_refl _⟩,⟨by (with_reducible repeat (first | apply Kd.R_alloc | apply Kd.R_drewN | apply Kd.R_drew));exact Kd.R_mono HO_13.out (fun _ hk => trivial)⟩,⟨by repeat (first | (with_reducible first | exact HB.out | apply below_alloc | apply pw_below_drewN | apply below_drew1) | exact HB.out)⟩⟩
                ·replace c94:=Bool.eq_false_iff.mpr c94
                 subst c94
                 have H1 : (laws_FnExactFreeLengths.j2 kj52 t318 t317 true) = some r:=by rw [if_neg (show ¬ (false = true) by decide)] at H;exact H
                 clear H
                 have H:=H1
                 clear H1
                 have H':=Aside0.mk H
                 clear H
                 obtain ⟨Ao97,co97,eo97⟩ := Kd.R_slice HO332.out
                 subst eo97
                 obtain ⟨Ao98,co98,eo98⟩ := Kd.R_slice HO_8.out
                 subst eo98
                 go_wp2_with (first | ((with_reducible refine gate_callee (f:=26) rfl ?_);refine goesL_ (some 125) rfl rfl Try.func26 (by kernel_rfl) rfl #[.slice Ao97 t329.length co97, .slice Ao98 t280.length co98] rfl (by (try simp only [List.map_toArray,List.map_cons,List.map_nil]);first | done | rfl | (simp only [List.length_drop,List.length_take];rfl)) ?_;(with_reducible refine (laws_eqIntS.calls kj52 _ _ t329 _ _ t280 false _ ?side1 ?side2 ?side3 ?side4 A93.out).mono ?_);(case side1 => repeat (first | exact (Kd.R_reads' HO332.out).2.2 | (with_reducible refine Kd.C_alloc ?_ _) | (with_reducible refine Kd.C_drewN ?_ _) | (with_reducible refine Kd.C_drew ?_)));(case side2 => exact (Kd.R_reads' HO332.out).2.1);(case side3 => repeat (first | exact (Kd.R_reads' HO_8.out).2.2 | (with_reducible refine Kd.C_alloc ?_ _) | (with_reducible refine Kd.C_drewN ?_ _) | (with_reducible refine Kd.C_drew ?_)));(case side4 => exact (Kd.R_reads' HO_8.out).2.1);rintro e w' ⟨rfl,⟨nd,rfl⟩⟩;refine ⟨_,rfl, ?_⟩))
                 go_meet
                 case rel => exact ⟨_,(true),(by first | rfl | (simp;done) | (simp [*];done)),H',⟨by have:=HJ17.out;have:=HJ52.out;first | omega | exact Nat.le_refl _⟩,⟨by (with_reducible repeat (first | apply Kd.R_alloc | apply Kd.R_drewN | apply Kd.R_drew));exact Kd.R_mono HO_13.out (fun _ hk => trivial)⟩,⟨by repeat (first | (with_reducible first | exact HB.out | apply below_alloc | apply pw_below_drewN | apply below_drew1) | exact HB.out)⟩⟩
               case rest =>
                clear HC83
                try clear c1
                try clear c2
                try clear p2
                try clear c3
                try clear c4
                try clear c4b0
                try clear c4b1
                try clear c6
                try clear c6b0
                try clear c7
                try clear c8
                try clear c8b0
                try clear c9
                try clear c15
                try clear c17
                try clear c19
                try clear c20
                try clear c22
                try clear c23
                try clear c25
                try clear c26
                try clear c33
                try clear c34
                try clear c35
                try clear c36
                try clear c37
                try clear c38
                try clear c40
                try clear c43
                try clear c46
                try clear c49
                try clear c65
                try clear c65b0
                try clear c67
                try clear c72
                try clear c75
                try clear c75b0
                try clear c78
                try clear c78b0
                try clear c78b1
                try clear c94
                try clear p2
                obtain ⟨kq,x131_82,rfl,HA,HJ82,HO_13,HB⟩ := hcut
                have hl13_82:=(Kd.R_reads' HO_13.out).1
                rw [hl13_82] at HO_13
                (try simp only [hl13_82])
                cases kq with
                | zero => exact absurd HA.out (by simp [laws_FnExactFreeLengths.j2])
                | succ kj82 =>
                 have H:=HA.out
                 clear HA
                 simp only [laws_FnExactFreeLengths.j2] at H
                 by_cases c99 : x131_82 = true
                 ·subst c99
                  have H1 : (some false) = some r:=by rw [if_pos rfl] at H;exact H
                  clear H
                  have H:=H1
                  clear H1
                  obtain rfl:=Option.some.inj H
                  go_wp2
                  go_ret
                  exact ⟨by first | rfl | (simp [errW_none,errW_some] <;> rfl) | (simp [*,errW_none,errW_some] <;> rfl),by repeat (first | (with_reducible first | exact HB.out | apply below_alloc | apply pw_below_drewN | apply below_drew1) | exact HB.out)⟩
                 ·replace c99:=Bool.eq_false_iff.mpr c99
                  subst c99
                  have H1 : ((laws_heldIntS.f kj82 t318 1).bind fun t334 => (if t334 < 0 then (some false) else (if t334 = t317 then (some true) else (some false)))) = some r:=by rw [if_neg (show ¬ (false = true) by decide)] at H;exact H
                  clear H
                  have H:=H1
                  clear H1
                  replace H:=Option.bind_eq_some_iff.mp H
                  obtain ⟨t334,A1000,H⟩ := H
                  replace H : (if t334 < 0 then (some false) else (if t334 = t317 then (some true) else (some false))) = some r:=H
                  have A100:=Aside0.mk A1000
                  clear A1000
                  by_cases c101 : t334 < 0
                  ·rw [if_pos c101] at H
                   have c101b0 : decide (t334 < 0) = true:=decide_eq_true c101
                   clear c101
                   obtain rfl:=Option.some.inj H
                   go_wp2_with (first | ((with_reducible refine gate_callee (f:=36) rfl ?_);refine goesL_ (some 134) rfl rfl Try.func36 (by kernel_rfl) rfl #[.slice Ao84 t318.length co84, .int .i64 1] rfl (by (try simp only [List.map_toArray,List.map_cons,List.map_nil]);first | done | rfl | (simp only [List.length_drop,List.length_take];rfl)) ?_;(with_reducible refine (laws_heldIntS.calls kj82 _ _ t318 1 t334 _ ?side1 ?side2 A100.out).mono ?_);(case side1 => repeat (first | exact (Kd.R_reads' HO_13.out).2.2 | (with_reducible refine Kd.C_alloc ?_ _) | (with_reducible refine Kd.C_drewN ?_ _) | (with_reducible refine Kd.C_drew ?_)));(case side2 => exact (Kd.R_reads' HO_13.out).2.1);rintro e w' ⟨rfl,⟨nd,rfl⟩⟩;refine ⟨_,rfl, ?_⟩))
                   go_ret
                   exact ⟨by first | rfl | (simp [errW_none,errW_some] <;> rfl) | (simp [*,errW_none,errW_some] <;> rfl),by repeat (first | (with_reducible first | exact HB.out | apply below_alloc | apply pw_below_drewN | apply below_drew1) | exact HB.out)⟩
                  ·rw [if_neg c101] at H
                   have c101b0 : decide (t334 < 0) = false:=decide_eq_false c101
                   clear c101
                   by_cases c102 : t334 = t317
                   ·rw [if_pos c102] at H
                    have c102b0 : (t334 == t317) = true:=beq_iff_eq.mpr c102
                    have c102b1 : (t334 != t317) = false:=bne_eq_false_iff_eq.mpr c102
                    clear c102
                    obtain rfl:=Option.some.inj H
                    go_wp2_with (first | ((with_reducible refine gate_callee (f:=36) rfl ?_);refine goesL_ (some 134) rfl rfl Try.func36 (by kernel_rfl) rfl #[.slice Ao84 t318.length co84, .int .i64 1] rfl (by (try simp only [List.map_toArray,List.map_cons,List.map_nil]);first | done | rfl | (simp only [List.length_drop,List.length_take];rfl)) ?_;(with_reducible refine (laws_heldIntS.calls kj82 _ _ t318 1 t334 _ ?side1 ?side2 A100.out).mono ?_);(case side1 => repeat (first | exact (Kd.R_reads' HO_13.out).2.2 | (with_reducible refine Kd.C_alloc ?_ _) | (with_reducible refine Kd.C_drewN ?_ _) | (with_reducible refine Kd.C_drew ?_)));(case side2 => exact (Kd.R_reads' HO_13.out).2.1);rintro e w' ⟨rfl,⟨nd,rfl⟩⟩;refine ⟨_,rfl, ?_⟩))
                    go_ret
                    exact ⟨by first | rfl | (simp [errW_none,errW_some] <;> rfl) | (simp [*,errW_none,errW_some] <;> rfl),by repeat (first | (with_reducible first | exact HB.out | apply below_alloc | apply pw_below_drewN | apply below_drew1) | exact HB.out)⟩
                   ·rw [if_neg c102] at H
                    have c102b0 : (t334 == t317) = false:=beq_eq_false_iff_ne.mpr c102
                    have c102b1 : (t334 != t317) = true:=bne_iff_ne.mpr c102
                    obtain rfl:=Option.some.inj H
                    go_wp2_with (first | ((with_reducible refine gate_callee (f:=36) rfl ?_);refine goesL_ (some 134) rfl rfl Try.func36 (by kernel_rfl) rfl #[.slice Ao84 t318.length co84, .int .i64 1] rfl (by (try simp only [List.map_toArray,List.map_cons,List.map_nil]);first | done | rfl | (simp only [List.length_drop,List.length_take];rfl)) ?_;(with_reducible refine (laws_heldIntS.calls kj82 _ _ t318 1 t334 _ ?side1 ?side2 A100.out).mono ?_);(case side1 => repeat (first | exact (Kd.R_reads' HO_13.out).2.2 | (with_reducible refine Kd.C_alloc ?_ _) | (with_reducible refine Kd.C_drewN ?_ _) | (with_reducible refine Kd.C_drew ?_)));(case side2 => exact (Kd.R_reads' HO_13.out).2.1);rintro e w' ⟨rfl,⟨nd,rfl⟩⟩;refine ⟨_,rfl, ?_⟩))
                    go_ret
                    exact ⟨by first | rfl | (simp [errW_none,errW_some] <;> rfl) | (simp [*,errW_none,errW_some] <;> rfl),by repeat (first | (with_reducible first | exact HB.out | apply below_alloc | apply pw_below_drewN | apply below_drew1) | exact HB.out)⟩
              ·rw [if_neg c78] at H
               have c78b0 : (t319 == t317) = false:=beq_eq_false_iff_ne.mpr c78
               have c78b1 : (t319 != t317) = true:=bne_iff_ne.mpr c78
               obtain rfl:=Option.some.inj H
               obtain ⟨Ao103,co103,eo103⟩ := Kd.R_slice HO_13.out
               subst eo103
               go_wp2_with (first | ((with_reducible refine gate_callee (f:=35) rfl ?_);refine goesL_ (some 104) rfl rfl Try.func35 (by kernel_rfl) rfl #[.slice Ao103 t293.length co103, .int .i64 1] rfl (by (try simp only [List.map_toArray,List.map_cons,List.map_nil]);first | done | rfl | (simp only [List.length_drop,List.length_take];rfl)) ?_;(with_reducible refine (laws_markIntS.calls kj52 (fun k_ => some k_ = (.slice Ao103 t293.length co103 : Value).ownBlock) (.slice Ao103 t293.length co103) t293 1 t317 t318 w _ ?side1 ?side2 A73.out).mono ?_);(case side1 => repeat (first | (with_reducible first | exact HB.out | apply below_alloc | apply pw_below_drewN | apply below_drew1) | exact HB.out));(case side2 => exact Kd.R_tight rfl HO_13.out);rintro e w104 ⟨rfl,hy0,hb,hkp⟩;refine ⟨_,rfl, ?_⟩;have n0_:=Aside0.mk (Kd.R_mono (ok':=fun k_ => some k_ ≠ (.slice Ao103 t293.length co103 : Value).ownBlock) (Kd.R_keptB (HO_8.out) hkp (fun k_ hk_ hs_ => (hk_) hs_)) (fun k_ hk_ => hk_.1));have n1_:=Aside0.mk (Kd.R_reok rfl hy0 (fun k_ e_ => HO_13.out.1 k_ e_));have n2_:=Aside0.mk (hb);clear HO_8;clear HO_13;clear HB;have HO_8:=n0_;have HO_13:=n1_;have HB:=n2_;clear n0_ n1_ n2_;(try clear hb);(try clear hkp);(try clear hy0)) | ((with_reducible refine gate_callee (f:=36) rfl ?_);refine goesL_ (some 107) rfl rfl Try.func36 (by kernel_rfl) rfl #[.slice Ao103 t318.length co103, .int .i64 1] rfl (by (try simp only [List.map_toArray,List.map_cons,List.map_nil]);first | done | (rw [show t318.length = t293.length from (Kd.R_reads' HO_13.out).1.symm] <;> rfl) | rfl | (simp only [List.length_drop,List.length_take];rfl)) ?_;(with_reducible refine (laws_heldIntS.calls kj52 _ _ t318 1 t319 _ ?side1 ?side2 A74.out).mono ?_);(case side1 => repeat (first | exact (Kd.R_reads' HO_13.out).2.2 | (with_reducible refine Kd.C_alloc ?_ _) | (with_reducible refine Kd.C_drewN ?_ _) | (with_reducible refine Kd.C_drew ?_)));(case side2 => rw [show t318.length = t293.length from (Kd.R_reads' HO_13.out).1.symm];exact (Kd.R_reads' HO_13.out).2.1);rintro e w' ⟨rfl,⟨nd,rfl⟩⟩;refine ⟨_,rfl, ?_⟩))
               go_ret
               exact ⟨by first | rfl | (simp [errW_none,errW_some] <;> rfl) | (simp [*,errW_none,errW_some] <;> rfl),by repeat (first | (with_reducible first | exact HB.out | apply below_alloc | apply pw_below_drewN | apply below_drew1) | exact HB.out)⟩
         ·replace c49:=Bool.eq_false_iff.mpr c49
          subst c49
          have H1 : (some false) = some r:=by rw [if_neg (show ¬ (false = true) by decide)] at H;exact H
          clear H
          have H:=H1
          clear H1
          obtain rfl:=Option.some.inj H
          go_wp2_with (first | ((with_reducible refine gate_callee (f:=17) rfl ?_);refine goesL_ (some 67) rfl rfl Try.func17 (by kernel_rfl) rfl #[.slice A0 l0.length c0] rfl (by (try simp only [List.map_toArray,List.map_cons,List.map_nil]);first | done | rfl | (simp only [List.length_drop,List.length_take];rfl)) ?_;(with_reducible refine (laws_toWagonS.calls kj17 _ _ l0 t298 _ ?side1 ?side2 A41.out).mono ?_);(case side1 => repeat (first | exact (Kd.C_below HR0.out HB.out) | (with_reducible refine Kd.C_alloc ?_ _) | (with_reducible refine Kd.C_drewN ?_ _) | (with_reducible refine Kd.C_drew ?_)));(case side2 => exact HC0.out);rintro e w105 ⟨v299,rfl,ho0,hb⟩;refine ⟨_,rfl, ?_⟩;have n0_:=Aside0.mk (Kd.R_below (by (with_reducible repeat (first | apply Kd.R_alloc | apply Kd.R_drewN | apply Kd.R_drew));exact HO_8.out) hb);have n1_:=Aside0.mk (Kd.R_elder' (by (with_reducible repeat (first | apply Kd.R_alloc | apply Kd.R_drewN | apply Kd.R_drew));exact HO_10.out) (Kd.R_base ho0) hb);have n2_:=Aside0.mk (Kd.R_below (by (with_reducible repeat (first | apply Kd.R_alloc | apply Kd.R_drewN | apply Kd.R_drew));exact HO_11.out) hb);have n3_:=Aside0.mk (Kd.R_below (by (with_reducible repeat (first | apply Kd.R_alloc | apply Kd.R_drewN | apply Kd.R_drew));exact HO_12.out) hb);have n4_:=Aside0.mk (Kd.R_below (by (with_reducible repeat (first | apply Kd.R_alloc | apply Kd.R_drewN | apply Kd.R_drew));exact HO_13.out) hb);have n5_:=Aside0.mk (Kd.R_lower (Kd.R_new' ho0 (Kd.R_lt (by (with_reducible repeat (first | apply Kd.R_alloc | apply Kd.R_drewN | apply Kd.R_drew));exact HO_10.out))) (below_size (by repeat (first | (with_reducible first | exact HB.out | apply below_alloc | apply pw_below_drewN | apply below_drew1) | exact HB.out))));have n6_:=Aside0.mk (below_step (by repeat (first | (with_reducible first | exact HB.out | apply below_alloc | apply pw_below_drewN | apply below_drew1) | exact HB.out)) hb);clear HO_8;clear HO_10;clear HO_11;clear HO_12;clear HO_13;clear HB;have HO_8:=n0_;have HO_10:=n1_;have HO_11:=n2_;have HO_12:=n3_;have HO_13:=n4_;have HO300:=n5_;have HB:=n6_;clear n0_ n1_ n2_ n3_ n4_ n5_ n6_;(try clear hb);(try clear hb2);(try clear hk);(try clear hi);(try clear ho0);obtain ⟨Ao106,co106,eo106⟩ := Kd.R_slice HO300.out;subst eo106) | ((with_reducible refine gate_callee (f:=19) rfl ?_);refine goesL_ (some 68) rfl rfl Try.func19 (by kernel_rfl) rfl #[.slice Ao30 t284.length co30, .slice Ao106 t298.length co106] rfl (by (try simp only [List.map_toArray,List.map_cons,List.map_nil]);first | done | rfl | (simp only [List.length_drop,List.length_take];rfl)) ?_;(with_reducible refine (laws_eqWagonS.calls kj17 _ _ t284 _ _ t298 true _ ?side1 ?side2 ?side3 ?side4 A42.out).mono ?_);(case side1 => repeat (first | exact (Kd.R_reads' HO_10.out).2.2 | (with_reducible refine Kd.C_alloc ?_ _) | (with_reducible refine Kd.C_drewN ?_ _) | (with_reducible refine Kd.C_drew ?_)));(case side2 => exact (Kd.R_reads' HO_10.out).2.1);(case side3 => repeat (first | exact (Kd.R_reads' HO300.out).2.2 | (with_reducible refine Kd.C_alloc ?_ _) | (with_reducible refine Kd.C_drewN ?_ _) | (with_reducible refine Kd.C_drew ?_)));(case side4 => exact (Kd.R_reads' HO300.out).2.1);rintro e w107 ⟨rfl,hb⟩;refine ⟨_,rfl, ?_⟩;have n0_:=Aside0.mk (Kd.R_below (by (with_reducible repeat (first | apply Kd.R_alloc | apply Kd.R_drewN | apply Kd.R_drew));exact HO_8.out) hb);have n1_:=Aside0.mk (Kd.R_below (by (with_reducible repeat (first | apply Kd.R_alloc | apply Kd.R_drewN | apply Kd.R_drew));exact HO_10.out) hb);have n2_:=Aside0.mk (Kd.R_below (by (with_reducible repeat (first | apply Kd.R_alloc | apply Kd.R_drewN | apply Kd.R_drew));exact HO_11.out) hb);have n3_:=Aside0.mk (Kd.R_below (by (with_reducible repeat (first | apply Kd.R_alloc | apply Kd.R_drewN | apply Kd.R_drew));exact HO_12.out) hb);have n4_:=Aside0.mk (Kd.R_below (by (with_reducible repeat (first | apply Kd.R_alloc | apply Kd.R_drewN | apply Kd.R_drew));exact HO_13.out) hb);have n5_:=Aside0.mk (Kd.R_below (by (with_reducible repeat (first | apply Kd.R_alloc | apply Kd.R_drewN | apply Kd.R_drew));exact HO300.out) hb);have n6_:=Aside0.mk (below_step (by repeat (first | (with_reducible first | exact HB.out | apply below_alloc | apply pw_below_drewN | apply below_drew1) | exact HB.out)) hb);clear HO_8;clear HO_10;clear HO_11;clear HO_12;clear HO_13;clear HO300;clear HB;have HO_8:=n0_;have HO_10:=n1_;have HO_11:=n2_;have HO_12:=n3_;have HO_13:=n4_;have HO300:=n5_;have HB:=n6_;clear n0_ n1_ n2_ n3_ n4_ n5_ n6_;(try clear hb);(try clear hb2);(try clear hk);(try clear hi)) | ((with_reducible refine gate_callee (f:=22) rfl ?_);refine goesL_ (some 72) rfl rfl Try.func22 (by kernel_rfl) rfl #[.slice A1 l1.length c1] rfl (by (try simp only [List.map_toArray,List.map_cons,List.map_nil]);first | done | rfl | (simp only [List.length_drop,List.length_take];rfl)) ?_;(with_reducible refine (laws_toContainerS.calls kj17 _ _ l1 t302 _ ?side1 ?side2 A44.out).mono ?_);(case side1 => repeat (first | exact (Kd.C_below HR1.out HB.out) | (with_reducible refine Kd.C_alloc ?_ _) | (with_reducible refine Kd.C_drewN ?_ _) | (with_reducible refine Kd.C_drew ?_)));(case side2 => exact HC1.out);rintro e w108 ⟨v303,rfl,ho0,hb⟩;refine ⟨_,rfl, ?_⟩;have n0_:=Aside0.mk (Kd.R_below (by (with_reducible repeat (first | apply Kd.R_alloc | apply Kd.R_drewN | apply Kd.R_drew));exact HO_8.out) hb);have n1_:=Aside0.mk (Kd.R_below (by (with_reducible repeat (first | apply Kd.R_alloc | apply Kd.R_drewN | apply Kd.R_drew));exact HO_10.out) hb);have n2_:=Aside0.mk (Kd.R_elder' (by (with_reducible repeat (first | apply Kd.R_alloc | apply Kd.R_drewN | apply Kd.R_drew));exact HO_11.out) (Kd.R_base ho0) hb);have n3_:=Aside0.mk (Kd.R_below (by (with_reducible repeat (first | apply Kd.R_alloc | apply Kd.R_drewN | apply Kd.R_drew));exact HO_12.out) hb);have n4_:=Aside0.mk (Kd.R_below (by (with_reducible repeat (first | apply Kd.R_alloc | apply Kd.R_drewN | apply Kd.R_drew));exact HO_13.out) hb);have n5_:=Aside0.mk (Kd.R_below (by (with_reducible repeat (first | apply Kd.R_alloc | apply Kd.R_drewN | apply Kd.R_drew));exact HO300.out) hb);have n6_:=Aside0.mk (Kd.R_lower (Kd.R_new' ho0 (Kd.R_lt (by (with_reducible repeat (first | apply Kd.R_alloc | apply Kd.R_drewN | apply Kd.R_drew));exact HO_11.out))) (below_size (by repeat (first | (with_reducible first | exact HB.out | apply below_alloc | apply pw_below_drewN | apply below_drew1) | exact HB.out))));have n7_:=Aside0.mk (below_step (by repeat (first | (with_reducible first | exact HB.out | apply below_alloc | apply pw_below_drewN | apply below_drew1) | exact HB.out)) hb);clear HO_8;clear HO_10;clear HO_11;clear HO_12;clear HO_13;clear HO300;clear HB;have HO_8:=n0_;have HO_10:=n1_;have HO_11:=n2_;have HO_12:=n3_;have HO_13:=n4_;have HO300:=n5_;have HO304:=n6_;have HB:=n7_;clear n0_ n1_ n2_ n3_ n4_ n5_ n6_ n7_;(try clear hb);(try clear hb2);(try clear hk);(try clear hi);(try clear ho0);obtain ⟨Ao109,co109,eo109⟩ := Kd.R_slice HO304.out;subst eo109) | ((with_reducible refine gate_callee (f:=25) rfl ?_);refine goesL_ (some 73) rfl rfl Try.func25 (by kernel_rfl) rfl #[.slice Ao31 t287.length co31, .slice Ao109 t302.length co109] rfl (by (try simp only [List.map_toArray,List.map_cons,List.map_nil]);first | done | rfl | (simp only [List.length_drop,List.length_take];rfl)) ?_;(with_reducible refine (laws_eqContainerS.calls kj17 _ _ t287 _ _ t302 true _ ?side1 ?side2 ?side3 ?side4 A45.out).mono ?_);(case side1 => repeat (first | exact (Kd.R_reads' HO_11.out).2.2 | (with_reducible refine Kd.C_alloc ?_ _) | (with_reducible refine Kd.C_drewN ?_ _) | (with_reducible refine Kd.C_drew ?_)));(case side2 => exact (Kd.R_reads' HO_11.out).2.1);(case side3 => repeat (first | exact (Kd.R_reads' HO304.out).2.2 | (with_reducible refine Kd.C_alloc ?_ _) | (with_reducible refine Kd.C_drewN ?_ _) | (with_reducible refine Kd.C_drew ?_)));(case side4 => exact (Kd.R_reads' HO304.out).2.1);rintro e w110 ⟨rfl,hb⟩;refine ⟨_,rfl, ?_⟩;have n0_:=Aside0.mk (Kd.R_below (by (with_reducible repeat (first | apply Kd.R_alloc | apply Kd.R_drewN | apply Kd.R_drew));exact HO_8.out) hb);have n1_:=Aside0.mk (Kd.R_below (by (with_reducible repeat (first | apply Kd.R_alloc | apply Kd.R_drewN | apply Kd.R_drew));exact HO_10.out) hb);have n2_:=Aside0.mk (Kd.R_below (by (with_reducible repeat (first | apply Kd.R_alloc | apply Kd.R_drewN | apply Kd.R_drew));exact HO_11.out) hb);have n3_:=Aside0.mk (Kd.R_below (by (with_reducible repeat (first | apply Kd.R_alloc | apply Kd.R_drewN | apply Kd.R_drew));exact HO_12.out) hb);have n4_:=Aside0.mk (Kd.R_below (by (with_reducible repeat (first | apply Kd.R_alloc | apply Kd.R_drewN | apply Kd.R_drew));exact HO_13.out) hb);have n5_:=Aside0.mk (Kd.R_below (by (with_reducible repeat (first | apply Kd.R_alloc | apply Kd.R_drewN | apply Kd.R_drew));exact HO300.out) hb);have n6_:=Aside0.mk (Kd.R_below (by (with_reducible repeat (first | apply Kd.R_alloc | apply Kd.R_drewN | apply Kd.R_drew));exact HO304.out) hb);have n7_:=Aside0.mk (below_step (by repeat (first | (with_reducible first | exact HB.out | apply below_alloc | apply pw_below_drewN | apply below_drew1) | exact HB.out)) hb);clear HO_8;clear HO_10;clear HO_11;clear HO_12;clear HO_13;clear HO300;clear HO304;clear HB;have HO_8:=n0_;have HO_10:=n1_;have HO_11:=n2_;have HO_12:=n3_;have HO_13:=n4_;have HO300:=n5_;have HO304:=n6_;have HB:=n7_;clear n0_ n1_ n2_ n3_ n4_ n5_ n6_ n7_;(try clear hb);(try clear hb2);(try clear hk);(try clear hi)) | ((with_reducible refine gate_callee (f:=23) rfl ?_);refine goesL_ (some 77) rfl rfl Try.func23 (by kernel_rfl) rfl #[.slice A2 l2.length c2] rfl (by (try simp only [List.map_toArray,List.map_cons,List.map_nil]);first | done | rfl | (simp only [List.length_drop,List.length_take];rfl)) ?_;(with_reducible refine (laws_toIntS.calls kj17 _ _ l2 t306 _ ?side1 ?side2 A47.out).mono ?_);(case side1 => repeat (first | exact (Kd.C_below HR2.out HB.out) | (with_reducible refine Kd.C_alloc ?_ _) | (with_reducible refine Kd.C_drewN ?_ _) | (with_reducible refine Kd.C_drew ?_)));(case side2 => exact HC2.out);rintro e w111 ⟨v307,rfl,ho0,hb⟩;refine ⟨_,rfl, ?_⟩;have n0_:=Aside0.mk (Kd.R_elder' (by (with_reducible repeat (first | apply Kd.R_alloc | apply Kd.R_drewN | apply Kd.R_drew));exact HO_8.out) (Kd.R_base ho0) hb);have n1_:=Aside0.mk (Kd.R_below (by (with_reducible repeat (first | apply Kd.R_alloc | apply Kd.R_drewN | apply Kd.R_drew));exact HO_10.out) hb);have n2_:=Aside0.mk (Kd.R_below (by (with_reducible repeat (first | apply Kd.R_alloc | apply Kd.R_drewN | apply Kd.R_drew));exact HO_11.out) hb);have n3_:=Aside0.mk (Kd.R_elder' (by (with_reducible repeat (first | apply Kd.R_alloc | apply Kd.R_drewN | apply Kd.R_drew));exact HO_12.out) (Kd.R_base ho0) hb);have n4_:=Aside0.mk (Kd.R_elder' (by (with_reducible repeat (first | apply Kd.R_alloc | apply Kd.R_drewN | apply Kd.R_drew));exact HO_13.out) (Kd.R_base ho0) hb);have n5_:=Aside0.mk (Kd.R_below (by (with_reducible repeat (first | apply Kd.R_alloc | apply Kd.R_drewN | apply Kd.R_drew));exact HO300.out) hb);have n6_:=Aside0.mk (Kd.R_below (by (with_reducible repeat (first | apply Kd.R_alloc | apply Kd.R_drewN | apply Kd.R_drew));exact HO304.out) hb);have n7_:=Aside0.mk (Kd.R_lower (Kd.R_new' (Kd.R_new' (Kd.R_new' ho0 (Kd.R_lt (by (with_reducible repeat (first | apply Kd.R_alloc | apply Kd.R_drewN | apply Kd.R_drew));exact HO_8.out))) (Kd.R_lt (by (with_reducible repeat (first | apply Kd.R_alloc | apply Kd.R_drewN | apply Kd.R_drew));exact HO_12.out))) (Kd.R_lt (by (with_reducible repeat (first | apply Kd.R_alloc | apply Kd.R_drewN | apply Kd.R_drew));exact HO_13.out))) (below_size (by repeat (first | (with_reducible first | exact HB.out | apply below_alloc | apply pw_below_drewN | apply below_drew1) | exact HB.out))));have n8_:=Aside0.mk (below_step (by repeat (first | (with_reducible first | exact HB.out | apply below_alloc | apply pw_below_drewN | apply below_drew1) | exact HB.out)) hb);clear HO_8;clear HO_10;clear HO_11;clear HO_12;clear HO_13;clear HO300;clear HO304;clear HB;have HO_8:=n0_;have HO_10:=n1_;have HO_11:=n2_;have HO_12:=n3_;have HO_13:=n4_;have HO300:=n5_;have HO304:=n6_;have HO308:=n7_;have HB:=n8_;clear n0_ n1_ n2_ n3_ n4_ n5_ n6_ n7_ n8_;(try clear hb);(try clear hb2);(try clear hk);(try clear hi);(try clear ho0);obtain ⟨Ao112,co112,eo112⟩ := Kd.R_slice HO308.out;subst eo112) | ((with_reducible refine gate_callee (f:=26) rfl ?_);refine goesL_ (some 78) rfl rfl Try.func26 (by kernel_rfl) rfl #[.slice Ao32 t290.length co32, .slice Ao112 t306.length co112] rfl (by (try simp only [List.map_toArray,List.map_cons,List.map_nil]);first | done | rfl | (simp only [List.length_drop,List.length_take];rfl)) ?_;(with_reducible refine (laws_eqIntS.calls kj17 _ _ t290 _ _ t306 false _ ?side1 ?side2 ?side3 ?side4 A48.out).mono ?_);(case side1 => repeat (first | exact (Kd.R_reads' HO_12.out).2.2 | (with_reducible refine Kd.C_alloc ?_ _) | (with_reducible refine Kd.C_drewN ?_ _) | (with_reducible refine Kd.C_drew ?_)));(case side2 => exact (Kd.R_reads' HO_12.out).2.1);(case side3 => repeat (first | exact (Kd.R_reads' HO308.out).2.2 | (with_reducible refine Kd.C_alloc ?_ _) | (with_reducible refine Kd.C_drewN ?_ _) | (with_reducible refine Kd.C_drew ?_)));(case side4 => exact (Kd.R_reads' HO308.out).2.1);rintro e w' ⟨rfl,⟨nd,rfl⟩⟩;refine ⟨_,rfl, ?_⟩))
          go_ret
          exact ⟨by first | rfl | (simp [errW_none,errW_some] <;> rfl) | (simp [*,errW_none,errW_some] <;> rfl),by repeat (first | (with_reducible first | exact HB.out | apply below_alloc | apply pw_below_drewN | apply below_drew1) | exact HB.out)⟩
        ·replace c46:=Bool.eq_false_iff.mpr c46
         subst c46
         have H1 : (some false) = some r:=by rw [if_neg (show ¬ (false = true) by decide)] at H;exact H
         clear H
         have H:=H1
         clear H1
         obtain rfl:=Option.some.inj H
         go_wp2_with (first | ((with_reducible refine gate_callee (f:=17) rfl ?_);refine goesL_ (some 67) rfl rfl Try.func17 (by kernel_rfl) rfl #[.slice A0 l0.length c0] rfl (by (try simp only [List.map_toArray,List.map_cons,List.map_nil]);first | done | rfl | (simp only [List.length_drop,List.length_take];rfl)) ?_;(with_reducible refine (laws_toWagonS.calls kj17 _ _ l0 t298 _ ?side1 ?side2 A41.out).mono ?_);(case side1 => repeat (first | exact (Kd.C_below HR0.out HB.out) | (with_reducible refine Kd.C_alloc ?_ _) | (with_reducible refine Kd.C_drewN ?_ _) | (with_reducible refine Kd.C_drew ?_)));(case side2 => exact HC0.out);rintro e w113 ⟨v299,rfl,ho0,hb⟩;refine ⟨_,rfl, ?_⟩;have n0_:=Aside0.mk (Kd.R_below (by (with_reducible repeat (first | apply Kd.R_alloc | apply Kd.R_drewN | apply Kd.R_drew));exact HO_8.out) hb);have n1_:=Aside0.mk (Kd.R_elder' (by (with_reducible repeat (first | apply Kd.R_alloc | apply Kd.R_drewN | apply Kd.R_drew));exact HO_10.out) (Kd.R_base ho0) hb);have n2_:=Aside0.mk (Kd.R_below (by (with_reducible repeat (first | apply Kd.R_alloc | apply Kd.R_drewN | apply Kd.R_drew));exact HO_11.out) hb);have n3_:=Aside0.mk (Kd.R_below (by (with_reducible repeat (first | apply Kd.R_alloc | apply Kd.R_drewN | apply Kd.R_drew));exact HO_12.out) hb);have n4_:=Aside0.mk (Kd.R_below (by (with_reducible repeat (first | apply Kd.R_alloc | apply Kd.R_drewN | apply Kd.R_drew));exact HO_13.out) hb);have n5_:=Aside0.mk (Kd.R_lower (Kd.R_new' ho0 (Kd.R_lt (by (with_reducible repeat (first | apply Kd.R_alloc | apply Kd.R_drewN | apply Kd.R_drew));exact HO_10.out))) (below_size (by repeat (first | (with_reducible first | exact HB.out | apply below_alloc | apply pw_below_drewN | apply below_drew1) | exact HB.out))));have n6_:=Aside0.mk (below_step (by repeat (first | (with_reducible first | exact HB.out | apply below_alloc | apply pw_below_drewN | apply below_drew1) | exact HB.out)) hb);clear HO_8;clear HO_10;clear HO_11;clear HO_12;clear HO_13;clear HB;have HO_8:=n0_;have HO_10:=n1_;have HO_11:=n2_;have HO_12:=n3_;have HO_13:=n4_;have HO300:=n5_;have HB:=n6_;clear n0_ n1_ n2_ n3_ n4_ n5_ n6_;(try clear hb);(try clear hb2);(try clear hk);(try clear hi);(try clear ho0);obtain ⟨Ao114,co114,eo114⟩ := Kd.R_slice HO300.out;subst eo114) | ((with_reducible refine gate_callee (f:=19) rfl ?_);refine goesL_ (some 68) rfl rfl Try.func19 (by kernel_rfl) rfl #[.slice Ao30 t284.length co30, .slice Ao114 t298.length co114] rfl (by (try simp only [List.map_toArray,List.map_cons,List.map_nil]);first | done | rfl | (simp only [List.length_drop,List.length_take];rfl)) ?_;(with_reducible refine (laws_eqWagonS.calls kj17 _ _ t284 _ _ t298 true _ ?side1 ?side2 ?side3 ?side4 A42.out).mono ?_);(case side1 => repeat (first | exact (Kd.R_reads' HO_10.out).2.2 | (with_reducible refine Kd.C_alloc ?_ _) | (with_reducible refine Kd.C_drewN ?_ _) | (with_reducible refine Kd.C_drew ?_)));(case side2 => exact (Kd.R_reads' HO_10.out).2.1);(case side3 => repeat (first | exact (Kd.R_reads' HO300.out).2.2 | (with_reducible refine Kd.C_alloc ?_ _) | (with_reducible refine Kd.C_drewN ?_ _) | (with_reducible refine Kd.C_drew ?_)));(case side4 => exact (Kd.R_reads' HO300.out).2.1);rintro e w115 ⟨rfl,hb⟩;refine ⟨_,rfl, ?_⟩;have n0_:=Aside0.mk (Kd.R_below (by (with_reducible repeat (first | apply Kd.R_alloc | apply Kd.R_drewN | apply Kd.R_drew));exact HO_8.out) hb);have n1_:=Aside0.mk (Kd.R_below (by (with_reducible repeat (first | apply Kd.R_alloc | apply Kd.R_drewN | apply Kd.R_drew));exact HO_10.out) hb);have n2_:=Aside0.mk (Kd.R_below (by (with_reducible repeat (first | apply Kd.R_alloc | apply Kd.R_drewN | apply Kd.R_drew));exact HO_11.out) hb);have n3_:=Aside0.mk (Kd.R_below (by (with_reducible repeat (first | apply Kd.R_alloc | apply Kd.R_drewN | apply Kd.R_drew));exact HO_12.out) hb);have n4_:=Aside0.mk (Kd.R_below (by (with_reducible repeat (first | apply Kd.R_alloc | apply Kd.R_drewN | apply Kd.R_drew));exact HO_13.out) hb);have n5_:=Aside0.mk (Kd.R_below (by (with_reducible repeat (first | apply Kd.R_alloc | apply Kd.R_drewN | apply Kd.R_drew));exact HO300.out) hb);have n6_:=Aside0.mk (below_step (by repeat (first | (with_reducible first | exact HB.out | apply below_alloc | apply pw_below_drewN | apply below_drew1) | exact HB.out)) hb);clear HO_8;clear HO_10;clear HO_11;clear HO_12;clear HO_13;clear HO300;clear HB;have HO_8:=n0_;have HO_10:=n1_;have HO_11:=n2_;have HO_12:=n3_;have HO_13:=n4_;have HO300:=n5_;have HB:=n6_;clear n0_ n1_ n2_ n3_ n4_ n5_ n6_;(try clear hb);(try clear hb2);(try clear hk);(try clear hi)) | ((with_reducible refine gate_callee (f:=22) rfl ?_);refine goesL_ (some 72) rfl rfl Try.func22 (by kernel_rfl) rfl #[.slice A1 l1.length c1] rfl (by (try simp only [List.map_toArray,List.map_cons,List.map_nil]);first | done | rfl | (simp only [List.length_drop,List.length_take];rfl)) ?_;(with_reducible refine (laws_toContainerS.calls kj17 _ _ l1 t302 _ ?side1 ?side2 A44.out).mono ?_);(case side1 => repeat (first | exact (Kd.C_below HR1.out HB.out) | (with_reducible refine Kd.C_alloc ?_ _) | (with_reducible refine Kd.C_drewN ?_ _) | (with_reducible refine Kd.C_drew ?_)));(case side2 => exact HC1.out);rintro e w116 ⟨v303,rfl,ho0,hb⟩;refine ⟨_,rfl, ?_⟩;have n0_:=Aside0.mk (Kd.R_below (by (with_reducible repeat (first | apply Kd.R_alloc | apply Kd.R_drewN | apply Kd.R_drew));exact HO_8.out) hb);have n1_:=Aside0.mk (Kd.R_below (by (with_reducible repeat (first | apply Kd.R_alloc | apply Kd.R_drewN | apply Kd.R_drew));exact HO_10.out) hb);have n2_:=Aside0.mk (Kd.R_elder' (by (with_reducible repeat (first | apply Kd.R_alloc | apply Kd.R_drewN | apply Kd.R_drew));exact HO_11.out) (Kd.R_base ho0) hb);have n3_:=Aside0.mk (Kd.R_below (by (with_reducible repeat (first | apply Kd.R_alloc | apply Kd.R_drewN | apply Kd.R_drew));exact HO_12.out) hb);have n4_:=Aside0.mk (Kd.R_below (by (with_reducible repeat (first | apply Kd.R_alloc | apply Kd.R_drewN | apply Kd.R_drew));exact HO_13.out) hb);have n5_:=Aside0.mk (Kd.R_below (by (with_reducible repeat (first | apply Kd.R_alloc | apply Kd.R_drewN | apply Kd.R_drew));exact HO300.out) hb);have n6_:=Aside0.mk (Kd.R_lower (Kd.R_new' ho0 (Kd.R_lt (by (with_reducible repeat (first | apply Kd.R_alloc | apply Kd.R_drewN | apply Kd.R_drew));exact HO_11.out))) (below_size (by repeat (first | (with_reducible first | exact HB.out | apply below_alloc | apply pw_below_drewN | apply below_drew1) | exact HB.out))));have n7_:=Aside0.mk (below_step (by repeat (first | (with_reducible first | exact HB.out | apply below_alloc | apply pw_below_drewN | apply below_drew1) | exact HB.out)) hb);clear HO_8;clear HO_10;clear HO_11;clear HO_12;clear HO_13;clear HO300;clear HB;have HO_8:=n0_;have HO_10:=n1_;have HO_11:=n2_;have HO_12:=n3_;have HO_13:=n4_;have HO300:=n5_;have HO304:=n6_;have HB:=n7_;clear n0_ n1_ n2_ n3_ n4_ n5_ n6_ n7_;(try clear hb);(try clear hb2);(try clear hk);(try clear hi);(try clear ho0);obtain ⟨Ao117,co117,eo117⟩ := Kd.R_slice HO304.out;subst eo117) | ((with_reducible refine gate_callee (f:=25) rfl ?_);refine goesL_ (some 73) rfl rfl Try.func25 (by kernel_rfl) rfl #[.slice Ao31 t287.length co31, .slice Ao117 t302.length co117] rfl (by (try simp only [List.map_toArray,List.map_cons,List.map_nil]);first | done | rfl | (simp only [List.length_drop,List.length_take];rfl)) ?_;(with_reducible refine (laws_eqContainerS.calls kj17 _ _ t287 _ _ t302 false _ ?side1 ?side2 ?side3 ?side4 A45.out).mono ?_);(case side1 => repeat (first | exact (Kd.R_reads' HO_11.out).2.2 | (with_reducible refine Kd.C_alloc ?_ _) | (with_reducible refine Kd.C_drewN ?_ _) | (with_reducible refine Kd.C_drew ?_)));(case side2 => exact (Kd.R_reads' HO_11.out).2.1);(case side3 => repeat (first | exact (Kd.R_reads' HO304.out).2.2 | (with_reducible refine Kd.C_alloc ?_ _) | (with_reducible refine Kd.C_drewN ?_ _) | (with_reducible refine Kd.C_drew ?_)));(case side4 => exact (Kd.R_reads' HO304.out).2.1);rintro e w118 ⟨rfl,hb⟩;refine ⟨_,rfl, ?_⟩;have n0_:=Aside0.mk (Kd.R_below (by (with_reducible repeat (first | apply Kd.R_alloc | apply Kd.R_drewN | apply Kd.R_drew));exact HO_8.out) hb);have n1_:=Aside0.mk (Kd.R_below (by (with_reducible repeat (first | apply Kd.R_alloc | apply Kd.R_drewN | apply Kd.R_drew));exact HO_10.out) hb);have n2_:=Aside0.mk (Kd.R_below (by (with_reducible repeat (first | apply Kd.R_alloc | apply Kd.R_drewN | apply Kd.R_drew));exact HO_11.out) hb);have n3_:=Aside0.mk (Kd.R_below (by (with_reducible repeat (first | apply Kd.R_alloc | apply Kd.R_drewN | apply Kd.R_drew));exact HO_12.out) hb);have n4_:=Aside0.mk (Kd.R_below (by (with_reducible repeat (first | apply Kd.R_alloc | apply Kd.R_drewN | apply Kd.R_drew));exact HO_13.out) hb);have n5_:=Aside0.mk (Kd.R_below (by (with_reducible repeat (first | apply Kd.R_alloc | apply Kd.R_drewN | apply Kd.R_drew));exact HO300.out) hb);have n6_:=Aside0.mk (Kd.R_below (by (with_reducible repeat (first | apply Kd.R_alloc | apply Kd.R_drewN | apply Kd.R_drew));exact HO304.out) hb);have n7_:=Aside0.mk (below_step (by repeat (first | (with_reducible first | exact HB.out | apply below_alloc | apply pw_below_drewN | apply below_drew1) | exact HB.out)) hb);clear HO_8;clear HO_10;clear HO_11;clear HO_12;clear HO_13;clear HO300;clear HO304;clear HB;have HO_8:=n0_;have HO_10:=n1_;have HO_11:=n2_;have HO_12:=n3_;have HO_13:=n4_;have HO300:=n5_;have HO304:=n6_;have HB:=n7_;clear n0_ n1_ n2_ n3_ n4_ n5_ n6_ n7_;(try clear hb);(try clear hb2);(try clear hk);(try clear hi)))
         go_ret
         exact ⟨by first | rfl | (simp [errW_none,errW_some] <;> rfl) | (simp [*,errW_none,errW_some] <;> rfl),by repeat (first | (with_reducible first | exact HB.out | apply below_alloc | apply pw_below_drewN | apply below_drew1) | exact HB.out)⟩
       ·replace c43:=Bool.eq_false_iff.mpr c43
        subst c43
        have H1 : (some false) = some r:=by rw [if_neg (show ¬ (false = true) by decide)] at H;exact H
        clear H
        have H:=H1
        clear H1
        obtain rfl:=Option.some.inj H
        go_wp2_with (first | ((with_reducible refine gate_callee (f:=17) rfl ?_);refine goesL_ (some 67) rfl rfl Try.func17 (by kernel_rfl) rfl #[.slice A0 l0.length c0] rfl (by (try simp only [List.map_toArray,List.map_cons,List.map_nil]);first | done | rfl | (simp only [List.length_drop,List.length_take];rfl)) ?_;(with_reducible refine (laws_toWagonS.calls kj17 _ _ l0 t298 _ ?side1 ?side2 A41.out).mono ?_);(case side1 => repeat (first | exact (Kd.C_below HR0.out HB.out) | (with_reducible refine Kd.C_alloc ?_ _) | (with_reducible refine Kd.C_drewN ?_ _) | (with_reducible refine Kd.C_drew ?_)));(case side2 => exact HC0.out);rintro e w119 ⟨v299,rfl,ho0,hb⟩;refine ⟨_,rfl, ?_⟩;have n0_:=Aside0.mk (Kd.R_below (by (with_reducible repeat (first | apply Kd.R_alloc | apply Kd.R_drewN | apply Kd.R_drew));exact HO_8.out) hb);have n1_:=Aside0.mk (Kd.R_elder' (by (with_reducible repeat (first | apply Kd.R_alloc | apply Kd.R_drewN | apply Kd.R_drew));exact HO_10.out) (Kd.R_base ho0) hb);have n2_:=Aside0.mk (Kd.R_below (by (with_reducible repeat (first | apply Kd.R_alloc | apply Kd.R_drewN | apply Kd.R_drew));exact HO_11.out) hb);have n3_:=Aside0.mk (Kd.R_below (by (with_reducible repeat (first | apply Kd.R_alloc | apply Kd.R_drewN | apply Kd.R_drew));exact HO_12.out) hb);have n4_:=Aside0.mk (Kd.R_below (by (with_reducible repeat (first | apply Kd.R_alloc | apply Kd.R_drewN | apply Kd.R_drew));exact HO_13.out) hb);have n5_:=Aside0.mk (Kd.R_lower (Kd.R_new' ho0 (Kd.R_lt (by (with_reducible repeat (first | apply Kd.R_alloc | apply Kd.R_drewN | apply Kd.R_drew));exact HO_10.out))) (below_size (by repeat (first | (with_reducible first | exact HB.out | apply below_alloc | apply pw_below_drewN | apply below_drew1) | exact HB.out))));have n6_:=Aside0.mk (below_step (by repeat (first | (with_reducible first | exact HB.out | apply below_alloc | apply pw_below_drewN | apply below_drew1) | exact HB.out)) hb);clear HO_8;clear HO_10;clear HO_11;clear HO_12;clear HO_13;clear HB;have HO_8:=n0_;have HO_10:=n1_;have HO_11:=n2_;have HO_12:=n3_;have HO_13:=n4_;have HO300:=n5_;have HB:=n6_;clear n0_ n1_ n2_ n3_ n4_ n5_ n6_;(try clear hb);(try clear hb2);(try clear hk);(try clear hi);(try clear ho0);obtain ⟨Ao120,co120,eo120⟩ := Kd.R_slice HO300.out;subst eo120) | ((with_reducible refine gate_callee (f:=19) rfl ?_);refine goesL_ (some 68) rfl rfl Try.func19 (by kernel_rfl) rfl #[.slice Ao30 t284.length co30, .slice Ao120 t298.length co120] rfl (by (try simp only [List.map_toArray,List.map_cons,List.map_nil]);first | done | rfl | (simp only [List.length_drop,List.length_take];rfl)) ?_;(with_reducible refine (laws_eqWagonS.calls kj17 _ _ t284 _ _ t298 false _ ?side1 ?side2 ?side3 ?side4 A42.out).mono ?_);(case side1 => repeat (first | exact (Kd.R_reads' HO_10.out).2.2 | (with_reducible refine Kd.C_alloc ?_ _) | (with_reducible refine Kd.C_drewN ?_ _) | (with_reducible refine Kd.C_drew ?_)));(case side2 => exact (Kd.R_reads' HO_10.out).2.1);(case side3 => repeat (first | exact (Kd.R_reads' HO300.out).2.2 | (with_reducible refine Kd.C_alloc ?_ _) | (with_reducible refine Kd.C_drewN ?_ _) | (with_reducible refine Kd.C_drew ?_)));(case side4 => exact (Kd.R_reads' HO300.out).2.1);rintro e w121 ⟨rfl,hb⟩;refine ⟨_,rfl, ?_⟩;have n0_:=Aside0.mk (Kd.R_below (by (with_reducible repeat (first | apply Kd.R_alloc | apply Kd.R_drewN | apply Kd.R_drew));exact HO_8.out) hb);have n1_:=Aside0.mk (Kd.R_below (by (with_reducible repeat (first | apply Kd.R_alloc | apply Kd.R_drewN | apply Kd.R_drew));exact HO_10.out) hb);have n2_:=Aside0.mk (Kd.R_below (by (with_reducible repeat (first | apply Kd.R_alloc | apply Kd.R_drewN | apply Kd.R_drew));exact HO_11.out) hb);have n3_:=Aside0.mk (Kd.R_below (by (with_reducible repeat (first | apply Kd.R_alloc | apply Kd.R_drewN | apply Kd.R_drew));exact HO_12.out) hb);have n4_:=Aside0.mk (Kd.R_below (by (with_reducible repeat (first | apply Kd.R_alloc | apply Kd.R_drewN | apply Kd.R_drew));exact HO_13.out) hb);have n5_:=Aside0.mk (Kd.R_below (by (with_reducible repeat (first | apply Kd.R_alloc | apply Kd.R_drewN | apply Kd.R_drew));exact HO300.out) hb);have n6_:=Aside0.mk (below_step (by repeat (first | (with_reducible first | exact HB.out | apply below_alloc | apply pw_below_drewN | apply below_drew1) | exact HB.out)) hb);clear HO_8;clear HO_10;clear HO_11;clear HO_12;clear HO_13;clear HO300;clear HB;have HO_8:=n0_;have HO_10:=n1_;have HO_11:=n2_;have HO_12:=n3_;have HO_13:=n4_;have HO300:=n5_;have HB:=n6_;clear n0_ n1_ n2_ n3_ n4_ n5_ n6_;(try clear hb);(try clear hb2);(try clear hk);(try clear hi)))
        go_ret
        exact ⟨by first | rfl | (simp [errW_none,errW_some] <;> rfl) | (simp [*,errW_none,errW_some] <;> rfl),by repeat (first | (with_reducible first | exact HB.out | apply below_alloc | apply pw_below_drewN | apply below_drew1) | exact HB.out)⟩

end Go.Proofs.Ythfbnadlpninaaa.PFnExactFreeLengths
