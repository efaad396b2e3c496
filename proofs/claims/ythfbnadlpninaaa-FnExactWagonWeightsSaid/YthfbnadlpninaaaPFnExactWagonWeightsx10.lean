-- Written by a program of this session, over the kit's print (wip/xprint.py)
import Derived.Test.YthfbnadlpninaaaPFnExactWagonWeightsx0
import Derived.Test.YthfbnadlpninaaaPFnExactWagonWeightsx1
import Derived.Test.YthfbnadlpninaaaPFnExactWagonWeightsx2
import Derived.Test.YthfbnadlpninaaaPFnExactWagonWeightsx3
import Derived.Test.YthfbnadlpninaaaPFnExactWagonWeightsx5
import Derived.Test.YthfbnadlpninaaaPFnExactWagonWeightsx9
namespace Go.Proofs.Ythfbnadlpninaaa.PFnExactWagonWeights
open Go.RowKit Go.Proofs.YthfbnadlpninaaaW.PrintWords Go.Proofs.YthfbnadlpninaaaW.PrintLast Go.Proofs.YthfbnadlpninaaaW.PrintMore
attribute [local go_sem] max2_int min2_int max_two min_two max_three min_three max_four min_four   -- for this text's walks alone
set_option linter.unusedVariables false
set_option linter.unusedSimpArgs false

/-! ### laws_FnExactWagonWeights: function 9 -/
mutual
def laws_FnExactWagonWeights.j0 : Nat → List (S74) → List (S80) → List Int → List Int → Int → Bool → List (S70) → List (S64) → List Int → List Int → Int → Bool → Bool → Option (Bool)
 | 0,_,_,_,_,_,_,_,_,_,_,_,_,_ => none
 | k + 1,x0,x1,x2,x8,x9,x10,x11,x12,x13,x14,x15,x16,x74 => if x74 = true then (some false) else ((laws_toWagonS.f k x0).bind fun t297 => ((laws_eqWagonS.f k x11 t297).bind fun t300 => (if t300 = true then ((laws_toContainerS.f k x1).bind fun t301 => ((laws_eqContainerS.f k x12 t301).bind fun t304 => (if t304 = true then ((laws_toIntS.f k x2).bind fun t305 => ((laws_eqIntS.f k x13 t305).bind fun t308 => (if t308 = true then ((laws_markWagonS.f k x11 1).bind fun bt309 => ((laws_markContainerS.f k x12 bt309.1).bind fun bt311 => ((laws_markIntS.f k x13 bt311.1).bind fun bt313 => (if bt313.1 < 0 then (laws_FnExactWagonWeights.j1 k x0 x1 x2 x8 x9 x10 x14 true) else ((laws_eqIntS.f k x14 x8).bind fun t315 => (if t315 = true then (if x15 = x9 then (laws_FnExactWagonWeights.j1 k x0 x1 x2 x8 x9 x10 x14 (x16 != x10)) else (laws_FnExactWagonWeights.j1 k x0 x1 x2 x8 x9 x10 x14 true)) else (laws_FnExactWagonWeights.j1 k x0 x1 x2 x8 x9 x10 x14 true))))))) else (some false)))) else (some false)))) else (some false))))
def laws_FnExactWagonWeights.j1 : Nat → List (S74) → List (S80) → List Int → List Int → Int → Bool → List Int → Bool → Option (Bool)
 | 0,_,_,_,_,_,_,_,_ => none
 | k + 1,x0,x1,x2,x8,x9,x10,x14,x116 => if x116 = true then (some false) else ((laws_markIntS.f k x14 1).bind fun bt316 => ((laws_heldIntS.f k bt316.2 1).bind fun t318 => (if t318 < 0 then (some false) else (if t318 = bt316.1 then ((laws_toWagonS.f k x0).bind fun t319 => ((laws_toContainerS.f k x1).bind fun t322 => ((laws_toIntS.f k x2).bind fun t325 => ((impl_WagonWeights.f k t319 t322 t325).bind fun bt328 => ((laws_eqIntS.f k bt328.1 x8).bind fun t333 => (if t333 = true then (if bt328.2.1 = x9 then (laws_FnExactWagonWeights.j2 k bt316.2 bt316.1 (bt328.2.2 != x10)) else (laws_FnExactWagonWeights.j2 k bt316.2 bt316.1 true)) else (laws_FnExactWagonWeights.j2 k bt316.2 bt316.1 true))))))) else (some false)))))
def laws_FnExactWagonWeights.j2 : Nat → List Int → Int → Bool → Option (Bool)
 | 0,_,_,_ => none
 | k + 1,x14,x18,x152 => if x152 = true then (some false) else ((laws_heldIntS.f k x14 1).bind fun t334 => (if t334 < 0 then (some false) else (if t334 = x18 then (some true) else (some false))))
end
def laws_FnExactWagonWeights.f (k : Nat) (l0 : List (S74)) (l1 : List (S80)) (l2 : List Int) : Option (Bool):=if (l2.length : Int) > 1048576 then (some true) else ((laws_szWagonS.f l0 1048576).bind fun t266 => (if t266 < 0 then (some true) else ((laws_szContainerS.f k l1 t266).bind fun t267 => (if t267 < 0 then (some true) else ((laws_toWagonS.f k l0).bind fun t268 => ((laws_toContainerS.f k l1).bind fun t271 => ((laws_toIntS.f k l2).bind fun t274 => ((spec_WagonWeights.f k t268 t271 t274).bind fun bt277 => ((laws_toWagonS.f k l0).bind fun t282 => ((laws_toContainerS.f k l1).bind fun t285 => ((laws_toIntS.f k l2).bind fun t288 => ((impl_WagonWeights.f k t282 t285 t288).bind fun bt291 => ((laws_eqIntS.f k bt291.1 bt277.1).bind fun t296 => (if t296 = true then (if bt291.2.1 = bt277.2.1 then (laws_FnExactWagonWeights.j0 k l0 l1 l2 bt277.1 bt277.2.1 bt277.2.2 t282 t285 t288 bt291.1 bt291.2.1 bt291.2.2 (bt291.2.2 != bt277.2.2)) else (laws_FnExactWagonWeights.j0 k l0 l1 l2 bt277.1 bt277.2.1 bt277.2.2 t282 t285 t288 bt291.1 bt291.2.1 bt291.2.2 true)) else (laws_FnExactWagonWeights.j0 k l0 l1 l2 bt277.1 bt277.2.1 bt277.2.2 t282 t285 t288 bt291.1 bt291.2.1 bt291.2.2 true)))))))))))))))
theorem laws_FnExactWagonWeights.mono_l : ∀ k,(∀ y0 y1 y2 y3 y4 y5 y6 y7 y8 y9 y10 y11 y12,LeO (laws_FnExactWagonWeights.j0 k y0 y1 y2 y3 y4 y5 y6 y7 y8 y9 y10 y11 y12) (laws_FnExactWagonWeights.j0 (k + 1) y0 y1 y2 y3 y4 y5 y6 y7 y8 y9 y10 y11 y12)) ∧ (∀ y0 y1 y2 y3 y4 y5 y6 y7,LeO (laws_FnExactWagonWeights.j1 k y0 y1 y2 y3 y4 y5 y6 y7) (laws_FnExactWagonWeights.j1 (k + 1) y0 y1 y2 y3 y4 y5 y6 y7)) ∧ (∀ y0 y1 y2,LeO (laws_FnExactWagonWeights.j2 k y0 y1 y2) (laws_FnExactWagonWeights.j2 (k + 1) y0 y1 y2))
 | 0 => ⟨fun _ _ _ _ _ _ _ _ _ _ _ _ _ r h => by simp [laws_FnExactWagonWeights.j0] at h,fun _ _ _ _ _ _ _ _ r h => by simp [laws_FnExactWagonWeights.j1] at h,fun _ _ _ r h => by simp [laws_FnExactWagonWeights.j2] at h⟩
 | k + 1 => by
  obtain ⟨ih0,ih1,ih2⟩ := laws_FnExactWagonWeights.mono_l k
  refine ⟨?_, ?_, ?_⟩
  ·intro y0 y1 y2 y3 y4 y5 y6 y7 y8 y9 y10 y11 y12
   unfold laws_FnExactWagonWeights.j0
   repeat' first
   | (with_reducible exact ih0 _ _ _ _ _ _ _ _ _ _ _ _ _)
   | (with_reducible exact ih1 _ _ _ _ _ _ _ _)
   | (with_reducible exact ih2 _ _ _)
   | (with_reducible exact impl_WagonWeights.mono _ _ _ _)
   | (with_reducible exact laws_eqContainerS.mono _ _ _)
   | (with_reducible exact laws_eqIntS.mono _ _ _)
   | (with_reducible exact laws_eqWagonS.mono _ _ _)
   | (with_reducible exact laws_heldIntS.mono _ _ _)
   | (with_reducible exact laws_markContainerS.mono _ _ _)
   | (with_reducible exact laws_markIntS.mono _ _ _)
   | (with_reducible exact laws_markWagonS.mono _ _ _)
   | (with_reducible exact laws_szContainerS.mono _ _ _)
   | (with_reducible exact laws_toContainerS.mono _ _)
   | (with_reducible exact laws_toIntS.mono _ _)
   | (with_reducible exact laws_toWagonS.mono _ _)
   | (with_reducible exact spec_WagonWeights.mono _ _ _ _)
   | (with_reducible exact LeO.refl _)
   | (with_reducible exact LeO.none _)
   | (with_reducible refine LeO.ite ?_ ?_)
   | (with_reducible refine LeO.bind ?_ (fun _ => ?_))
   | exact ih0 _ _ _ _ _ _ _ _ _ _ _ _ _
   | exact ih1 _ _ _ _ _ _ _ _
   | exact ih2 _ _ _
   | exact impl_WagonWeights.mono _ _ _ _
   | exact laws_eqContainerS.mono _ _ _
   | exact laws_eqIntS.mono _ _ _
   | exact laws_eqWagonS.mono _ _ _
   | exact laws_heldIntS.mono _ _ _
   | exact laws_markContainerS.mono _ _ _
   | exact laws_markIntS.mono _ _ _
   | exact laws_markWagonS.mono _ _ _
   | exact laws_szContainerS.mono _ _ _
   | exact laws_toContainerS.mono _ _
   | exact laws_toIntS.mono _ _
   | exact laws_toWagonS.mono _ _
   | exact spec_WagonWeights.mono _ _ _ _
   | exact LeO.none _
   | refine LeO.ite ?_ ?_
   | refine LeO.bind ?_ (fun _ => ?_)
  ·intro y0 y1 y2 y3 y4 y5 y6 y7
   unfold laws_FnExactWagonWeights.j1
   repeat' first
   | (with_reducible exact ih0 _ _ _ _ _ _ _ _ _ _ _ _ _)
   | (with_reducible exact ih1 _ _ _ _ _ _ _ _)
   | (with_reducible exact ih2 _ _ _)
   | (with_reducible exact impl_WagonWeights.mono _ _ _ _)
   | (with_reducible exact laws_eqContainerS.mono _ _ _)
   | (with_reducible exact laws_eqIntS.mono _ _ _)
   | (with_reducible exact laws_eqWagonS.mono _ _ _)
   | (with_reducible exact laws_heldIntS.mono _ _ _)
   | (with_reducible exact laws_markContainerS.mono _ _ _)
   | (with_reducible exact laws_markIntS.mono _ _ _)
   | (with_reducible exact laws_markWagonS.mono _ _ _)
   | (with_reducible exact laws_szContainerS.mono _ _ _)
   | (with_reducible exact laws_toContainerS.mono _ _)
   | (with_reducible exact laws_toIntS.mono _ _)
   | (with_reducible exact laws_toWagonS.mono _ _)
   | (with_reducible exact spec_WagonWeights.mono _ _ _ _)
   | (with_reducible exact LeO.refl _)
   | (with_reducible exact LeO.none _)
   | (with_reducible refine LeO.ite ?_ ?_)
   | (with_reducible refine LeO.bind ?_ (fun _ => ?_))
   | exact ih0 _ _ _ _ _ _ _ _ _ _ _ _ _
   | exact ih1 _ _ _ _ _ _ _ _
   | exact ih2 _ _ _
   | exact impl_WagonWeights.mono _ _ _ _
   | exact laws_eqContainerS.mono _ _ _
   | exact laws_eqIntS.mono _ _ _
   | exact laws_eqWagonS.mono _ _ _
   | exact laws_heldIntS.mono _ _ _
   | exact laws_markContainerS.mono _ _ _
   | exact laws_markIntS.mono _ _ _
   | exact laws_markWagonS.mono _ _ _
   | exact laws_szContainerS.mono _ _ _
   | exact laws_toContainerS.mono _ _
   | exact laws_toIntS.mono _ _
   | exact laws_toWagonS.mono _ _
   | exact spec_WagonWeights.mono _ _ _ _
   | exact LeO.none _
   | refine LeO.ite ?_ ?_
   | refine LeO.bind ?_ (fun _ => ?_)
  ·intro y0 y1 y2
   unfold laws_FnExactWagonWeights.j2
   repeat' first
   | (with_reducible exact ih0 _ _ _ _ _ _ _ _ _ _ _ _ _)
   | (with_reducible exact ih1 _ _ _ _ _ _ _ _)
   | (with_reducible exact ih2 _ _ _)
   | (with_reducible exact impl_WagonWeights.mono _ _ _ _)
   | (with_reducible exact laws_eqContainerS.mono _ _ _)
   | (with_reducible exact laws_eqIntS.mono _ _ _)
   | (with_reducible exact laws_eqWagonS.mono _ _ _)
   | (with_reducible exact laws_heldIntS.mono _ _ _)
   | (with_reducible exact laws_markContainerS.mono _ _ _)
   | (with_reducible exact laws_markIntS.mono _ _ _)
   | (with_reducible exact laws_markWagonS.mono _ _ _)
   | (with_reducible exact laws_szContainerS.mono _ _ _)
   | (with_reducible exact laws_toContainerS.mono _ _)
   | (with_reducible exact laws_toIntS.mono _ _)
   | (with_reducible exact laws_toWagonS.mono _ _)
   | (with_reducible exact spec_WagonWeights.mono _ _ _ _)
   | (with_reducible exact LeO.refl _)
   | (with_reducible exact LeO.none _)
   | (with_reducible refine LeO.ite ?_ ?_)
   | (with_reducible refine LeO.bind ?_ (fun _ => ?_))
   | exact ih0 _ _ _ _ _ _ _ _ _ _ _ _ _
   | exact ih1 _ _ _ _ _ _ _ _
   | exact ih2 _ _ _
   | exact impl_WagonWeights.mono _ _ _ _
   | exact laws_eqContainerS.mono _ _ _
   | exact laws_eqIntS.mono _ _ _
   | exact laws_eqWagonS.mono _ _ _
   | exact laws_heldIntS.mono _ _ _
   | exact laws_markContainerS.mono _ _ _
   | exact laws_markIntS.mono _ _ _
   | exact laws_markWagonS.mono _ _ _
   | exact laws_szContainerS.mono _ _ _
   | exact laws_toContainerS.mono _ _
   | exact laws_toIntS.mono _ _
   | exact laws_toWagonS.mono _ _
   | exact spec_WagonWeights.mono _ _ _ _
   | exact LeO.none _
   | refine LeO.ite ?_ ?_
   | refine LeO.bind ?_ (fun _ => ?_)
theorem laws_FnExactWagonWeights.mono : ∀ a0 a1 a2 k,LeO (laws_FnExactWagonWeights.f k a0 a1 a2) (laws_FnExactWagonWeights.f (k + 1) a0 a1 a2):=by
 intro a0 a1 a2 k
 obtain ⟨ih0,ih1,ih2⟩ := laws_FnExactWagonWeights.mono_l k
 unfold laws_FnExactWagonWeights.f
 repeat' first
   | (with_reducible exact ih0 _ _ _ _ _ _ _ _ _ _ _ _ _)
   | (with_reducible exact ih1 _ _ _ _ _ _ _ _)
   | (with_reducible exact ih2 _ _ _)
   | (with_reducible exact impl_WagonWeights.mono _ _ _ _)
   | (with_reducible exact laws_eqContainerS.mono _ _ _)
   | (with_reducible exact laws_eqIntS.mono _ _ _)
   | (with_reducible exact laws_eqWagonS.mono _ _ _)
   | (with_reducible exact laws_heldIntS.mono _ _ _)
   | (with_reducible exact laws_markContainerS.mono _ _ _)
   | (with_reducible exact laws_markIntS.mono _ _ _)
   | (with_reducible exact laws_markWagonS.mono _ _ _)
   | (with_reducible exact laws_szContainerS.mono _ _ _)
   | (with_reducible exact laws_toContainerS.mono _ _)
   | (with_reducible exact laws_toIntS.mono _ _)
   | (with_reducible exact laws_toWagonS.mono _ _)
   | (with_reducible exact spec_WagonWeights.mono _ _ _ _)
   | (with_reducible exact LeO.refl _)
   | (with_reducible exact LeO.none _)
   | (with_reducible refine LeO.ite ?_ ?_)
   | (with_reducible refine LeO.bind ?_ (fun _ => ?_))
   | exact ih0 _ _ _ _ _ _ _ _ _ _ _ _ _
   | exact ih1 _ _ _ _ _ _ _ _
   | exact ih2 _ _ _
   | exact impl_WagonWeights.mono _ _ _ _
   | exact laws_eqContainerS.mono _ _ _
   | exact laws_eqIntS.mono _ _ _
   | exact laws_eqWagonS.mono _ _ _
   | exact laws_heldIntS.mono _ _ _
   | exact laws_markContainerS.mono _ _ _
   | exact laws_markIntS.mono _ _ _
   | exact laws_markWagonS.mono _ _ _
   | exact laws_szContainerS.mono _ _ _
   | exact laws_toContainerS.mono _ _
   | exact laws_toIntS.mono _ _
   | exact laws_toWagonS.mono _ _
   | exact spec_WagonWeights.mono _ _ _ _
   | exact LeO.none _
   | refine LeO.ite ?_ ?_
   | refine LeO.bind ?_ (fun _ => ?_)
set_option maxHeartbeats 8000000 in
set_option maxRecDepth 100000 in
theorem laws_FnExactWagonWeights.calls (k : Nat) (A0 : Option Addr) (c0 : Nat) (l0 : List (S74)) (A1 : Option Addr) (c1 : Nat) (l1 : List (S80)) (A2 : Option Addr) (c2 : Nat) (l2 : List Int) (r : Bool) (w : World) (hr0 : Kd.C k74 w A0 l0.length l0) (hc0 : l0.length ≤ c0) (hr1 : Kd.C k80 w A1 l1.length l1) (hc1 : l1.length ≤ c1) (hr2 : Kd.C (Kd.int .i64) w A2 l2.length l2) (hc2 : l2.length ≤ c2) (h : laws_FnExactWagonWeights.f k l0 l1 l2 = some r) :
  Calls Try.prog 9 #[.slice A0 l0.length c0, .slice A1 l1.length c1, .slice A2 l2.length c2] w fun e w' => e = .returned (.bool r) ∧ Below w.heap.size w w':=by
 have HR0:=Aside0.mk hr0
 have HC0:=Aside0.mk hc0
 clear hr0 hc0
 have HR1:=Aside0.mk hr1
 have HC1:=Aside0.mk hc1
 clear hr1 hc1
 have HR2:=Aside0.mk hr2
 have HC2:=Aside0.mk hc2
 clear hr2 hc2
 have HB:=Aside0.mk (Below.refl w.heap.size w)
 have H : (if (l2.length : Int) > 1048576 then (some true) else ((laws_szWagonS.f l0 1048576).bind fun t266 => (if t266 < 0 then (some true) else ((laws_szContainerS.f k l1 t266).bind fun t267 => (if t267 < 0 then (some true) else ((laws_toWagonS.f k l0).bind fun t268 => ((laws_toContainerS.f k l1).bind fun t271 => ((laws_toIntS.f k l2).bind fun t274 => ((spec_WagonWeights.f k t268 t271 t274).bind fun bt277 => ((laws_toWagonS.f k l0).bind fun t282 => ((laws_toContainerS.f k l1).bind fun t285 => ((laws_toIntS.f k l2).bind fun t288 => ((impl_WagonWeights.f k t282 t285 t288).bind fun bt291 => ((laws_eqIntS.f k bt291.1 bt277.1).bind fun t296 => (if t296 = true then (if bt291.2.1 = bt277.2.1 then (laws_FnExactWagonWeights.j0 k l0 l1 l2 bt277.1 bt277.2.1 bt277.2.2 t282 t285 t288 bt291.1 bt291.2.1 bt291.2.2 (bt291.2.2 != bt277.2.2)) else (laws_FnExactWagonWeights.j0 k l0 l1 l2 bt277.1 bt277.2.1 bt277.2.2 t282 t285 t288 bt291.1 bt291.2.1 bt291.2.2 true)) else (laws_FnExactWagonWeights.j0 k l0 l1 l2 bt277.1 bt277.2.1 bt277.2.2 t282 t285 t288 bt291.1 bt291.2.1 bt291.2.2 true)))))))))))))))) = some r:=h
 clear h
 by_cases c4 : (l2.length : Int) > 1048576
 ·rw [if_pos c4] at H
  have c4b0 : decide (1048576 < (l2.length : Int)) = true:=decide_eq_true c4
  have c4b1 : decide (1048576 < l2.length) = true:=decide_eq_true (by omega)
  clear c4
  obtain rfl:=Option.some.inj H
  go_enter Try.func9,Try.ntmps9
  go_wp2
  go_ret
  exact ⟨by first | rfl | (simp [errW_none,errW_some] <;> rfl) | (simp [*,errW_none,errW_some] <;> rfl),by repeat (first | (with_reducible first | exact HB.out | apply below_alloc | apply pw_below_drewN | apply below_drew1) | exact HB.out)⟩
 ·rw [if_neg c4] at H
  have c4b0 : decide (1048576 < (l2.length : Int)) = false:=decide_eq_false c4
  have c4b1 : decide (1048576 < l2.length) = false:=decide_eq_false (by omega)
  clear c4
  replace H:=Option.bind_eq_some_iff.mp H
  obtain ⟨t266,A50,H⟩ := H
  replace H : (if t266 < 0 then (some true) else ((laws_szContainerS.f k l1 t266).bind fun t267 => (if t267 < 0 then (some true) else ((laws_toWagonS.f k l0).bind fun t268 => ((laws_toContainerS.f k l1).bind fun t271 => ((laws_toIntS.f k l2).bind fun t274 => ((spec_WagonWeights.f k t268 t271 t274).bind fun bt277 => ((laws_toWagonS.f k l0).bind fun t282 => ((laws_toContainerS.f k l1).bind fun t285 => ((laws_toIntS.f k l2).bind fun t288 => ((impl_WagonWeights.f k t282 t285 t288).bind fun bt291 => ((laws_eqIntS.f k bt291.1 bt277.1).bind fun t296 => (if t296 = true then (if bt291.2.1 = bt277.2.1 then (laws_FnExactWagonWeights.j0 k l0 l1 l2 bt277.1 bt277.2.1 bt277.2.2 t282 t285 t288 bt291.1 bt291.2.1 bt291.2.2 (bt291.2.2 != bt277.2.2)) else (laws_FnExactWagonWeights.j0 k l0 l1 l2 bt277.1 bt277.2.1 bt277.2.2 t282 t285 t288 bt291.1 bt291.2.1 bt291.2.2 true)) else (laws_FnExactWagonWeights.j0 k l0 l1 l2 bt277.1 bt277.2.1 bt277.2.2 t282 t285 t288 bt291.1 bt291.2.1 bt291.2.2 true)))))))))))))) = some r:=H
  have A5:=Aside0.mk A50
  clear A50
  by_cases c6 : t266 < 0
  ·rw [if_pos c6] at H
   have c6b0 : decide (t266 < 0) = true:=decide_eq_true c6
   clear c6
   obtain rfl:=Option.some.inj H
   go_enter Try.func9,Try.ntmps9
   go_wp2_with (first | ((with_reducible refine gate_callee (f:=15) rfl ?_);refine goesL_ (some 28) rfl rfl Try.func15 (by kernel_rfl) rfl #[.slice A0 l0.length c0, .int .i64 1048576] rfl (by (try simp only [List.map_toArray,List.map_cons,List.map_nil]);first | done | rfl | (simp only [List.length_drop,List.length_take];rfl)) ?_;(with_reducible refine (laws_szWagonS.calls _ _ l0 1048576 t266 _ ?side1 ?side2 A5.out).mono ?_);(case side1 => repeat (first | exact HR0.out | (with_reducible refine Kd.C_alloc ?_ _) | (with_reducible refine Kd.C_drewN ?_ _) | (with_reducible refine Kd.C_drew ?_)));(case side2 => exact HC0.out);rintro e w' ⟨rfl,⟨nd,rfl⟩⟩;refine ⟨_,rfl, ?_⟩))
   go_ret
   exact ⟨by first | rfl | (simp [errW_none,errW_some] <;> rfl) | (simp [*,errW_none,errW_some] <;> rfl),by repeat (first | (with_reducible first | exact HB.out | apply below_alloc | apply pw_below_drewN | apply below_drew1) | exact HB.out)⟩
  ·rw [if_neg c6] at H
   have c6b0 : decide (t266 < 0) = false:=decide_eq_false c6
   clear c6
   replace H:=Option.bind_eq_some_iff.mp H
   obtain ⟨t267,A70,H⟩ := H
   replace H : (if t267 < 0 then (some true) else ((laws_toWagonS.f k l0).bind fun t268 => ((laws_toContainerS.f k l1).bind fun t271 => ((laws_toIntS.f k l2).bind fun t274 => ((spec_WagonWeights.f k t268 t271 t274).bind fun bt277 => ((laws_toWagonS.f k l0).bind fun t282 => ((laws_toContainerS.f k l1).bind fun t285 => ((laws_toIntS.f k l2).bind fun t288 => ((impl_WagonWeights.f k t282 t285 t288).bind fun bt291 => ((laws_eqIntS.f k bt291.1 bt277.1).bind fun t296 => (if t296 = true then (if bt291.2.1 = bt277.2.1 then (laws_FnExactWagonWeights.j0 k l0 l1 l2 bt277.1 bt277.2.1 bt277.2.2 t282 t285 t288 bt291.1 bt291.2.1 bt291.2.2 (bt291.2.2 != bt277.2.2)) else (laws_FnExactWagonWeights.j0 k l0 l1 l2 bt277.1 bt277.2.1 bt277.2.2 t282 t285 t288 bt291.1 bt291.2.1 bt291.2.2 true)) else (laws_FnExactWagonWeights.j0 k l0 l1 l2 bt277.1 bt277.2.1 bt277.2.2 t282 t285 t288 bt291.1 bt291.2.1 bt291.2.2 true)))))))))))) = some r:=H
   have A7:=Aside0.mk A70
   clear A70
   by_cases c8 : t267 < 0
   ·rw [if_pos c8] at H
    have c8b0 : decide (t267 < 0) = true:=decide_eq_true c8
    clear c8
    obtain rfl:=Option.some.inj H
    go_enter Try.func9,Try.ntmps9
    go_wp2_with (first | ((with_reducible refine gate_callee (f:=15) rfl ?_);refine goesL_ (some 28) rfl rfl Try.func15 (by kernel_rfl) rfl #[.slice A0 l0.length c0, .int .i64 1048576] rfl (by (try simp only [List.map_toArray,List.map_cons,List.map_nil]);first | done | rfl | (simp only [List.length_drop,List.length_take];rfl)) ?_;(with_reducible refine (laws_szWagonS.calls _ _ l0 1048576 t266 _ ?side1 ?side2 A5.out).mono ?_);(case side1 => repeat (first | exact HR0.out | (with_reducible refine Kd.C_alloc ?_ _) | (with_reducible refine Kd.C_drewN ?_ _) | (with_reducible refine Kd.C_drew ?_)));(case side2 => exact HC0.out);rintro e w' ⟨rfl,⟨nd,rfl⟩⟩;refine ⟨_,rfl, ?_⟩) | ((with_reducible refine gate_callee (f:=20) rfl ?_);refine goesL_ (some 33) rfl rfl Try.func20 (by kernel_rfl) rfl #[.slice A1 l1.length c1, .int .i64 t266] rfl (by (try simp only [List.map_toArray,List.map_cons,List.map_nil]);first | done | rfl | (simp only [List.length_drop,List.length_take];rfl)) ?_;(with_reducible refine (laws_szContainerS.calls k _ _ l1 t266 t267 _ ?side1 ?side2 A7.out).mono ?_);(case side1 => repeat (first | exact HR1.out | (with_reducible refine Kd.C_alloc ?_ _) | (with_reducible refine Kd.C_drewN ?_ _) | (with_reducible refine Kd.C_drew ?_)));(case side2 => exact HC1.out);rintro e w9 ⟨rfl,hb⟩;refine ⟨_,rfl, ?_⟩;have n0_:=Aside0.mk (below_step (by repeat (first | (with_reducible first | exact HB.out | apply below_alloc | apply pw_below_drewN | apply below_drew1) | exact HB.out)) hb);clear HB;have HB:=n0_;clear n0_;(try clear hb);(try clear hb2);(try clear hk);(try clear hi)))
    go_ret
    exact ⟨by first | rfl | (simp [errW_none,errW_some] <;> rfl) | (simp [*,errW_none,errW_some] <;> rfl),by repeat (first | (with_reducible first | exact HB.out | apply below_alloc | apply pw_below_drewN | apply below_drew1) | exact HB.out)⟩
   ·rw [if_neg c8] at H
    have c8b0 : decide (t267 < 0) = false:=decide_eq_false c8
    clear c8
    replace H:=Option.bind_eq_some_iff.mp H
    obtain ⟨t268,A100,H⟩ := H
    replace H : ((laws_toContainerS.f k l1).bind fun t271 => ((laws_toIntS.f k l2).bind fun t274 => ((spec_WagonWeights.f k t268 t271 t274).bind fun bt277 => ((laws_toWagonS.f k l0).bind fun t282 => ((laws_toContainerS.f k l1).bind fun t285 => ((laws_toIntS.f k l2).bind fun t288 => ((impl_WagonWeights.f k t282 t285 t288).bind fun bt291 => ((laws_eqIntS.f k bt291.1 bt277.1).bind fun t296 => (if t296 = true then (if bt291.2.1 = bt277.2.1 then (laws_FnExactWagonWeights.j0 k l0 l1 l2 bt277.1 bt277.2.1 bt277.2.2 t282 t285 t288 bt291.1 bt291.2.1 bt291.2.2 (bt291.2.2 != bt277.2.2)) else (laws_FnExactWagonWeights.j0 k l0 l1 l2 bt277.1 bt277.2.1 bt277.2.2 t282 t285 t288 bt291.1 bt291.2.1 bt291.2.2 true)) else (laws_FnExactWagonWeights.j0 k l0 l1 l2 bt277.1 bt277.2.1 bt277.2.2 t282 t285 t288 bt291.1 bt291.2.1 bt291.2.2 true)))))))))) = some r:=H
    have A10:=Aside0.mk A100
    clear A100
    replace H:=Option.bind_eq_some_iff.mp H
    obtain ⟨t271,A110,H⟩ := H
    replace H : ((laws_toIntS.f k l2).bind fun t274 => ((spec_WagonWeights.f k t268 t271 t274).bind fun bt277 => ((laws_toWagonS.f k l0).bind fun t282 => ((laws_toContainerS.f k l1).bind fun t285 => ((laws_toIntS.f k l2).bind fun t288 => ((impl_WagonWeights.f k t282 t285 t288).bind fun bt291 => ((laws_eqIntS.f k bt291.1 bt277.1).bind fun t296 => (if t296 = true then (if bt291.2.1 = bt277.2.1 then (laws_FnExactWagonWeights.j0 k l0 l1 l2 bt277.1 bt277.2.1 bt277.2.2 t282 t285 t288 bt291.1 bt291.2.1 bt291.2.2 (bt291.2.2 != bt277.2.2)) else (laws_FnExactWagonWeights.j0 k l0 l1 l2 bt277.1 bt277.2.1 bt277.2.2 t282 t285 t288 bt291.1 bt291.2.1 bt291.2.2 true)) else (laws_FnExactWagonWeights.j0 k l0 l1 l2 bt277.1 bt277.2.1 bt277.2.2 t282 t285 t288 bt291.1 bt291.2.1 bt291.2.2 true))))))))) = some r:=H
    have A11:=Aside0.mk A110
    clear A110
    replace H:=Option.bind_eq_some_iff.mp H
    obtain ⟨t274,A120,H⟩ := H
    replace H : ((spec_WagonWeights.f k t268 t271 t274).bind fun bt277 => ((laws_toWagonS.f k l0).bind fun t282 => ((laws_toContainerS.f k l1).bind fun t285 => ((laws_toIntS.f k l2).bind fun t288 => ((impl_WagonWeights.f k t282 t285 t288).bind fun bt291 => ((laws_eqIntS.f k bt291.1 bt277.1).bind fun t296 => (if t296 = true then (if bt291.2.1 = bt277.2.1 then (laws_FnExactWagonWeights.j0 k l0 l1 l2 bt277.1 bt277.2.1 bt277.2.2 t282 t285 t288 bt291.1 bt291.2.1 bt291.2.2 (bt291.2.2 != bt277.2.2)) else (laws_FnExactWagonWeights.j0 k l0 l1 l2 bt277.1 bt277.2.1 bt277.2.2 t282 t285 t288 bt291.1 bt291.2.1 bt291.2.2 true)) else (laws_FnExactWagonWeights.j0 k l0 l1 l2 bt277.1 bt277.2.1 bt277.2.2 t282 t285 t288 bt291.1 bt291.2.1 bt291.2.2 true)))))))) = some r:=H
    have A12:=Aside0.mk A120
    clear A120
    replace H:=Option.bind_eq_some_iff.mp H
    obtain ⟨⟨t277,t278,t279⟩,A130,H⟩ := H
    replace H : ((laws_toWagonS.f k l0).bind fun t282 => ((laws_toContainerS.f k l1).bind fun t285 => ((laws_toIntS.f k l2).bind fun t288 => ((impl_WagonWeights.f k t282 t285 t288).bind fun bt291 => ((laws_eqIntS.f k bt291.1 t277).bind fun t296 => (if t296 = true then (if bt291.2.1 = t278 then (laws_FnExactWagonWeights.j0 k l0 l1 l2 t277 t278 t279 t282 t285 t288 bt291.1 bt291.2.1 bt291.2.2 (bt291.2.2 != t279)) else (laws_FnExactWagonWeights.j0 k l0 l1 l2 t277 t278 t279 t282 t285 t288 bt291.1 bt291.2.1 bt291.2.2 true)) else (laws_FnExactWagonWeights.j0 k l0 l1 l2 t277 t278 t279 t282 t285 t288 bt291.1 bt291.2.1 bt291.2.2 true))))))) = some r:=H
    have A13:=Aside0.mk A130
    clear A130
    replace H:=Option.bind_eq_some_iff.mp H
    obtain ⟨t282,A140,H⟩ := H
    replace H : ((laws_toContainerS.f k l1).bind fun t285 => ((laws_toIntS.f k l2).bind fun t288 => ((impl_WagonWeights.f k t282 t285 t288).bind fun bt291 => ((laws_eqIntS.f k bt291.1 t277).bind fun t296 => (if t296 = true then (if bt291.2.1 = t278 then (laws_FnExactWagonWeights.j0 k l0 l1 l2 t277 t278 t279 t282 t285 t288 bt291.1 bt291.2.1 bt291.2.2 (bt291.2.2 != t279)) else (laws_FnExactWagonWeights.j0 k l0 l1 l2 t277 t278 t279 t282 t285 t288 bt291.1 bt291.2.1 bt291.2.2 true)) else (laws_FnExactWagonWeights.j0 k l0 l1 l2 t277 t278 t279 t282 t285 t288 bt291.1 bt291.2.1 bt291.2.2 true)))))) = some r:=H
    have A14:=Aside0.mk A140
    clear A140
    replace H:=Option.bind_eq_some_iff.mp H
    obtain ⟨t285,A150,H⟩ := H
    replace H : ((laws_toIntS.f k l2).bind fun t288 => ((impl_WagonWeights.f k t282 t285 t288).bind fun bt291 => ((laws_eqIntS.f k bt291.1 t277).bind fun t296 => (if t296 = true then (if bt291.2.1 = t278 then (laws_FnExactWagonWeights.j0 k l0 l1 l2 t277 t278 t279 t282 t285 t288 bt291.1 bt291.2.1 bt291.2.2 (bt291.2.2 != t279)) else (laws_FnExactWagonWeights.j0 k l0 l1 l2 t277 t278 t279 t282 t285 t288 bt291.1 bt291.2.1 bt291.2.2 true)) else (laws_FnExactWagonWeights.j0 k l0 l1 l2 t277 t278 t279 t282 t285 t288 bt291.1 bt291.2.1 bt291.2.2 true))))) = some r:=H
    have A15:=Aside0.mk A150
    clear A150
    replace H:=Option.bind_eq_some_iff.mp H
    obtain ⟨t288,A160,H⟩ := H
    replace H : ((impl_WagonWeights.f k t282 t285 t288).bind fun bt291 => ((laws_eqIntS.f k bt291.1 t277).bind fun t296 => (if t296 = true then (if bt291.2.1 = t278 then (laws_FnExactWagonWeights.j0 k l0 l1 l2 t277 t278 t279 t282 t285 t288 bt291.1 bt291.2.1 bt291.2.2 (bt291.2.2 != t279)) else (laws_FnExactWagonWeights.j0 k l0 l1 l2 t277 t278 t279 t282 t285 t288 bt291.1 bt291.2.1 bt291.2.2 true)) else (laws_FnExactWagonWeights.j0 k l0 l1 l2 t277 t278 t279 t282 t285 t288 bt291.1 bt291.2.1 bt291.2.2 true)))) = some r:=H
    have A16:=Aside0.mk A160
    clear A160
    replace H:=Option.bind_eq_some_iff.mp H
    obtain ⟨⟨t291,t292,t293⟩,A170,H⟩ := H
    replace H : ((laws_eqIntS.f k t291 t277).bind fun t296 => (if t296 = true then (if t292 = t278 then (laws_FnExactWagonWeights.j0 k l0 l1 l2 t277 t278 t279 t282 t285 t288 t291 t292 t293 (t293 != t279)) else (laws_FnExactWagonWeights.j0 k l0 l1 l2 t277 t278 t279 t282 t285 t288 t291 t292 t293 true)) else (laws_FnExactWagonWeights.j0 k l0 l1 l2 t277 t278 t279 t282 t285 t288 t291 t292 t293 true))) = some r:=H
    have A17:=Aside0.mk A170
    clear A170
    have HC18:=Aside0.mk H
    clear H
    go_enter Try.func9,Try.ntmps9
    go_upto_region 15 with (first | ((with_reducible refine gate_callee (f:=15) rfl ?_);refine goesL_ (some 28) rfl rfl Try.func15 (by kernel_rfl) rfl #[.slice A0 l0.length c0, .int .i64 1048576] rfl (by (try simp only [List.map_toArray,List.map_cons,List.map_nil]);first | done | rfl | (simp only [List.length_drop,List.length_take];rfl)) ?_;(with_reducible refine (laws_szWagonS.calls _ _ l0 1048576 t266 _ ?side1 ?side2 A5.out).mono ?_);(case side1 => repeat (first | exact HR0.out | (with_reducible refine Kd.C_alloc ?_ _) | (with_reducible refine Kd.C_drewN ?_ _) | (with_reducible refine Kd.C_drew ?_)));(case side2 => exact HC0.out);rintro e w' ⟨rfl,⟨nd,rfl⟩⟩;refine ⟨_,rfl, ?_⟩) | ((with_reducible refine gate_callee (f:=20) rfl ?_);refine goesL_ (some 33) rfl rfl Try.func20 (by kernel_rfl) rfl #[.slice A1 l1.length c1, .int .i64 t266] rfl (by (try simp only [List.map_toArray,List.map_cons,List.map_nil]);first | done | rfl | (simp only [List.length_drop,List.length_take];rfl)) ?_;(with_reducible refine (laws_szContainerS.calls k _ _ l1 t266 t267 _ ?side1 ?side2 A7.out).mono ?_);(case side1 => repeat (first | exact HR1.out | (with_reducible refine Kd.C_alloc ?_ _) | (with_reducible refine Kd.C_drewN ?_ _) | (with_reducible refine Kd.C_drew ?_)));(case side2 => exact HC1.out);rintro e w19 ⟨rfl,hb⟩;refine ⟨_,rfl, ?_⟩;have n0_:=Aside0.mk (below_step (by repeat (first | (with_reducible first | exact HB.out | apply below_alloc | apply pw_below_drewN | apply below_drew1) | exact HB.out)) hb);clear HB;have HB:=n0_;clear n0_;(try clear hb);(try clear hb2);(try clear hk);(try clear hi)) | ((with_reducible refine gate_callee (f:=17) rfl ?_);refine goesL_ (some 38) rfl rfl Try.func17 (by kernel_rfl) rfl #[.slice A0 l0.length c0] rfl (by (try simp only [List.map_toArray,List.map_cons,List.map_nil]);first | done | rfl | (simp only [List.length_drop,List.length_take];rfl)) ?_;(with_reducible refine (laws_toWagonS.calls k _ _ l0 t268 _ ?side1 ?side2 A10.out).mono ?_);(case side1 => repeat (first | exact (Kd.C_below HR0.out HB.out) | (with_reducible refine Kd.C_alloc ?_ _) | (with_reducible refine Kd.C_drewN ?_ _) | (with_reducible refine Kd.C_drew ?_)));(case side2 => exact HC0.out);rintro e w20 ⟨v269,rfl,ho0,hb⟩;refine ⟨_,rfl, ?_⟩;have n0_:=Aside0.mk (Kd.R_lower ho0 (below_size (by repeat (first | (with_reducible first | exact HB.out | apply below_alloc | apply pw_below_drewN | apply below_drew1) | exact HB.out))));have n1_:=Aside0.mk (below_step (by repeat (first | (with_reducible first | exact HB.out | apply below_alloc | apply pw_below_drewN | apply below_drew1) | exact HB.out)) hb);clear HB;have HO270:=n0_;have HB:=n1_;clear n0_ n1_;(try clear hb);(try clear hb2);(try clear hk);(try clear hi);(try clear ho0)) | ((with_reducible refine gate_callee (f:=22) rfl ?_);refine goesL_ (some 40) rfl rfl Try.func22 (by kernel_rfl) rfl #[.slice A1 l1.length c1] rfl (by (try simp only [List.map_toArray,List.map_cons,List.map_nil]);first | done | rfl | (simp only [List.length_drop,List.length_take];rfl)) ?_;(with_reducible refine (laws_toContainerS.calls k _ _ l1 t271 _ ?side1 ?side2 A11.out).mono ?_);(case side1 => repeat (first | exact (Kd.C_below HR1.out HB.out) | (with_reducible refine Kd.C_alloc ?_ _) | (with_reducible refine Kd.C_drewN ?_ _) | (with_reducible refine Kd.C_drew ?_)));(case side2 => exact HC1.out);rintro e w21 ⟨v272,rfl,ho0,hb⟩;refine ⟨_,rfl, ?_⟩;have n0_:=Aside0.mk (Kd.R_below (by (with_reducible repeat (first | apply Kd.R_alloc | apply Kd.R_drewN | apply Kd.R_drew));exact HO270.out) hb);have n1_:=Aside0.mk (Kd.R_lower ho0 (below_size (by repeat (first | (with_reducible first | exact HB.out | apply below_alloc | apply pw_below_drewN | apply below_drew1) | exact HB.out))));have n2_:=Aside0.mk (below_step (by repeat (first | (with_reducible first | exact HB.out | apply below_alloc | apply pw_below_drewN | apply below_drew1) | exact HB.out)) hb);clear HO270;clear HB;have HO270:=n0_;have HO273:=n1_;have HB:=n2_;clear n0_ n1_ n2_;(try clear hb);(try clear hb2);(try clear hk);(try clear hi);(try clear ho0)) | ((with_reducible refine gate_callee (f:=23) rfl ?_);refine goesL_ (some 42) rfl rfl Try.func23 (by kernel_rfl) rfl #[.slice A2 l2.length c2] rfl (by (try simp only [List.map_toArray,List.map_cons,List.map_nil]);first | done | rfl | (simp only [List.length_drop,List.length_take];rfl)) ?_;(with_reducible refine (laws_toIntS.calls k _ _ l2 t274 _ ?side1 ?side2 A12.out).mono ?_);(case side1 => repeat (first | exact (Kd.C_below HR2.out HB.out) | (with_reducible refine Kd.C_alloc ?_ _) | (with_reducible refine Kd.C_drewN ?_ _) | (with_reducible refine Kd.C_drew ?_)));(case side2 => exact HC2.out);rintro e w22 ⟨v275,rfl,ho0,hb⟩;refine ⟨_,rfl, ?_⟩;have n0_:=Aside0.mk (Kd.R_below (by (with_reducible repeat (first | apply Kd.R_alloc | apply Kd.R_drewN | apply Kd.R_drew));exact HO270.out) hb);have n1_:=Aside0.mk (Kd.R_below (by (with_reducible repeat (first | apply Kd.R_alloc | apply Kd.R_drewN | apply Kd.R_drew));exact HO273.out) hb);have n2_:=Aside0.mk (Kd.R_lower ho0 (below_size (by repeat (first | (with_reducible first | exact HB.out | apply below_alloc | apply pw_below_drewN | apply below_drew1) | exact HB.out))));have n3_:=Aside0.mk (below_step (by repeat (first | (with_reducible first | exact HB.out | apply below_alloc | apply pw_below_drewN | apply below_drew1) | exact HB.out)) hb);clear HO270;clear HO273;clear HB;have HO270:=n0_;have HO273:=n1_;have HO276:=n2_;have HB:=n3_;clear n0_ n1_ n2_ n3_;(try clear hb);(try clear hb2);(try clear hk);(try clear hi);(try clear ho0);obtain ⟨Ao23,co23,eo23⟩ := Kd.R_slice HO270.out;subst eo23;obtain ⟨Ao24,co24,eo24⟩ := Kd.R_slice HO273.out;subst eo24;obtain ⟨Ao25,co25,eo25⟩ := Kd.R_slice HO276.out;subst eo25) | ((with_reducible refine gate_callee (f:=39) rfl ?_);refine goesL_ (some 43) rfl rfl Try.func39 (by kernel_rfl) rfl #[.slice Ao23 t268.length co23, .slice Ao24 t271.length co24, .slice Ao25 t274.length co25] rfl (by (try simp only [List.map_toArray,List.map_cons,List.map_nil]);first | done | rfl | (simp only [List.length_drop,List.length_take];rfl)) ?_;(with_reducible refine (spec_WagonWeights.calls k _ _ t268 _ _ t271 _ _ t274 t277 t278 t279 _ ?side1 ?side2 ?side3 ?side4 ?side5 ?side6 A13.out).mono ?_);(case side1 => repeat (first | exact (Kd.R_reads' HO270.out).2.2 | (with_reducible refine Kd.C_alloc ?_ _) | (with_reducible refine Kd.C_drewN ?_ _) | (with_reducible refine Kd.C_drew ?_)));(case side2 => exact (Kd.R_reads' HO270.out).2.1);(case side3 => repeat (first | exact (Kd.R_reads' HO273.out).2.2 | (with_reducible refine Kd.C_alloc ?_ _) | (with_reducible refine Kd.C_drewN ?_ _) | (with_reducible refine Kd.C_drew ?_)));(case side4 => exact (Kd.R_reads' HO273.out).2.1);(case side5 => repeat (first | exact (Kd.R_reads' HO276.out).2.2 | (with_reducible refine Kd.C_alloc ?_ _) | (with_reducible refine Kd.C_drewN ?_ _) | (with_reducible refine Kd.C_drew ?_)));(case side6 => exact (Kd.R_reads' HO276.out).2.1);rintro e w26 ⟨v280,rfl,ho0,hb⟩;refine ⟨_,rfl, ?_⟩;have n0_:=Aside0.mk (Kd.R_below (by (with_reducible repeat (first | apply Kd.R_alloc | apply Kd.R_drewN | apply Kd.R_drew));exact HO270.out) hb);have n1_:=Aside0.mk (Kd.R_below (by (with_reducible repeat (first | apply Kd.R_alloc | apply Kd.R_drewN | apply Kd.R_drew));exact HO273.out) hb);have n2_:=Aside0.mk (Kd.R_elder' (by (with_reducible repeat (first | apply Kd.R_alloc | apply Kd.R_drewN | apply Kd.R_drew));exact HO276.out) (Kd.R_base ho0) hb);have n3_:=Aside0.mk (Kd.R_lower (Kd.R_new' ho0 (Kd.R_lt (by (with_reducible repeat (first | apply Kd.R_alloc | apply Kd.R_drewN | apply Kd.R_drew));exact HO276.out))) (below_size (by repeat (first | (with_reducible first | exact HB.out | apply below_alloc | apply pw_below_drewN | apply below_drew1) | exact HB.out))));have n4_:=Aside0.mk (below_step (by repeat (first | (with_reducible first | exact HB.out | apply below_alloc | apply pw_below_drewN | apply below_drew1) | exact HB.out)) hb);clear HO270;clear HO273;clear HO276;clear HB;have HO270:=n0_;have HO273:=n1_;have HO276:=n2_;have HO281:=n3_;have HB:=n4_;clear n0_ n1_ n2_ n3_ n4_;(try clear hb);(try clear hb2);(try clear hk);(try clear hi);(try clear ho0)) | ((with_reducible refine gate_callee (f:=17) rfl ?_);refine goesL_ (some 48) rfl rfl Try.func17 (by kernel_rfl) rfl #[.slice A0 l0.length c0] rfl (by (try simp only [List.map_toArray,List.map_cons,List.map_nil]);first | done | rfl | (simp only [List.length_drop,List.length_take];rfl)) ?_;(with_reducible refine (laws_toWagonS.calls k _ _ l0 t282 _ ?side1 ?side2 A14.out).mono ?_);(case side1 => repeat (first | exact (Kd.C_below HR0.out HB.out) | (with_reducible refine Kd.C_alloc ?_ _) | (with_reducible refine Kd.C_drewN ?_ _) | (with_reducible refine Kd.C_drew ?_)));(case side2 => exact HC0.out);rintro e w27 ⟨v283,rfl,ho0,hb⟩;refine ⟨_,rfl, ?_⟩;have n0_:=Aside0.mk (Kd.R_elder' (by (with_reducible repeat (first | apply Kd.R_alloc | apply Kd.R_drewN | apply Kd.R_drew));exact HO270.out) (Kd.R_base ho0) hb);have n1_:=Aside0.mk (Kd.R_below (by (with_reducible repeat (first | apply Kd.R_alloc | apply Kd.R_drewN | apply Kd.R_drew));exact HO273.out) hb);have n2_:=Aside0.mk (Kd.R_below (by (with_reducible repeat (first | apply Kd.R_alloc | apply Kd.R_drewN | apply Kd.R_drew));exact HO276.out) hb);have n3_:=Aside0.mk (Kd.R_below (by (with_reducible repeat (first | apply Kd.R_alloc | apply Kd.R_drewN | apply Kd.R_drew));exact HO281.out) hb);have n4_:=Aside0.mk (Kd.R_lower (Kd.R_new' ho0 (Kd.R_lt (by (with_reducible repeat (first | apply Kd.R_alloc | apply Kd.R_drewN | apply Kd.R_drew));exact HO270.out))) (below_size (by repeat (first | (with_reducible first | exact HB.out | apply below_alloc | apply pw_below_drewN | apply below_drew1) | exact HB.out))));have n5_:=Aside0.mk (below_step (by repeat (first | (with_reducible first | exact HB.out | apply below_alloc | apply pw_below_drewN | apply below_drew1) | exact HB.out)) hb);clear HO270;clear HO273;clear HO276;clear HO281;clear HB;have HO270:=n0_;have HO273:=n1_;have HO276:=n2_;have HO281:=n3_;have HO284:=n4_;have HB:=n5_;clear n0_ n1_ n2_ n3_ n4_ n5_;(try clear hb);(try clear hb2);(try clear hk);(try clear hi);(try clear ho0)) | ((with_reducible refine gate_callee (f:=22) rfl ?_);refine goesL_ (some 50) rfl rfl Try.func22 (by kernel_rfl) rfl #[.slice A1 l1.length c1] rfl (by (try simp only [List.map_toArray,List.map_cons,List.map_nil]);first | done | rfl | (simp only [List.length_drop,List.length_take];rfl)) ?_;(with_reducible refine (laws_toContainerS.calls k _ _ l1 t285 _ ?side1 ?side2 A15.out).mono ?_);(case side1 => repeat (first | exact (Kd.C_below HR1.out HB.out) | (with_reducible refine Kd.C_alloc ?_ _) | (with_reducible refine Kd.C_drewN ?_ _) | (with_reducible refine Kd.C_drew ?_)));(case side2 => exact HC1.out);rintro e w28 ⟨v286,rfl,ho0,hb⟩;refine ⟨_,rfl, ?_⟩;have n0_:=Aside0.mk (Kd.R_below (by (with_reducible repeat (first | apply Kd.R_alloc | apply Kd.R_drewN | apply Kd.R_drew));exact HO270.out) hb);have n1_:=Aside0.mk (Kd.R_elder' (by (with_reducible repeat (first | apply Kd.R_alloc | apply Kd.R_drewN | apply Kd.R_drew));exact HO273.out) (Kd.R_base ho0) hb);have n2_:=Aside0.mk (Kd.R_below (by (with_reducible repeat (first | apply Kd.R_alloc | apply Kd.R_drewN | apply Kd.R_drew));exact HO276.out) hb);have n3_:=Aside0.mk (Kd.R_below (by (with_reducible repeat (first | apply Kd.R_alloc | apply Kd.R_drewN | apply Kd.R_drew));exact HO281.out) hb);have n4_:=Aside0.mk (Kd.R_below (by (with_reducible repeat (first | apply Kd.R_alloc | apply Kd.R_drewN | apply Kd.R_drew));exact HO284.out) hb);have n5_:=Aside0.mk (Kd.R_lower (Kd.R_new' ho0 (Kd.R_lt (by (with_reducible repeat (first | apply Kd.R_alloc | apply Kd.R_drewN | apply Kd.R_drew));exact HO273.out))) (below_size (by repeat (first | (with_reducible first | exact HB.out | apply below_alloc | apply pw_below_drewN | apply below_drew1) | exact HB.out))));have n6_:=Aside0.mk (below_step (by repeat (first | (with_reducible first | exact HB.out | apply below_alloc | apply pw_below_drewN | apply below_drew1) | exact HB.out)) hb);clear HO270;clear HO273;clear HO276;clear HO281;clear HO284;clear HB;have HO270:=n0_;have HO273:=n1_;have HO276:=n2_;have HO281:=n3_;have HO284:=n4_;have HO287:=n5_;have HB:=n6_;clear n0_ n1_ n2_ n3_ n4_ n5_ n6_;(try clear hb);(try clear hb2);(try clear hk);(try clear hi);(try clear ho0)) | ((with_reducible refine gate_callee (f:=23) rfl ?_);refine goesL_ (some 52) rfl rfl Try.func23 (by kernel_rfl) rfl #[.slice A2 l2.length c2] rfl (by (try simp only [List.map_toArray,List.map_cons,List.map_nil]);first | done | rfl | (simp only [List.length_drop,List.length_take];rfl)) ?_;(with_reducible refine (laws_toIntS.calls k _ _ l2 t288 _ ?side1 ?side2 A16.out).mono ?_);(case side1 => repeat (first | exact (Kd.C_below HR2.out HB.out) | (with_reducible refine Kd.C_alloc ?_ _) | (with_reducible refine Kd.C_drewN ?_ _) | (with_reducible refine Kd.C_drew ?_)));(case side2 => exact HC2.out);rintro e w29 ⟨v289,rfl,ho0,hb⟩;refine ⟨_,rfl, ?_⟩;have n0_:=Aside0.mk (Kd.R_below (by (with_reducible repeat (first | apply Kd.R_alloc | apply Kd.R_drewN | apply Kd.R_drew));exact HO270.out) hb);have n1_:=Aside0.mk (Kd.R_below (by (with_reducible repeat (first | apply Kd.R_alloc | apply Kd.R_drewN | apply Kd.R_drew));exact HO273.out) hb);have n2_:=Aside0.mk (Kd.R_elder' (by (with_reducible repeat (first | apply Kd.R_alloc | apply Kd.R_drewN | apply Kd.R_drew));exact HO276.out) (Kd.R_base ho0) hb);have n3_:=Aside0.mk (Kd.R_elder' (by (with_reducible repeat (first | apply Kd.R_alloc | apply Kd.R_drewN | apply Kd.R_drew));exact HO281.out) (Kd.R_base ho0) hb);have n4_:=Aside0.mk (Kd.R_below (by (with_reducible repeat (first | apply Kd.R_alloc | apply Kd.R_drewN | apply Kd.R_drew));exact HO284.out) hb);have n5_:=Aside0.mk (Kd.R_below (by (with_reducible repeat (first | apply Kd.R_alloc | apply Kd.R_drewN | apply Kd.R_drew));exact HO287.out) hb);have n6_:=Aside0.mk (Kd.R_lower (Kd.R_new' (Kd.R_new' ho0 (Kd.R_lt (by (with_reducible repeat (first | apply Kd.R_alloc | apply Kd.R_drewN | apply Kd.R_drew));exact HO276.out))) (Kd.R_lt (by (with_reducible repeat (first | apply Kd.R_alloc | apply Kd.R_drewN | apply Kd.R_drew));exact HO281.out))) (below_size (by repeat (first | (with_reducible first | exact HB.out | apply below_alloc | apply pw_below_drewN | apply below_drew1) | exact HB.out))));have n7_:=Aside0.mk (below_step (by repeat (first | (with_reducible first | exact HB.out | apply below_alloc | apply pw_below_drewN | apply below_drew1) | exact HB.out)) hb);clear HO270;clear HO273;clear HO276;clear HO281;clear HO284;clear HO287;clear HB;have HO270:=n0_;have HO273:=n1_;have HO276:=n2_;have HO281:=n3_;have HO284:=n4_;have HO287:=n5_;have HO290:=n6_;have HB:=n7_;clear n0_ n1_ n2_ n3_ n4_ n5_ n6_ n7_;(try clear hb);(try clear hb2);(try clear hk);(try clear hi);(try clear ho0);obtain ⟨Ao30,co30,eo30⟩ := Kd.R_slice HO284.out;subst eo30;obtain ⟨Ao31,co31,eo31⟩ := Kd.R_slice HO287.out;subst eo31;obtain ⟨Ao32,co32,eo32⟩ := Kd.R_slice HO290.out;subst eo32) | ((with_reducible refine gate_callee (f:=40) rfl ?_);refine goesL_ (some 57) rfl rfl Try.func40 (by kernel_rfl) rfl #[.slice Ao30 t282.length co30, .slice Ao31 t285.length co31, .slice Ao32 t288.length co32] rfl (by (try simp only [List.map_toArray,List.map_cons,List.map_nil]);first | done | rfl | (simp only [List.length_drop,List.length_take];rfl)) ?_;(with_reducible refine (impl_WagonWeights.calls k _ _ t282 _ _ t285 _ _ t288 t291 t292 t293 _ ?side1 ?side2 ?side3 ?side4 ?side5 ?side6 A17.out).mono ?_);(case side1 => repeat (first | exact (Kd.R_reads' HO284.out).2.2 | (with_reducible refine Kd.C_alloc ?_ _) | (with_reducible refine Kd.C_drewN ?_ _) | (with_reducible refine Kd.C_drew ?_)));(case side2 => exact (Kd.R_reads' HO284.out).2.1);(case side3 => repeat (first | exact (Kd.R_reads' HO287.out).2.2 | (with_reducible refine Kd.C_alloc ?_ _) | (with_reducible refine Kd.C_drewN ?_ _) | (with_reducible refine Kd.C_drew ?_)));(case side4 => exact (Kd.R_reads' HO287.out).2.1);(case side5 => repeat (first | exact (Kd.R_reads' HO290.out).2.2 | (with_reducible refine Kd.C_alloc ?_ _) | (with_reducible refine Kd.C_drewN ?_ _) | (with_reducible refine Kd.C_drew ?_)));(case side6 => exact (Kd.R_reads' HO290.out).2.1);rintro e w33 ⟨v294,rfl,ho0,hb⟩;refine ⟨_,rfl, ?_⟩;have n0_:=Aside0.mk (Kd.R_below (by (with_reducible repeat (first | apply Kd.R_alloc | apply Kd.R_drewN | apply Kd.R_drew));exact HO270.out) hb);have n1_:=Aside0.mk (Kd.R_below (by (with_reducible repeat (first | apply Kd.R_alloc | apply Kd.R_drewN | apply Kd.R_drew));exact HO273.out) hb);have n2_:=Aside0.mk (Kd.R_elder' (by (with_reducible repeat (first | apply Kd.R_alloc | apply Kd.R_drewN | apply Kd.R_drew));exact HO276.out) (Kd.R_base ho0) hb);have n3_:=Aside0.mk (Kd.R_elder' (by (with_reducible repeat (first | apply Kd.R_alloc | apply Kd.R_drewN | apply Kd.R_drew));exact HO281.out) (Kd.R_base ho0) hb);have n4_:=Aside0.mk (Kd.R_below (by (with_reducible repeat (first | apply Kd.R_alloc | apply Kd.R_drewN | apply Kd.R_drew));exact HO284.out) hb);have n5_:=Aside0.mk (Kd.R_below (by (with_reducible repeat (first | apply Kd.R_alloc | apply Kd.R_drewN | apply Kd.R_drew));exact HO287.out) hb);have n6_:=Aside0.mk (Kd.R_elder' (by (with_reducible repeat (first | apply Kd.R_alloc | apply Kd.R_drewN | apply Kd.R_drew));exact HO290.out) (Kd.R_base ho0) hb);have n7_:=Aside0.mk (Kd.R_lower (Kd.R_new' (Kd.R_new' (Kd.R_new' ho0 (Kd.R_lt (by (with_reducible repeat (first | apply Kd.R_alloc | apply Kd.R_drewN | apply Kd.R_drew));exact HO276.out))) (Kd.R_lt (by (with_reducible repeat (first | apply Kd.R_alloc | apply Kd.R_drewN | apply Kd.R_drew));exact HO281.out))) (Kd.R_lt (by (with_reducible repeat (first | apply Kd.R_alloc | apply Kd.R_drewN | apply Kd.R_drew));exact HO290.out))) (below_size (by repeat (first | (with_reducible first | exact HB.out | apply below_alloc | apply pw_below_drewN | apply below_drew1) | exact HB.out))));have n8_:=Aside0.mk (below_step (by repeat (first | (with_reducible first | exact HB.out | apply below_alloc | apply pw_below_drewN | apply below_drew1) | exact HB.out)) hb);clear HO270;clear HO273;clear HO276;clear HO281;clear HO284;clear HO287;clear HO290;clear HB;have HO270:=n0_;have HO273:=n1_;have HO276:=n2_;have HO281:=n3_;have HO284:=n4_;have HO287:=n5_;have HO290:=n6_;have HO295:=n7_;have HB:=n8_;clear n0_ n1_ n2_ n3_ n4_ n5_ n6_ n7_ n8_;(try clear hb);(try clear hb2);(try clear hk);(try clear hi);(try clear ho0)))
    (try simp only [Act.put,sA_,s0_,s1_])
    go_cut [74] (fun v74 wc => ∃ (kq : Nat) (x74_17 : Bool),v74 = .bool x74_17 ∧ Aside0 (laws_FnExactWagonWeights.j0 kq l0 l1 l2 t277 t278 t279 t282 t285 t288 t291 t292 t293 x74_17 = some r) ∧ Aside0 (kq ≤ k) ∧ Aside0 (Kd.R (Kd.int .i64) 3 wc w.heap.size (fun k_ => some k_ ≠ ((.slice Ao32 t288.length co32) : Value).ownBlock ∧ some k_ ≠ (v294 : Value).ownBlock) v280 t277) ∧ Aside0 (Kd.R k70 70 wc w.heap.size (fun _ => True) (.slice Ao30 t282.length co30) t282) ∧ Aside0 (Kd.R k64 64 wc w.heap.size (fun _ => True) (.slice Ao31 t285.length co31) t285) ∧ Aside0 (Kd.R (Kd.int .i64) 3 wc w.heap.size (fun k_ => some k_ ≠ (v280 : Value).ownBlock ∧ some k_ ≠ (v294 : Value).ownBlock) (.slice Ao32 t288.length co32) t288) ∧ Aside0 (Kd.R (Kd.int .i64) 3 wc w.heap.size (fun k_ => some k_ ≠ (v280 : Value).ownBlock ∧ some k_ ≠ ((.slice Ao32 t288.length co32) : Value).ownBlock) v294 t291) ∧ Aside0 (Below w.heap.size w wc))
    case first =>
     have H:=HC18.out
     clear HC18
     replace H:=Option.bind_eq_some_iff.mp H
     obtain ⟨t296,A340,H⟩ := H
     replace H : (if t296 = true then (if t292 = t278 then (laws_FnExactWagonWeights.j0 k l0 l1 l2 t277 t278 t279 t282 t285 t288 t291 t292 t293 (t293 != t279)) else (laws_FnExactWagonWeights.j0 k l0 l1 l2 t277 t278 t279 t282 t285 t288 t291 t292 t293 true)) else (laws_FnExactWagonWeights.j0 k l0 l1 l2 t277 t278 t279 t282 t285 t288 t291 t292 t293 true)) = some r:=H
     have A34:=Aside0.mk A340
     clear A340
     by_cases c35 : t296 = true
     ·subst c35
      have H1 : (if t292 = t278 then (laws_FnExactWagonWeights.j0 k l0 l1 l2 t277 t278 t279 t282 t285 t288 t291 t292 t293 (t293 != t279)) else (laws_FnExactWagonWeights.j0 k l0 l1 l2 t277 t278 t279 t282 t285 t288 t291 t292 t293 true)) = some r:=by rw [if_pos rfl] at H;exact H
      clear H
      have H:=H1
      clear H1
      by_cases c36 : t292 = t278
      ·rw [if_pos c36] at H
       have c36b0 : (t292 == t278) = true:=beq_iff_eq.mpr c36
       have c36b1 : (t292 != t278) = false:=bne_eq_false_iff_eq.mpr c36
       clear c36
       (first | rw [c36b0] | (simp only [i64_w,i32_w];rw [c36b0]) | skip)
       have H':=Aside0.mk H
       clear H
       obtain ⟨Ao37,co37,eo37⟩ := Kd.R_slice HO295.out
       subst eo37
       obtain ⟨Ao38,co38,eo38⟩ := Kd.R_slice HO281.out
       subst eo38
       go_wp2_with (first | ((with_reducible refine gate_callee (f:=26) rfl ?_);refine goesL_ (some 63) rfl rfl Try.func26 (by kernel_rfl) rfl #[.slice Ao37 t291.length co37, .slice Ao38 t277.length co38] rfl (by (try simp only [List.map_toArray,List.map_cons,List.map_nil]);first | done | rfl | (simp only [List.length_drop,List.length_take];rfl)) ?_;(with_reducible refine (laws_eqIntS.calls k _ _ t291 _ _ t277 true _ ?side1 ?side2 ?side3 ?side4 A34.out).mono ?_);(case side1 => repeat (first | exact (Kd.R_reads' HO295.out).2.2 | (with_reducible refine Kd.C_alloc ?_ _) | (with_reducible refine Kd.C_drewN ?_ _) | (with_reducible refine Kd.C_drew ?_)));(case side2 => exact (Kd.R_reads' HO295.out).2.1);(case side3 => repeat (first | exact (Kd.R_reads' HO281.out).2.2 | (with_reducible refine Kd.C_alloc ?_ _) | (with_reducible refine Kd.C_drewN ?_ _) | (with_reducible refine Kd.C_drew ?_)));(case side4 => exact (Kd.R_reads' HO281.out).2.1);rintro e w' ⟨rfl,⟨nd,rfl⟩⟩;refine ⟨_,rfl, ?_⟩))
       go_meet
       case rel => exact ⟨_,((t293 != t279)),(by first | rfl | (simp;done) | (simp [*];done)),H',⟨by first | omega | exact Nat.le_refl _⟩,⟨by (with_reducible repeat (first | apply Kd.R_alloc | apply Kd.R_drewN | apply Kd.R_drew));exact Kd.R_mono HO281.out (fun _ hk => ⟨hk.1.2,hk.2⟩)⟩,⟨by (with_reducible repeat (first | apply Kd.R_alloc | apply Kd.R_drewN | apply Kd.R_drew));exact Kd.R_mono HO284.out (fun _ hk => trivial)⟩,⟨by (with_reducible repeat (first | apply Kd.R_alloc | apply Kd.R_drewN | apply Kd.R_drew));exact Kd.R_mono HO287.out (fun _ hk => trivial)⟩,⟨by (with_reducible repeat (first | apply Kd.R_alloc | apply Kd.R_drewN | apply Kd.R_drew));exact Kd.R_mono HO290.out (fun _ hk => ⟨hk.1.2,hk.2⟩)⟩,⟨by (with_reducible repeat (first | apply Kd.R_alloc | apply Kd.R_drewN | apply Kd.R_drew));exact Kd.R_mono HO295.out (fun _ hk => ⟨hk.1.2,hk.2⟩)⟩,⟨by repeat (first | (with_reducible first | exact HB.out | apply below_alloc | apply pw_below_drewN | apply below_drew1) | exact HB.out)⟩⟩
      ·rw [if_neg c36] at H
       have c36b0 : (t292 == t278) = false:=beq_eq_false_iff_ne.mpr c36
       have c36b1 : (t292 != t278) = true:=bne_iff_ne.mpr c36
       (first | rw [c36b0] | (simp only [i64_w,i32_w];rw [c36b0]) | skip)
       have H':=Aside0.mk H
       clear H
       obtain ⟨Ao39,co39,eo39⟩ := Kd.R_slice HO295.out
       subst eo39
       obtain ⟨Ao40,co40,eo40⟩ := Kd.R_slice HO281.out
       subst eo40
       go_wp2_with (first | ((with_reducible refine gate_callee (f:=26) rfl ?_);refine goesL_ (some 63) rfl rfl Try.func26 (by kernel_rfl) rfl #[.slice Ao39 t291.length co39, .slice Ao40 t277.length co40] rfl (by (try simp only [List.map_toArray,List.map_cons,List.map_nil]);first | done | rfl | (simp only [List.length_drop,List.length_take];rfl)) ?_;(with_reducible refine (laws_eqIntS.calls k _ _ t291 _ _ t277 true _ ?side1 ?side2 ?side3 ?side4 A34.out).mono ?_);(case side1 => repeat (first | exact (Kd.R_reads' HO295.out).2.2 | (with_reducible refine Kd.C_alloc ?_ _) | (with_reducible refine Kd.C_drewN ?_ _) | (with_reducible refine Kd.C_drew ?_)));(case side2 => exact (Kd.R_reads' HO295.out).2.1);(case side3 => repeat (first | exact (Kd.R_reads' HO281.out).2.2 | (with_reducible refine Kd.C_alloc ?_ _) | (with_reducible refine Kd.C_drewN ?_ _) | (with_reducible refine Kd.C_drew ?_)));(case side4 => exact (Kd.R_reads' HO281.out).2.1);rintro e w' ⟨rfl,⟨nd,rfl⟩⟩;refine ⟨_,rfl, ?_⟩))
       go_meet
       case rel => exact ⟨_,(true),(by first | rfl | (simp;done) | (simp [*];done)),H',⟨by first | omega | exact Nat.le_refl _⟩,⟨by (with_reducible repeat (first | apply Kd.R_alloc | apply Kd.R_drewN | apply Kd.R_drew));exact Kd.R_mono HO281.out (fun _ hk => ⟨hk.1.2,hk.2⟩)⟩,⟨by (with_reducible repeat (first | apply Kd.R_alloc | apply Kd.R_drewN | apply Kd.R_drew));exact Kd.R_mono HO284.out (fun _ hk => trivial)⟩,⟨by (with_reducible repeat (first | apply Kd.R_alloc | apply Kd.R_drewN | apply Kd.R_drew));exact Kd.R_mono HO287.out (fun _ hk => trivial)⟩,⟨by (with_reducible repeat (first | apply Kd.R_alloc | apply Kd.R_drewN | apply Kd.R_drew));exact Kd.R_mono HO290.out (fun _ hk => ⟨hk.1.2,hk.2⟩)⟩,⟨by (with_reducible repeat (first | apply Kd.R_alloc | apply Kd.R_drewN | apply Kd.R_drew));exact Kd.R_mono HO295.out (fun _ hk => ⟨hk.1.2,hk.2⟩)⟩,⟨by repeat (first | (with_reducible first | exact HB.out | apply below_alloc | apply pw_below_drewN | apply below_drew1) | exact HB.out)⟩⟩
     ·replace c35:=Bool.eq_false_iff.mpr c35
      subst c35
      have H1 : (laws_FnExactWagonWeights.j0 k l0 l1 l2 t277 t278 t279 t282 t285 t288 t291 t292 t293 true) = some r:=by rw [if_neg (show ¬ (false = true) by decide)] at H;exact H
      clear H
      have H:=H1
      clear H1
      have H':=Aside0.mk H
      clear H
      obtain ⟨Ao41,co41,eo41⟩ := Kd.R_slice HO295.out
      subst eo41
      obtain ⟨Ao42,co42,eo42⟩ := Kd.R_slice HO281.out
      subst eo42
      go_wp2_with (first | ((with_reducible refine gate_callee (f:=26) rfl ?_);refine goesL_ (some 63) rfl rfl Try.func26 (by kernel_rfl) rfl #[.slice Ao41 t291.length co41, .slice Ao42 t277.length co42] rfl (by (try simp only [List.map_toArray,List.map_cons,List.map_nil]);first | done | rfl | (simp only [List.length_drop,List.length_take];rfl)) ?_;(with_reducible refine (laws_eqIntS.calls k _ _ t291 _ _ t277 false _ ?side1 ?side2 ?side3 ?side4 A34.out).mono ?_);(case side1 => repeat (first | exact (Kd.R_reads' HO295.out).2.2 | (with_reducible refine Kd.C_alloc ?_ _) | (with_reducible refine Kd.C_drewN ?_ _) | (with_reducible refine Kd.C_drew ?_)));(case side2 => exact (Kd.R_reads' HO295.out).2.1);(case side3 => repeat (first | exact (Kd.R_reads' HO281.out).2.2 | (with_reducible refine Kd.C_alloc ?_ _) | (with_reducible refine Kd.C_drewN ?_ _) | (with_reducible refine Kd.C_drew ?_)));(case side4 => exact (Kd.R_reads' HO281.out).2.1);rintro e w' ⟨rfl,⟨nd,rfl⟩⟩;refine ⟨_,rfl, ?_⟩))
      go_meet
      case rel => exact ⟨_,(true),(by first | rfl | (simp;done) | (simp [*];done)),H',⟨by first | omega | exact Nat.le_refl _⟩,⟨by (with_reducible repeat (first | apply Kd.R_alloc | apply Kd.R_drewN | apply Kd.R_drew));exact Kd.R_mono HO281.out (fun _ hk => ⟨hk.1.2,hk.2⟩)⟩,⟨by (with_reducible repeat (first | apply Kd.R_alloc | apply Kd.R_drewN | apply Kd.R_drew));exact Kd.R_mono HO284.out (fun _ hk => trivial)⟩,⟨by (with_reducible repeat (first | apply Kd.R_alloc | apply Kd.R_drewN | apply Kd.R_drew));exact Kd.R_mono HO287.out (fun _ hk => trivial)⟩,⟨by (with_reducible repeat (first | apply Kd.R_alloc | apply Kd.R_drewN | apply Kd.R_drew));exact Kd.R_mono HO290.out (fun _ hk => ⟨hk.1.2,hk.2⟩)⟩,⟨by (with_reducible repeat (first | apply Kd.R_alloc | apply Kd.R_drewN | apply Kd.R_drew));exact Kd.R_mono HO295.out (fun _ hk => ⟨hk.1.2,hk.2⟩)⟩,⟨by repeat (first | (with_reducible first | exact HB.out | apply below_alloc | apply pw_below_drewN | apply below_drew1) | exact HB.out)⟩⟩
    case rest =>
     clear HC18
     try clear c1
     try clear c2
     try clear p2
     try clear c3
     try clear c4
     try clear c4b0
     try clear c4b1
     try clear c6
     try clear c6b0
     try clear c8
     try clear c8b0
     try clear c9
     try clear c15
     try clear c17
     try clear c20
     try clear c22
     try clear c23
     try clear c26
     try clear c35
     try clear c36
     try clear c36b0
     try clear c36b1
     try clear c39
     try clear c40
     obtain ⟨kq,x74_17,rfl,HA,HJ17,HO_8,HO_11,HO_12,HO_13,HO_14,HB⟩ := hcut
     cases kq with
     | zero => exact absurd HA.out (by simp [laws_FnExactWagonWeights.j0])
     | succ kj17 =>
      have H:=HA.out
      clear HA
      simp only [laws_FnExactWagonWeights.j0] at H
      by_cases c43 : x74_17 = true
      ·subst c43
       have H1 : (some false) = some r:=by rw [if_pos rfl] at H;exact H
       clear H
       have H:=H1
       clear H1
       obtain rfl:=Option.some.inj H
       go_wp2
       go_ret
       exact ⟨by first | rfl | (simp [errW_none,errW_some] <;> rfl) | (simp [*,errW_none,errW_some] <;> rfl),by repeat (first | (with_reducible first | exact HB.out | apply below_alloc | apply pw_below_drewN | apply below_drew1) | exact HB.out)⟩
      ·replace c43:=Bool.eq_false_iff.mpr c43
       subst c43
       have H1 : ((laws_toWagonS.f kj17 l0).bind fun t297 => ((laws_eqWagonS.f kj17 t282 t297).bind fun t300 => (if t300 = true then ((laws_toContainerS.f kj17 l1).bind fun t301 => ((laws_eqContainerS.f kj17 t285 t301).bind fun t304 => (if t304 = true then ((laws_toIntS.f kj17 l2).bind fun t305 => ((laws_eqIntS.f kj17 t288 t305).bind fun t308 => (if t308 = true then ((laws_markWagonS.f kj17 t282 1).bind fun bt309 => ((laws_markContainerS.f kj17 t285 bt309.1).bind fun bt311 => ((laws_markIntS.f kj17 t288 bt311.1).bind fun bt313 => (if bt313.1 < 0 then (laws_FnExactWagonWeights.j1 kj17 l0 l1 l2 t277 t278 t279 t291 true) else ((laws_eqIntS.f kj17 t291 t277).bind fun t315 => (if t315 = true then (if t292 = t278 then (laws_FnExactWagonWeights.j1 kj17 l0 l1 l2 t277 t278 t279 t291 (t293 != t279)) else (laws_FnExactWagonWeights.j1 kj17 l0 l1 l2 t277 t278 t279 t291 true)) else (laws_FnExactWagonWeights.j1 kj17 l0 l1 l2 t277 t278 t279 t291 true))))))) else (some false)))) else (some false)))) else (some false)))) = some r:=by rw [if_neg (show ¬ (false = true) by decide)] at H;exact H
       clear H
       have H:=H1
       clear H1
       replace H:=Option.bind_eq_some_iff.mp H
       obtain ⟨t297,A440,H⟩ := H
       replace H : ((laws_eqWagonS.f kj17 t282 t297).bind fun t300 => (if t300 = true then ((laws_toContainerS.f kj17 l1).bind fun t301 => ((laws_eqContainerS.f kj17 t285 t301).bind fun t304 => (if t304 = true then ((laws_toIntS.f kj17 l2).bind fun t305 => ((laws_eqIntS.f kj17 t288 t305).bind fun t308 => (if t308 = true then ((laws_markWagonS.f kj17 t282 1).bind fun bt309 => ((laws_markContainerS.f kj17 t285 bt309.1).bind fun bt311 => ((laws_markIntS.f kj17 t288 bt311.1).bind fun bt313 => (if bt313.1 < 0 then (laws_FnExactWagonWeights.j1 kj17 l0 l1 l2 t277 t278 t279 t291 true) else ((laws_eqIntS.f kj17 t291 t277).bind fun t315 => (if t315 = true then (if t292 = t278 then (laws_FnExactWagonWeights.j1 kj17 l0 l1 l2 t277 t278 t279 t291 (t293 != t279)) else (laws_FnExactWagonWeights.j1 kj17 l0 l1 l2 t277 t278 t279 t291 true)) else (laws_FnExactWagonWeights.j1 kj17 l0 l1 l2 t277 t278 t279 t291 true))))))) else (some false)))) else (some false)))) else (some false))) = some r:=H
       have A44:=Aside0.mk A440
       clear A440
       replace H:=Option.bind_eq_some_iff.mp H
       obtain ⟨t300,A450,H⟩ := H
       replace H : (if t300 = true then ((laws_toContainerS.f kj17 l1).bind fun t301 => ((laws_eqContainerS.f kj17 t285 t301).bind fun t304 => (if t304 = true then ((laws_toIntS.f kj17 l2).bind fun t305 => ((laws_eqIntS.f kj17 t288 t305).bind fun t308 => (if t308 = true then ((laws_markWagonS.f kj17 t282 1).bind fun bt309 => ((laws_markContainerS.f kj17 t285 bt309.1).bind fun bt311 => ((laws_markIntS.f kj17 t288 bt311.1).bind fun bt313 => (if bt313.1 < 0 then (laws_FnExactWagonWeights.j1 kj17 l0 l1 l2 t277 t278 t279 t291 true) else ((laws_eqIntS.f kj17 t291 t277).bind fun t315 => (if t315 = true then (if t292 = t278 then (laws_FnExactWagonWeights.j1 kj17 l0 l1 l2 t277 t278 t279 t291 (t293 != t279)) else (laws_FnExactWagonWeights.j1 kj17 l0 l1 l2 t277 t278 t279 t291 true)) else (laws_FnExactWagonWeights.j1 kj17 l0 l1 l2 t277 t278 t279 t291 true))))))) else (some false)))) else (some false)))) else (some false)) = some r:=H
       have A45:=Aside0.mk A450
       clear A450
       by_cases c46 : t300 = true
       ·subst c46
        have H1 : ((laws_toContainerS.f kj17 l1).bind fun t301 => ((laws_eqContainerS.f kj17 t285 t301).bind fun t304 => (if t304 = true then ((laws_toIntS.f kj17 l2).bind fun t305 => ((laws_eqIntS.f kj17 t288 t305).bind fun t308 => (if t308 = true then ((laws_markWagonS.f kj17 t282 1).bind fun bt309 => ((laws_markContainerS.f kj17 t285 bt309.1).bind fun bt311 => ((laws_markIntS.f kj17 t288 bt311.1).bind fun bt313 => (if bt313.1 < 0 then (laws_FnExactWagonWeights.j1 kj17 l0 l1 l2 t277 t278 t279 t291 true) else ((laws_eqIntS.f kj17 t291 t277).bind fun t315 => (if t315 = true then (if t292 = t278 then (laws_FnExactWagonWeights.j1 kj17 l0 l1 l2 t277 t278 t279 t291 (t293 != t279)) else (laws_FnExactWagonWeights.j1 kj17 l0 l1 l2 t277 t278 t279 t291 true)) else (laws_FnExactWagonWeights.j1 kj17 l0 l1 l2 t277 t278 t279 t291 true))))))) else (some false)))) else (some false)))) = some r:=by rw [if_pos rfl] at H;exact H
        clear H
        have H:=H1
        clear H1
        replace H:=Option.bind_eq_some_iff.mp H
        obtain ⟨t301,A470,H⟩ := H
        replace H : ((laws_eqContainerS.f kj17 t285 t301).bind fun t304 => (if t304 = true then ((laws_toIntS.f kj17 l2).bind fun t305 => ((laws_eqIntS.f kj17 t288 t305).bind fun t308 => (if t308 = true then ((laws_markWagonS.f kj17 t282 1).bind fun bt309 => ((laws_markContainerS.f kj17 t285 bt309.1).bind fun bt311 => ((laws_markIntS.f kj17 t288 bt311.1).bind fun bt313 => (if bt313.1 < 0 then (laws_FnExactWagonWeights.j1 kj17 l0 l1 l2 t277 t278 t279 t291 true) else ((laws_eqIntS.f kj17 t291 t277).bind fun t315 => (if t315 = true then (if t292 = t278 then (laws_FnExactWagonWeights.j1 kj17 l0 l1 l2 t277 t278 t279 t291 (t293 != t279)) else (laws_FnExactWagonWeights.j1 kj17 l0 l1 l2 t277 t278 t279 t291 true)) else (laws_FnExactWagonWeights.j1 kj17 l0 l1 l2 t277 t278 t279 t291 true))))))) else (some false)))) else (some false))) = some r:=H
        have A47:=Aside0.mk A470
        clear A470
        replace H:=Option.bind_eq_some_iff.mp H
        obtain ⟨t304,A480,H⟩ := H
        replace H : (if t304 = true then ((laws_toIntS.f kj17 l2).bind fun t305 => ((laws_eqIntS.f kj17 t288 t305).bind fun t308 => (if t308 = true then ((laws_markWagonS.f kj17 t282 1).bind fun bt309 => ((laws_markContainerS.f kj17 t285 bt309.1).bind fun bt311 => ((laws_markIntS.f kj17 t288 bt311.1).bind fun bt313 => (if bt313.1 < 0 then (laws_FnExactWagonWeights.j1 kj17 l0 l1 l2 t277 t278 t279 t291 true) else ((laws_eqIntS.f kj17 t291 t277).bind fun t315 => (if t315 = true then (if t292 = t278 then (laws_FnExactWagonWeights.j1 kj17 l0 l1 l2 t277 t278 t279 t291 (t293 != t279)) else (laws_FnExactWagonWeights.j1 kj17 l0 l1 l2 t277 t278 t279 t291 true)) else (laws_FnExactWagonWeights.j1 kj17 l0 l1 l2 t277 t278 t279 t291 true))))))) else (some false)))) else (some false)) = some r:=H
        have A48:=Aside0.mk A480
        clear A480
        by_cases c49 : t304 = true
        ·subst c49
         have H1 : ((laws_toIntS.f kj17 l2).bind fun t305 => ((laws_eqIntS.f kj17 t288 t305).bind fun t308 => (if t308 = true then ((laws_markWagonS.f kj17 t282 1).bind fun bt309 => ((laws_markContainerS.f kj17 t285 bt309.1).bind fun bt311 => ((laws_markIntS.f kj17 t288 bt311.1).bind fun bt313 => (if bt313.1 < 0 then (laws_FnExactWagonWeights.j1 kj17 l0 l1 l2 t277 t278 t279 t291 true) else ((laws_eqIntS.f kj17 t291 t277).bind fun t315 => (if t315 = true then (if t292 = t278 then (laws_FnExactWagonWeights.j1 kj17 l0 l1 l2 t277 t278 t279 t291 (t293 != t279)) else (laws_FnExactWagonWeights.j1 kj17 l0 l1 l2 t277 t278 t279 t291 true)) else (laws_FnExactWagonWeights.j1 kj17 l0 l1 l2 t277 t278 t279 t291 true))))))) else (some false)))) = some r:=by rw [if_pos rfl] at H;exact H
         clear H
         have H:=H1
         clear H1
         replace H:=Option.bind_eq_some_iff.mp H
         obtain ⟨t305,A500,H⟩ := H
         replace H : ((laws_eqIntS.f kj17 t288 t305).bind fun t308 => (if t308 = true then ((laws_markWagonS.f kj17 t282 1).bind fun bt309 => ((laws_markContainerS.f kj17 t285 bt309.1).bind fun bt311 => ((laws_markIntS.f kj17 t288 bt311.1).bind fun bt313 => (if bt313.1 < 0 then (laws_FnExactWagonWeights.j1 kj17 l0 l1 l2 t277 t278 t279 t291 true) else ((laws_eqIntS.f kj17 t291 t277).bind fun t315 => (if t315 = true then (if t292 = t278 then (laws_FnExactWagonWeights.j1 kj17 l0 l1 l2 t277 t278 t279 t291 (t293 != t279)) else (laws_FnExactWagonWeights.j1 kj17 l0 l1 l2 t277 t278 t279 t291 true)) else (laws_FnExactWagonWeights.j1 kj17 l0 l1 l2 t277 t278 t279 t291 true))))))) else (some false))) = some r:=H
         have A50:=Aside0.mk A500
         clear A500
         replace H:=Option.bind_eq_some_iff.mp H
         obtain ⟨t308,A510,H⟩ := H
         replace H : (if t308 = true then ((laws_markWagonS.f kj17 t282 1).bind fun bt309 => ((laws_markContainerS.f kj17 t285 bt309.1).bind fun bt311 => ((laws_markIntS.f kj17 t288 bt311.1).bind fun bt313 => (if bt313.1 < 0 then (laws_FnExactWagonWeights.j1 kj17 l0 l1 l2 t277 t278 t279 t291 true) else ((laws_eqIntS.f kj17 t291 t277).bind fun t315 => (if t315 = true then (if t292 = t278 then (laws_FnExactWagonWeights.j1 kj17 l0 l1 l2 t277 t278 t279 t291 (t293 != t279)) else (laws_FnExactWagonWeights.j1 kj17 l0 l1 l2 t277 t278 t279 t291 true)) else (laws_FnExactWagonWeights.j1 kj17 l0 l1 l2 t277 t278 t279 t291 true))))))) else (some false)) = some r:=H
         have A51:=Aside0.mk A510
         clear A510
         by_cases c52 : t308 = true
         ·subst c52
          have H1 : ((laws_markWagonS.f kj17 t282 1).bind fun bt309 => ((laws_markContainerS.f kj17 t285 bt309.1).bind fun bt311 => ((laws_markIntS.f kj17 t288 bt311.1).bind fun bt313 => (if bt313.1 < 0 then (laws_FnExactWagonWeights.j1 kj17 l0 l1 l2 t277 t278 t279 t291 true) else ((laws_eqIntS.f kj17 t291 t277).bind fun t315 => (if t315 = true then (if t292 = t278 then (laws_FnExactWagonWeights.j1 kj17 l0 l1 l2 t277 t278 t279 t291 (t293 != t279)) else (laws_FnExactWagonWeights.j1 kj17 l0 l1 l2 t277 t278 t279 t291 true)) else (laws_FnExactWagonWeights.j1 kj17 l0 l1 l2 t277 t278 t279 t291 true))))))) = some r:=by rw [if_pos rfl] at H;exact H
          clear H
          have H:=H1
          clear H1
          replace H:=Option.bind_eq_some_iff.mp H
          obtain ⟨⟨t309,t310⟩,A530,H⟩ := H
          replace H : ((laws_markContainerS.f kj17 t285 t309).bind fun bt311 => ((laws_markIntS.f kj17 t288 bt311.1).bind fun bt313 => (if bt313.1 < 0 then (laws_FnExactWagonWeights.j1 kj17 l0 l1 l2 t277 t278 t279 t291 true) else ((laws_eqIntS.f kj17 t291 t277).bind fun t315 => (if t315 = true then (if t292 = t278 then (laws_FnExactWagonWeights.j1 kj17 l0 l1 l2 t277 t278 t279 t291 (t293 != t279)) else (laws_FnExactWagonWeights.j1 kj17 l0 l1 l2 t277 t278 t279 t291 true)) else (laws_FnExactWagonWeights.j1 kj17 l0 l1 l2 t277 t278 t279 t291 true)))))) = some r:=H
          have A53:=Aside0.mk A530
          clear A530
          replace H:=Option.bind_eq_some_iff.mp H
          obtain ⟨⟨t311,t312⟩,A540,H⟩ := H
          replace H : ((laws_markIntS.f kj17 t288 t311).bind fun bt313 => (if bt313.1 < 0 then (laws_FnExactWagonWeights.j1 kj17 l0 l1 l2 t277 t278 t279 t291 true) else ((laws_eqIntS.f kj17 t291 t277).bind fun t315 => (if t315 = true then (if t292 = t278 then (laws_FnExactWagonWeights.j1 kj17 l0 l1 l2 t277 t278 t279 t291 (t293 != t279)) else (laws_FnExactWagonWeights.j1 kj17 l0 l1 l2 t277 t278 t279 t291 true)) else (laws_FnExactWagonWeights.j1 kj17 l0 l1 l2 t277 t278 t279 t291 true))))) = some r:=H
          have A54:=Aside0.mk A540
          clear A540
          replace H:=Option.bind_eq_some_iff.mp H
          obtain ⟨⟨t313,t314⟩,A550,H⟩ := H
          replace H : (if t313 < 0 then (laws_FnExactWagonWeights.j1 kj17 l0 l1 l2 t277 t278 t279 t291 true) else ((laws_eqIntS.f kj17 t291 t277).bind fun t315 => (if t315 = true then (if t292 = t278 then (laws_FnExactWagonWeights.j1 kj17 l0 l1 l2 t277 t278 t279 t291 (t293 != t279)) else (laws_FnExactWagonWeights.j1 kj17 l0 l1 l2 t277 t278 t279 t291 true)) else (laws_FnExactWagonWeights.j1 kj17 l0 l1 l2 t277 t278 t279 t291 true)))) = some r:=H
          have A55:=Aside0.mk A550
          clear A550
          have HC56:=Aside0.mk H
          clear H
          go_upto_region 27 with (first | ((with_reducible refine gate_callee (f:=17) rfl ?_);refine goesL_ (some 77) rfl rfl Try.func17 (by kernel_rfl) rfl #[.slice A0 l0.length c0] rfl (by (try simp only [List.map_toArray,List.map_cons,List.map_nil]);first | done | rfl | (simp only [List.length_drop,List.length_take];rfl)) ?_;(with_reducible refine (laws_toWagonS.calls kj17 _ _ l0 t297 _ ?side1 ?side2 A44.out).mono ?_);(case side1 => repeat (first | exact (Kd.C_below HR0.out HB.out) | (with_reducible refine Kd.C_alloc ?_ _) | (with_reducible refine Kd.C_drewN ?_ _) | (with_reducible refine Kd.C_drew ?_)));(case side2 => exact HC0.out);rintro e w57 ⟨v298,rfl,ho0,hb⟩;refine ⟨_,rfl, ?_⟩;have n0_:=Aside0.mk (Kd.R_below (by (with_reducible repeat (first | apply Kd.R_alloc | apply Kd.R_drewN | apply Kd.R_drew));exact HO_8.out) hb);have n1_:=Aside0.mk (Kd.R_elder' (by (with_reducible repeat (first | apply Kd.R_alloc | apply Kd.R_drewN | apply Kd.R_drew));exact HO_11.out) (Kd.R_base ho0) hb);have n2_:=Aside0.mk (Kd.R_below (by (with_reducible repeat (first | apply Kd.R_alloc | apply Kd.R_drewN | apply Kd.R_drew));exact HO_12.out) hb);have n3_:=Aside0.mk (Kd.R_below (by (with_reducible repeat (first | apply Kd.R_alloc | apply Kd.R_drewN | apply Kd.R_drew));exact HO_13.out) hb);have n4_:=Aside0.mk (Kd.R_below (by (with_reducible repeat (first | apply Kd.R_alloc | apply Kd.R_drewN | apply Kd.R_drew));exact HO_14.out) hb);have n5_:=Aside0.mk (Kd.R_lower (Kd.R_new' ho0 (Kd.R_lt (by (with_reducible repeat (first | apply Kd.R_alloc | apply Kd.R_drewN | apply Kd.R_drew));exact HO_11.out))) (below_size (by repeat (first | (with_reducible first | exact HB.out | apply below_alloc | apply pw_below_drewN | apply below_drew1) | exact HB.out))));have n6_:=Aside0.mk (below_step (by repeat (first | (with_reducible first | exact HB.out | apply below_alloc | apply pw_below_drewN | apply below_drew1) | exact HB.out)) hb);clear HO_8;clear HO_11;clear HO_12;clear HO_13;clear HO_14;clear HB;have HO_8:=n0_;have HO_11:=n1_;have HO_12:=n2_;have HO_13:=n3_;have HO_14:=n4_;have HO299:=n5_;have HB:=n6_;clear n0_ n1_ n2_ n3_ n4_ n5_ n6_;(try clear hb);(try clear hb2);(try clear hk);(try clear hi);(try clear ho0);obtain ⟨Ao58,co58,eo58⟩ := Kd.R_slice HO299.out;subst eo58) | ((with_reducible refine gate_callee (f:=19) rfl ?_);refine goesL_ (some 78) rfl rfl Try.func19 (by kernel_rfl) rfl #[.slice Ao30 t282.length co30, .slice Ao58 t297.length co58] rfl (by (try simp only [List.map_toArray,List.map_cons,List.map_nil]);first | done | rfl | (simp only [List.length_drop,List.length_take];rfl)) ?_;(with_reducible refine (laws_eqWagonS.calls kj17 _ _ t282 _ _ t297 true _ ?side1 ?side2 ?side3 ?side4 A45.out).mono ?_);(case side1 => repeat (first | exact (Kd.R_reads' HO_11.out).2.2 | (with_reducible refine Kd.C_alloc ?_ _) | (with_reducible refine Kd.C_drewN ?_ _) | (with_reducible refine Kd.C_drew ?_)));(case side2 => exact (Kd.R_reads' HO_11.out).2.1);(case side3 => repeat (first | exact (Kd.R_reads' HO299.out).2.2 | (with_reducible refine Kd.C_alloc ?_ _) | (with_reducible refine Kd.C_drewN ?_ _) | (with_reducible refine Kd.C_drew ?_)));(case side4 => exact (Kd.R_reads' HO299.out).2.1);rintro e w59 ⟨rfl,hb⟩;refine ⟨_,rfl, ?_⟩;have n0_:=Aside0.mk (Kd.R_below (by (with_reducible repeat (first | apply Kd.R_alloc | apply Kd.R_drewN | apply Kd.R_drew));exact HO_8.out) hb);have n1_:=Aside0.mk (Kd.R_below (by (with_reducible repeat (first | apply Kd.R_alloc | apply Kd.R_drewN | apply Kd.R_drew));exact HO_11.out) hb);have n2_:=Aside0.mk (Kd.R_below (by (with_reducible repeat (first | apply Kd.R_alloc | apply Kd.R_drewN | apply Kd.R_drew));exact HO_12.out) hb);have n3_:=Aside0.mk (Kd.R_below (by (with_reducible repeat (first | apply Kd.R_alloc | apply Kd.R_drewN | apply Kd.R_drew));exact HO_13.out) hb);have n4_:=Aside0.mk (Kd.R_below (by (with_reducible repeat (first | apply Kd.R_alloc | apply Kd.R_drewN | apply Kd.R_drew));exact HO_14.out) hb);have n5_:=Aside0.mk (Kd.R_below (by (with_reducible repeat (first | apply Kd.R_alloc | apply Kd.R_drewN | apply Kd.R_drew));exact HO299.out) hb);have n6_:=Aside0.mk (below_step (by repeat (first | (with_reducible first | exact HB.out | apply below_alloc | apply pw_below_drewN | apply below_drew1) | exact HB.out)) hb);clear HO_8;clear HO_11;clear HO_12;clear HO_13;clear HO_14;clear HO299;clear HB;have HO_8:=n0_;have HO_11:=n1_;have HO_12:=n2_;have HO_13:=n3_;have HO_14:=n4_;have HO299:=n5_;have HB:=n6_;clear n0_ n1_ n2_ n3_ n4_ n5_ n6_;(try clear hb);(try clear hb2);(try clear hk);(try clear hi)) | ((with_reducible refine gate_callee (f:=22) rfl ?_);refine goesL_ (some 82) rfl rfl Try.func22 (by kernel_rfl) rfl #[.slice A1 l1.length c1] rfl (by (try simp only [List.map_toArray,List.map_cons,List.map_nil]);first | done | rfl | (simp only [List.length_drop,List.length_take];rfl)) ?_;(with_reducible refine (laws_toContainerS.calls kj17 _ _ l1 t301 _ ?side1 ?side2 A47.out).mono ?_);(case side1 => repeat (first | exact (Kd.C_below HR1.out HB.out) | (with_reducible refine Kd.C_alloc ?_ _) | (with_reducible refine Kd.C_drewN ?_ _) | (with_reducible refine Kd.C_drew ?_)));(case side2 => exact HC1.out);rintro e w60 ⟨v302,rfl,ho0,hb⟩;refine ⟨_,rfl, ?_⟩;have n0_:=Aside0.mk (Kd.R_below (by (with_reducible repeat (first | apply Kd.R_alloc | apply Kd.R_drewN | apply Kd.R_drew));exact HO_8.out) hb);have n1_:=Aside0.mk (Kd.R_below (by (with_reducible repeat (first | apply Kd.R_alloc | apply Kd.R_drewN | apply Kd.R_drew));exact HO_11.out) hb);have n2_:=Aside0.mk (Kd.R_elder' (by (with_reducible repeat (first | apply Kd.R_alloc | apply Kd.R_drewN | apply Kd.R_drew));exact HO_12.out) (Kd.R_base ho0) hb);have n3_:=Aside0.mk (Kd.R_below (by (with_reducible repeat (first | apply Kd.R_alloc | apply Kd.R_drewN | apply Kd.R_drew));exact HO_13.out) hb);have n4_:=Aside0.mk (Kd.R_below (by (with_reducible repeat (first | apply Kd.R_alloc | apply Kd.R_drewN | apply Kd.R_drew));exact HO_14.out) hb);have n5_:=Aside0.mk (Kd.R_below (by (with_reducible repeat (first | apply Kd.R_alloc | apply Kd.R_drewN | apply Kd.R_drew));exact HO299.out) hb);have n6_:=Aside0.mk (Kd.R_lower (Kd.R_new' ho0 (Kd.R_lt (by (with_reducible repeat (first | apply Kd.R_alloc | apply Kd.R_drewN | apply Kd.R_drew));exact HO_12.out))) (below_size (by repeat (first | (with_reducible first | exact HB.out | apply below_alloc | apply pw_below_drewN | apply below_drew1) | exact HB.out))));have n7_:=Aside0.mk (below_step (by repeat (first | (with_reducible first | exact HB.out | apply below_alloc | apply pw_below_drewN | apply below_drew1) | exact HB.out)) hb);clear HO_8;clear HO_11;clear HO_12;clear HO_13;clear HO_14;clear HO299;clear HB;have HO_8:=n0_;have HO_11:=n1_;have HO_12:=n2_;have HO_13:=n3_;have HO_14:=n4_;have HO299:=n5_;have HO303:=n6_;have HB:=n7_;clear n0_ n1_ n2_ n3_ n4_ n5_ n6_ n7_;(try clear hb);(try clear hb2);(try clear hk);(try clear hi);(try clear ho0);obtain ⟨Ao61,co61,eo61⟩ := Kd.R_slice HO303.out;subst eo61) | ((with_reducible refine gate_callee (f:=25) rfl ?_);refine goesL_ (some 83) rfl rfl Try.func25 (by kernel_rfl) rfl #[.slice Ao31 t285.length co31, .slice Ao61 t301.length co61] rfl (by (try simp only [List.map_toArray,List.map_cons,List.map_nil]);first | done | rfl | (simp only [List.length_drop,List.length_take];rfl)) ?_;(with_reducible refine (laws_eqContainerS.calls kj17 _ _ t285 _ _ t301 true _ ?side1 ?side2 ?side3 ?side4 A48.out).mono ?_);(case side1 => repeat (first | exact (Kd.R_reads' HO_12.out).2.2 | (with_reducible refine Kd.C_alloc ?_ _) | (with_reducible refine Kd.C_drewN ?_ _) | (with_reducible refine Kd.C_drew ?_)));(case side2 => exact (Kd.R_reads' HO_12.out).2.1);(case side3 => repeat (first | exact (Kd.R_reads' HO303.out).2.2 | (with_reducible refine Kd.C_alloc ?_ _) | (with_reducible refine Kd.C_drewN ?_ _) | (with_reducible refine Kd.C_drew ?_)));(case side4 => exact (Kd.R_reads' HO303.out).2.1);rintro e w62 ⟨rfl,hb⟩;refine ⟨_,rfl, ?_⟩;have n0_:=Aside0.mk (Kd.R_below (by (with_reducible repeat (first | apply Kd.R_alloc | apply Kd.R_drewN | apply Kd.R_drew));exact HO_8.out) hb);have n1_:=Aside0.mk (Kd.R_below (by (with_reducible repeat (first | apply Kd.R_alloc | apply Kd.R_drewN | apply Kd.R_drew));exact HO_11.out) hb);have n2_:=Aside0.mk (Kd.R_below (by (with_reducible repeat (first | apply Kd.R_alloc | apply Kd.R_drewN | apply Kd.R_drew));exact HO_12.out) hb);have n3_:=Aside0.mk (Kd.R_below (by (with_reducible repeat (first | apply Kd.R_alloc | apply Kd.R_drewN | apply Kd.R_drew));exact HO_13.out) hb);have n4_:=Aside0.mk (Kd.R_below (by (with_reducible repeat (first | apply Kd.R_alloc | apply Kd.R_drewN | apply Kd.R_drew));exact HO_14.out) hb);have n5_:=Aside0.mk (Kd.R_below (by (with_reducible repeat (first | apply Kd.R_alloc | apply Kd.R_drewN | apply Kd.R_drew));exact HO299.out) hb);have n6_:=Aside0.mk (Kd.R_below (by (with_reducible repeat (first | apply Kd.R_alloc | apply Kd.R_drewN | apply Kd.R_drew));exact HO303.out) hb);have n7_:=Aside0.mk (below_step (by repeat (first | (with_reducible first | exact HB.out | apply below_alloc | apply pw_below_drewN | apply below_drew1) | exact HB.out)) hb);clear HO_8;clear HO_11;clear HO_12;clear HO_13;clear HO_14;clear HO299;clear HO303;clear HB;have HO_8:=n0_;have HO_11:=n1_;have HO_12:=n2_;have HO_13:=n3_;have HO_14:=n4_;have HO299:=n5_;have HO303:=n6_;have HB:=n7_;clear n0_ n1_ n2_ n3_ n4_ n5_ n6_ n7_;(try clear hb);(try clear hb2);(try clear hk);(try clear hi)) | ((with_reducible refine gate_callee (f:=23) rfl ?_);refine goesL_ (some 87) rfl rfl Try.func23 (by kernel_rfl) rfl #[.slice A2 l2.length c2] rfl (by (try simp only [List.map_toArray,List.map_cons,List.map_nil]);first | done | rfl | (simp only [List.length_drop,List.length_take];rfl)) ?_;(with_reducible refine (laws_toIntS.calls kj17 _ _ l2 t305 _ ?side1 ?side2 A50.out).mono ?_);(case side1 => repeat (first | exact (Kd.C_below HR2.out HB.out) | (with_reducible refine Kd.C_alloc ?_ _) | (with_reducible refine Kd.C_drewN ?_ _) | (with_reducible refine Kd.C_drew ?_)));(case side2 => exact HC2.out);rintro e w63 ⟨v306,rfl,ho0,hb⟩;refine ⟨_,rfl, ?_⟩;have n0_:=Aside0.mk (Kd.R_elder' (by (with_reducible repeat (first | apply Kd.R_alloc | apply Kd.R_drewN | apply Kd.R_drew));exact HO_8.out) (Kd.R_base ho0) hb);have n1_:=Aside0.mk (Kd.R_below (by (with_reducible repeat (first | apply Kd.R_alloc | apply Kd.R_drewN | apply Kd.R_drew));exact HO_11.out) hb);have n2_:=Aside0.mk (Kd.R_below (by (with_reducible repeat (first | apply Kd.R_alloc | apply Kd.R_drewN | apply Kd.R_drew));exact HO_12.out) hb);have n3_:=Aside0.mk (Kd.R_elder' (by (with_reducible repeat (first | apply Kd.R_alloc | apply Kd.R_drewN | apply Kd.R_drew));exact HO_13.out) (Kd.R_base ho0) hb);have n4_:=Aside0.mk (Kd.R_elder' (by (with_reducible repeat (first | apply Kd.R_alloc | apply Kd.R_drewN | apply Kd.R_drew));exact HO_14.out) (Kd.R_base ho0) hb);have n5_:=Aside0.mk (Kd.R_below (by (with_reducible repeat (first | apply Kd.R_alloc | apply Kd.R_drewN | apply Kd.R_drew));exact HO299.out) hb);have n6_:=Aside0.mk (Kd.R_below (by (with_reducible repeat (first | apply Kd.R_alloc | apply Kd.R_drewN | apply Kd.R_drew));exact HO303.out) hb);have n7_:=Aside0.mk (Kd.R_lower (Kd.R_new' (Kd.R_new' (Kd.R_new' ho0 (Kd.R_lt (by (with_reducible repeat (first | apply Kd.R_alloc | apply Kd.R_drewN | apply Kd.R_drew));exact HO_8.out))) (Kd.R_lt (by (with_reducible repeat (first | apply Kd.R_alloc | apply Kd.R_drewN | apply Kd.R_drew));exact HO_13.out))) (Kd.R_lt (by (with_reducible repeat (first | apply Kd.R_alloc | apply Kd.R_drewN | apply Kd.R_drew));exact HO_14.out))) (below_size (by repeat (first | (with_reducible first | exact HB.out | apply below_alloc | apply pw_below_drewN | apply below_drew1) | exact HB.out))));have n8_:=Aside0.mk (below_step (by repeat (first | (with_reducible first | exact HB.out | apply below_alloc | apply pw_below_drewN | apply below_drew1) | exact HB.out)) hb);clear HO_8;clear HO_11;clear HO_12;clear HO_13;clear HO_14;clear HO299;clear HO303;clear HB;have HO_8:=n0_;have HO_11:=n1_;have HO_12:=n2_;have HO_13:=n3_;have HO_14:=n4_;have HO299:=n5_;have HO303:=n6_;have HO307:=n7_;have HB:=n8_;clear n0_ n1_ n2_ n3_ n4_ n5_ n6_ n7_ n8_;(try clear hb);(try clear hb2);(try clear hk);(try clear hi);(try clear ho0);obtain ⟨Ao64,co64,eo64⟩ := Kd.R_slice HO307.out;subst eo64) | ((with_reducible refine gate_callee (f:=26) rfl ?_);refine goesL_ (some 88) rfl rfl Try.func26 (by kernel_rfl) rfl #[.slice Ao32 t288.length co32, .slice Ao64 t305.length co64] rfl (by (try simp only [List.map_toArray,List.map_cons,List.map_nil]);first | done | rfl | (simp only [List.length_drop,List.length_take];rfl)) ?_;(with_reducible refine (laws_eqIntS.calls kj17 _ _ t288 _ _ t305 true _ ?side1 ?side2 ?side3 ?side4 A51.out).mono ?_);(case side1 => repeat (first | exact (Kd.R_reads' HO_13.out).2.2 | (with_reducible refine Kd.C_alloc ?_ _) | (with_reducible refine Kd.C_drewN ?_ _) | (with_reducible refine Kd.C_drew ?_)));(case side2 => exact (Kd.R_reads' HO_13.out).2.1);(case side3 => repeat (first | exact (Kd.R_reads' HO307.out).2.2 | (with_reducible refine Kd.C_alloc ?_ _) | (with_reducible refine Kd.C_drewN ?_ _) | (with_reducible refine Kd.C_drew ?_)));(case side4 => exact (Kd.R_reads' HO307.out).2.1);rintro e w' ⟨rfl,⟨nd,rfl⟩⟩;refine ⟨_,rfl, ?_⟩) | ((with_reducible refine gate_callee (f:=33) rfl ?_);refine goesL_ (some 92) rfl rfl Try.func33 (by kernel_rfl) rfl #[.slice Ao30 t282.length co30, .int .i64 1] rfl (by (try simp only [List.map_toArray,List.map_cons,List.map_nil]);first | done | rfl | (simp only [List.length_drop,List.length_take];rfl)) ?_;(with_reducible refine (laws_markWagonS.calls kj17 (fun k_ => some k_ = (.slice Ao30 t282.length co30 : Value).ownBlock) (.slice Ao30 t282.length co30) t282 1 t309 t310 w _ ?side1 ?side2 A53.out).mono ?_);(case side1 => repeat (first | (with_reducible first | exact HB.out | apply below_alloc | apply pw_below_drewN | apply below_drew1) | exact HB.out));(case side2 => exact Kd.R_tight rfl HO_11.out);rintro e w65 ⟨rfl,hy0,hb,hkp⟩;refine ⟨_,rfl, ?_⟩;have n0_:=Aside0.mk (Kd.R_mono (ok':=fun k_ => some k_ ≠ (.slice Ao32 t288.length co32 : Value).ownBlock ∧ some k_ ≠ (v294 : Value).ownBlock ∧ some k_ ≠ (.slice Ao64 t305.length co64 : Value).ownBlock) (Kd.R_keptB ((Kd.R_apart' HO_8.out (Kd.R_typed HO_11.out) (by decide))) hkp (fun k_ hk_ hs_ => (hk_.2) hs_)) (fun k_ hk_ => ⟨hk_.1.1.1.1,hk_.1.1.1.2,hk_.1.1.2⟩));have n1_:=Aside0.mk (Kd.R_reok rfl hy0 (fun k_ e_ => HO_11.out.1 k_ e_));have n2_:=Aside0.mk (Kd.R_mono (ok':=fun k_ => some k_ ≠ (.slice Ao61 t301.length co61 : Value).ownBlock) (Kd.R_keptB ((Kd.R_apart' HO_12.out (Kd.R_typed HO_11.out) (by decide))) hkp (fun k_ hk_ hs_ => (hk_.2) hs_)) (fun k_ hk_ => hk_.1.1.2));have n3_:=Aside0.mk (Kd.R_mono (ok':=fun k_ => some k_ ≠ (v280 : Value).ownBlock ∧ some k_ ≠ (v294 : Value).ownBlock ∧ some k_ ≠ (.slice Ao64 t305.length co64 : Value).ownBlock) (Kd.R_keptB ((Kd.R_apart' HO_13.out (Kd.R_typed HO_11.out) (by decide))) hkp (fun k_ hk_ hs_ => (hk_.2) hs_)) (fun k_ hk_ => ⟨hk_.1.1.1.1,hk_.1.1.1.2,hk_.1.1.2⟩));have n4_:=Aside0.mk (Kd.R_mono (ok':=fun k_ => some k_ ≠ (v280 : Value).ownBlock ∧ some k_ ≠ (.slice Ao32 t288.length co32 : Value).ownBlock ∧ some k_ ≠ (.slice Ao64 t305.length co64 : Value).ownBlock) (Kd.R_keptB ((Kd.R_apart' HO_14.out (Kd.R_typed HO_11.out) (by decide))) hkp (fun k_ hk_ hs_ => (hk_.2) hs_)) (fun k_ hk_ => ⟨hk_.1.1.1.1,hk_.1.1.1.2,hk_.1.1.2⟩));have n5_:=Aside0.mk (Kd.R_mono (ok':=fun k_ => some k_ ≠ (.slice Ao30 t282.length co30 : Value).ownBlock) (Kd.R_keptB (HO299.out) hkp (fun k_ hk_ hs_ => (hk_.2) hs_)) (fun k_ hk_ => hk_.1.2));have n6_:=Aside0.mk (Kd.R_mono (ok':=fun k_ => some k_ ≠ (.slice Ao31 t285.length co31 : Value).ownBlock) (Kd.R_keptB ((Kd.R_apart' HO303.out (Kd.R_typed HO_11.out) (by decide))) hkp (fun k_ hk_ hs_ => (hk_.2) hs_)) (fun k_ hk_ => hk_.1.1.2));have n7_:=Aside0.mk (Kd.R_mono (ok':=fun k_ => some k_ ≠ (v280 : Value).ownBlock ∧ some k_ ≠ (.slice Ao32 t288.length co32 : Value).ownBlock ∧ some k_ ≠ (v294 : Value).ownBlock) (Kd.R_keptB ((Kd.R_apart' HO307.out (Kd.R_typed HO_11.out) (by decide))) hkp (fun k_ hk_ hs_ => (hk_.2) hs_)) (fun k_ hk_ => ⟨hk_.1.1.1.1.2,hk_.1.1.1.2,hk_.1.1.2⟩));have n8_:=Aside0.mk (hb);clear HO_8;clear HO_11;clear HO_12;clear HO_13;clear HO_14;clear HO299;clear HO303;clear HO307;clear HB;have HO_8:=n0_;have HO_11:=n1_;have HO_12:=n2_;have HO_13:=n3_;have HO_14:=n4_;have HO299:=n5_;have HO303:=n6_;have HO307:=n7_;have HB:=n8_;clear n0_ n1_ n2_ n3_ n4_ n5_ n6_ n7_ n8_;(try clear hb);(try clear hkp);(try clear hy0)) | ((with_reducible refine gate_callee (f:=34) rfl ?_);refine goesL_ (some 95) rfl rfl Try.func34 (by kernel_rfl) rfl #[.slice Ao31 t285.length co31, .int .i64 t309] rfl (by (try simp only [List.map_toArray,List.map_cons,List.map_nil]);first | done | rfl | (simp only [List.length_drop,List.length_take];rfl)) ?_;(with_reducible refine (laws_markContainerS.calls kj17 (fun k_ => some k_ = (.slice Ao31 t285.length co31 : Value).ownBlock) (.slice Ao31 t285.length co31) t285 t309 t311 t312 w _ ?side1 ?side2 A54.out).mono ?_);(case side1 => repeat (first | (with_reducible first | exact HB.out | apply below_alloc | apply pw_below_drewN | apply below_drew1) | exact HB.out));(case side2 => exact Kd.R_tight rfl HO_12.out);rintro e w66 ⟨rfl,hy0,hb,hkp⟩;refine ⟨_,rfl, ?_⟩;have n0_:=Aside0.mk (Kd.R_mono (ok':=fun k_ => some k_ ≠ (.slice Ao32 t288.length co32 : Value).ownBlock ∧ some k_ ≠ (v294 : Value).ownBlock ∧ some k_ ≠ (.slice Ao64 t305.length co64 : Value).ownBlock) (Kd.R_keptB ((Kd.R_apart' HO_8.out (Kd.R_typed HO_12.out) (by decide))) hkp (fun k_ hk_ hs_ => (hk_.2) hs_)) (fun k_ hk_ => ⟨hk_.1.1.1,hk_.1.1.2.1,hk_.1.1.2.2⟩));have n1_:=Aside0.mk (Kd.R_mono (ok':=fun k_ => some k_ ≠ (.slice Ao58 t297.length co58 : Value).ownBlock) (Kd.R_keptB ((Kd.R_apart' HO_11.out (Kd.R_typed HO_12.out) (by decide))) hkp (fun k_ hk_ hs_ => (hk_.2) hs_)) (fun k_ hk_ => hk_.1.1.2));have n2_:=Aside0.mk (Kd.R_reok rfl hy0 (fun k_ e_ => HO_12.out.1 k_ e_));have n3_:=Aside0.mk (Kd.R_mono (ok':=fun k_ => some k_ ≠ (v280 : Value).ownBlock ∧ some k_ ≠ (v294 : Value).ownBlock ∧ some k_ ≠ (.slice Ao64 t305.length co64 : Value).ownBlock) (Kd.R_keptB ((Kd.R_apart' HO_13.out (Kd.R_typed HO_12.out) (by decide))) hkp (fun k_ hk_ hs_ => (hk_.2) hs_)) (fun k_ hk_ => ⟨hk_.1.1.1,hk_.1.1.2.1,hk_.1.1.2.2⟩));have n4_:=Aside0.mk (Kd.R_mono (ok':=fun k_ => some k_ ≠ (v280 : Value).ownBlock ∧ some k_ ≠ (.slice Ao32 t288.length co32 : Value).ownBlock ∧ some k_ ≠ (.slice Ao64 t305.length co64 : Value).ownBlock) (Kd.R_keptB ((Kd.R_apart' HO_14.out (Kd.R_typed HO_12.out) (by decide))) hkp (fun k_ hk_ hs_ => (hk_.2) hs_)) (fun k_ hk_ => ⟨hk_.1.1.1,hk_.1.1.2.1,hk_.1.1.2.2⟩));have n5_:=Aside0.mk (Kd.R_mono (ok':=fun k_ => some k_ ≠ (.slice Ao30 t282.length co30 : Value).ownBlock) (Kd.R_keptB ((Kd.R_apart' HO299.out (Kd.R_typed HO_12.out) (by decide))) hkp (fun k_ hk_ hs_ => (hk_.2) hs_)) (fun k_ hk_ => hk_.1.1));have n6_:=Aside0.mk (Kd.R_mono (ok':=fun k_ => some k_ ≠ (.slice Ao31 t285.length co31 : Value).ownBlock) (Kd.R_keptB (HO303.out) hkp (fun k_ hk_ hs_ => (hk_) hs_)) (fun k_ hk_ => hk_.1));have n7_:=Aside0.mk (Kd.R_mono (ok':=fun k_ => some k_ ≠ (v280 : Value).ownBlock ∧ some k_ ≠ (.slice Ao32 t288.length co32 : Value).ownBlock ∧ some k_ ≠ (v294 : Value).ownBlock) (Kd.R_keptB ((Kd.R_apart' HO307.out (Kd.R_typed HO_12.out) (by decide))) hkp (fun k_ hk_ hs_ => (hk_.2) hs_)) (fun k_ hk_ => ⟨hk_.1.1.1,hk_.1.1.2.1,hk_.1.1.2.2⟩));have n8_:=Aside0.mk (hb);clear HO_8;clear HO_11;clear HO_12;clear HO_13;clear HO_14;clear HO299;clear HO303;clear HO307;clear HB;have HO_8:=n0_;have HO_11:=n1_;have HO_12:=n2_;have HO_13:=n3_;have HO_14:=n4_;have HO299:=n5_;have HO303:=n6_;have HO307:=n7_;have HB:=n8_;clear n0_ n1_ n2_ n3_ n4_ n5_ n6_ n7_ n8_;(try clear hb);(try clear hkp);(try clear hy0)) | ((with_reducible refine gate_callee (f:=35) rfl ?_);refine goesL_ (some 98) rfl rfl Try.func35 (by kernel_rfl) rfl #[.slice Ao32 t288.length co32, .int .i64 t311] rfl (by (try simp only [List.map_toArray,List.map_cons,List.map_nil]);first | done | rfl | (simp only [List.length_drop,List.length_take];rfl)) ?_;(with_reducible refine (laws_markIntS.calls kj17 (fun k_ => some k_ = (.slice Ao32 t288.length co32 : Value).ownBlock) (.slice Ao32 t288.length co32) t288 t311 t313 t314 w _ ?side1 ?side2 A55.out).mono ?_);(case side1 => repeat (first | (with_reducible first | exact HB.out | apply below_alloc | apply pw_below_drewN | apply below_drew1) | exact HB.out));(case side2 => exact Kd.R_tight rfl HO_13.out);rintro e w67 ⟨rfl,hy0,hb,hkp⟩;refine ⟨_,rfl, ?_⟩;have n0_:=Aside0.mk (Kd.R_mono (ok':=fun k_ => some k_ ≠ (.slice Ao32 t288.length co32 : Value).ownBlock ∧ some k_ ≠ (v294 : Value).ownBlock ∧ some k_ ≠ (.slice Ao64 t305.length co64 : Value).ownBlock) (Kd.R_keptB (HO_8.out) hkp (fun k_ hk_ hs_ => (hk_.1) hs_)) (fun k_ hk_ => ⟨hk_.1.1,hk_.1.2.1,hk_.1.2.2⟩));have n1_:=Aside0.mk (Kd.R_mono (ok':=fun k_ => some k_ ≠ (.slice Ao58 t297.length co58 : Value).ownBlock) (Kd.R_keptB ((Kd.R_apart' HO_11.out (Kd.R_typed HO_13.out) (by decide))) hkp (fun k_ hk_ hs_ => (hk_.2) hs_)) (fun k_ hk_ => hk_.1.1));have n2_:=Aside0.mk (Kd.R_mono (ok':=fun k_ => some k_ ≠ (.slice Ao61 t301.length co61 : Value).ownBlock) (Kd.R_keptB ((Kd.R_apart' HO_12.out (Kd.R_typed HO_13.out) (by decide))) hkp (fun k_ hk_ hs_ => (hk_.2) hs_)) (fun k_ hk_ => hk_.1.1));have n3_:=Aside0.mk (Kd.R_reok rfl hy0 (fun k_ e_ => HO_13.out.1 k_ e_));have n4_:=Aside0.mk (Kd.R_mono (ok':=fun k_ => some k_ ≠ (v280 : Value).ownBlock ∧ some k_ ≠ (.slice Ao32 t288.length co32 : Value).ownBlock ∧ some k_ ≠ (.slice Ao64 t305.length co64 : Value).ownBlock) (Kd.R_keptB (HO_14.out) hkp (fun k_ hk_ hs_ => (hk_.2.1) hs_)) (fun k_ hk_ => ⟨hk_.1.1,hk_.1.2.1,hk_.1.2.2⟩));have n5_:=Aside0.mk (Kd.R_mono (ok':=fun k_ => some k_ ≠ (.slice Ao30 t282.length co30 : Value).ownBlock) (Kd.R_keptB ((Kd.R_apart' HO299.out (Kd.R_typed HO_13.out) (by decide))) hkp (fun k_ hk_ hs_ => (hk_.2) hs_)) (fun k_ hk_ => hk_.1.1));have n6_:=Aside0.mk (Kd.R_mono (ok':=fun k_ => some k_ ≠ (.slice Ao31 t285.length co31 : Value).ownBlock) (Kd.R_keptB ((Kd.R_apart' HO303.out (Kd.R_typed HO_13.out) (by decide))) hkp (fun k_ hk_ hs_ => (hk_.2) hs_)) (fun k_ hk_ => hk_.1.1));have n7_:=Aside0.mk (Kd.R_mono (ok':=fun k_ => some k_ ≠ (v280 : Value).ownBlock ∧ some k_ ≠ (.slice Ao32 t288.length co32 : Value).ownBlock ∧ some k_ ≠ (v294 : Value).ownBlock) (Kd.R_keptB (HO307.out) hkp (fun k_ hk_ hs_ => (hk_.2.1) hs_)) (fun k_ hk_ => ⟨hk_.1.1,hk_.1.2.1,hk_.1.2.2⟩));have n8_:=Aside0.mk (hb);clear HO_8;clear HO_11;clear HO_12;clear HO_13;clear HO_14;clear HO299;clear HO303;clear HO307;clear HB;have HO_8:=n0_;have HO_11:=n1_;have HO_12:=n2_;have HO_13:=n3_;have HO_14:=n4_;have HO299:=n5_;have HO303:=n6_;have HO307:=n7_;have HB:=n8_;clear n0_ n1_ n2_ n3_ n4_ n5_ n6_ n7_ n8_;(try clear hb);(try clear hkp);(try clear hy0)))
          (try simp only [Act.put,sA_,s0_,s1_])
          go_cut [116] (fun v116 wc => ∃ (kq : Nat) (x116_55 : Bool),v116 = .bool x116_55 ∧ Aside0 (laws_FnExactWagonWeights.j1 kq l0 l1 l2 t277 t278 t279 t291 x116_55 = some r) ∧ Aside0 (kq ≤ kj17) ∧ Aside0 (Kd.R (Kd.int .i64) 3 wc w.heap.size (fun k_ => some k_ ≠ (v294 : Value).ownBlock) v280 t277) ∧ Aside0 (Kd.R (Kd.int .i64) 3 wc w.heap.size (fun k_ => some k_ ≠ (v280 : Value).ownBlock) v294 t291) ∧ Aside0 (Below w.heap.size w wc))
          case first =>
           have H:=HC56.out
           clear HC56
           by_cases c68 : t313 < 0
           ·rw [if_pos c68] at H
            have c68b0 : decide (t313 < 0) = true:=decide_eq_true c68
            clear c68
            (first | rw [c68b0] | (simp only [i64_w,i32_w];rw [c68b0]) | skip)
            have H':=Aside0.mk H
            clear H
            go_wp2
            go_meet
            case rel => exact ⟨_,(true),(by first | rfl | (simp;done) | (simp [*];done)),H',⟨by have:=HJ17.out;first | omega | exact Nat.le_refl _⟩,⟨by (with_reducible repeat (first | apply Kd.R_alloc | apply Kd.R_drewN | apply Kd.R_drew));exact Kd.R_mono HO_8.out (fun _ hk => hk.2.1)⟩,⟨by (with_reducible repeat (first | apply Kd.R_alloc | apply Kd.R_drewN | apply Kd.R_drew));exact Kd.R_mono HO_14.out (fun _ hk => hk.1)⟩,⟨by repeat (first | (with_reducible first | exact HB.out | apply below_alloc | apply pw_below_drewN | apply below_drew1) | exact HB.out)⟩⟩
           ·rw [if_neg c68] at H
            have c68b0 : decide (t313 < 0) = false:=decide_eq_false c68
            clear c68
            (first | rw [c68b0] | (simp only [i64_w,i32_w];rw [c68b0]) | skip)
            replace H:=Option.bind_eq_some_iff.mp H
            obtain ⟨t315,A690,H⟩ := H
            replace H : (if t315 = true then (if t292 = t278 then (laws_FnExactWagonWeights.j1 kj17 l0 l1 l2 t277 t278 t279 t291 (t293 != t279)) else (laws_FnExactWagonWeights.j1 kj17 l0 l1 l2 t277 t278 t279 t291 true)) else (laws_FnExactWagonWeights.j1 kj17 l0 l1 l2 t277 t278 t279 t291 true)) = some r:=H
            have A69:=Aside0.mk A690
            clear A690
            by_cases c70 : t315 = true
            ·subst c70
             have H1 : (if t292 = t278 then (laws_FnExactWagonWeights.j1 kj17 l0 l1 l2 t277 t278 t279 t291 (t293 != t279)) else (laws_FnExactWagonWeights.j1 kj17 l0 l1 l2 t277 t278 t279 t291 true)) = some r:=by rw [if_pos rfl] at H;exact H
             clear H
             have H:=H1
             clear H1
             by_cases c71 : t292 = t278
             ·rw [if_pos c71] at H
              have c71b0 : (t292 == t278) = true:=beq_iff_eq.mpr c71
              have c71b1 : (t292 != t278) = false:=bne_eq_false_iff_eq.mpr c71
              clear c71
              have H':=Aside0.mk H
              clear H
              obtain ⟨Ao72,co72,eo72⟩ := Kd.R_slice HO_14.out
              subst eo72
              obtain ⟨Ao73,co73,eo73⟩ := Kd.R_slice HO_8.out
              subst eo73
              go_wp2_with (first | (go_at_call 26;(with_reducible refine (laws_eqIntS.calls kj17 _ _ t291 _ _ t277 true _ ?side1 ?side2 ?side3 ?side4 A69.out).mono ?_);(case side1 => repeat (first | exact (Kd.R_reads' HO_14.out).2.2 | (with_reducible refine Kd.C_alloc ?_ _) | (with_reducible refine Kd.C_drewN ?_ _) | (with_reducible refine Kd.C_drew ?_)));(case side2 => exact (Kd.R_reads' HO_14.out).2.1);(case side3 => repeat (first | exact (Kd.R_reads' HO_8.out).2.2 | (with_reducible refine Kd.C_alloc ?_ _) | (with_reducible refine Kd.C_drewN ?_ _) | (with_reducible refine Kd.C_drew ?_)));(case side4 => exact (Kd.R_reads' HO_8.out).2.1);rintro e w' ⟨rfl,⟨nd,rfl⟩⟩))
              go_meet
              case rel => exact ⟨_,((t293 != t279)),(by first | rfl | (simp;done) | (simp [*];done)),H',⟨by have:=HJ17.out;first | omega | exact Nat.le_refl _⟩,⟨by (with_reducible repeat (first | apply Kd.R_alloc | apply Kd.R_drewN | apply Kd.R_drew));exact Kd.R_mono HO_8.out (fun _ hk => hk.2.1)⟩,⟨by (with_reducible repeat (first | apply Kd.R_alloc | apply Kd.R_drewN | apply Kd.R_drew));exact Kd.R_mono HO_14.out (fun _ hk => hk.1)⟩,⟨by repeat (first | (with_reducible first | exact HB.out | apply below_alloc | apply pw_below_drewN | apply below_drew1) | exact HB.out)⟩⟩
             ·rw [if_neg c71] at H
              have c71b0 : (t292 == t278) = false:=beq_eq_false_iff_ne.mpr c71
              have c71b1 : (t292 != t278) = true:=bne_iff_ne.mpr c71
              have H':=Aside0.mk H
              clear H
              obtain ⟨Ao74,co74,eo74⟩ := Kd.R_slice HO_14.out
              subst eo74
              obtain ⟨Ao75,co75,eo75⟩ := Kd.R_slice HO_8.out
              subst eo75
              go_wp2_with (first | (go_at_call 26;(with_reducible refine (laws_eqIntS.calls kj17 _ _ t291 _ _ t277 true _ ?side1 ?side2 ?side3 ?side4 A69.out).mono ?_);(case side1 => repeat (first | exact (Kd.R_reads' HO_14.out).2.2 | (with_reducible refine Kd.C_alloc ?_ _) | (with_reducible refine Kd.C_drewN ?_ _) | (with_reducible refine Kd.C_drew ?_)));(case side2 => exact (Kd.R_reads' HO_14.out).2.1);(case side3 => repeat (first | exact (Kd.R_reads' HO_8.out).2.2 | (with_reducible refine Kd.C_alloc ?_ _) | (with_reducible refine Kd.C_drewN ?_ _) | (with_reducible refine Kd.C_drew ?_)));(case side4 => exact (Kd.R_reads' HO_8.out).2.1);rintro e w' ⟨rfl,⟨nd,rfl⟩⟩))
              go_meet
              case rel => exact ⟨_,(true),(by first | rfl | (simp;done) | (simp [*];done)),H',⟨by have:=HJ17.out;first | omega | exact Nat.le_refl _⟩,⟨by (with_reducible repeat (first | apply Kd.R_alloc | apply Kd.R_drewN | apply Kd.R_drew));exact Kd.R_mono HO_8.out (fun _ hk => hk.2.1)⟩,⟨by (with_reducible repeat (first | apply Kd.R_alloc | apply Kd.R_drewN | apply Kd.R_drew));exact Kd.R_mono HO_14.out (fun _ hk => hk.1)⟩,⟨by repeat (first | (with_reducible first | exact HB.out | apply below_alloc | apply pw_below_drewN | apply below_drew1) | exact HB.out)⟩⟩
            ·replace c70:=Bool.eq_false_iff.mpr c70
             subst c70
             have H1 : (laws_FnExactWagonWeights.j1 kj17 l0 l1 l2 t277 t278 t279 t291 true) = some r:=by rw [if_neg (show ¬ (false = true) by decide)] at H;exact H
             clear H
             have H:=H1
             clear H1
             have H':=Aside0.mk H
             clear H
             obtain ⟨Ao76,co76,eo76⟩ := Kd.R_slice HO_14.out
             subst eo76
             obtain ⟨Ao77,co77,eo77⟩ := Kd.R_slice HO_8.out
             subst eo77
             go_wp2_with (first | (go_at_call 26;(with_reducible refine (laws_eqIntS.calls kj17 _ _ t291 _ _ t277 false _ ?side1 ?side2 ?side3 ?side4 A69.out).mono ?_);(case side1 => repeat (first | exact (Kd.R_reads' HO_14.out).2.2 | (with_reducible refine Kd.C_alloc ?_ _) | (with_reducible refine Kd.C_drewN ?_ _) | (with_reducible refine Kd.C_drew ?_)));(case side2 => exact (Kd.R_reads' HO_14.out).2.1);(case side3 => repeat (first | exact (Kd.R_reads' HO_8.out).2.2 | (with_reducible refine Kd.C_alloc ?_ _) | (with_reducible refine Kd.C_drewN ?_ _) | (with_reducible refine Kd.C_drew ?_)));(case side4 => exact (Kd.R_reads' HO_8.out).2.1);rintro e w' ⟨rfl,⟨nd,rfl⟩⟩))
             go_meet
             case rel => exact ⟨_,(true),(by first | rfl | (simp;done) | (simp [*];done)),H',⟨by have:=HJ17.out;first | omega | exact Nat.le_refl _⟩,⟨by (with_reducible repeat (first | apply Kd.R_alloc | apply Kd.R_drewN | apply Kd.R_drew));exact Kd.R_mono HO_8.out (fun _ hk => hk.2.1)⟩,⟨by (with_reducible repeat (first | apply Kd.R_alloc | apply Kd.R_drewN | apply Kd.R_drew));exact Kd.R_mono HO_14.out (fun _ hk => hk.1)⟩,⟨by repeat (first | (with_reducible first | exact HB.out | apply below_alloc | apply pw_below_drewN | apply below_drew1) | exact HB.out)⟩⟩
          case rest =>
           clear HC56
           try clear c1
           try clear c2
           try clear p2
           try clear c3
           try clear c4
           try clear c4b0
           try clear c4b1
           try clear c5
           try clear c6
           try clear c6b0
           try clear c7
           try clear c8
           try clear c8b0
           try clear c9
           try clear c15
           try clear c17
           try clear c19
           try clear c20
           try clear c22
           try clear c23
           try clear c25
           try clear c26
           try clear c33
           try clear c34
           try clear c35
           try clear c36
           try clear c36b0
           try clear c36b1
           try clear c39
           try clear c40
           try clear c43
           try clear c46
           try clear c49
           try clear c52
           try clear c68
           try clear c68b0
           try clear c70
           try clear c71
           try clear c71b0
           try clear c71b1
           try clear p2
           obtain ⟨kq,x116_55,rfl,HA,HJ55,HO_8,HO_14,HB⟩ := hcut
           cases kq with
           | zero => exact absurd HA.out (by simp [laws_FnExactWagonWeights.j1])
           | succ kj55 =>
            have H:=HA.out
            clear HA
            simp only [laws_FnExactWagonWeights.j1] at H
            by_cases c78 : x116_55 = true
            ·subst c78
             have H1 : (some false) = some r:=by rw [if_pos rfl] at H;exact H
             clear H
             have H:=H1
             clear H1
             obtain rfl:=Option.some.inj H
             go_wp2
             go_ret
             exact ⟨by first | rfl | (simp [errW_none,errW_some] <;> rfl) | (simp [*,errW_none,errW_some] <;> rfl),by repeat (first | (with_reducible first | exact HB.out | apply below_alloc | apply pw_below_drewN | apply below_drew1) | exact HB.out)⟩
            ·replace c78:=Bool.eq_false_iff.mpr c78
             subst c78
             have H1 : ((laws_markIntS.f kj55 t291 1).bind fun bt316 => ((laws_heldIntS.f kj55 bt316.2 1).bind fun t318 => (if t318 < 0 then (some false) else (if t318 = bt316.1 then ((laws_toWagonS.f kj55 l0).bind fun t319 => ((laws_toContainerS.f kj55 l1).bind fun t322 => ((laws_toIntS.f kj55 l2).bind fun t325 => ((impl_WagonWeights.f kj55 t319 t322 t325).bind fun bt328 => ((laws_eqIntS.f kj55 bt328.1 t277).bind fun t333 => (if t333 = true then (if bt328.2.1 = t278 then (laws_FnExactWagonWeights.j2 kj55 bt316.2 bt316.1 (bt328.2.2 != t279)) else (laws_FnExactWagonWeights.j2 kj55 bt316.2 bt316.1 true)) else (laws_FnExactWagonWeights.j2 kj55 bt316.2 bt316.1 true))))))) else (some false))))) = some r:=by rw [if_neg (show ¬ (false = true) by decide)] at H;exact H
             clear H
             have H:=H1
             clear H1
             replace H:=Option.bind_eq_some_iff.mp H
             obtain ⟨⟨t316,t317⟩,A790,H⟩ := H
             replace H : ((laws_heldIntS.f kj55 t317 1).bind fun t318 => (if t318 < 0 then (some false) else (if t318 = t316 then ((laws_toWagonS.f kj55 l0).bind fun t319 => ((laws_toContainerS.f kj55 l1).bind fun t322 => ((laws_toIntS.f kj55 l2).bind fun t325 => ((impl_WagonWeights.f kj55 t319 t322 t325).bind fun bt328 => ((laws_eqIntS.f kj55 bt328.1 t277).bind fun t333 => (if t333 = true then (if bt328.2.1 = t278 then (laws_FnExactWagonWeights.j2 kj55 t317 t316 (bt328.2.2 != t279)) else (laws_FnExactWagonWeights.j2 kj55 t317 t316 true)) else (laws_FnExactWagonWeights.j2 kj55 t317 t316 true))))))) else (some false)))) = some r:=H
             have A79:=Aside0.mk A790
             clear A790
             replace H:=Option.bind_eq_some_iff.mp H
             obtain ⟨t318,A800,H⟩ := H
             replace H : (if t318 < 0 then (some false) else (if t318 = t316 then ((laws_toWagonS.f kj55 l0).bind fun t319 => ((laws_toContainerS.f kj55 l1).bind fun t322 => ((laws_toIntS.f kj55 l2).bind fun t325 => ((impl_WagonWeights.f kj55 t319 t322 t325).bind fun bt328 => ((laws_eqIntS.f kj55 bt328.1 t277).bind fun t333 => (if t333 = true then (if bt328.2.1 = t278 then (laws_FnExactWagonWeights.j2 kj55 t317 t316 (bt328.2.2 != t279)) else (laws_FnExactWagonWeights.j2 kj55 t317 t316 true)) else (laws_FnExactWagonWeights.j2 kj55 t317 t316 true))))))) else (some false))) = some r:=H
             have A80:=Aside0.mk A800
             clear A800
             by_cases c81 : t318 < 0
             ·rw [if_pos c81] at H
              have c81b0 : decide (t318 < 0) = true:=decide_eq_true c81
              clear c81
              obtain rfl:=Option.some.inj H
              obtain ⟨Ao82,co82,eo82⟩ := Kd.R_slice HO_14.out
              subst eo82
              go_wp2_with (first | ((with_reducible refine gate_callee (f:=35) rfl ?_);refine goesL_ (some 119) rfl rfl Try.func35 (by kernel_rfl) rfl #[.slice Ao82 t291.length co82, .int .i64 1] rfl (by (try simp only [List.map_toArray,List.map_cons,List.map_nil]);first | done | rfl | (simp only [List.length_drop,List.length_take];rfl)) ?_;(with_reducible refine (laws_markIntS.calls kj55 (fun k_ => some k_ = (.slice Ao82 t291.length co82 : Value).ownBlock) (.slice Ao82 t291.length co82) t291 1 t316 t317 w _ ?side1 ?side2 A79.out).mono ?_);(case side1 => repeat (first | (with_reducible first | exact HB.out | apply below_alloc | apply pw_below_drewN | apply below_drew1) | exact HB.out));(case side2 => exact Kd.R_tight rfl HO_14.out);rintro e w83 ⟨rfl,hy0,hb,hkp⟩;refine ⟨_,rfl, ?_⟩;have n0_:=Aside0.mk (Kd.R_mono (ok':=fun k_ => some k_ ≠ (.slice Ao82 t291.length co82 : Value).ownBlock) (Kd.R_keptB (HO_8.out) hkp (fun k_ hk_ hs_ => (hk_) hs_)) (fun k_ hk_ => hk_.1));have n1_:=Aside0.mk (Kd.R_reok rfl hy0 (fun k_ e_ => HO_14.out.1 k_ e_));have n2_:=Aside0.mk (hb);clear HO_8;clear HO_14;clear HB;have HO_8:=n0_;have HO_14:=n1_;have HB:=n2_;clear n0_ n1_ n2_;(try clear hb);(try clear hkp);(try clear hy0)) | ((with_reducible refine gate_callee (f:=36) rfl ?_);refine goesL_ (some 122) rfl rfl Try.func36 (by kernel_rfl) rfl #[.slice Ao82 t317.length co82, .int .i64 1] rfl (by (try simp only [List.map_toArray,List.map_cons,List.map_nil]);first | done | (rw [show t317.length = t291.length from (Kd.R_reads' HO_14.out).1.symm] <;> rfl) | rfl | (simp only [List.length_drop,List.length_take];rfl)) ?_;(with_reducible refine (laws_heldIntS.calls kj55 _ _ t317 1 t318 _ ?side1 ?side2 A80.out).mono ?_);(case side1 => repeat (first | exact (Kd.R_reads' HO_14.out).2.2 | (with_reducible refine Kd.C_alloc ?_ _) | (with_reducible refine Kd.C_drewN ?_ _) | (with_reducible refine Kd.C_drew ?_)));(case side2 => rw [show t317.length = t291.length from (Kd.R_reads' HO_14.out).1.symm];exact (Kd.R_reads' HO_14.out).2.1);rintro e w' ⟨rfl,⟨nd,rfl⟩⟩;refine ⟨_,rfl, ?_⟩))
              go_ret
              exact ⟨by first | rfl | (simp [errW_none,errW_some] <;> rfl) | (simp [*,errW_none,errW_some] <;> rfl),by repeat (first | (with_reducible first | exact HB.out | apply below_alloc | apply pw_below_drewN | apply below_drew1) | exact HB.out)⟩
             ·rw [if_neg c81] at H
              have c81b0 : decide (t318 < 0) = false:=decide_eq_false c81
              clear c81
              by_cases c84 : t318 = t316
              ·rw [if_pos c84] at H
               have c84b0 : (t318 == t316) = true:=beq_iff_eq.mpr c84
               have c84b1 : (t318 != t316) = false:=bne_eq_false_iff_eq.mpr c84
               clear c84
               replace H:=Option.bind_eq_some_iff.mp H
               obtain ⟨t319,A850,H⟩ := H
               replace H : ((laws_toContainerS.f kj55 l1).bind fun t322 => ((laws_toIntS.f kj55 l2).bind fun t325 => ((impl_WagonWeights.f kj55 t319 t322 t325).bind fun bt328 => ((laws_eqIntS.f kj55 bt328.1 t277).bind fun t333 => (if t333 = true then (if bt328.2.1 = t278 then (laws_FnExactWagonWeights.j2 kj55 t317 t316 (bt328.2.2 != t279)) else (laws_FnExactWagonWeights.j2 kj55 t317 t316 true)) else (laws_FnExactWagonWeights.j2 kj55 t317 t316 true)))))) = some r:=H
               have A85:=Aside0.mk A850
               clear A850
               replace H:=Option.bind_eq_some_iff.mp H
               obtain ⟨t322,A860,H⟩ := H
               replace H : ((laws_toIntS.f kj55 l2).bind fun t325 => ((impl_WagonWeights.f kj55 t319 t322 t325).bind fun bt328 => ((laws_eqIntS.f kj55 bt328.1 t277).bind fun t333 => (if t333 = true then (if bt328.2.1 = t278 then (laws_FnExactWagonWeights.j2 kj55 t317 t316 (bt328.2.2 != t279)) else (laws_FnExactWagonWeights.j2 kj55 t317 t316 true)) else (laws_FnExactWagonWeights.j2 kj55 t317 t316 true))))) = some r:=H
               have A86:=Aside0.mk A860
               clear A860
               replace H:=Option.bind_eq_some_iff.mp H
               obtain ⟨t325,A870,H⟩ := H
               replace H : ((impl_WagonWeights.f kj55 t319 t322 t325).bind fun bt328 => ((laws_eqIntS.f kj55 bt328.1 t277).bind fun t333 => (if t333 = true then (if bt328.2.1 = t278 then (laws_FnExactWagonWeights.j2 kj55 t317 t316 (bt328.2.2 != t279)) else (laws_FnExactWagonWeights.j2 kj55 t317 t316 true)) else (laws_FnExactWagonWeights.j2 kj55 t317 t316 true)))) = some r:=H
               have A87:=Aside0.mk A870
               clear A870
               replace H:=Option.bind_eq_some_iff.mp H
               obtain ⟨⟨t328,t329,t330⟩,A880,H⟩ := H
               replace H : ((laws_eqIntS.f kj55 t328 t277).bind fun t333 => (if t333 = true then (if t329 = t278 then (laws_FnExactWagonWeights.j2 kj55 t317 t316 (t330 != t279)) else (laws_FnExactWagonWeights.j2 kj55 t317 t316 true)) else (laws_FnExactWagonWeights.j2 kj55 t317 t316 true))) = some r:=H
               have A88:=Aside0.mk A880
               clear A880
               have HC89:=Aside0.mk H
               clear H
               obtain ⟨Ao90,co90,eo90⟩ := Kd.R_slice HO_14.out
               subst eo90
               go_upto_region 38 with (first | ((with_reducible refine gate_callee (f:=35) rfl ?_);refine goesL_ (some 119) rfl rfl Try.func35 (by kernel_rfl) rfl #[.slice Ao90 t291.length co90, .int .i64 1] rfl (by (try simp only [List.map_toArray,List.map_cons,List.map_nil]);first | done | rfl | (simp only [List.length_drop,List.length_take];rfl)) ?_;(with_reducible refine (laws_markIntS.calls kj55 (fun k_ => some k_ = (.slice Ao90 t291.length co90 : Value).ownBlock) (.slice Ao90 t291.length co90) t291 1 t316 t317 w _ ?side1 ?side2 A79.out).mono ?_);(case side1 => repeat (first | (with_reducible first | exact HB.out | apply below_alloc | apply pw_below_drewN | apply below_drew1) | exact HB.out));(case side2 => exact Kd.R_tight rfl HO_14.out);rintro e w91 ⟨rfl,hy0,hb,hkp⟩;refine ⟨_,rfl, ?_⟩;have n0_:=Aside0.mk (Kd.R_mono (ok':=fun k_ => some k_ ≠ (.slice Ao90 t291.length co90 : Value).ownBlock) (Kd.R_keptB (HO_8.out) hkp (fun k_ hk_ hs_ => (hk_) hs_)) (fun k_ hk_ => hk_.1));have n1_:=Aside0.mk (Kd.R_reok rfl hy0 (fun k_ e_ => HO_14.out.1 k_ e_));have n2_:=Aside0.mk (hb);clear HO_8;clear HO_14;clear HB;have HO_8:=n0_;have HO_14:=n1_;have HB:=n2_;clear n0_ n1_ n2_;(try clear hb);(try clear hkp);(try clear hy0)) | ((with_reducible refine gate_callee (f:=36) rfl ?_);refine goesL_ (some 122) rfl rfl Try.func36 (by kernel_rfl) rfl #[.slice Ao90 t317.length co90, .int .i64 1] rfl (by (try simp only [List.map_toArray,List.map_cons,List.map_nil]);first | done | (rw [show t317.length = t291.length from (Kd.R_reads' HO_14.out).1.symm] <;> rfl) | rfl | (simp only [List.length_drop,List.length_take];rfl)) ?_;(with_reducible refine (laws_heldIntS.calls kj55 _ _ t317 1 t318 _ ?side1 ?side2 A80.out).mono ?_);(case side1 => repeat (first | exact (Kd.R_reads' HO_14.out).2.2 | (with_reducible refine Kd.C_alloc ?_ _) | (with_reducible refine Kd.C_drewN ?_ _) | (with_reducible refine Kd.C_drew ?_)));(case side2 => rw [show t317.length = t291.length from (Kd.R_reads' HO_14.out).1.symm];exact (Kd.R_reads' HO_14.out).2.1);rintro e w' ⟨rfl,⟨nd,rfl⟩⟩;refine ⟨_,rfl, ?_⟩) | ((with_reducible refine gate_callee (f:=17) rfl ?_);refine goesL_ (some 130) rfl rfl Try.func17 (by kernel_rfl) rfl #[.slice A0 l0.length c0] rfl (by (try simp only [List.map_toArray,List.map_cons,List.map_nil]);first | done | rfl | (simp only [List.length_drop,List.length_take];rfl)) ?_;(with_reducible refine (laws_toWagonS.calls kj55 _ _ l0 t319 _ ?side1 ?side2 A85.out).mono ?_);(case side1 => repeat (first | exact (Kd.C_below HR0.out (by repeat (first | (with_reducible first | exact HB.out | apply below_alloc | apply pw_below_drewN | apply below_drew1) | exact HB.out))) | (with_reducible refine Kd.C_alloc ?_ _) | (with_reducible refine Kd.C_drewN ?_ _) | (with_reducible refine Kd.C_drew ?_)));(case side2 => exact HC0.out);rintro e w92 ⟨v320,rfl,ho0,hb⟩;refine ⟨_,rfl, ?_⟩;have n0_:=Aside0.mk (Kd.R_below (by (with_reducible repeat (first | apply Kd.R_alloc | apply Kd.R_drewN | apply Kd.R_drew));exact HO_8.out) hb);have n1_:=Aside0.mk (Kd.R_below (by (with_reducible repeat (first | apply Kd.R_alloc | apply Kd.R_drewN | apply Kd.R_drew));exact HO_14.out) hb);have n2_:=Aside0.mk (Kd.R_lower ho0 (below_size (by repeat (first | (with_reducible first | exact HB.out | apply below_alloc | apply pw_below_drewN | apply below_drew1) | exact HB.out))));have n3_:=Aside0.mk (below_step (by repeat (first | (with_reducible first | exact HB.out | apply below_alloc | apply pw_below_drewN | apply below_drew1) | exact HB.out)) hb);clear HO_8;clear HO_14;clear HB;have HO_8:=n0_;have HO_14:=n1_;have HO321:=n2_;have HB:=n3_;clear n0_ n1_ n2_ n3_;(try clear hb);(try clear hb2);(try clear hk);(try clear hi);(try clear ho0)) | ((with_reducible refine gate_callee (f:=22) rfl ?_);refine goesL_ (some 132) rfl rfl Try.func22 (by kernel_rfl) rfl #[.slice A1 l1.length c1] rfl (by (try simp only [List.map_toArray,List.map_cons,List.map_nil]);first | done | rfl | (simp only [List.length_drop,List.length_take];rfl)) ?_;(with_reducible refine (laws_toContainerS.calls kj55 _ _ l1 t322 _ ?side1 ?side2 A86.out).mono ?_);(case side1 => repeat (first | exact (Kd.C_below HR1.out HB.out) | (with_reducible refine Kd.C_alloc ?_ _) | (with_reducible refine Kd.C_drewN ?_ _) | (with_reducible refine Kd.C_drew ?_)));(case side2 => exact HC1.out);rintro e w93 ⟨v323,rfl,ho0,hb⟩;refine ⟨_,rfl, ?_⟩;have n0_:=Aside0.mk (Kd.R_below (by (with_reducible repeat (first | apply Kd.R_alloc | apply Kd.R_drewN | apply Kd.R_drew));exact HO_8.out) hb);have n1_:=Aside0.mk (Kd.R_below (by (with_reducible repeat (first | apply Kd.R_alloc | apply Kd.R_drewN | apply Kd.R_drew));exact HO_14.out) hb);have n2_:=Aside0.mk (Kd.R_below (by (with_reducible repeat (first | apply Kd.R_alloc | apply Kd.R_drewN | apply Kd.R_drew));exact HO321.out) hb);have n3_:=Aside0.mk (Kd.R_lower ho0 (below_size (by repeat (first | (with_reducible first | exact HB.out | apply below_alloc | apply pw_below_drewN | apply below_drew1) | exact HB.out))));have n4_:=Aside0.mk (below_step (by repeat (first | (with_reducible first | exact HB.out | apply below_alloc | apply pw_below_drewN | apply below_drew1) | exact HB.out)) hb);clear HO_8;clear HO_14;clear HO321;clear HB;have HO_8:=n0_;have HO_14:=n1_;have HO321:=n2_;have HO324:=n3_;have HB:=n4_;clear n0_ n1_ n2_ n3_ n4_;(try clear hb);(try clear hb2);(try clear hk);(try clear hi);(try clear ho0)) | ((with_reducible refine gate_callee (f:=23) rfl ?_);refine goesL_ (some 134) rfl rfl Try.func23 (by kernel_rfl) rfl #[.slice A2 l2.length c2] rfl (by (try simp only [List.map_toArray,List.map_cons,List.map_nil]);first | done | rfl | (simp only [List.length_drop,List.length_take];rfl)) ?_;(with_reducible refine (laws_toIntS.calls kj55 _ _ l2 t325 _ ?side1 ?side2 A87.out).mono ?_);(case side1 => repeat (first | exact (Kd.C_below HR2.out HB.out) | (with_reducible refine Kd.C_alloc ?_ _) | (with_reducible refine Kd.C_drewN ?_ _) | (with_reducible refine Kd.C_drew ?_)));(case side2 => exact HC2.out);rintro e w94 ⟨v326,rfl,ho0,hb⟩;refine ⟨_,rfl, ?_⟩;have n0_:=Aside0.mk (Kd.R_elder' (by (with_reducible repeat (first | apply Kd.R_alloc | apply Kd.R_drewN | apply Kd.R_drew));exact HO_8.out) (Kd.R_base ho0) hb);have n1_:=Aside0.mk (Kd.R_elder' (by (with_reducible repeat (first | apply Kd.R_alloc | apply Kd.R_drewN | apply Kd.R_drew));exact HO_14.out) (Kd.R_base ho0) hb);have n2_:=Aside0.mk (Kd.R_below (by (with_reducible repeat (first | apply Kd.R_alloc | apply Kd.R_drewN | apply Kd.R_drew));exact HO321.out) hb);have n3_:=Aside0.mk (Kd.R_below (by (with_reducible repeat (first | apply Kd.R_alloc | apply Kd.R_drewN | apply Kd.R_drew));exact HO324.out) hb);have n4_:=Aside0.mk (Kd.R_lower (Kd.R_new' (Kd.R_new' ho0 (Kd.R_lt (by (with_reducible repeat (first | apply Kd.R_alloc | apply Kd.R_drewN | apply Kd.R_drew));exact HO_8.out))) (Kd.R_lt (by (with_reducible repeat (first | apply Kd.R_alloc | apply Kd.R_drewN | apply Kd.R_drew));exact HO_14.out))) (below_size (by repeat (first | (with_reducible first | exact HB.out | apply below_alloc | apply pw_below_drewN | apply below_drew1) | exact HB.out))));have n5_:=Aside0.mk (below_step (by repeat (first | (with_reducible first | exact HB.out | apply below_alloc | apply pw_below_drewN | apply below_drew1) | exact HB.out)) hb);clear HO_8;clear HO_14;clear HO321;clear HO324;clear HB;have HO_8:=n0_;have HO_14:=n1_;have HO321:=n2_;have HO324:=n3_;have HO327:=n4_;have HB:=n5_;clear n0_ n1_ n2_ n3_ n4_ n5_;(try clear hb);(try clear hb2);(try clear hk);(try clear hi);(try clear ho0);obtain ⟨Ao95,co95,eo95⟩ := Kd.R_slice HO321.out;subst eo95;obtain ⟨Ao96,co96,eo96⟩ := Kd.R_slice HO324.out;subst eo96;obtain ⟨Ao97,co97,eo97⟩ := Kd.R_slice HO327.out;subst eo97) | ((with_reducible refine gate_callee (f:=40) rfl ?_);refine goesL_ (some 135) rfl rfl Try.func40 (by kernel_rfl) rfl #[.slice Ao95 t319.length co95, .slice Ao96 t322.length co96, .slice Ao97 t325.length co97] rfl (by (try simp only [List.map_toArray,List.map_cons,List.map_nil]);first | done | rfl | (simp only [List.length_drop,List.length_take];rfl)) ?_;(with_reducible refine (impl_WagonWeights.calls kj55 _ _ t319 _ _ t322 _ _ t325 t328 t329 t330 _ ?side1 ?side2 ?side3 ?side4 ?side5 ?side6 A88.out).mono ?_);(case side1 => repeat (first | exact (Kd.R_reads' HO321.out).2.2 | (with_reducible refine Kd.C_alloc ?_ _) | (with_reducible refine Kd.C_drewN ?_ _) | (with_reducible refine Kd.C_drew ?_)));(case side2 => exact (Kd.R_reads' HO321.out).2.1);(case side3 => repeat (first | exact (Kd.R_reads' HO324.out).2.2 | (with_reducible refine Kd.C_alloc ?_ _) | (with_reducible refine Kd.C_drewN ?_ _) | (with_reducible refine Kd.C_drew ?_)));(case side4 => exact (Kd.R_reads' HO324.out).2.1);(case side5 => repeat (first | exact (Kd.R_reads' HO327.out).2.2 | (with_reducible refine Kd.C_alloc ?_ _) | (with_reducible refine Kd.C_drewN ?_ _) | (with_reducible refine Kd.C_drew ?_)));(case side6 => exact (Kd.R_reads' HO327.out).2.1);rintro e w98 ⟨v331,rfl,ho0,hb⟩;refine ⟨_,rfl, ?_⟩;have n0_:=Aside0.mk (Kd.R_elder' (by (with_reducible repeat (first | apply Kd.R_alloc | apply Kd.R_drewN | apply Kd.R_drew));exact HO_8.out) (Kd.R_base ho0) hb);have n1_:=Aside0.mk (Kd.R_elder' (by (with_reducible repeat (first | apply Kd.R_alloc | apply Kd.R_drewN | apply Kd.R_drew));exact HO_14.out) (Kd.R_base ho0) hb);have n2_:=Aside0.mk (Kd.R_below (by (with_reducible repeat (first | apply Kd.R_alloc | apply Kd.R_drewN | apply Kd.R_drew));exact HO321.out) hb);have n3_:=Aside0.mk (Kd.R_below (by (with_reducible repeat (first | apply Kd.R_alloc | apply Kd.R_drewN | apply Kd.R_drew));exact HO324.out) hb);have n4_:=Aside0.mk (Kd.R_elder' (by (with_reducible repeat (first | apply Kd.R_alloc | apply Kd.R_drewN | apply Kd.R_drew));exact HO327.out) (Kd.R_base ho0) hb);have n5_:=Aside0.mk (Kd.R_lower (Kd.R_new' (Kd.R_new' (Kd.R_new' ho0 (Kd.R_lt (by (with_reducible repeat (first | apply Kd.R_alloc | apply Kd.R_drewN | apply Kd.R_drew));exact HO_8.out))) (Kd.R_lt (by (with_reducible repeat (first | apply Kd.R_alloc | apply Kd.R_drewN | apply Kd.R_drew));exact HO_14.out))) (Kd.R_lt (by (with_reducible repeat (first | apply Kd.R_alloc | apply Kd.R_drewN | apply Kd.R_drew));exact HO327.out))) (below_size (by repeat (first | (with_reducible first | exact HB.out | apply below_alloc | apply pw_below_drewN | apply below_drew1) | exact HB.out))));have n6_:=Aside0.mk (below_step (by repeat (first | (with_reducible first | exact HB.out | apply below_alloc | apply pw_below_drewN | apply below_drew1) | exact HB.out)) hb);clear HO_8;clear HO_14;clear HO321;clear HO324;clear HO327;clear HB;have HO_8:=n0_;have HO_14:=n1_;have HO321:=n2_;have HO324:=n3_;have HO327:=n4_;have HO332:=n5_;have HB:=n6_;clear n0_ n1_ n2_ n3_ n4_ n5_ n6_;(try clear hb);(try clear hb2);(try clear hk);(try clear hi);(try clear ho0)))
               (try simp only [Act.put,sA_,s0_,s1_])
               go_cut [152] (fun v152 wc => ∃ (kq : Nat) (x152_88 : Bool),v152 = .bool x152_88 ∧ Aside0 (laws_FnExactWagonWeights.j2 kq t317 t316 x152_88 = some r) ∧ Aside0 (kq ≤ kj55) ∧ Aside0 (Kd.R (Kd.int .i64) 3 wc w.heap.size (fun _ => True) (.slice Ao90 t291.length co90) t317) ∧ Aside0 (Below w.heap.size w wc))
               case first =>
                have H:=HC89.out
                clear HC89
                replace H:=Option.bind_eq_some_iff.mp H
                obtain ⟨t333,A990,H⟩ := H
                replace H : (if t333 = true then (if t329 = t278 then (laws_FnExactWagonWeights.j2 kj55 t317 t316 (t330 != t279)) else (laws_FnExactWagonWeights.j2 kj55 t317 t316 true)) else (laws_FnExactWagonWeights.j2 kj55 t317 t316 true)) = some r:=H
                have A99:=Aside0.mk A990
                clear A990
                by_cases c100 : t333 = true
                ·subst c100
                 have H1 : (if t329 = t278 then (laws_FnExactWagonWeights.j2 kj55 t317 t316 (t330 != t279)) else (laws_FnExactWagonWeights.j2 kj55 t317 t316 true)) = some r:=by rw [if_pos rfl] at H;exact H
                 clear H
                 have H:=H1
                 clear H1
                 by_cases c101 : t329 = t278
                 ·rw [if_pos c101] at H
                  have c101b0 : (t329 == t278) = true:=beq_iff_eq.mpr c101
                  have c101b1 : (t329 != t278) = false:=bne_eq_false_iff_eq.mpr c101
                  clear c101
                  (first | rw [c101b0] | (simp only [i64_w,i32_w];rw [c101b0]) | skip)
                  have H':=Aside0.mk H
                  clear H
                  obtain ⟨Ao102,co102,eo102⟩ := Kd.R_slice HO332.out
                  subst eo102
                  obtain ⟨Ao103,co103,eo103⟩ := Kd.R_slice HO_8.out
                  subst eo103
                  go_wp2_with (first | ((with_reducible refine gate_callee (f:=26) rfl ?_);refine goesL_ (some 141) rfl rfl Try.func26 (by kernel_rfl) rfl #[.slice Ao102 t328.length co102, .slice Ao103 t277.length co103] rfl (by (try simp only [List.map_toArray,List.map_cons,List.map_nil]);first | done | rfl | (simp only [List.length_drop,List.length_take];rfl)) ?_;(with_reducible refine (laws_eqIntS.calls kj55 _ _ t328 _ _ t277 true _ ?side1 ?side2 ?side3 ?side4 A99.out).mono ?_);(case side1 => repeat (first | exact (Kd.R_reads' HO332.out).2.2 | (with_reducible refine Kd.C_alloc ?_ _) | (with_reducible refine Kd.C_drewN ?_ _) | (with_reducible refine Kd.C_drew ?_)));(case side2 => exact (Kd.R_reads' HO332.out).2.1);(case side3 => repeat (first | exact (Kd.R_reads' HO_8.out).2.2 | (with_reducible refine Kd.C_alloc ?_ _) | (with_reducible refine Kd.C_drewN ?_ _) | (with_reducible refine Kd.C_drew ?_)));(case side4 => exact (Kd.R_reads' HO_8.out).2.1);rintro e w' ⟨rfl,⟨nd,rfl⟩⟩;refine ⟨_,rfl, ?_⟩))
                  go_meet
                  case rel => exact ⟨_,((t330 != t279)),(by first | rfl | (simp;done) | (simp [*];done)),H',⟨by have:=HJ17.out;have:=HJ55.out;first | omega | exact Nat.le_refl _⟩,⟨by (with_reducible repeat (first | apply Kd.R_alloc | apply Kd.R_drewN | apply Kd.R_drew));exact Kd.R_mono HO_14.out (fun _ hk => trivial)⟩,⟨by repeat (first | (with_reducible first | exact HB.out | apply below_alloc | apply pw_below_drewN | apply below_drew1) | exact HB.out)⟩⟩
                 ·rw [if_neg c101] at H
                  have c101b0 : (t329 == t278) = false:=beq_eq_false_iff_ne.mpr c101
                  have c101b1 : (t329 != t278) = true:=bne_iff_ne.mpr c101
                  (first | rw [c101b0] | (simp only [i64_w,i32_w];rw [c101b0]) | skip)
                  have H':=Aside0.mk H
                  clear H
                  obtain ⟨Ao104,co104,eo104⟩ := Kd.R_slice HO332.out
                  subst eo104
                  obtain ⟨Ao105,co105,eo105⟩ := Kd.R_slice HO_8.out
                  subst eo105
                  go_wp2_with (first | ((with_reducible refine gate_callee (f:=26) rfl ?_);refine goesL_ (some 141) rfl rfl Try.func26 (by kernel_rfl) rfl #[.slice Ao104 t328.length co104, .slice Ao105 t277.length co105] rfl (by (try simp only [List.map_toArray,List.map_cons,List.map_nil]);first | done | rfl | (simp only [List.length_drop,List.length_take];rfl)) ?_;(with_reducible refine (laws_eqIntS.calls kj55 _ _ t328 _ _ t277 true _ ?side1 ?side2 ?side3 ?side4 A99.out).mono ?_);(case side1 => repeat (first | exact (Kd.R_reads' HO332.out).2.2 | (with_reducible refine Kd.C_alloc ?_ _) | (with_reducible refine Kd.C_drewN ?_ _) | (with_reducible refine Kd.C_drew ?_)));(case side2 => exact (Kd.R_reads' HO332.out).2.1);(case side3 => repeat (first | exact (Kd.R_reads' HO_8.out).2.2 | (with_reducible refine Kd.C_alloc ?_ _) | (with_reducible refine Kd.C_drewN ?_ _) | (with_reducible refine Kd.C_drew ?_)));(case side4 => exact (Kd.R_reads' HO_8.out).2.1);rintro e w' ⟨rfl,⟨nd,rfl⟩⟩;refine ⟨_,rfl, ?_⟩))
                  go_meet
                  case rel => exact ⟨_,(true),(by first | rfl | (simp;done) | (simp [*];done)),H',⟨by have:=HJ17.out;have:=HJ55.out;first | omega | exact Nat.le_refl _⟩,⟨by (with_reducible repeat (first | apply Kd.R_alloc | apply Kd.R_drewN | apply Kd.R_drew));exact Kd.R_mono HO_14.out (fun _ hk => trivial)⟩,⟨by repeat (first | (with_reducible first | exact HB.out | apply below_alloc | apply pw_below_drewN | apply below_drew1) | exact HB.out)⟩⟩
                ·replace c100:=Bool.eq_false_iff.mpr c100
                 subst c100
                 have H1 : (laws_FnExactWagonWeights.j2 kj55 t317 t316 true) = some r:=by rw [if_neg (show ¬ (false = true) by decide)] at H;exact H
                 clear H
                 have H:=H1
                 clear H1
                 have H':=Aside0.mk H
                 clear H
                 obtain ⟨Ao106,co106,eo106⟩ := Kd.R_slice HO332.out
                 subst eo106
                 obtain ⟨Ao107,co107,eo107⟩ := Kd.R_slice HO_8.out
                 subst eo107
                 go_wp2_with (first | ((with_reducible refine gate_callee (f:=26) rfl ?_);refine goesL_ (some 141) rfl rfl Try.func26 (by kernel_rfl) rfl #[.slice Ao106 t328.length co106, .slice Ao107 t277.length co107] rfl (by (try simp only [List.map_toArray,List.map_cons,List.map_nil]);first | done | rfl | (simp only [List.length_drop,List.length_take];rfl)) ?_;(with_reducible refine (laws_eqIntS.calls kj55 _ _ t328 _ _ t277 false _ ?side1 ?side2 ?side3 ?side4 A99.out).mono ?_);(case side1 => repeat (first | exact (Kd.R_reads' HO332.out).2.2 | (with_reducible refine Kd.C_alloc ?_ _) | (with_reducible refine Kd.C_drewN ?_ _) | (with_reducible refine Kd.C_drew ?_)));(case side2 => exact (Kd.R_reads' HO332.out).2.1);(case side3 => repeat (first | exact (Kd.R_reads' HO_8.out).2.2 | (with_reducible refine Kd.C_alloc ?_ _) | (with_reducible refine Kd.C_drewN ?_ _) | (with_reducible refine Kd.C_drew ?_)));(case side4 => exact (Kd.R_reads' HO_8.out).2.1);rintro e w' ⟨rfl,⟨nd,rfl⟩⟩;refine ⟨_,rfl, ?_⟩))
                 go_meet
                 case rel => exact ⟨_,(true),(by first | rfl | (simp;done) | (simp [*];done)),H',⟨by have:=HJ17.out;have:=HJ55.out;first | omega | exact Nat.le_refl _⟩,⟨by (with_reducible repeat (first | apply Kd.R_alloc | apply Kd.R_drewN | apply Kd.R_drew));exact Kd.R_mono HO_14.out (fun _ hk => trivial)⟩,⟨by repeat (first | (with_reducible first | exact HB.out | apply below_alloc | apply pw_below_drewN | apply below_drew1) | exact HB.out)⟩⟩
               case rest =>
                clear HC89
                try clear c1
                try clear c2
                try clear p2
                try clear c3
                try clear c4
                try clear c4b0
                try clear c4b1
                try clear c5
                try clear c6
                try clear c6b0
                try clear c7
                try clear c8
                try clear c8b0
                try clear c9
                try clear c10
                try clear c15
                try clear c17
                try clear c19
                try clear c20
                try clear c22
                try clear c23
                try clear c25
                try clear c26
                try clear c33
                try clear c34
                try clear c35
                try clear c36
                try clear c36b0
                try clear c36b1
                try clear c39
                try clear c40
                try clear c43
                try clear c46
                try clear c49
                try clear c52
                try clear c68
                try clear c68b0
                try clear c70
                try clear c71
                try clear c71b0
                try clear c71b1
                try clear c78
                try clear c81
                try clear c81b0
                try clear c84
                try clear c84b0
                try clear c84b1
                try clear c100
                try clear c101
                try clear c101b0
                try clear c101b1
                try clear p2
                obtain ⟨kq,x152_88,rfl,HA,HJ88,HO_14,HB⟩ := hcut
                have hl14_88:=(Kd.R_reads' HO_14.out).1
                rw [hl14_88] at HO_14
                (try simp only [hl14_88])
                cases kq with
                | zero => exact absurd HA.out (by simp [laws_FnExactWagonWeights.j2])
                | succ kj88 =>
                 have H:=HA.out
                 clear HA
                 simp only [laws_FnExactWagonWeights.j2] at H
                 by_cases c108 : x152_88 = true
                 ·subst c108
                  have H1 : (some false) = some r:=by rw [if_pos rfl] at H;exact H
                  clear H
                  have H:=H1
                  clear H1
                  obtain rfl:=Option.some.inj H
                  go_wp2
                  go_ret
                  exact ⟨by first | rfl | (simp [errW_none,errW_some] <;> rfl) | (simp [*,errW_none,errW_some] <;> rfl),by repeat (first | (with_reducible first | exact HB.out | apply below_alloc | apply pw_below_drewN | apply below_drew1) | exact HB.out)⟩
                 ·replace c108:=Bool.eq_false_iff.mpr c108
                  subst c108
                  have H1 : ((laws_heldIntS.f kj88 t317 1).bind fun t334 => (if t334 < 0 then (some false) else (if t334 = t316 then (some true) else (some false)))) = some r:=by rw [if_neg (show ¬ (false = true) by decide)] at H;exact H
                  clear H
                  have H:=H1
                  clear H1
                  replace H:=Option.bind_eq_some_iff.mp H
                  obtain ⟨t334,A1090,H⟩ := H
                  replace H : (if t334 < 0 then (some false) else (if t334 = t316 then (some true) else (some false))) = some r:=H
                  have A109:=Aside0.mk A1090
                  clear A1090
                  by_cases c110 : t334 < 0
                  ·rw [if_pos c110] at H
                   have c110b0 : decide (t334 < 0) = true:=decide_eq_true c110
                   clear c110
                   obtain rfl:=Option.some.inj H
                   go_wp2_with (first | ((with_reducible refine gate_callee (f:=36) rfl ?_);refine goesL_ (some 155) rfl rfl Try.func36 (by kernel_rfl) rfl #[.slice Ao90 t317.length co90, .int .i64 1] rfl (by (try simp only [List.map_toArray,List.map_cons,List.map_nil]);first | done | rfl | (simp only [List.length_drop,List.length_take];rfl)) ?_;(with_reducible refine (laws_heldIntS.calls kj88 _ _ t317 1 t334 _ ?side1 ?side2 A109.out).mono ?_);(case side1 => repeat (first | exact (Kd.R_reads' HO_14.out).2.2 | (with_reducible refine Kd.C_alloc ?_ _) | (with_reducible refine Kd.C_drewN ?_ _) | (with_reducible refine Kd.C_drew ?_)));(case side2 => exact (Kd.R_reads' HO_14.out).2.1);rintro e w' ⟨rfl,⟨nd,rfl⟩⟩;refine ⟨_,rfl, ?_⟩))
                   go_ret
                   exact ⟨by first | rfl | (simp [errW_none,errW_some] <;> rfl) | (simp [*,errW_none,errW_some] <;> rfl),by repeat (first | (with_reducible first | exact HB.out | apply below_alloc | apply pw_below_drewN | apply below_drew1) | exact HB.out)⟩
                  ·rw [if_neg c110] at H
                   have c110b0 : decide (t334 < 0) = false:=decide_eq_false c110
                   clear c110
                   by_cases c111 : t334 = t316
                   ·rw [if_pos c111] at H
                    have c111b0 : (t334 == t316) = true:=beq_iff_eq.mpr c111
                    have c111b1 : (t334 != t316) = false:=bne_eq_false_iff_eq.mpr c111
                    clear c111
                    obtain rfl:=Option.some.inj H
                    go_wp2_with (first | ((with_reducible refine gate_callee (f:=36) rfl ?_);refine goesL_ (some 155) rfl rfl Try.func36 (by kernel_rfl) rfl #[.slice Ao90 t317.length co90, .int .i64 1] rfl (by (try simp only [List.map_toArray,List.map_cons,List.map_nil]);first | done | rfl | (simp only [List.length_drop,List.length_take];rfl)) ?_;(with_reducible refine (laws_heldIntS.calls kj88 _ _ t317 1 t334 _ ?side1 ?side2 A109.out).mono ?_);(case side1 => repeat (first | exact (Kd.R_reads' HO_14.out).2.2 | (with_reducible refine Kd.C_alloc ?_ _) | (with_reducible refine Kd.C_drewN ?_ _) | (with_reducible refine Kd.C_drew ?_)));(case side2 => exact (Kd.R_reads' HO_14.out).2.1);rintro e w' ⟨rfl,⟨nd,rfl⟩⟩;refine ⟨_,rfl, ?_⟩))
                    go_ret
                    exact ⟨by first | rfl | (simp [errW_none,errW_some] <;> rfl) | (simp [*,errW_none,errW_some] <;> rfl),by repeat (first | (with_reducible first | exact HB.out | apply below_alloc | apply pw_below_drewN | apply below_drew1) | exact HB.out)⟩
                   ·rw [if_neg c111] at H
                    have c111b0 : (t334 == t316) = false:=beq_eq_false_iff_ne.mpr c111
                    have c111b1 : (t334 != t316) = true:=bne_iff_ne.mpr c111
                    obtain rfl:=Option.some.inj H
                    go_wp2_with (first | ((with_reducible refine gate_callee (f:=36) rfl ?_);refine goesL_ (some 155) rfl rfl Try.func36 (by kernel_rfl) rfl #[.slice Ao90 t317.length co90, .int .i64 1] rfl (by (try simp only [List.map_toArray,List.map_cons,List.map_nil]);first | done | rfl | (simp only [List.length_drop,List.length_take];rfl)) ?_;(with_reducible refine (laws_heldIntS.calls kj88 _ _ t317 1 t334 _ ?side1 ?side2 A109.out).mono ?_);(case side1 => repeat (first | exact (Kd.R_reads' HO_14.out).2.2 | (with_reducible refine Kd.C_alloc ?_ _) | (with_reducible refine Kd.C_drewN ?_ _) | (with_reducible refine Kd.C_drew ?_)));(case side2 => exact (Kd.R_reads' HO_14.out).2.1);rintro e w' ⟨rfl,⟨nd,rfl⟩⟩;refine ⟨_,rfl, ?_⟩))
                    go_ret
                    exact ⟨by first | rfl | (simp [errW_none,errW_some] <;> rfl) | (simp [*,errW_none,errW_some] <;> rfl),by repeat (first | (with_reducible first | exact HB.out | apply below_alloc | apply pw_below_drewN | apply below_drew1) | exact HB.out)⟩
              ·rw [if_neg c84] at H
               have c84b0 : (t318 == t316) = false:=beq_eq_false_iff_ne.mpr c84
               have c84b1 : (t318 != t316) = true:=bne_iff_ne.mpr c84
               obtain rfl:=Option.some.inj H
               obtain ⟨Ao112,co112,eo112⟩ := Kd.R_slice HO_14.out
               subst eo112
               go_wp2_with (first | ((with_reducible refine gate_callee (f:=35) rfl ?_);refine goesL_ (some 119) rfl rfl Try.func35 (by kernel_rfl) rfl #[.slice Ao112 t291.length co112, .int .i64 1] rfl (by (try simp only [List.map_toArray,List.map_cons,List.map_nil]);first | done | rfl | (simp only [List.length_drop,List.length_take];rfl)) ?_;(with_reducible refine (laws_markIntS.calls kj55 (fun k_ => some k_ = (.slice Ao112 t291.length co112 : Value).ownBlock) (.slice Ao112 t291.length co112) t291 1 t316 t317 w _ ?side1 ?side2 A79.out).mono ?_);(case side1 => repeat (first | (with_reducible first | exact HB.out | apply below_alloc | apply pw_below_drewN | apply below_drew1) | exact HB.out));(case side2 => exact Kd.R_tight rfl HO_14.out);rintro e w113 ⟨rfl,hy0,hb,hkp⟩;refine ⟨_,rfl, ?_⟩;have n0_:=Aside0.mk (Kd.R_mono (ok':=fun k_ => some k_ ≠ (.slice Ao112 t291.length co112 : Value).ownBlock) (Kd.R_keptB (HO_8.out) hkp (fun k_ hk_ hs_ => (hk_) hs_)) (fun k_ hk_ => hk_.1));have n1_:=Aside0.mk (Kd.R_reok rfl hy0 (fun k_ e_ => HO_14.out.1 k_ e_));have n2_:=Aside0.mk (hb);clear HO_8;clear HO_14;clear HB;have HO_8:=n0_;have HO_14:=n1_;have HB:=n2_;clear n0_ n1_ n2_;(try clear hb);(try clear hkp);(try clear hy0)) | ((with_reducible refine gate_callee (f:=36) rfl ?_);refine goesL_ (some 122) rfl rfl Try.func36 (by kernel_rfl) rfl #[.slice Ao112 t317.length co112, .int .i64 1] rfl (by (try simp only [List.map_toArray,List.map_cons,List.map_nil]);first | done | (rw [show t317.length = t291.length from (Kd.R_reads' HO_14.out).1.symm] <;> rfl) | rfl | (simp only [List.length_drop,List.length_take];rfl)) ?_;(with_reducible refine (laws_heldIntS.calls kj55 _ _ t317 1 t318 _ ?side1 ?side2 A80.out).mono ?_);(case side1 => repeat (first | exact (Kd.R_reads' HO_14.out).2.2 | (with_reducible refine Kd.C_alloc ?_ _) | (with_reducible refine Kd.C_drewN ?_ _) | (with_reducible refine Kd.C_drew ?_)));(case side2 => rw [show t317.length = t291.length from (Kd.R_reads' HO_14.out).1.symm];exact (Kd.R_reads' HO_14.out).2.1);rintro e w' ⟨rfl,⟨nd,rfl⟩⟩;refine ⟨_,rfl, ?_⟩))
               go_ret
               exact ⟨by first | rfl | (simp [errW_none,errW_some] <;> rfl) | (simp [*,errW_none,errW_some] <;> rfl),by repeat (first | (with_reducible first | exact HB.out | apply below_alloc | apply pw_below_drewN | apply below_drew1) | exact HB.out)⟩
         ·replace c52:=Bool.eq_false_iff.mpr c52
          subst c52
          have H1 : (some false) = some r:=by rw [if_neg (show ¬ (false = true) by decide)] at H;exact H
          clear H
          have H:=H1
          clear H1
          obtain rfl:=Option.some.inj H
          go_wp2_with (first | ((with_reducible refine gate_callee (f:=17) rfl ?_);refine goesL_ (some 77) rfl rfl Try.func17 (by kernel_rfl) rfl #[.slice A0 l0.length c0] rfl (by (try simp only [List.map_toArray,List.map_cons,List.map_nil]);first | done | rfl | (simp only [List.length_drop,List.length_take];rfl)) ?_;(with_reducible refine (laws_toWagonS.calls kj17 _ _ l0 t297 _ ?side1 ?side2 A44.out).mono ?_);(case side1 => repeat (first | exact (Kd.C_below HR0.out HB.out) | (with_reducible refine Kd.C_alloc ?_ _) | (with_reducible refine Kd.C_drewN ?_ _) | (with_reducible refine Kd.C_drew ?_)));(case side2 => exact HC0.out);rintro e w114 ⟨v298,rfl,ho0,hb⟩;refine ⟨_,rfl, ?_⟩;have n0_:=Aside0.mk (Kd.R_below (by (with_reducible repeat (first | apply Kd.R_alloc | apply Kd.R_drewN | apply Kd.R_drew));exact HO_8.out) hb);have n1_:=Aside0.mk (Kd.R_elder' (by (with_reducible repeat (first | apply Kd.R_alloc | apply Kd.R_drewN | apply Kd.R_drew));exact HO_11.out) (Kd.R_base ho0) hb);have n2_:=Aside0.mk (Kd.R_below (by (with_reducible repeat (first | apply Kd.R_alloc | apply Kd.R_drewN | apply Kd.R_drew));exact HO_12.out) hb);have n3_:=Aside0.mk (Kd.R_below (by (with_reducible repeat (first | apply Kd.R_alloc | apply Kd.R_drewN | apply Kd.R_drew));exact HO_13.out) hb);have n4_:=Aside0.mk (Kd.R_below (by (with_reducible repeat (first | apply Kd.R_alloc | apply Kd.R_drewN | apply Kd.R_drew));exact HO_14.out) hb);have n5_:=Aside0.mk (Kd.R_lower (Kd.R_new' ho0 (Kd.R_lt (by (with_reducible repeat (first | apply Kd.R_alloc | apply Kd.R_drewN | apply Kd.R_drew));exact HO_11.out))) (below_size (by repeat (first | (with_reducible first | exact HB.out | apply below_alloc | apply pw_below_drewN | apply below_drew1) | exact HB.out))));have n6_:=Aside0.mk (below_step (by repeat (first | (with_reducible first | exact HB.out | apply below_alloc | apply pw_below_drewN | apply below_drew1) | exact HB.out)) hb);clear HO_8;clear HO_11;clear HO_12;clear HO_13;clear HO_14;clear HB;have HO_8:=n0_;have HO_11:=n1_;have HO_12:=n2_;have HO_13:=n3_;have HO_14:=n4_;have HO299:=n5_;have HB:=n6_;clear n0_ n1_ n2_ n3_ n4_ n5_ n6_;(try clear hb);(try clear hb2);(try clear hk);(try clear hi);(try clear ho0);obtain ⟨Ao115,co115,eo115⟩ := Kd.R_slice HO299.out;subst eo115) | ((with_reducible refine gate_callee (f:=19) rfl ?_);refine goesL_ (some 78) rfl rfl Try.func19 (by kernel_rfl) rfl #[.slice Ao30 t282.length co30, .slice Ao115 t297.length co115] rfl (by (try simp only [List.map_toArray,List.map_cons,List.map_nil]);first | done | rfl | (simp only [List.length_drop,List.length_take];rfl)) ?_;(with_reducible refine (laws_eqWagonS.calls kj17 _ _ t282 _ _ t297 true _ ?side1 ?side2 ?side3 ?side4 A45.out).mono ?_);(case side1 => repeat (first | exact (Kd.R_reads' HO_11.out).2.2 | (with_reducible refine Kd.C_alloc ?_ _) | (with_reducible refine Kd.C_drewN ?_ _) | (with_reducible refine Kd.C_drew ?_)));(case side2 => exact (Kd.R_reads' HO_11.out).2.1);(case side3 => repeat (first | exact (Kd.R_reads' HO299.out).2.2 | (with_reducible refine Kd.C_alloc ?_ _) | (with_reducible refine Kd.C_drewN ?_ _) | (with_reducible refine Kd.C_drew ?_)));(case side4 => exact (Kd.R_reads' HO299.out).2.1);rintro e w116 ⟨rfl,hb⟩;refine ⟨_,rfl, ?_⟩;have n0_:=Aside0.mk (Kd.R_below (by (with_reducible repeat (first | apply Kd.R_alloc | apply Kd.R_drewN | apply Kd.R_drew));exact HO_8.out) hb);have n1_:=Aside0.mk (Kd.R_below (by (with_reducible repeat (first | apply Kd.R_alloc | apply Kd.R_drewN | apply Kd.R_drew));exact HO_11.out) hb);have n2_:=Aside0.mk (Kd.R_below (by (with_reducible repeat (first | apply Kd.R_alloc | apply Kd.R_drewN | apply Kd.R_drew));exact HO_12.out) hb);have n3_:=Aside0.mk (Kd.R_below (by (with_reducible repeat (first | apply Kd.R_alloc | apply Kd.R_drewN | apply Kd.R_drew));exact HO_13.out) hb);have n4_:=Aside0.mk (Kd.R_below (by (with_reducible repeat (first | apply Kd.R_alloc | apply Kd.R_drewN | apply Kd.R_drew));exact HO_14.out) hb);have n5_:=Aside0.mk (Kd.R_below (by (with_reducible repeat (first | apply Kd.R_alloc | apply Kd.R_drewN | apply Kd.R_drew));exact HO299.out) hb);have n6_:=Aside0.mk (below_step (by repeat (first | (with_reducible first | exact HB.out | apply below_alloc | apply pw_below_drewN | apply below_drew1) | exact HB.out)) hb);clear HO_8;clear HO_11;clear HO_12;clear HO_13;clear HO_14;clear HO299;clear HB;have HO_8:=n0_;have HO_11:=n1_;have HO_12:=n2_;have HO_13:=n3_;have HO_14:=n4_;have HO299:=n5_;have HB:=n6_;clear n0_ n1_ n2_ n3_ n4_ n5_ n6_;(try clear hb);(try clear hb2);(try clear hk);(try clear hi)) | ((with_reducible refine gate_callee (f:=22) rfl ?_);refine goesL_ (some 82) rfl rfl Try.func22 (by kernel_rfl) rfl #[.slice A1 l1.length c1] rfl (by (try simp only [List.map_toArray,List.map_cons,List.map_nil]);first | done | rfl | (simp only [List.length_drop,List.length_take];rfl)) ?_;(with_reducible refine (laws_toContainerS.calls kj17 _ _ l1 t301 _ ?side1 ?side2 A47.out).mono ?_);(case side1 => repeat (first | exact (Kd.C_below HR1.out HB.out) | (with_reducible refine Kd.C_alloc ?_ _) | (with_reducible refine Kd.C_drewN ?_ _) | (with_reducible refine Kd.C_drew ?_)));(case side2 => exact HC1.out);rintro e w117 ⟨v302,rfl,ho0,hb⟩;refine ⟨_,rfl, ?_⟩;have n0_:=Aside0.mk (Kd.R_below (by (with_reducible repeat (first | apply Kd.R_alloc | apply Kd.R_drewN | apply Kd.R_drew));exact HO_8.out) hb);have n1_:=Aside0.mk (Kd.R_below (by (with_reducible repeat (first | apply Kd.R_alloc | apply Kd.R_drewN | apply Kd.R_drew));exact HO_11.out) hb);have n2_:=Aside0.mk (Kd.R_elder' (by (with_reducible repeat (first | apply Kd.R_alloc | apply Kd.R_drewN | apply Kd.R_drew));exact HO_12.out) (Kd.R_base ho0) hb);have n3_:=Aside0.mk (Kd.R_below (by (with_reducible repeat (first | apply Kd.R_alloc | apply Kd.R_drewN | apply Kd.R_drew));exact HO_13.out) hb);have n4_:=Aside0.mk (Kd.R_below (by (with_reducible repeat (first | apply Kd.R_alloc | apply Kd.R_drewN | apply Kd.R_drew));exact HO_14.out) hb);have n5_:=Aside0.mk (Kd.R_below (by (with_reducible repeat (first | apply Kd.R_alloc | apply Kd.R_drewN | apply Kd.R_drew));exact HO299.out) hb);have n6_:=Aside0.mk (Kd.R_lower (Kd.R_new' ho0 (Kd.R_lt (by (with_reducible repeat (first | apply Kd.R_alloc | apply Kd.R_drewN | apply Kd.R_drew));exact HO_12.out))) (below_size (by repeat (first | (with_reducible first | exact HB.out | apply below_alloc | apply pw_below_drewN | apply below_drew1) | exact HB.out))));have n7_:=Aside0.mk (below_step (by repeat (first | (with_reducible first | exact HB.out | apply below_alloc | apply pw_below_drewN | apply below_drew1) | exact HB.out)) hb);clear HO_8;clear HO_11;clear HO_12;clear HO_13;clear HO_14;clear HO299;clear HB;have HO_8:=n0_;have HO_11:=n1_;have HO_12:=n2_;have HO_13:=n3_;have HO_14:=n4_;have HO299:=n5_;have HO303:=n6_;have HB:=n7_;clear n0_ n1_ n2_ n3_ n4_ n5_ n6_ n7_;(try clear hb);(try clear hb2);(try clear hk);(try clear hi);(try clear ho0);obtain ⟨Ao118,co118,eo118⟩ := Kd.R_slice HO303.out;subst eo118) | ((with_reducible refine gate_callee (f:=25) rfl ?_);refine goesL_ (some 83) rfl rfl Try.func25 (by kernel_rfl) rfl #[.slice Ao31 t285.length co31, .slice Ao118 t301.length co118] rfl (by (try simp only [List.map_toArray,List.map_cons,List.map_nil]);first | done | rfl | (simp only [List.length_drop,List.length_take];rfl)) ?_;(with_reducible refine (laws_eqContainerS.calls kj17 _ _ t285 _ _ t301 true _ ?side1 ?side2 ?side3 ?side4 A48.out).mono ?_);(case side1 => repeat (first | exact (Kd.R_reads' HO_12.out).2.2 | (with_reducible refine Kd.C_alloc ?_ _) | (with_reducible refine Kd.C_drewN ?_ _) | (with_reducible refine Kd.C_drew ?_)));(case side2 => exact (Kd.R_reads' HO_12.out).2.1);(case side3 => repeat (first | exact (Kd.R_reads' HO303.out).2.2 | (with_reducible refine Kd.C_alloc ?_ _) | (with_reducible refine Kd.C_drewN ?_ _) | (with_reducible refine Kd.C_drew ?_)));(case side4 => exact (Kd.R_reads' HO303.out).2.1);rintro e w119 ⟨rfl,hb⟩;refine ⟨_,rfl, ?_⟩;have n0_:=Aside0.mk (Kd.R_below (by (with_reducible repeat (first | apply Kd.R_alloc | apply Kd.R_drewN | apply Kd.R_drew));exact HO_8.out) hb);have n1_:=Aside0.mk (Kd.R_below (by (with_reducible repeat (first | apply Kd.R_alloc | apply Kd.R_drewN | apply Kd.R_drew));exact HO_11.out) hb);have n2_:=Aside0.mk (Kd.R_below (by (with_reducible repeat (first | apply Kd.R_alloc | apply Kd.R_drewN | apply Kd.R_drew));exact HO_12.out) hb);have n3_:=Aside0.mk (Kd.R_below (by (with_reducible repeat (first | apply Kd.R_alloc | apply Kd.R_drewN | apply Kd.R_drew));exact HO_13.out) hb);have n4_:=Aside0.mk (Kd.R_below (by (with_reducible repeat (first | apply Kd.R_alloc | apply Kd.R_drewN | apply Kd.R_drew));exact HO_14.out) hb);have n5_:=Aside0.mk (Kd.R_below (by (with_reducible repeat (first | apply Kd.R_alloc | apply Kd.R_drewN | apply Kd.R_drew));exact HO299.out) hb);have n6_:=Aside0.mk (Kd.R_below (by (with_reducible repeat (first | apply Kd.R_alloc | apply Kd.R_drewN | apply Kd.R_drew));exact HO303.out) hb);have n7_:=Aside0.mk (below_step (by repeat (first | (with_reducible first | exact HB.out | apply below_alloc | apply pw_below_drewN | apply below_drew1) | exact HB.out)) hb);clear HO_8;clear HO_11;clear HO_12;clear HO_13;clear HO_14;clear HO299;clear HO303;clear HB;have HO_8:=n0_;have HO_11:=n1_;have HO_12:=n2_;have HO_13:=n3_;have HO_14:=n4_;have HO299:=n5_;have HO303:=n6_;have HB:=n7_;clear n0_ n1_ n2_ n3_ n4_ n5_ n6_ n7_;(try clear hb);(try clear hb2);(try clear hk);(try clear hi)) | ((with_reducible refine gate_callee (f:=23) rfl ?_);refine goesL_ (some 87) rfl rfl Try.func23 (by kernel_rfl) rfl #[.slice A2 l2.length c2] rfl (by (try simp only [List.map_toArray,List.map_cons,List.map_nil]);first | done | rfl | (simp only [List.length_drop,List.length_take];rfl)) ?_;(with_reducible refine (laws_toIntS.calls kj17 _ _ l2 t305 _ ?side1 ?side2 A50.out).mono ?_);(case side1 => repeat (first | exact (Kd.C_below HR2.out HB.out) | (with_reducible refine Kd.C_alloc ?_ _) | (with_reducible refine Kd.C_drewN ?_ _) | (with_reducible refine Kd.C_drew ?_)));(case side2 => exact HC2.out);rintro e w120 ⟨v306,rfl,ho0,hb⟩;refine ⟨_,rfl, ?_⟩;have n0_:=Aside0.mk (Kd.R_elder' (by (with_reducible repeat (first | apply Kd.R_alloc | apply Kd.R_drewN | apply Kd.R_drew));exact HO_8.out) (Kd.R_base ho0) hb);have n1_:=Aside0.mk (Kd.R_below (by (with_reducible repeat (first | apply Kd.R_alloc | apply Kd.R_drewN | apply Kd.R_drew));exact HO_11.out) hb);have n2_:=Aside0.mk (Kd.R_below (by (with_reducible repeat (first | apply Kd.R_alloc | apply Kd.R_drewN | apply Kd.R_drew));exact HO_12.out) hb);have n3_:=Aside0.mk (Kd.R_elder' (by (with_reducible repeat (first | apply Kd.R_alloc | apply Kd.R_drewN | apply Kd.R_drew));exact HO_13.out) (Kd.R_base ho0) hb);have n4_:=Aside0.mk (Kd.R_elder' (by (with_reducible repeat (first | apply Kd.R_alloc | apply Kd.R_drewN | apply Kd.R_drew));exact HO_14.out) (Kd.R_base ho0) hb);have n5_:=Aside0.mk (Kd.R_below (by (with_reducible repeat (first | apply Kd.R_alloc | apply Kd.R_drewN | apply Kd.R_drew));exact HO299.out) hb);have n6_:=Aside0.mk (Kd.R_below (by (with_reducible repeat (first | apply Kd.R_alloc | apply Kd.R_drewN | apply Kd.R_drew));exact HO303.out) hb);have n7_:=Aside0.mk (Kd.R_lower (Kd.R_new' (Kd.R_new' (Kd.R_new' ho0 (Kd.R_lt (by (with_reducible repeat (first | apply Kd.R_alloc | apply Kd.R_drewN | apply Kd.R_drew));exact HO_8.out))) (Kd.R_lt (by (with_reducible repeat (first | apply Kd.R_alloc | apply Kd.R_drewN | apply Kd.R_drew));exact HO_13.out))) (Kd.R_lt (by (with_reducible repeat (first | apply Kd.R_alloc | apply Kd.R_drewN | apply Kd.R_drew));exact HO_14.out))) (below_size (by repeat (first | (with_reducible first | exact HB.out | apply below_alloc | apply pw_below_drewN | apply below_drew1) | exact HB.out))));have n8_:=Aside0.mk (below_step (by repeat (first | (with_reducible first | exact HB.out | apply below_alloc | apply pw_below_drewN | apply below_drew1) | exact HB.out)) hb);clear HO_8;clear HO_11;clear HO_12;clear HO_13;clear HO_14;clear HO299;clear HO303;clear HB;have HO_8:=n0_;have HO_11:=n1_;have HO_12:=n2_;have HO_13:=n3_;have HO_14:=n4_;have HO299:=n5_;have HO303:=n6_;have HO307:=n7_;have HB:=n8_;clear n0_ n1_ n2_ n3_ n4_ n5_ n6_ n7_ n8_;(try clear hb);(try clear hb2);(try clear hk);(try clear hi);(try clear ho0);obtain ⟨Ao121,co121,eo121⟩ := Kd.R_slice HO307.out;subst eo121) | ((with_reducible refine gate_callee (f:=26) rfl ?_);refine goesL_ (some 88) rfl rfl Try.func26 (by kernel_rfl) rfl #[.slice Ao32 t288.length co32, .slice Ao121 t305.length co121] rfl (by (try simp only [List.map_toArray,List.map_cons,List.map_nil]);first | done | rfl | (simp only [List.length_drop,List.length_take];rfl)) ?_;(with_reducible refine (laws_eqIntS.calls kj17 _ _ t288 _ _ t305 false _ ?side1 ?side2 ?side3 ?side4 A51.out).mono ?_);(case side1 => repeat (first | exact (Kd.R_reads' HO_13.out).2.2 | (with_reducible refine Kd.C_alloc ?_ _) | (with_reducible refine Kd.C_drewN ?_ _) | (with_reducible refine Kd.C_drew ?_)));(case side2 => exact (Kd.R_reads' HO_13.out).2.1);(case side3 => repeat (first | exact (Kd.R_reads' HO307.out).2.2 | (with_reducible refine Kd.C_alloc ?_ _) | (with_reducible refine Kd.C_drewN ?_ _) | (with_reducible refine Kd.C_drew ?_)));(case side4 => exact (Kd.R_reads' HO307.out).2.1);rintro e w' ⟨rfl,⟨nd,rfl⟩⟩;refine ⟨_,rfl, ?_⟩))
          go_ret
          exact ⟨by first | rfl | (simp [errW_none,errW_some] <;> rfl) | (simp [*,errW_none,errW_some] <;> rfl),by repeat (first | (with_reducible first | exact HB.out | apply below_alloc | apply pw_below_drewN | apply below_drew1) | exact HB.out)⟩
        ·replace c49:=Bool.eq_false_iff.mpr c49
         subst c49
         have H1 : (some false) = some r:=by rw [if_neg (show ¬ (false = true) by decide)] at H;exact H
         clear H
         have H:=H1
         clear H1
         obtain rfl:=Option.some.inj H
         go_wp2_with (first | ((with_reducible refine gate_callee (f:=17) rfl ?_);refine goesL_ (some 77) rfl rfl Try.func17 (by kernel_rfl) rfl #[.slice A0 l0.length c0] rfl (by (try simp only [List.map_toArray,List.map_cons,List.map_nil]);first | done | rfl | (simp only [List.length_drop,List.length_take];rfl)) ?_;(with_reducible refine (laws_toWagonS.calls kj17 _ _ l0 t297 _ ?side1 ?side2 A44.out).mono ?_);(case side1 => repeat (first | exact (Kd.C_below HR0.out HB.out) | (with_reducible refine Kd.C_alloc ?_ _) | (with_reducible refine Kd.C_drewN ?_ _) | (with_reducible refine Kd.C_drew ?_)));(case side2 => exact HC0.out);rintro e w122 ⟨v298,rfl,ho0,hb⟩;refine ⟨_,rfl, ?_⟩;have n0_:=Aside0.mk (Kd.R_below (by (with_reducible repeat (first | apply Kd.R_alloc | apply Kd.R_drewN | apply Kd.R_drew));exact HO_8.out) hb);have n1_:=Aside0.mk (Kd.R_elder' (by (with_reducible repeat (first | apply Kd.R_alloc | apply Kd.R_drewN | apply Kd.R_drew));exact HO_11.out) (Kd.R_base ho0) hb);have n2_:=Aside0.mk (Kd.R_below (by (with_reducible repeat (first | apply Kd.R_alloc | apply Kd.R_drewN | apply Kd.R_drew));exact HO_12.out) hb);have n3_:=Aside0.mk (Kd.R_below (by (with_reducible repeat (first | apply Kd.R_alloc | apply Kd.R_drewN | apply Kd.R_drew));exact HO_13.out) hb);have n4_:=Aside0.mk (Kd.R_below (by (with_reducible repeat (first | apply Kd.R_alloc | apply Kd.R_drewN | apply Kd.R_drew));exact HO_14.out) hb);have n5_:=Aside0.mk (Kd.R_lower (Kd.R_new' ho0 (Kd.R_lt (by (with_reducible repeat (first | apply Kd.R_alloc | apply Kd.R_drewN | apply Kd.R_drew));exact HO_11.out))) (below_size (by repeat (first | (with_reducible first | exact HB.out | apply below_alloc | apply pw_below_drewN | apply below_drew1) | exact HB.out))));have n6_:=Aside0.mk (below_step (by repeat (first | (with_reducible first | exact HB.out | apply below_alloc | apply pw_below_drewN | apply below_drew1) | exact HB.out)) hb);clear HO_8;clear HO_11;clear HO_12;clear HO_13;clear HO_14;clear HB;have HO_8:=n0_;have HO_11:=n1_;have HO_12:=n2_;have HO_13:=n3_;have HO_14:=n4_;have HO299:=n5_;have HB:=n6_;clear n0_ n1_ n2_ n3_ n4_ n5_ n6_;(try clear hb);(try clear hb2);(try clear hk);(try clear hi);(try clear ho0);obtain ⟨Ao123,co123,eo123⟩ := Kd.R_slice HO299.out;subst eo123) | ((with_reducible refine gate_callee (f:=19) rfl ?_);refine goesL_ (some 78) rfl rfl Try.func19 (by kernel_rfl) rfl #[.slice Ao30 t282.length co30, .slice Ao123 t297.length co123] rfl (by (try simp only [List.map_toArray,List.map_cons,List.map_nil]);first | done | rfl | (simp only [List.length_drop,List.length_take];rfl)) ?_;(with_reducible refine (laws_eqWagonS.calls kj17 _ _ t282 _ _ t297 true _ ?side1 ?side2 ?side3 ?side4 A45.out).mono ?_);(case side1 => repeat (first | exact (Kd.R_reads' HO_11.out).2.2 | (with_reducible refine Kd.C_alloc ?_ _) | (with_reducible refine Kd.C_drewN ?_ _) | (with_reducible refine Kd.C_drew ?_)));(case side2 => exact (Kd.R_reads' HO_11.out).2.1);(case side3 => repeat (first | exact (Kd.R_reads' HO299.out).2.2 | (with_reducible refine Kd.C_alloc ?_ _) | (with_reducible refine Kd.C_drewN ?_ _) | (with_reducible refine Kd.C_drew ?_)));(case side4 => exact (Kd.R_reads' HO299.out).2.1);rintro e w124 ⟨rfl,hb⟩;refine ⟨_,rfl, ?_⟩;have n0_:=Aside0.mk (Kd.R_below (by (with_reducible repeat (first | apply Kd.R_alloc | apply Kd.R_drewN | apply Kd.R_drew));exact HO_8.out) hb);have n1_:=Aside0.mk (Kd.R_below (by (with_reducible repeat (first | apply Kd.R_alloc | apply Kd.R_drewN | apply Kd.R_drew));exact HO_11.out) hb);have n2_:=Aside0.mk (Kd.R_below (by (with_reducible repeat (first | apply Kd.R_alloc | apply Kd.R_drewN | apply Kd.R_drew));exact HO_12.out) hb);have n3_:=Aside0.mk (Kd.R_below (by (with_reducible repeat (first | apply Kd.R_alloc | apply Kd.R_drewN | apply Kd.R_drew));exact HO_13.out) hb);have n4_:=Aside0.mk (Kd.R_below (by (with_reducible repeat (first | apply Kd.R_alloc | apply Kd.R_drewN | apply Kd.R_drew));exact HO_14.out) hb);have n5_:=Aside0.mk (Kd.R_below (by (with_reducible repeat (first | apply Kd.R_alloc | apply Kd.R_drewN | apply Kd.R_drew));exact HO299.out) hb);have n6_:=Aside0.mk (below_step (by repeat (first | (with_reducible first | exact HB.out | apply below_alloc | apply pw_below_drewN | apply below_drew1) | exact HB.out)) hb);clear HO_8;clear HO_11;clear HO_12;clear HO_13;clear HO_14;clear HO299;clear HB;have HO_8:=n0_;have HO_11:=n1_;have HO_12:=n2_;have HO_13:=n3_;have HO_14:=n4_;have HO299:=n5_;have HB:=n6_;clear n0_ n1_ n2_ n3_ n4_ n5_ n6_;(try clear hb);(try clear hb2);(try clear hk);(try clear hi)) | ((with_reducible refine gate_callee (f:=22) rfl ?_);refine goesL_ (some 82) rfl rfl Try.func22 (by kernel_rfl) rfl #[.slice A1 l1.length c1] rfl (by (try simp only [List.map_toArray,List.map_cons,List.map_nil]);first | done | rfl | (simp only [List.length_drop,List.length_take];rfl)) ?_;(with_reducible refine (laws_toContainerS.calls kj17 _ _ l1 t301 _ ?side1 ?side2 A47.out).mono ?_);(case side1 => repeat (first | exact (Kd.C_below HR1.out HB.out) | (with_reducible refine Kd.C_alloc ?_ _) | (with_reducible refine Kd.C_drewN ?_ _) | (with_reducible refine Kd.C_drew ?_)));(case side2 => exact HC1.out);rintro e w125 ⟨v302,rfl,ho0,hb⟩;refine ⟨_,rfl, ?_⟩;have n0_:=Aside0.mk (Kd.R_below (by (with_reducible repeat (first | apply Kd.R_alloc | apply Kd.R_drewN | apply Kd.R_drew));exact HO_8.out) hb);have n1_:=Aside0.mk (Kd.R_below (by (with_reducible repeat (first | apply Kd.R_alloc | apply Kd.R_drewN | apply Kd.R_drew));exact HO_11.out) hb);have n2_:=Aside0.mk (Kd.R_elder' (by (with_reducible repeat (first | apply Kd.R_alloc | apply Kd.R_drewN | apply Kd.R_drew));exact HO_12.out) (Kd.R_base ho0) hb);have n3_:=Aside0.mk (Kd.R_below (by (with_reducible repeat (first | apply Kd.R_alloc | apply Kd.R_drewN | apply Kd.R_drew));exact HO_13.out) hb);have n4_:=Aside0.mk (Kd.R_below (by (with_reducible repeat (first | apply Kd.R_alloc | apply Kd.R_drewN | apply Kd.R_drew));exact HO_14.out) hb);have n5_:=Aside0.mk (Kd.R_below (by (with_reducible repeat (first | apply Kd.R_alloc | apply Kd.R_drewN | apply Kd.R_drew));exact HO299.out) hb);have n6_:=Aside0.mk (Kd.R_lower (Kd.R_new' ho0 (Kd.R_lt (by (with_reducible repeat (first | apply Kd.R_alloc | apply Kd.R_drewN | apply Kd.R_drew));exact HO_12.out))) (below_size (by repeat (first | (with_reducible first | exact HB.out | apply below_alloc | apply pw_below_drewN | apply below_drew1) | exact HB.out))));have n7_:=Aside0.mk (below_step (by repeat (first | (with_reducible first | exact HB.out | apply below_alloc | apply pw_below_drewN | apply below_drew1) | exact HB.out)) hb);clear HO_8;clear HO_11;clear HO_12;clear HO_13;clear HO_14;clear HO299;clear HB;have HO_8:=n0_;have HO_11:=n1_;have HO_12:=n2_;have HO_13:=n3_;have HO_14:=n4_;have HO299:=n5_;have HO303:=n6_;have HB:=n7_;clear n0_ n1_ n2_ n3_ n4_ n5_ n6_ n7_;(try clear hb);(try clear hb2);(try clear hk);(try clear hi);(try clear ho0);obtain ⟨Ao126,co126,eo126⟩ := Kd.R_slice HO303.out;subst eo126) | ((with_reducible refine gate_callee (f:=25) rfl ?_);refine goesL_ (some 83) rfl rfl Try.func25 (by kernel_rfl) rfl #[.slice Ao31 t285.length co31, .slice Ao126 t301.length co126] rfl (by (try simp only [List.map_toArray,List.map_cons,List.map_nil]);first | done | rfl | (simp only [List.length_drop,List.length_take];rfl)) ?_;(with_reducible refine (laws_eqContainerS.calls kj17 _ _ t285 _ _ t301 false _ ?side1 ?side2 ?side3 ?side4 A48.out).mono ?_);(case side1 => repeat (first | exact (Kd.R_reads' HO_12.out).2.2 | (with_reducible refine Kd.C_alloc ?_ _) | (with_reducible refine Kd.C_drewN ?_ _) | (with_reducible refine Kd.C_drew ?_)));(case side2 => exact (Kd.R_reads' HO_12.out).2.1);(case side3 => repeat (first | exact (Kd.R_reads' HO303.out).2.2 | (with_reducible refine Kd.C_alloc ?_ _) | (with_reducible refine Kd.C_drewN ?_ _) | (with_reducible refine Kd.C_drew ?_)));(case side4 => exact (Kd.R_reads' HO303.out).2.1);rintro e w127 ⟨rfl,hb⟩;refine ⟨_,rfl, ?_⟩;have n0_:=Aside0.mk (Kd.R_below (by (with_reducible repeat (first | apply Kd.R_alloc | apply Kd.R_drewN | apply Kd.R_drew));exact HO_8.out) hb);have n1_:=Aside0.mk (Kd.R_below (by (with_reducible repeat (first | apply Kd.R_alloc | apply Kd.R_drewN | apply Kd.R_drew));exact HO_11.out) hb);have n2_:=Aside0.mk (Kd.R_below (by (with_reducible repeat (first | apply Kd.R_alloc | apply Kd.R_drewN | apply Kd.R_drew));exact HO_12.out) hb);have n3_:=Aside0.mk (Kd.R_below (by (with_reducible repeat (first | apply Kd.R_alloc | apply Kd.R_drewN | apply Kd.R_drew));exact HO_13.out) hb);have n4_:=Aside0.mk (Kd.R_below (by (with_reducible repeat (first | apply Kd.R_alloc | apply Kd.R_drewN | apply Kd.R_drew));exact HO_14.out) hb);have n5_:=Aside0.mk (Kd.R_below (by (with_reducible repeat (first | apply Kd.R_alloc | apply Kd.R_drewN | apply Kd.R_drew));exact HO299.out) hb);have n6_:=Aside0.mk (Kd.R_below (by (with_reducible repeat (first | apply Kd.R_alloc | apply Kd.R_drewN | apply Kd.R_drew));exact HO303.out) hb);have n7_:=Aside0.mk (below_step (by repeat (first | (with_reducible first | exact HB.out | apply below_alloc | apply pw_below_drewN | apply below_drew1) | exact HB.out)) hb);clear HO_8;clear HO_11;clear HO_12;clear HO_13;clear HO_14;clear HO299;clear HO303;clear HB;have HO_8:=n0_;have HO_11:=n1_;have HO_12:=n2_;have HO_13:=n3_;have HO_14:=n4_;have HO299:=n5_;have HO303:=n6_;have HB:=n7_;clear n0_ n1_ n2_ n3_ n4_ n5_ n6_ n7_;(try clear hb);(try clear hb2);(try clear hk);(try clear hi)))
         go_ret
         exact ⟨by first | rfl | (simp [errW_none,errW_some] <;> rfl) | (simp [*,errW_none,errW_some] <;> rfl),by repeat (first | (with_reducible first | exact HB.out | apply below_alloc | apply pw_below_drewN | apply below_drew1) | exact HB.out)⟩
       ·replace c46:=Bool.eq_false_iff.mpr c46
        subst c46
        have H1 : (some false) = some r:=by rw [if_neg (show ¬ (false = true) by decide)] at H;exact H
        clear H
        have H:=H1
        clear H1
        obtain rfl:=Option.some.inj H
        go_wp2_with (first | ((with_reducible refine gate_callee (f:=17) rfl ?_);refine goesL_ (some 77) rfl rfl Try.func17 (by kernel_rfl) rfl #[.slice A0 l0.length c0] rfl (by (try simp only [List.map_toArray,List.map_cons,List.map_nil]);first | done | rfl | (simp only [List.length_drop,List.length_take];rfl)) ?_;(with_reducible refine (laws_toWagonS.calls kj17 _ _ l0 t297 _ ?side1 ?side2 A44.out).mono ?_);(case side1 => repeat (first | exact (Kd.C_below HR0.out HB.out) | (with_reducible refine Kd.C_alloc ?_ _) | (with_reducible refine Kd.C_drewN ?_ _) | (with_reducible refine Kd.C_drew ?_)));(case side2 => exact HC0.out);rintro e w128 ⟨v298,rfl,ho0,hb⟩;refine ⟨_,rfl, ?_⟩;have n0_:=Aside0.mk (Kd.R_below (by (with_reducible repeat (first | apply Kd.R_alloc | apply Kd.R_drewN | apply Kd.R_drew));exact HO_8.out) hb);have n1_:=Aside0.mk (Kd.R_elder' (by (with_reducible repeat (first | apply Kd.R_alloc | apply Kd.R_drewN | apply Kd.R_drew));exact HO_11.out) (Kd.R_base ho0) hb);have n2_:=Aside0.mk (Kd.R_below (by (with_reducible repeat (first | apply Kd.R_alloc | apply Kd.R_drewN | apply Kd.R_drew));exact HO_12.out) hb);have n3_:=Aside0.mk (Kd.R_below (by (with_reducible repeat (first | apply Kd.R_alloc | apply Kd.R_drewN | apply Kd.R_drew));exact HO_13.out) hb);have n4_:=Aside0.mk (Kd.R_below (by (with_reducible repeat (first | apply Kd.R_alloc | apply Kd.R_drewN | apply Kd.R_drew));exact HO_14.out) hb);have n5_:=Aside0.mk (Kd.R_lower (Kd.R_new' ho0 (Kd.R_lt (by (with_reducible repeat (first | apply Kd.R_alloc | apply Kd.R_drewN | apply Kd.R_drew));exact HO_11.out))) (below_size (by repeat (first | (with_reducible first | exact HB.out | apply below_alloc | apply pw_below_drewN | apply below_drew1) | exact HB.out))));have n6_:=Aside0.mk (below_step (by repeat (first | (with_reducible first | exact HB.out | apply below_alloc | apply pw_below_drewN | apply below_drew1) | exact HB.out)) hb);clear HO_8;clear HO_11;clear HO_12;clear HO_13;clear HO_14;clear HB;have HO_8:=n0_;have HO_11:=n1_;have HO_12:=n2_;have HO_13:=n3_;have HO_14:=n4_;have HO299:=n5_;have HB:=n6_;clear n0_ n1_ n2_ n3_ n4_ n5_ n6_;(try clear hb);(try clear hb2);(try clear hk);(try clear hi);(try clear ho0);obtain ⟨Ao129,co129,eo129⟩ := Kd.R_slice HO299.out;subst eo129) | ((with_reducible refine gate_callee (f:=19) rfl ?_);refine goesL_ (some 78) rfl rfl Try.func19 (by kernel_rfl) rfl #[.slice Ao30 t282.length co30, .slice Ao129 t297.length co129] rfl (by (try simp only [List.map_toArray,List.map_cons,List.map_nil]);first | done | rfl | (simp only [List.length_drop,List.length_take];rfl)) ?_;(with_reducible refine (laws_eqWagonS.calls kj17 _ _ t282 _ _ t297 false _ ?side1 ?side2 ?side3 ?side4 A45.out).mono ?_);(case side1 => repeat (first | exact (Kd.R_reads' HO_11.out).2.2 | (with_reducible refine Kd.C_alloc ?_ _) | (with_reducible refine Kd.C_drewN ?_ _) | (with_reducible refine Kd.C_drew ?_)));(case side2 => exact (Kd.R_reads' HO_11.out).2.1);(case side3 => repeat (first | exact (Kd.R_reads' HO299.out).2.2 | (with_reducible refine Kd.C_alloc ?_ _) | (with_reducible refine Kd.C_drewN ?_ _) | (with_reducible refine Kd.C_drew ?_)));(case side4 => exact (Kd.R_reads' HO299.out).2.1);rintro e w130 ⟨rfl,hb⟩;refine ⟨_,rfl, ?_⟩;have n0_:=Aside0.mk (Kd.R_below (by (with_reducible repeat (first | apply Kd.R_alloc | apply Kd.R_drewN | apply Kd.R_drew));exact HO_8.out) hb);have n1_:=Aside0.mk (Kd.R_below (by (with_reducible repeat (first | apply Kd.R_alloc | apply Kd.R_drewN | apply Kd.R_drew));exact HO_11.out) hb);have n2_:=Aside0.mk (Kd.R_below (by (with_reducible repeat (first | apply Kd.R_alloc | apply Kd.R_drewN | apply Kd.R_drew));exact HO_12.out) hb);have n3_:=Aside0.mk (Kd.R_below (by (with_reducible repeat (first | apply Kd.R_alloc | apply Kd.R_drewN | apply Kd.R_drew));exact HO_13.out) hb);have n4_:=Aside0.mk (Kd.R_below (by (with_reducible repeat (first | apply Kd.R_alloc | apply Kd.R_drewN | apply Kd.R_drew));exact HO_14.out) hb);have n5_:=Aside0.mk (Kd.R_below (by (with_reducible repeat (first | apply Kd.R_alloc | apply Kd.R_drewN | apply Kd.R_drew));exact HO299.out) hb);have n6_:=Aside0.mk (below_step (by repeat (first | (with_reducible first | exact HB.out | apply below_alloc | apply pw_below_drewN | apply below_drew1) | exact HB.out)) hb);clear HO_8;clear HO_11;clear HO_12;clear HO_13;clear HO_14;clear HO299;clear HB;have HO_8:=n0_;have HO_11:=n1_;have HO_12:=n2_;have HO_13:=n3_;have HO_14:=n4_;have HO299:=n5_;have HB:=n6_;clear n0_ n1_ n2_ n3_ n4_ n5_ n6_;(try clear hb);(try clear hb2);(try clear hk);(try clear hi)))
        go_ret
        exact ⟨by first | rfl | (simp [errW_none,errW_some] <;> rfl) | (simp [*,errW_none,errW_some] <;> rfl),by repeat (first | (with_reducible first | exact HB.out | apply below_alloc | apply pw_below_drewN | apply below_drew1) | exact HB.out)⟩

end Go.Proofs.Ythfbnadlpninaaa.PFnExactWagonWeights
