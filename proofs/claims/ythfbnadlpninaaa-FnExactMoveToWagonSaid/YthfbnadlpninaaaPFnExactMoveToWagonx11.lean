-- Written by a program of this session, over the kit's print (wip/xprint.py)
import Derived.Test.YthfbnadlpninaaaPFnExactMoveToWagonx0
import Derived.Test.YthfbnadlpninaaaPFnExactMoveToWagonx1
import Derived.Test.YthfbnadlpninaaaPFnExactMoveToWagonx2
import Derived.Test.YthfbnadlpninaaaPFnExactMoveToWagonx3
import Derived.Test.YthfbnadlpninaaaPFnExactMoveToWagonx6
import Derived.Test.YthfbnadlpninaaaPFnExactMoveToWagonx10
namespace Go.Proofs.Ythfbnadlpninaaa.PFnExactMoveToWagon
open Go.RowKit Go.Proofs.YthfbnadlpninaaaW.PrintWords Go.Proofs.YthfbnadlpninaaaW.PrintLast Go.Proofs.YthfbnadlpninaaaW.PrintMore
attribute [local go_sem] max2_int min2_int max_two min_two max_three min_three max_four min_four   -- for this text's walks alone
set_option linter.unusedVariables false
set_option linter.unusedSimpArgs false

/-! ### laws_FnExactMoveToWagon: function 10 -/
mutual
def laws_FnExactMoveToWagon.j0 : Nat → List (S74) → List (S80) → List Int → ByteArray → Int → List Int → Bool → List (S70) → List (S64) → List Int → List Int → Bool → Bool → Option (Bool)
 | 0,_,_,_,_,_,_,_,_,_,_,_,_,_ => none
 | k + 1,x0,x1,x2,x3,x4,x12,x13,x14,x15,x16,x17,x18,x75 => if x75 = true then (some false) else ((laws_toWagonS.f k x0).bind fun t310 => ((laws_eqWagonS.f k x14 t310).bind fun t313 => (if t313 = true then ((laws_toContainerS.f k x1).bind fun t314 => ((laws_eqContainerS.f k x15 t314).bind fun t317 => (if t317 = true then ((laws_toIntS.f k x2).bind fun t318 => ((laws_eqIntS.f k x16 t318).bind fun t321 => (if t321 = true then ((laws_markWagonS.f k x14 1).bind fun bt322 => ((laws_markContainerS.f k x15 bt322.1).bind fun bt324 => ((laws_markIntS.f k x16 bt324.1).bind fun bt326 => (if bt326.1 < 0 then (laws_FnExactMoveToWagon.j1 k x0 x1 x2 x3 x4 x12 x13 x17 true) else ((laws_eqIntS.f k x17 x12).bind fun t328 => (if t328 = true then (laws_FnExactMoveToWagon.j1 k x0 x1 x2 x3 x4 x12 x13 x17 (x18 != x13)) else (laws_FnExactMoveToWagon.j1 k x0 x1 x2 x3 x4 x12 x13 x17 true))))))) else (some false)))) else (some false)))) else (some false))))
def laws_FnExactMoveToWagon.j1 : Nat → List (S74) → List (S80) → List Int → ByteArray → Int → List Int → Bool → List Int → Bool → Option (Bool)
 | 0,_,_,_,_,_,_,_,_,_ => none
 | k + 1,x0,x1,x2,x3,x4,x12,x13,x17,x112 => if x112 = true then (some false) else ((laws_markIntS.f k x17 1).bind fun bt329 => ((laws_heldIntS.f k bt329.2 1).bind fun t331 => (if t331 < 0 then (some false) else (if t331 = bt329.1 then ((laws_toWagonS.f k x0).bind fun t332 => ((laws_toContainerS.f k x1).bind fun t335 => ((laws_toIntS.f k x2).bind fun t338 => ((impl_MoveToWagon.f k t332 t335 t338 x3 x4).bind fun bt341 => ((laws_eqIntS.f k bt341.1 x12).bind fun t345 => (if t345 = true then (laws_FnExactMoveToWagon.j2 k bt329.2 bt329.1 (bt341.2 != x13)) else (laws_FnExactMoveToWagon.j2 k bt329.2 bt329.1 true))))))) else (some false)))))
def laws_FnExactMoveToWagon.j2 : Nat → List Int → Int → Bool → Option (Bool)
 | 0,_,_,_ => none
 | k + 1,x17,x20,x144 => if x144 = true then (some false) else ((laws_heldIntS.f k x17 1).bind fun t346 => (if t346 < 0 then (some false) else (if t346 = x20 then (some true) else (some false))))
end
def laws_FnExactMoveToWagon.f (k : Nat) (l0 : List (S74)) (l1 : List (S80)) (l2 : List Int) (a3 : ByteArray) (a4 : Int) : Option (Bool):=if (l2.length : Int) > 1048576 then (some true) else (if (a3.size : Int) > 1048576 then (some true) else ((laws_szWagonS.f l0 1048576).bind fun t281 => (if t281 < 0 then (some true) else ((laws_szContainerS.f k l1 t281).bind fun t282 => (if t282 < 0 then (some true) else ((laws_toWagonS.f k l0).bind fun t283 => ((laws_toContainerS.f k l1).bind fun t286 => ((laws_toIntS.f k l2).bind fun t289 => ((spec_MoveToWagon.f k t283 t286 t289 a3 a4).bind fun bt292 => ((laws_toWagonS.f k l0).bind fun t296 => ((laws_toContainerS.f k l1).bind fun t299 => ((laws_toIntS.f k l2).bind fun t302 => ((impl_MoveToWagon.f k t296 t299 t302 a3 a4).bind fun bt305 => ((laws_eqIntS.f k bt305.1 bt292.1).bind fun t309 => (if t309 = true then (laws_FnExactMoveToWagon.j0 k l0 l1 l2 a3 a4 bt292.1 bt292.2 t296 t299 t302 bt305.1 bt305.2 (bt305.2 != bt292.2)) else (laws_FnExactMoveToWagon.j0 k l0 l1 l2 a3 a4 bt292.1 bt292.2 t296 t299 t302 bt305.1 bt305.2 true))))))))))))))))
theorem laws_FnExactMoveToWagon.mono_l : ∀ k,(∀ y0 y1 y2 y3 y4 y5 y6 y7 y8 y9 y10 y11 y12,LeO (laws_FnExactMoveToWagon.j0 k y0 y1 y2 y3 y4 y5 y6 y7 y8 y9 y10 y11 y12) (laws_FnExactMoveToWagon.j0 (k + 1) y0 y1 y2 y3 y4 y5 y6 y7 y8 y9 y10 y11 y12)) ∧ (∀ y0 y1 y2 y3 y4 y5 y6 y7 y8,LeO (laws_FnExactMoveToWagon.j1 k y0 y1 y2 y3 y4 y5 y6 y7 y8) (laws_FnExactMoveToWagon.j1 (k + 1) y0 y1 y2 y3 y4 y5 y6 y7 y8)) ∧ (∀ y0 y1 y2,LeO (laws_FnExactMoveToWagon.j2 k y0 y1 y2) (laws_FnExactMoveToWagon.j2 (k + 1) y0 y1 y2))
 | 0 => ⟨fun _ _ _ _ _ _ _ _ _ _ _ _ _ r h => by simp [laws_FnExactMoveToWagon.j0] at h,fun _ _ _ _ _ _ _ _ _ r h => by simp [laws_FnExactMoveToWagon.j1] at h,fun _ _ _ r h => by simp [laws_FnExactMoveToWagon.j2] at h⟩
 | k + 1 => by
  obtain ⟨ih0,ih1,ih2⟩ := laws_FnExactMoveToWagon.mono_l k
  refine ⟨?_, ?_, ?_⟩
  ·intro y0 y1 y2 y3 y4 y5 y6 y7 y8 y9 y10 y11 y12
   unfold laws_FnExactMoveToWagon.j0
   repeat' first
   | (with_reducible exact ih0 _ _ _ _ _ _ _ _ _ _ _ _ _)
   | (with_reducible exact ih1 _ _ _ _ _ _ _ _ _)
   | (with_reducible exact ih2 _ _ _)
   | (with_reducible exact impl_MoveToWagon.mono _ _ _ _ _ _)
   | (with_reducible exact laws_eqContainerS.mono _ _ _)
   | (with_reducible exact laws_eqIntS.mono _ _ _)
   | (with_reducible exact laws_eqWagonS.mono _ _ _)
   | (with_reducible exact laws_heldIntS.mono _ _ _)
   | (with_reducible exact laws_markContainerS.mono _ _ _)
   | (with_reducible exact laws_markIntS.mono _ _ _)
   | (with_reducible exact laws_markWagonS.mono _ _ _)
   | (with_reducible exact laws_szContainerS.mono _ _ _)
   | (with_reducible exact laws_toContainerS.mono _ _)
   | (with_reducible exact laws_toIntS.mono _ _)
   | (with_reducible exact laws_toWagonS.mono _ _)
   | (with_reducible exact spec_MoveToWagon.mono _ _ _ _ _ _)
   | (with_reducible exact LeO.refl _)
   | (with_reducible exact LeO.none _)
   | (with_reducible refine LeO.ite ?_ ?_)
   | (with_reducible refine LeO.bind ?_ (fun _ => ?_))
   | exact ih0 _ _ _ _ _ _ _ _ _ _ _ _ _
   | exact ih1 _ _ _ _ _ _ _ _ _
   | exact ih2 _ _ _
   | exact impl_MoveToWagon.mono _ _ _ _ _ _
   | exact laws_eqContainerS.mono _ _ _
   | exact laws_eqIntS.mono _ _ _
   | exact laws_eqWagonS.mono _ _ _
   | exact laws_heldIntS.mono _ _ _
   | exact laws_markContainerS.mono _ _ _
   | exact laws_markIntS.mono _ _ _
   | exact laws_markWagonS.mono _ _ _
   | exact laws_szContainerS.mono _ _ _
   | exact laws_toContainerS.mono _ _
   | exact laws_toIntS.mono _ _
   | exact laws_toWagonS.mono _ _
   | exact spec_MoveToWagon.mono _ _ _ _ _ _
   | exact LeO.none _
   | refine LeO.ite ?_ ?_
   | refine LeO.bind ?_ (fun _ => ?_)
  ·intro y0 y1 y2 y3 y4 y5 y6 y7 y8
   unfold laws_FnExactMoveToWagon.j1
   repeat' first
   | (with_reducible exact ih0 _ _ _ _ _ _ _ _ _ _ _ _ _)
   | (with_reducible exact ih1 _ _ _ _ _ _ _ _ _)
   | (with_reducible exact ih2 _ _ _)
   | (with_reducible exact impl_MoveToWagon.mono _ _ _ _ _ _)
   | (with_reducible exact laws_eqContainerS.mono _ _ _)
   | (with_reducible exact laws_eqIntS.mono _ _ _)
   | (with_reducible exact laws_eqWagonS.mono _ _ _)
   | (with_reducible exact laws_heldIntS.mono _ _ _)
   | (with_reducible exact laws_markContainerS.mono _ _ _)
   | (with_reducible exact laws_markIntS.mono _ _ _)
   | (with_reducible exact laws_markWagonS.mono _ _ _)
   | (with_reducible exact laws_szContainerS.mono _ _ _)
   | (with_reducible exact laws_toContainerS.mono _ _)
   | (with_reducible exact laws_toIntS.mono _ _)
   | (with_reducible exact laws_toWagonS.mono _ _)
   | (with_reducible exact spec_MoveToWagon.mono _ _ _ _ _ _)
   | (with_reducible exact LeO.refl _)
   | (with_reducible exact LeO.none _)
   | (with_reducible refine LeO.ite ?_ ?_)
   | (with_reducible refine LeO.bind ?_ (fun _ => ?_))
   | exact ih0 _ _ _ _ _ _ _ _ _ _ _ _ _
   | exact ih1 _ _ _ _ _ _ _ _ _
   | exact ih2 _ _ _
   | exact impl_MoveToWagon.mono _ _ _ _ _ _
   | exact laws_eqContainerS.mono _ _ _
   | exact laws_eqIntS.mono _ _ _
   | exact laws_eqWagonS.mono _ _ _
   | exact laws_heldIntS.mono _ _ _
   | exact laws_markContainerS.mono _ _ _
   | exact laws_markIntS.mono _ _ _
   | exact laws_markWagonS.mono _ _ _
   | exact laws_szContainerS.mono _ _ _
   | exact laws_toContainerS.mono _ _
   | exact laws_toIntS.mono _ _
   | exact laws_toWagonS.mono _ _
   | exact spec_MoveToWagon.mono _ _ _ _ _ _
   | exact LeO.none _
   | refine LeO.ite ?_ ?_
   | refine LeO.bind ?_ (fun _ => ?_)
  ·intro y0 y1 y2
   unfold laws_FnExactMoveToWagon.j2
   repeat' first
   | (with_reducible exact ih0 _ _ _ _ _ _ _ _ _ _ _ _ _)
   | (with_reducible exact ih1 _ _ _ _ _ _ _ _ _)
   | (with_reducible exact ih2 _ _ _)
   | (with_reducible exact impl_MoveToWagon.mono _ _ _ _ _ _)
   | (with_reducible exact laws_eqContainerS.mono _ _ _)
   | (with_reducible exact laws_eqIntS.mono _ _ _)
   | (with_reducible exact laws_eqWagonS.mono _ _ _)
   | (with_reducible exact laws_heldIntS.mono _ _ _)
   | (with_reducible exact laws_markContainerS.mono _ _ _)
   | (with_reducible exact laws_markIntS.mono _ _ _)
   | (with_reducible exact laws_markWagonS.mono _ _ _)
   | (with_reducible exact laws_szContainerS.mono _ _ _)
   | (with_reducible exact laws_toContainerS.mono _ _)
   | (with_reducible exact laws_toIntS.mono _ _)
   | (with_reducible exact laws_toWagonS.mono _ _)
   | (with_reducible exact spec_MoveToWagon.mono _ _ _ _ _ _)
   | (with_reducible exact LeO.refl _)
   | (with_reducible exact LeO.none _)
   | (with_reducible refine LeO.ite ?_ ?_)
   | (with_reducible refine LeO.bind ?_ (fun _ => ?_))
   | exact ih0 _ _ _ _ _ _ _ _ _ _ _ _ _
   | exact ih1 _ _ _ _ _ _ _ _ _
   | exact ih2 _ _ _
   | exact impl_MoveToWagon.mono _ _ _ _ _ _
   | exact laws_eqContainerS.mono _ _ _
   | exact laws_eqIntS.mono _ _ _
   | exact laws_eqWagonS.mono _ _ _
   | exact laws_heldIntS.mono _ _ _
   | exact laws_markContainerS.mono _ _ _
   | exact laws_markIntS.mono _ _ _
   | exact laws_markWagonS.mono _ _ _
   | exact laws_szContainerS.mono _ _ _
   | exact laws_toContainerS.mono _ _
   | exact laws_toIntS.mono _ _
   | exact laws_toWagonS.mono _ _
   | exact spec_MoveToWagon.mono _ _ _ _ _ _
   | exact LeO.none _
   | refine LeO.ite ?_ ?_
   | refine LeO.bind ?_ (fun _ => ?_)
theorem laws_FnExactMoveToWagon.mono : ∀ a0 a1 a2 a3 a4 k,LeO (laws_FnExactMoveToWagon.f k a0 a1 a2 a3 a4) (laws_FnExactMoveToWagon.f (k + 1) a0 a1 a2 a3 a4):=by
 intro a0 a1 a2 a3 a4 k
 obtain ⟨ih0,ih1,ih2⟩ := laws_FnExactMoveToWagon.mono_l k
 unfold laws_FnExactMoveToWagon.f
 repeat' first
   | (with_reducible exact ih0 _ _ _ _ _ _ _ _ _ _ _ _ _)
   | (with_reducible exact ih1 _ _ _ _ _ _ _ _ _)
   | (with_reducible exact ih2 _ _ _)
   | (with_reducible exact impl_MoveToWagon.mono _ _ _ _ _ _)
   | (with_reducible exact laws_eqContainerS.mono _ _ _)
   | (with_reducible exact laws_eqIntS.mono _ _ _)
   | (with_reducible exact laws_eqWagonS.mono _ _ _)
   | (with_reducible exact laws_heldIntS.mono _ _ _)
   | (with_reducible exact laws_markContainerS.mono _ _ _)
   | (with_reducible exact laws_markIntS.mono _ _ _)
   | (with_reducible exact laws_markWagonS.mono _ _ _)
   | (with_reducible exact laws_szContainerS.mono _ _ _)
   | (with_reducible exact laws_toContainerS.mono _ _)
   | (with_reducible exact laws_toIntS.mono _ _)
   | (with_reducible exact laws_toWagonS.mono _ _)
   | (with_reducible exact spec_MoveToWagon.mono _ _ _ _ _ _)
   | (with_reducible exact LeO.refl _)
   | (with_reducible exact LeO.none _)
   | (with_reducible refine LeO.ite ?_ ?_)
   | (with_reducible refine LeO.bind ?_ (fun _ => ?_))
   | exact ih0 _ _ _ _ _ _ _ _ _ _ _ _ _
   | exact ih1 _ _ _ _ _ _ _ _ _
   | exact ih2 _ _ _
   | exact impl_MoveToWagon.mono _ _ _ _ _ _
   | exact laws_eqContainerS.mono _ _ _
   | exact laws_eqIntS.mono _ _ _
   | exact laws_eqWagonS.mono _ _ _
   | exact laws_heldIntS.mono _ _ _
   | exact laws_markContainerS.mono _ _ _
   | exact laws_markIntS.mono _ _ _
   | exact laws_markWagonS.mono _ _ _
   | exact laws_szContainerS.mono _ _ _
   | exact laws_toContainerS.mono _ _
   | exact laws_toIntS.mono _ _
   | exact laws_toWagonS.mono _ _
   | exact spec_MoveToWagon.mono _ _ _ _ _ _
   | exact LeO.none _
   | refine LeO.ite ?_ ?_
   | refine LeO.bind ?_ (fun _ => ?_)
set_option maxHeartbeats 8000000 in
set_option maxRecDepth 100000 in
theorem laws_FnExactMoveToWagon.calls (k : Nat) (A0 : Option Addr) (c0 : Nat) (l0 : List (S74)) (A1 : Option Addr) (c1 : Nat) (l1 : List (S80)) (A2 : Option Addr) (c2 : Nat) (l2 : List Int) (a3 : ByteArray) (a4 : Int) (r : Bool) (w : World) (hr0 : Kd.C k74 w A0 l0.length l0) (hc0 : l0.length ≤ c0) (hr1 : Kd.C k80 w A1 l1.length l1) (hc1 : l1.length ≤ c1) (hr2 : Kd.C (Kd.int .i64) w A2 l2.length l2) (hc2 : l2.length ≤ c2) (h : laws_FnExactMoveToWagon.f k l0 l1 l2 a3 a4 = some r) :
  Calls Try.prog 10 #[.slice A0 l0.length c0, .slice A1 l1.length c1, .slice A2 l2.length c2, .string a3, .int .i64 a4] w fun e w' => e = .returned (.bool r) ∧ Below w.heap.size w w':=by
 have HR0:=Aside0.mk hr0
 have HC0:=Aside0.mk hc0
 clear hr0 hc0
 have HR1:=Aside0.mk hr1
 have HC1:=Aside0.mk hc1
 clear hr1 hc1
 have HR2:=Aside0.mk hr2
 have HC2:=Aside0.mk hc2
 clear hr2 hc2
 have HB:=Aside0.mk (Below.refl w.heap.size w)
 have H : (if (l2.length : Int) > 1048576 then (some true) else (if (a3.size : Int) > 1048576 then (some true) else ((laws_szWagonS.f l0 1048576).bind fun t281 => (if t281 < 0 then (some true) else ((laws_szContainerS.f k l1 t281).bind fun t282 => (if t282 < 0 then (some true) else ((laws_toWagonS.f k l0).bind fun t283 => ((laws_toContainerS.f k l1).bind fun t286 => ((laws_toIntS.f k l2).bind fun t289 => ((spec_MoveToWagon.f k t283 t286 t289 a3 a4).bind fun bt292 => ((laws_toWagonS.f k l0).bind fun t296 => ((laws_toContainerS.f k l1).bind fun t299 => ((laws_toIntS.f k l2).bind fun t302 => ((impl_MoveToWagon.f k t296 t299 t302 a3 a4).bind fun bt305 => ((laws_eqIntS.f k bt305.1 bt292.1).bind fun t309 => (if t309 = true then (laws_FnExactMoveToWagon.j0 k l0 l1 l2 a3 a4 bt292.1 bt292.2 t296 t299 t302 bt305.1 bt305.2 (bt305.2 != bt292.2)) else (laws_FnExactMoveToWagon.j0 k l0 l1 l2 a3 a4 bt292.1 bt292.2 t296 t299 t302 bt305.1 bt305.2 true))))))))))))))))) = some r:=h
 clear h
 by_cases c6 : (l2.length : Int) > 1048576
 ·rw [if_pos c6] at H
  have c6b0 : decide (1048576 < (l2.length : Int)) = true:=decide_eq_true c6
  have c6b1 : decide (1048576 < l2.length) = true:=decide_eq_true (by omega)
  clear c6
  obtain rfl:=Option.some.inj H
  go_enter Try.func10,Try.ntmps10
  go_wp2
  go_ret
  exact ⟨by first | rfl | (simp [errW_none,errW_some] <;> rfl) | (simp [*,errW_none,errW_some] <;> rfl),by repeat (first | (with_reducible first | exact HB.out | apply below_alloc | apply pw_below_drewN | apply below_drew1) | exact HB.out)⟩
 ·rw [if_neg c6] at H
  have c6b0 : decide (1048576 < (l2.length : Int)) = false:=decide_eq_false c6
  have c6b1 : decide (1048576 < l2.length) = false:=decide_eq_false (by omega)
  clear c6
  by_cases c7 : (a3.size : Int) > 1048576
  ·rw [if_pos c7] at H
   have c7b0 : decide (1048576 < (a3.size : Int)) = true:=decide_eq_true c7
   have c7b1 : decide (1048576 < a3.size) = true:=decide_eq_true (by omega)
   clear c7
   obtain rfl:=Option.some.inj H
   go_enter Try.func10,Try.ntmps10
   go_wp2
   go_ret
   exact ⟨by first | rfl | (simp [errW_none,errW_some] <;> rfl) | (simp [*,errW_none,errW_some] <;> rfl),by repeat (first | (with_reducible first | exact HB.out | apply below_alloc | apply pw_below_drewN | apply below_drew1) | exact HB.out)⟩
  ·rw [if_neg c7] at H
   have c7b0 : decide (1048576 < (a3.size : Int)) = false:=decide_eq_false c7
   have c7b1 : decide (1048576 < a3.size) = false:=decide_eq_false (by omega)
   clear c7
   replace H:=Option.bind_eq_some_iff.mp H
   obtain ⟨t281,A80,H⟩ := H
   replace H : (if t281 < 0 then (some true) else ((laws_szContainerS.f k l1 t281).bind fun t282 => (if t282 < 0 then (some true) else ((laws_toWagonS.f k l0).bind fun t283 => ((laws_toContainerS.f k l1).bind fun t286 => ((laws_toIntS.f k l2).bind fun t289 => ((spec_MoveToWagon.f k t283 t286 t289 a3 a4).bind fun bt292 => ((laws_toWagonS.f k l0).bind fun t296 => ((laws_toContainerS.f k l1).bind fun t299 => ((laws_toIntS.f k l2).bind fun t302 => ((impl_MoveToWagon.f k t296 t299 t302 a3 a4).bind fun bt305 => ((laws_eqIntS.f k bt305.1 bt292.1).bind fun t309 => (if t309 = true then (laws_FnExactMoveToWagon.j0 k l0 l1 l2 a3 a4 bt292.1 bt292.2 t296 t299 t302 bt305.1 bt305.2 (bt305.2 != bt292.2)) else (laws_FnExactMoveToWagon.j0 k l0 l1 l2 a3 a4 bt292.1 bt292.2 t296 t299 t302 bt305.1 bt305.2 true)))))))))))))) = some r:=H
   have A8:=Aside0.mk A80
   clear A80
   by_cases c9 : t281 < 0
   ·rw [if_pos c9] at H
    have c9b0 : decide (t281 < 0) = true:=decide_eq_true c9
    clear c9
    obtain rfl:=Option.some.inj H
    go_enter Try.func10,Try.ntmps10
    go_wp2_with (first | ((with_reducible refine gate_callee (f:=15) rfl ?_);refine goesL_ (some 32) rfl rfl Try.func15 (by kernel_rfl) rfl #[.slice A0 l0.length c0, .int .i64 1048576] rfl (by (try simp only [List.map_toArray,List.map_cons,List.map_nil]);first | done | rfl | (simp only [List.length_drop,List.length_take];rfl)) ?_;(with_reducible refine (laws_szWagonS.calls _ _ l0 1048576 t281 _ ?side1 ?side2 A8.out).mono ?_);(case side1 => repeat (first | exact HR0.out | (with_reducible refine Kd.C_alloc ?_ _) | (with_reducible refine Kd.C_drewN ?_ _) | (with_reducible refine Kd.C_drew ?_)));(case side2 => exact HC0.out);rintro e w' ⟨rfl,⟨nd,rfl⟩⟩;refine ⟨_,rfl, ?_⟩))
    go_ret
    exact ⟨by first | rfl | (simp [errW_none,errW_some] <;> rfl) | (simp [*,errW_none,errW_some] <;> rfl),by repeat (first | (with_reducible first | exact HB.out | apply below_alloc | apply pw_below_drewN | apply below_drew1) | exact HB.out)⟩
   ·rw [if_neg c9] at H
    have c9b0 : decide (t281 < 0) = false:=decide_eq_false c9
    clear c9
    replace H:=Option.bind_eq_some_iff.mp H
    obtain ⟨t282,A100,H⟩ := H
    replace H : (if t282 < 0 then (some true) else ((laws_toWagonS.f k l0).bind fun t283 => ((laws_toContainerS.f k l1).bind fun t286 => ((laws_toIntS.f k l2).bind fun t289 => ((spec_MoveToWagon.f k t283 t286 t289 a3 a4).bind fun bt292 => ((laws_toWagonS.f k l0).bind fun t296 => ((laws_toContainerS.f k l1).bind fun t299 => ((laws_toIntS.f k l2).bind fun t302 => ((impl_MoveToWagon.f k t296 t299 t302 a3 a4).bind fun bt305 => ((laws_eqIntS.f k bt305.1 bt292.1).bind fun t309 => (if t309 = true then (laws_FnExactMoveToWagon.j0 k l0 l1 l2 a3 a4 bt292.1 bt292.2 t296 t299 t302 bt305.1 bt305.2 (bt305.2 != bt292.2)) else (laws_FnExactMoveToWagon.j0 k l0 l1 l2 a3 a4 bt292.1 bt292.2 t296 t299 t302 bt305.1 bt305.2 true)))))))))))) = some r:=H
    have A10:=Aside0.mk A100
    clear A100
    by_cases c11 : t282 < 0
    ·rw [if_pos c11] at H
     have c11b0 : decide (t282 < 0) = true:=decide_eq_true c11
     clear c11
     obtain rfl:=Option.some.inj H
     go_enter Try.func10,Try.ntmps10
     go_wp2_with (first | ((with_reducible refine gate_callee (f:=15) rfl ?_);refine goesL_ (some 32) rfl rfl Try.func15 (by kernel_rfl) rfl #[.slice A0 l0.length c0, .int .i64 1048576] rfl (by (try simp only [List.map_toArray,List.map_cons,List.map_nil]);first | done | rfl | (simp only [List.length_drop,List.length_take];rfl)) ?_;(with_reducible refine (laws_szWagonS.calls _ _ l0 1048576 t281 _ ?side1 ?side2 A8.out).mono ?_);(case side1 => repeat (first | exact HR0.out | (with_reducible refine Kd.C_alloc ?_ _) | (with_reducible refine Kd.C_drewN ?_ _) | (with_reducible refine Kd.C_drew ?_)));(case side2 => exact HC0.out);rintro e w' ⟨rfl,⟨nd,rfl⟩⟩;refine ⟨_,rfl, ?_⟩) | ((with_reducible refine gate_callee (f:=20) rfl ?_);refine goesL_ (some 37) rfl rfl Try.func20 (by kernel_rfl) rfl #[.slice A1 l1.length c1, .int .i64 t281] rfl (by (try simp only [List.map_toArray,List.map_cons,List.map_nil]);first | done | rfl | (simp only [List.length_drop,List.length_take];rfl)) ?_;(with_reducible refine (laws_szContainerS.calls k _ _ l1 t281 t282 _ ?side1 ?side2 A10.out).mono ?_);(case side1 => repeat (first | exact HR1.out | (with_reducible refine Kd.C_alloc ?_ _) | (with_reducible refine Kd.C_drewN ?_ _) | (with_reducible refine Kd.C_drew ?_)));(case side2 => exact HC1.out);rintro e w12 ⟨rfl,hb⟩;refine ⟨_,rfl, ?_⟩;have n0_:=Aside0.mk (below_step (by repeat (first | (with_reducible first | exact HB.out | apply below_alloc | apply pw_below_drewN | apply below_drew1) | exact HB.out)) hb);clear HB;have HB:=n0_;clear n0_;(try clear hb);(try clear hb2);(try clear hk);(try clear hi)))
     go_ret
     exact ⟨by first | rfl | (simp [errW_none,errW_some] <;> rfl) | (simp [*,errW_none,errW_some] <;> rfl),by repeat (first | (with_reducible first | exact HB.out | apply below_alloc | apply pw_below_drewN | apply below_drew1) | exact HB.out)⟩
    ·rw [if_neg c11] at H
     have c11b0 : decide (t282 < 0) = false:=decide_eq_false c11
     clear c11
     replace H:=Option.bind_eq_some_iff.mp H
     obtain ⟨t283,A130,H⟩ := H
     replace H : ((laws_toContainerS.f k l1).bind fun t286 => ((laws_toIntS.f k l2).bind fun t289 => ((spec_MoveToWagon.f k t283 t286 t289 a3 a4).bind fun bt292 => ((laws_toWagonS.f k l0).bind fun t296 => ((laws_toContainerS.f k l1).bind fun t299 => ((laws_toIntS.f k l2).bind fun t302 => ((impl_MoveToWagon.f k t296 t299 t302 a3 a4).bind fun bt305 => ((laws_eqIntS.f k bt305.1 bt292.1).bind fun t309 => (if t309 = true then (laws_FnExactMoveToWagon.j0 k l0 l1 l2 a3 a4 bt292.1 bt292.2 t296 t299 t302 bt305.1 bt305.2 (bt305.2 != bt292.2)) else (laws_FnExactMoveToWagon.j0 k l0 l1 l2 a3 a4 bt292.1 bt292.2 t296 t299 t302 bt305.1 bt305.2 true)))))))))) = some r:=H
     have A13:=Aside0.mk A130
     clear A130
     replace H:=Option.bind_eq_some_iff.mp H
     obtain ⟨t286,A140,H⟩ := H
     replace H : ((laws_toIntS.f k l2).bind fun t289 => ((spec_MoveToWagon.f k t283 t286 t289 a3 a4).bind fun bt292 => ((laws_toWagonS.f k l0).bind fun t296 => ((laws_toContainerS.f k l1).bind fun t299 => ((laws_toIntS.f k l2).bind fun t302 => ((impl_MoveToWagon.f k t296 t299 t302 a3 a4).bind fun bt305 => ((laws_eqIntS.f k bt305.1 bt292.1).bind fun t309 => (if t309 = true then (laws_FnExactMoveToWagon.j0 k l0 l1 l2 a3 a4 bt292.1 bt292.2 t296 t299 t302 bt305.1 bt305.2 (bt305.2 != bt292.2)) else (laws_FnExactMoveToWagon.j0 k l0 l1 l2 a3 a4 bt292.1 bt292.2 t296 t299 t302 bt305.1 bt305.2 true))))))))) = some r:=H
     have A14:=Aside0.mk A140
     clear A140
     replace H:=Option.bind_eq_some_iff.mp H
     obtain ⟨t289,A150,H⟩ := H
     replace H : ((spec_MoveToWagon.f k t283 t286 t289 a3 a4).bind fun bt292 => ((laws_toWagonS.f k l0).bind fun t296 => ((laws_toContainerS.f k l1).bind fun t299 => ((laws_toIntS.f k l2).bind fun t302 => ((impl_MoveToWagon.f k t296 t299 t302 a3 a4).bind fun bt305 => ((laws_eqIntS.f k bt305.1 bt292.1).bind fun t309 => (if t309 = true then (laws_FnExactMoveToWagon.j0 k l0 l1 l2 a3 a4 bt292.1 bt292.2 t296 t299 t302 bt305.1 bt305.2 (bt305.2 != bt292.2)) else (laws_FnExactMoveToWagon.j0 k l0 l1 l2 a3 a4 bt292.1 bt292.2 t296 t299 t302 bt305.1 bt305.2 true)))))))) = some r:=H
     have A15:=Aside0.mk A150
     clear A150
     replace H:=Option.bind_eq_some_iff.mp H
     obtain ⟨⟨t292,t293⟩,A160,H⟩ := H
     replace H : ((laws_toWagonS.f k l0).bind fun t296 => ((laws_toContainerS.f k l1).bind fun t299 => ((laws_toIntS.f k l2).bind fun t302 => ((impl_MoveToWagon.f k t296 t299 t302 a3 a4).bind fun bt305 => ((laws_eqIntS.f k bt305.1 t292).bind fun t309 => (if t309 = true then (laws_FnExactMoveToWagon.j0 k l0 l1 l2 a3 a4 t292 t293 t296 t299 t302 bt305.1 bt305.2 (bt305.2 != t293)) else (laws_FnExactMoveToWagon.j0 k l0 l1 l2 a3 a4 t292 t293 t296 t299 t302 bt305.1 bt305.2 true))))))) = some r:=H
     have A16:=Aside0.mk A160
     clear A160
     replace H:=Option.bind_eq_some_iff.mp H
     obtain ⟨t296,A170,H⟩ := H
     replace H : ((laws_toContainerS.f k l1).bind fun t299 => ((laws_toIntS.f k l2).bind fun t302 => ((impl_MoveToWagon.f k t296 t299 t302 a3 a4).bind fun bt305 => ((laws_eqIntS.f k bt305.1 t292).bind fun t309 => (if t309 = true then (laws_FnExactMoveToWagon.j0 k l0 l1 l2 a3 a4 t292 t293 t296 t299 t302 bt305.1 bt305.2 (bt305.2 != t293)) else (laws_FnExactMoveToWagon.j0 k l0 l1 l2 a3 a4 t292 t293 t296 t299 t302 bt305.1 bt305.2 true)))))) = some r:=H
     have A17:=Aside0.mk A170
     clear A170
     replace H:=Option.bind_eq_some_iff.mp H
     obtain ⟨t299,A180,H⟩ := H
     replace H : ((laws_toIntS.f k l2).bind fun t302 => ((impl_MoveToWagon.f k t296 t299 t302 a3 a4).bind fun bt305 => ((laws_eqIntS.f k bt305.1 t292).bind fun t309 => (if t309 = true then (laws_FnExactMoveToWagon.j0 k l0 l1 l2 a3 a4 t292 t293 t296 t299 t302 bt305.1 bt305.2 (bt305.2 != t293)) else (laws_FnExactMoveToWagon.j0 k l0 l1 l2 a3 a4 t292 t293 t296 t299 t302 bt305.1 bt305.2 true))))) = some r:=H
     have A18:=Aside0.mk A180
     clear A180
     replace H:=Option.bind_eq_some_iff.mp H
     obtain ⟨t302,A190,H⟩ := H
     replace H : ((impl_MoveToWagon.f k t296 t299 t302 a3 a4).bind fun bt305 => ((laws_eqIntS.f k bt305.1 t292).bind fun t309 => (if t309 = true then (laws_FnExactMoveToWagon.j0 k l0 l1 l2 a3 a4 t292 t293 t296 t299 t302 bt305.1 bt305.2 (bt305.2 != t293)) else (laws_FnExactMoveToWagon.j0 k l0 l1 l2 a3 a4 t292 t293 t296 t299 t302 bt305.1 bt305.2 true)))) = some r:=H
     have A19:=Aside0.mk A190
     clear A190
     replace H:=Option.bind_eq_some_iff.mp H
     obtain ⟨⟨t305,t306⟩,A200,H⟩ := H
     replace H : ((laws_eqIntS.f k t305 t292).bind fun t309 => (if t309 = true then (laws_FnExactMoveToWagon.j0 k l0 l1 l2 a3 a4 t292 t293 t296 t299 t302 t305 t306 (t306 != t293)) else (laws_FnExactMoveToWagon.j0 k l0 l1 l2 a3 a4 t292 t293 t296 t299 t302 t305 t306 true))) = some r:=H
     have A20:=Aside0.mk A200
     clear A200
     have HC21:=Aside0.mk H
     clear H
     go_enter Try.func10,Try.ntmps10
     go_upto_region 17 with (first | ((with_reducible refine gate_callee (f:=15) rfl ?_);refine goesL_ (some 32) rfl rfl Try.func15 (by kernel_rfl) rfl #[.slice A0 l0.length c0, .int .i64 1048576] rfl (by (try simp only [List.map_toArray,List.map_cons,List.map_nil]);first | done | rfl | (simp only [List.length_drop,List.length_take];rfl)) ?_;(with_reducible refine (laws_szWagonS.calls _ _ l0 1048576 t281 _ ?side1 ?side2 A8.out).mono ?_);(case side1 => repeat (first | exact HR0.out | (with_reducible refine Kd.C_alloc ?_ _) | (with_reducible refine Kd.C_drewN ?_ _) | (with_reducible refine Kd.C_drew ?_)));(case side2 => exact HC0.out);rintro e w' ⟨rfl,⟨nd,rfl⟩⟩;refine ⟨_,rfl, ?_⟩) | ((with_reducible refine gate_callee (f:=20) rfl ?_);refine goesL_ (some 37) rfl rfl Try.func20 (by kernel_rfl) rfl #[.slice A1 l1.length c1, .int .i64 t281] rfl (by (try simp only [List.map_toArray,List.map_cons,List.map_nil]);first | done | rfl | (simp only [List.length_drop,List.length_take];rfl)) ?_;(with_reducible refine (laws_szContainerS.calls k _ _ l1 t281 t282 _ ?side1 ?side2 A10.out).mono ?_);(case side1 => repeat (first | exact HR1.out | (with_reducible refine Kd.C_alloc ?_ _) | (with_reducible refine Kd.C_drewN ?_ _) | (with_reducible refine Kd.C_drew ?_)));(case side2 => exact HC1.out);rintro e w22 ⟨rfl,hb⟩;refine ⟨_,rfl, ?_⟩;have n0_:=Aside0.mk (below_step (by repeat (first | (with_reducible first | exact HB.out | apply below_alloc | apply pw_below_drewN | apply below_drew1) | exact HB.out)) hb);clear HB;have HB:=n0_;clear n0_;(try clear hb);(try clear hb2);(try clear hk);(try clear hi)) | ((with_reducible refine gate_callee (f:=17) rfl ?_);refine goesL_ (some 42) rfl rfl Try.func17 (by kernel_rfl) rfl #[.slice A0 l0.length c0] rfl (by (try simp only [List.map_toArray,List.map_cons,List.map_nil]);first | done | rfl | (simp only [List.length_drop,List.length_take];rfl)) ?_;(with_reducible refine (laws_toWagonS.calls k _ _ l0 t283 _ ?side1 ?side2 A13.out).mono ?_);(case side1 => repeat (first | exact (Kd.C_below HR0.out HB.out) | (with_reducible refine Kd.C_alloc ?_ _) | (with_reducible refine Kd.C_drewN ?_ _) | (with_reducible refine Kd.C_drew ?_)));(case side2 => exact HC0.out);rintro e w23 ⟨v284,rfl,ho0,hb⟩;refine ⟨_,rfl, ?_⟩;have n0_:=Aside0.mk (Kd.R_lower ho0 (below_size (by repeat (first | (with_reducible first | exact HB.out | apply below_alloc | apply pw_below_drewN | apply below_drew1) | exact HB.out))));have n1_:=Aside0.mk (below_step (by repeat (first | (with_reducible first | exact HB.out | apply below_alloc | apply pw_below_drewN | apply below_drew1) | exact HB.out)) hb);clear HB;have HO285:=n0_;have HB:=n1_;clear n0_ n1_;(try clear hb);(try clear hb2);(try clear hk);(try clear hi);(try clear ho0)) | ((with_reducible refine gate_callee (f:=22) rfl ?_);refine goesL_ (some 44) rfl rfl Try.func22 (by kernel_rfl) rfl #[.slice A1 l1.length c1] rfl (by (try simp only [List.map_toArray,List.map_cons,List.map_nil]);first | done | rfl | (simp only [List.length_drop,List.length_take];rfl)) ?_;(with_reducible refine (laws_toContainerS.calls k _ _ l1 t286 _ ?side1 ?side2 A14.out).mono ?_);(case side1 => repeat (first | exact (Kd.C_below HR1.out HB.out) | (with_reducible refine Kd.C_alloc ?_ _) | (with_reducible refine Kd.C_drewN ?_ _) | (with_reducible refine Kd.C_drew ?_)));(case side2 => exact HC1.out);rintro e w24 ⟨v287,rfl,ho0,hb⟩;refine ⟨_,rfl, ?_⟩;have n0_:=Aside0.mk (Kd.R_below (by (with_reducible repeat (first | apply Kd.R_alloc | apply Kd.R_drewN | apply Kd.R_drew));exact HO285.out) hb);have n1_:=Aside0.mk (Kd.R_lower ho0 (below_size (by repeat (first | (with_reducible first | exact HB.out | apply below_alloc | apply pw_below_drewN | apply below_drew1) | exact HB.out))));have n2_:=Aside0.mk (below_step (by repeat (first | (with_reducible first | exact HB.out | apply below_alloc | apply pw_below_drewN | apply below_drew1) | exact HB.out)) hb);clear HO285;clear HB;have HO285:=n0_;have HO288:=n1_;have HB:=n2_;clear n0_ n1_ n2_;(try clear hb);(try clear hb2);(try clear hk);(try clear hi);(try clear ho0)) | ((with_reducible refine gate_callee (f:=23) rfl ?_);refine goesL_ (some 46) rfl rfl Try.func23 (by kernel_rfl) rfl #[.slice A2 l2.length c2] rfl (by (try simp only [List.map_toArray,List.map_cons,List.map_nil]);first | done | rfl | (simp only [List.length_drop,List.length_take];rfl)) ?_;(with_reducible refine (laws_toIntS.calls k _ _ l2 t289 _ ?side1 ?side2 A15.out).mono ?_);(case side1 => repeat (first | exact (Kd.C_below HR2.out HB.out) | (with_reducible refine Kd.C_alloc ?_ _) | (with_reducible refine Kd.C_drewN ?_ _) | (with_reducible refine Kd.C_drew ?_)));(case side2 => exact HC2.out);rintro e w25 ⟨v290,rfl,ho0,hb⟩;refine ⟨_,rfl, ?_⟩;have n0_:=Aside0.mk (Kd.R_below (by (with_reducible repeat (first | apply Kd.R_alloc | apply Kd.R_drewN | apply Kd.R_drew));exact HO285.out) hb);have n1_:=Aside0.mk (Kd.R_below (by (with_reducible repeat (first | apply Kd.R_alloc | apply Kd.R_drewN | apply Kd.R_drew));exact HO288.out) hb);have n2_:=Aside0.mk (Kd.R_lower ho0 (below_size (by repeat (first | (with_reducible first | exact HB.out | apply below_alloc | apply pw_below_drewN | apply below_drew1) | exact HB.out))));have n3_:=Aside0.mk (below_step (by repeat (first | (with_reducible first | exact HB.out | apply below_alloc | apply pw_below_drewN | apply below_drew1) | exact HB.out)) hb);clear HO285;clear HO288;clear HB;have HO285:=n0_;have HO288:=n1_;have HO291:=n2_;have HB:=n3_;clear n0_ n1_ n2_ n3_;(try clear hb);(try clear hb2);(try clear hk);(try clear hi);(try clear ho0);obtain ⟨Ao26,co26,eo26⟩ := Kd.R_slice HO285.out;subst eo26;obtain ⟨Ao27,co27,eo27⟩ := Kd.R_slice HO288.out;subst eo27;obtain ⟨Ao28,co28,eo28⟩ := Kd.R_slice HO291.out;subst eo28) | ((with_reducible refine gate_callee (f:=41) rfl ?_);refine goesL_ (some 49) rfl rfl Try.func41 (by kernel_rfl) rfl #[.slice Ao26 t283.length co26, .slice Ao27 t286.length co27, .slice Ao28 t289.length co28, .string a3, .int .i64 a4] rfl (by (try simp only [List.map_toArray,List.map_cons,List.map_nil]);first | done | rfl | (simp only [List.length_drop,List.length_take];rfl)) ?_;(with_reducible refine (spec_MoveToWagon.calls k _ _ t283 _ _ t286 _ _ t289 a3 a4 t292 t293 _ ?side1 ?side2 ?side3 ?side4 ?side5 ?side6 A16.out).mono ?_);(case side1 => repeat (first | exact (Kd.R_reads' HO285.out).2.2 | (with_reducible refine Kd.C_alloc ?_ _) | (with_reducible refine Kd.C_drewN ?_ _) | (with_reducible refine Kd.C_drew ?_)));(case side2 => exact (Kd.R_reads' HO285.out).2.1);(case side3 => repeat (first | exact (Kd.R_reads' HO288.out).2.2 | (with_reducible refine Kd.C_alloc ?_ _) | (with_reducible refine Kd.C_drewN ?_ _) | (with_reducible refine Kd.C_drew ?_)));(case side4 => exact (Kd.R_reads' HO288.out).2.1);(case side5 => repeat (first | exact (Kd.R_reads' HO291.out).2.2 | (with_reducible refine Kd.C_alloc ?_ _) | (with_reducible refine Kd.C_drewN ?_ _) | (with_reducible refine Kd.C_drew ?_)));(case side6 => exact (Kd.R_reads' HO291.out).2.1);rintro e w29 ⟨v294,rfl,ho0,hb⟩;refine ⟨_,rfl, ?_⟩;have n0_:=Aside0.mk (Kd.R_below (by (with_reducible repeat (first | apply Kd.R_alloc | apply Kd.R_drewN | apply Kd.R_drew));exact HO285.out) hb);have n1_:=Aside0.mk (Kd.R_below (by (with_reducible repeat (first | apply Kd.R_alloc | apply Kd.R_drewN | apply Kd.R_drew));exact HO288.out) hb);have n2_:=Aside0.mk (Kd.R_elder' (by (with_reducible repeat (first | apply Kd.R_alloc | apply Kd.R_drewN | apply Kd.R_drew));exact HO291.out) (Kd.R_base ho0) hb);have n3_:=Aside0.mk (Kd.R_lower (Kd.R_new' ho0 (Kd.R_lt (by (with_reducible repeat (first | apply Kd.R_alloc | apply Kd.R_drewN | apply Kd.R_drew));exact HO291.out))) (below_size (by repeat (first | (with_reducible first | exact HB.out | apply below_alloc | apply pw_below_drewN | apply below_drew1) | exact HB.out))));have n4_:=Aside0.mk (below_step (by repeat (first | (with_reducible first | exact HB.out | apply below_alloc | apply pw_below_drewN | apply below_drew1) | exact HB.out)) hb);clear HO285;clear HO288;clear HO291;clear HB;have HO285:=n0_;have HO288:=n1_;have HO291:=n2_;have HO295:=n3_;have HB:=n4_;clear n0_ n1_ n2_ n3_ n4_;(try clear hb);(try clear hb2);(try clear hk);(try clear hi);(try clear ho0)) | ((with_reducible refine gate_callee (f:=17) rfl ?_);refine goesL_ (some 53) rfl rfl Try.func17 (by kernel_rfl) rfl #[.slice A0 l0.length c0] rfl (by (try simp only [List.map_toArray,List.map_cons,List.map_nil]);first | done | rfl | (simp only [List.length_drop,List.length_take];rfl)) ?_;(with_reducible refine (laws_toWagonS.calls k _ _ l0 t296 _ ?side1 ?side2 A17.out).mono ?_);(case side1 => repeat (first | exact (Kd.C_below HR0.out HB.out) | (with_reducible refine Kd.C_alloc ?_ _) | (with_reducible refine Kd.C_drewN ?_ _) | (with_reducible refine Kd.C_drew ?_)));(case side2 => exact HC0.out);rintro e w30 ⟨v297,rfl,ho0,hb⟩;refine ⟨_,rfl, ?_⟩;have n0_:=Aside0.mk (Kd.R_elder' (by (with_reducible repeat (first | apply Kd.R_alloc | apply Kd.R_drewN | apply Kd.R_drew));exact HO285.out) (Kd.R_base ho0) hb);have n1_:=Aside0.mk (Kd.R_below (by (with_reducible repeat (first | apply Kd.R_alloc | apply Kd.R_drewN | apply Kd.R_drew));exact HO288.out) hb);have n2_:=Aside0.mk (Kd.R_below (by (with_reducible repeat (first | apply Kd.R_alloc | apply Kd.R_drewN | apply Kd.R_drew));exact HO291.out) hb);have n3_:=Aside0.mk (Kd.R_below (by (with_reducible repeat (first | apply Kd.R_alloc | apply Kd.R_drewN | apply Kd.R_drew));exact HO295.out) hb);have n4_:=Aside0.mk (Kd.R_lower (Kd.R_new' ho0 (Kd.R_lt (by (with_reducible repeat (first | apply Kd.R_alloc | apply Kd.R_drewN | apply Kd.R_drew));exact HO285.out))) (below_size (by repeat (first | (with_reducible first | exact HB.out | apply below_alloc | apply pw_below_drewN | apply below_drew1) | exact HB.out))));have n5_:=Aside0.mk (below_step (by repeat (first | (with_reducible first | exact HB.out | apply below_alloc | apply pw_below_drewN | apply below_drew1) | exact HB.out)) hb);clear HO285;clear HO288;clear HO291;clear HO295;clear HB;have HO285:=n0_;have HO288:=n1_;have HO291:=n2_;have HO295:=n3_;have HO298:=n4_;have HB:=n5_;clear n0_ n1_ n2_ n3_ n4_ n5_;(try clear hb);(try clear hb2);(try clear hk);(try clear hi);(try clear ho0)) | ((with_reducible refine gate_callee (f:=22) rfl ?_);refine goesL_ (some 55) rfl rfl Try.func22 (by kernel_rfl) rfl #[.slice A1 l1.length c1] rfl (by (try simp only [List.map_toArray,List.map_cons,List.map_nil]);first | done | rfl | (simp only [List.length_drop,List.length_take];rfl)) ?_;(with_reducible refine (laws_toContainerS.calls k _ _ l1 t299 _ ?side1 ?side2 A18.out).mono ?_);(case side1 => repeat (first | exact (Kd.C_below HR1.out HB.out) | (with_reducible refine Kd.C_alloc ?_ _) | (with_reducible refine Kd.C_drewN ?_ _) | (with_reducible refine Kd.C_drew ?_)));(case side2 => exact HC1.out);rintro e w31 ⟨v300,rfl,ho0,hb⟩;refine ⟨_,rfl, ?_⟩;have n0_:=Aside0.mk (Kd.R_below (by (with_reducible repeat (first | apply Kd.R_alloc | apply Kd.R_drewN | apply Kd.R_drew));exact HO285.out) hb);have n1_:=Aside0.mk (Kd.R_elder' (by (with_reducible repeat (first | apply Kd.R_alloc | apply Kd.R_drewN | apply Kd.R_drew));exact HO288.out) (Kd.R_base ho0) hb);have n2_:=Aside0.mk (Kd.R_below (by (with_reducible repeat (first | apply Kd.R_alloc | apply Kd.R_drewN | apply Kd.R_drew));exact HO291.out) hb);have n3_:=Aside0.mk (Kd.R_below (by (with_reducible repeat (first | apply Kd.R_alloc | apply Kd.R_drewN | apply Kd.R_drew));exact HO295.out) hb);have n4_:=Aside0.mk (Kd.R_below (by (with_reducible repeat (first | apply Kd.R_alloc | apply Kd.R_drewN | apply Kd.R_drew));exact HO298.out) hb);have n5_:=Aside0.mk (Kd.R_lower (Kd.R_new' ho0 (Kd.R_lt (by (with_reducible repeat (first | apply Kd.R_alloc | apply Kd.R_drewN | apply Kd.R_drew));exact HO288.out))) (below_size (by repeat (first | (with_reducible first | exact HB.out | apply below_alloc | apply pw_below_drewN | apply below_drew1) | exact HB.out))));have n6_:=Aside0.mk (below_step (by repeat (first | (with_reducible first | exact HB.out | apply below_alloc | apply pw_below_drewN | apply below_drew1) | exact HB.out)) hb);clear HO285;clear HO288;clear HO291;clear HO295;clear HO298;clear HB;have HO285:=n0_;have HO288:=n1_;have HO291:=n2_;have HO295:=n3_;have HO298:=n4_;have HO301:=n5_;have HB:=n6_;clear n0_ n1_ n2_ n3_ n4_ n5_ n6_;(try clear hb);(try clear hb2);(try clear hk);(try clear hi);(try clear ho0)) | ((with_reducible refine gate_callee (f:=23) rfl ?_);refine goesL_ (some 57) rfl rfl Try.func23 (by kernel_rfl) rfl #[.slice A2 l2.length c2] rfl (by (try simp only [List.map_toArray,List.map_cons,List.map_nil]);first | done | rfl | (simp only [List.length_drop,List.length_take];rfl)) ?_;(with_reducible refine (laws_toIntS.calls k _ _ l2 t302 _ ?side1 ?side2 A19.out).mono ?_);(case side1 => repeat (first | exact (Kd.C_below HR2.out HB.out) | (with_reducible refine Kd.C_alloc ?_ _) | (with_reducible refine Kd.C_drewN ?_ _) | (with_reducible refine Kd.C_drew ?_)));(case side2 => exact HC2.out);rintro e w32 ⟨v303,rfl,ho0,hb⟩;refine ⟨_,rfl, ?_⟩;have n0_:=Aside0.mk (Kd.R_below (by (with_reducible repeat (first | apply Kd.R_alloc | apply Kd.R_drewN | apply Kd.R_drew));exact HO285.out) hb);have n1_:=Aside0.mk (Kd.R_below (by (with_reducible repeat (first | apply Kd.R_alloc | apply Kd.R_drewN | apply Kd.R_drew));exact HO288.out) hb);have n2_:=Aside0.mk (Kd.R_elder' (by (with_reducible repeat (first | apply Kd.R_alloc | apply Kd.R_drewN | apply Kd.R_drew));exact HO291.out) (Kd.R_base ho0) hb);have n3_:=Aside0.mk (Kd.R_elder' (by (with_reducible repeat (first | apply Kd.R_alloc | apply Kd.R_drewN | apply Kd.R_drew));exact HO295.out) (Kd.R_base ho0) hb);have n4_:=Aside0.mk (Kd.R_below (by (with_reducible repeat (first | apply Kd.R_alloc | apply Kd.R_drewN | apply Kd.R_drew));exact HO298.out) hb);have n5_:=Aside0.mk (Kd.R_below (by (with_reducible repeat (first | apply Kd.R_alloc | apply Kd.R_drewN | apply Kd.R_drew));exact HO301.out) hb);have n6_:=Aside0.mk (Kd.R_lower (Kd.R_new' (Kd.R_new' ho0 (Kd.R_lt (by (with_reducible repeat (first | apply Kd.R_alloc | apply Kd.R_drewN | apply Kd.R_drew));exact HO291.out))) (Kd.R_lt (by (with_reducible repeat (first | apply Kd.R_alloc | apply Kd.R_drewN | apply Kd.R_drew));exact HO295.out))) (below_size (by repeat (first | (with_reducible first | exact HB.out | apply below_alloc | apply pw_below_drewN | apply below_drew1) | exact HB.out))));have n7_:=Aside0.mk (below_step (by repeat (first | (with_reducible first | exact HB.out | apply below_alloc | apply pw_below_drewN | apply below_drew1) | exact HB.out)) hb);clear HO285;clear HO288;clear HO291;clear HO295;clear HO298;clear HO301;clear HB;have HO285:=n0_;have HO288:=n1_;have HO291:=n2_;have HO295:=n3_;have HO298:=n4_;have HO301:=n5_;have HO304:=n6_;have HB:=n7_;clear n0_ n1_ n2_ n3_ n4_ n5_ n6_ n7_;(try clear hb);(try clear hb2);(try clear hk);(try clear hi);(try clear ho0);obtain ⟨Ao33,co33,eo33⟩ := Kd.R_slice HO298.out;subst eo33;obtain ⟨Ao34,co34,eo34⟩ := Kd.R_slice HO301.out;subst eo34;obtain ⟨Ao35,co35,eo35⟩ := Kd.R_slice HO304.out;subst eo35) | ((with_reducible refine gate_callee (f:=42) rfl ?_);refine goesL_ (some 64) rfl rfl Try.func42 (by kernel_rfl) rfl #[.slice Ao33 t296.length co33, .slice Ao34 t299.length co34, .slice Ao35 t302.length co35, .string a3, .int .i64 a4] rfl (by (try simp only [List.map_toArray,List.map_cons,List.map_nil]);first | done | rfl | (simp only [List.length_drop,List.length_take];rfl)) ?_;(with_reducible refine (impl_MoveToWagon.calls k _ _ t296 _ _ t299 _ _ t302 a3 a4 t305 t306 _ ?side1 ?side2 ?side3 ?side4 ?side5 ?side6 A20.out).mono ?_);(case side1 => repeat (first | exact (Kd.R_reads' HO298.out).2.2 | (with_reducible refine Kd.C_alloc ?_ _) | (with_reducible refine Kd.C_drewN ?_ _) | (with_reducible refine Kd.C_drew ?_)));(case side2 => exact (Kd.R_reads' HO298.out).2.1);(case side3 => repeat (first | exact (Kd.R_reads' HO301.out).2.2 | (with_reducible refine Kd.C_alloc ?_ _) | (with_reducible refine Kd.C_drewN ?_ _) | (with_reducible refine Kd.C_drew ?_)));(case side4 => exact (Kd.R_reads' HO301.out).2.1);(case side5 => repeat (first | exact (Kd.R_reads' HO304.out).2.2 | (with_reducible refine Kd.C_alloc ?_ _) | (with_reducible refine Kd.C_drewN ?_ _) | (with_reducible refine Kd.C_drew ?_)));(case side6 => exact (Kd.R_reads' HO304.out).2.1);rintro e w36 ⟨v307,rfl,ho0,hb⟩;refine ⟨_,rfl, ?_⟩;have n0_:=Aside0.mk (Kd.R_below (by (with_reducible repeat (first | apply Kd.R_alloc | apply Kd.R_drewN | apply Kd.R_drew));exact HO285.out) hb);have n1_:=Aside0.mk (Kd.R_below (by (with_reducible repeat (first | apply Kd.R_alloc | apply Kd.R_drewN | apply Kd.R_drew));exact HO288.out) hb);have n2_:=Aside0.mk (Kd.R_elder' (by (with_reducible repeat (first | apply Kd.R_alloc | apply Kd.R_drewN | apply Kd.R_drew));exact HO291.out) (Kd.R_base ho0) hb);have n3_:=Aside0.mk (Kd.R_elder' (by (with_reducible repeat (first | apply Kd.R_alloc | apply Kd.R_drewN | apply Kd.R_drew));exact HO295.out) (Kd.R_base ho0) hb);have n4_:=Aside0.mk (Kd.R_below (by (with_reducible repeat (first | apply Kd.R_alloc | apply Kd.R_drewN | apply Kd.R_drew));exact HO298.out) hb);have n5_:=Aside0.mk (Kd.R_below (by (with_reducible repeat (first | apply Kd.R_alloc | apply Kd.R_drewN | apply Kd.R_drew));exact HO301.out) hb);have n6_:=Aside0.mk (Kd.R_elder' (by (with_reducible repeat (first | apply Kd.R_alloc | apply Kd.R_drewN | apply Kd.R_drew));exact HO304.out) (Kd.R_base ho0) hb);have n7_:=Aside0.mk (Kd.R_lower (Kd.R_new' (Kd.R_new' (Kd.R_new' ho0 (Kd.R_lt (by (with_reducible repeat (first | apply Kd.R_alloc | apply Kd.R_drewN | apply Kd.R_drew));exact HO291.out))) (Kd.R_lt (by (with_reducible repeat (first | apply Kd.R_alloc | apply Kd.R_drewN | apply Kd.R_drew));exact HO295.out))) (Kd.R_lt (by (with_reducible repeat (first | apply Kd.R_alloc | apply Kd.R_drewN | apply Kd.R_drew));exact HO304.out))) (below_size (by repeat (first | (with_reducible first | exact HB.out | apply below_alloc | apply pw_below_drewN | apply below_drew1) | exact HB.out))));have n8_:=Aside0.mk (below_step (by repeat (first | (with_reducible first | exact HB.out | apply below_alloc | apply pw_below_drewN | apply below_drew1) | exact HB.out)) hb);clear HO285;clear HO288;clear HO291;clear HO295;clear HO298;clear HO301;clear HO304;clear HB;have HO285:=n0_;have HO288:=n1_;have HO291:=n2_;have HO295:=n3_;have HO298:=n4_;have HO301:=n5_;have HO304:=n6_;have HO308:=n7_;have HB:=n8_;clear n0_ n1_ n2_ n3_ n4_ n5_ n6_ n7_ n8_;(try clear hb);(try clear hb2);(try clear hk);(try clear hi);(try clear ho0)))
     (try simp only [Act.put,sA_,s0_,s1_])
     go_cut [75] (fun v75 wc => ∃ (kq : Nat) (x75_20 : Bool),v75 = .bool x75_20 ∧ Aside0 (laws_FnExactMoveToWagon.j0 kq l0 l1 l2 a3 a4 t292 t293 t296 t299 t302 t305 t306 x75_20 = some r) ∧ Aside0 (kq ≤ k) ∧ Aside0 (Kd.R (Kd.int .i64) 3 wc w.heap.size (fun k_ => some k_ ≠ ((.slice Ao35 t302.length co35) : Value).ownBlock ∧ some k_ ≠ (v307 : Value).ownBlock) v294 t292) ∧ Aside0 (Kd.R k70 70 wc w.heap.size (fun _ => True) (.slice Ao33 t296.length co33) t296) ∧ Aside0 (Kd.R k64 64 wc w.heap.size (fun _ => True) (.slice Ao34 t299.length co34) t299) ∧ Aside0 (Kd.R (Kd.int .i64) 3 wc w.heap.size (fun k_ => some k_ ≠ (v294 : Value).ownBlock ∧ some k_ ≠ (v307 : Value).ownBlock) (.slice Ao35 t302.length co35) t302) ∧ Aside0 (Kd.R (Kd.int .i64) 3 wc w.heap.size (fun k_ => some k_ ≠ (v294 : Value).ownBlock ∧ some k_ ≠ ((.slice Ao35 t302.length co35) : Value).ownBlock) v307 t305) ∧ Aside0 (Below w.heap.size w wc))
     case first =>
      have H:=HC21.out
      clear HC21
      replace H:=Option.bind_eq_some_iff.mp H
      obtain ⟨t309,A370,H⟩ := H
      replace H : (if t309 = true then (laws_FnExactMoveToWagon.j0 k l0 l1 l2 a3 a4 t292 t293 t296 t299 t302 t305 t306 (t306 != t293)) else (laws_FnExactMoveToWagon.j0 k l0 l1 l2 a3 a4 t292 t293 t296 t299 t302 t305 t306 true)) = some r:=H
      have A37:=Aside0.mk A370
      clear A370
      by_cases c38 : t309 = true
      ·subst c38
       have H1 : (laws_FnExactMoveToWagon.j0 k l0 l1 l2 a3 a4 t292 t293 t296 t299 t302 t305 t306 (t306 != t293)) = some r:=by rw [if_pos rfl] at H;exact H
       clear H
       have H:=H1
       clear H1
       have H':=Aside0.mk H
       clear H
       obtain ⟨Ao39,co39,eo39⟩ := Kd.R_slice HO308.out
       subst eo39
       obtain ⟨Ao40,co40,eo40⟩ := Kd.R_slice HO295.out
       subst eo40
       go_wp2_with (first | ((with_reducible refine gate_callee (f:=26) rfl ?_);refine goesL_ (some 69) rfl rfl Try.func26 (by kernel_rfl) rfl #[.slice Ao39 t305.length co39, .slice Ao40 t292.length co40] rfl (by (try simp only [List.map_toArray,List.map_cons,List.map_nil]);first | done | rfl | (simp only [List.length_drop,List.length_take];rfl)) ?_;(with_reducible refine (laws_eqIntS.calls k _ _ t305 _ _ t292 true _ ?side1 ?side2 ?side3 ?side4 A37.out).mono ?_);(case side1 => repeat (first | exact (Kd.R_reads' HO308.out).2.2 | (with_reducible refine Kd.C_alloc ?_ _) | (with_reducible refine Kd.C_drewN ?_ _) | (with_reducible refine Kd.C_drew ?_)));(case side2 => exact (Kd.R_reads' HO308.out).2.1);(case side3 => repeat (first | exact (Kd.R_reads' HO295.out).2.2 | (with_reducible refine Kd.C_alloc ?_ _) | (with_reducible refine Kd.C_drewN ?_ _) | (with_reducible refine Kd.C_drew ?_)));(case side4 => exact (Kd.R_reads' HO295.out).2.1);rintro e w' ⟨rfl,⟨nd,rfl⟩⟩;refine ⟨_,rfl, ?_⟩))
       go_meet
       case rel => exact ⟨_,((t306 != t293)),(by first | rfl | (simp;done) | (simp [*];done)),H',⟨by first | omega | exact Nat.le_refl _⟩,⟨by (with_reducible repeat (first | apply Kd.R_alloc | apply Kd.R_drewN | apply Kd.R_drew));exact Kd.R_mono HO295.out (fun _ hk => ⟨hk.1.2,hk.2⟩)⟩,⟨by (with_reducible repeat (first | apply Kd.R_alloc | apply Kd.R_drewN | apply Kd.R_drew));exact Kd.R_mono HO298.out (fun _ hk => trivial)⟩,⟨by (with_reducible repeat (first | apply Kd.R_alloc | apply Kd.R_drewN | apply Kd.R_drew));exact Kd.R_mono HO301.out (fun _ hk => trivial)⟩,⟨by (with_reducible repeat (first | apply Kd.R_alloc | apply Kd.R_drewN | apply Kd.R_drew));exact Kd.R_mono HO304.out (fun _ hk => ⟨hk.1.2,hk.2⟩)⟩,⟨by (with_reducible repeat (first | apply Kd.R_alloc | apply Kd.R_drewN | apply Kd.R_drew));exact Kd.R_mono HO308.out (fun _ hk => ⟨hk.1.2,hk.2⟩)⟩,⟨by repeat (first | (with_reducible first | exact HB.out | apply below_alloc | apply pw_below_drewN | apply below_drew1) | exact HB.out)⟩⟩
      ·replace c38:=Bool.eq_false_iff.mpr c38
       subst c38
       have H1 : (laws_FnExactMoveToWagon.j0 k l0 l1 l2 a3 a4 t292 t293 t296 t299 t302 t305 t306 true) = some r:=by rw [if_neg (show ¬ (false = true) by decide)] at H;exact H
       clear H
       have H:=H1
       clear H1
       have H':=Aside0.mk H
       clear H
       obtain ⟨Ao41,co41,eo41⟩ := Kd.R_slice HO308.out
       subst eo41
       obtain ⟨Ao42,co42,eo42⟩ := Kd.R_slice HO295.out
       subst eo42
       go_wp2_with (first | ((with_reducible refine gate_callee (f:=26) rfl ?_);refine goesL_ (some 69) rfl rfl Try.func26 (by kernel_rfl) rfl #[.slice Ao41 t305.length co41, .slice Ao42 t292.length co42] rfl (by (try simp only [List.map_toArray,List.map_cons,List.map_nil]);first | done | rfl | (simp only [List.length_drop,List.length_take];rfl)) ?_;(with_reducible refine (laws_eqIntS.calls k _ _ t305 _ _ t292 false _ ?side1 ?side2 ?side3 ?side4 A37.out).mono ?_);(case side1 => repeat (first | exact (Kd.R_reads' HO308.out).2.2 | (with_reducible refine Kd.C_alloc ?_ _) | (with_reducible refine Kd.C_drewN ?_ _) | (with_reducible refine Kd.C_drew ?_)));(case side2 => exact (Kd.R_reads' HO308.out).2.1);(case side3 => repeat (first | exact (Kd.R_reads' HO295.out).2.2 | (with_reducible refine Kd.C_alloc ?_ _) | (with_reducible refine Kd.C_drewN ?_ _) | (with_reducible refine Kd.C_drew ?_)));(case side4 => exact (Kd.R_reads' HO295.out).2.1);rintro e w' ⟨rfl,⟨nd,rfl⟩⟩;refine ⟨_,rfl, ?_⟩))
       go_meet
       case rel => exact ⟨_,(true),(by first | rfl | (simp;done) | (simp [*];done)),H',⟨by first | omega | exact Nat.le_refl _⟩,⟨by (with_reducible repeat (first | apply Kd.R_alloc | apply Kd.R_drewN | apply Kd.R_drew));exact Kd.R_mono HO295.out (fun _ hk => ⟨hk.1.2,hk.2⟩)⟩,⟨by (with_reducible repeat (first | apply Kd.R_alloc | apply Kd.R_drewN | apply Kd.R_drew));exact Kd.R_mono HO298.out (fun _ hk => trivial)⟩,⟨by (with_reducible repeat (first | apply Kd.R_alloc | apply Kd.R_drewN | apply Kd.R_drew));exact Kd.R_mono HO301.out (fun _ hk => trivial)⟩,⟨by (with_reducible repeat (first | apply Kd.R_alloc | apply Kd.R_drewN | apply Kd.R_drew));exact Kd.R_mono HO304.out (fun _ hk => ⟨hk.1.2,hk.2⟩)⟩,⟨by (with_reducible repeat (first | apply Kd.R_alloc | apply Kd.R_drewN | apply Kd.R_drew));exact Kd.R_mono HO308.out (fun _ hk => ⟨hk.1.2,hk.2⟩)⟩,⟨by repeat (first | (with_reducible first | exact HB.out | apply below_alloc | apply pw_below_drewN | apply below_drew1) | exact HB.out)⟩⟩
     case rest =>
      clear HC21
      try clear c1
      try clear c2
      try clear p2
      try clear c3
      try clear c4
      try clear c6
      try clear c6b0
      try clear c6b1
      try clear c7
      try clear c7b0
      try clear c7b1
      try clear c9
      try clear c9b0
      try clear c10
      try clear c11
      try clear c11b0
      try clear c15
      try clear c17
      try clear c20
      try clear c22
      try clear c23
      try clear c26
      try clear c38
      try clear c41
      try clear c42
      obtain ⟨kq,x75_20,rfl,HA,HJ20,HO_12,HO_14,HO_15,HO_16,HO_17,HB⟩ := hcut
      cases kq with
      | zero => exact absurd HA.out (by simp [laws_FnExactMoveToWagon.j0])
      | succ kj20 =>
       have H:=HA.out
       clear HA
       simp only [laws_FnExactMoveToWagon.j0] at H
       by_cases c43 : x75_20 = true
       ·subst c43
        have H1 : (some false) = some r:=by rw [if_pos rfl] at H;exact H
        clear H
        have H:=H1
        clear H1
        obtain rfl:=Option.some.inj H
        go_wp2
        go_ret
        exact ⟨by first | rfl | (simp [errW_none,errW_some] <;> rfl) | (simp [*,errW_none,errW_some] <;> rfl),by repeat (first | (with_reducible first | exact HB.out | apply below_alloc | apply pw_below_drewN | apply below_drew1) | exact HB.out)⟩
       ·replace c43:=Bool.eq_false_iff.mpr c43
        subst c43
        have H1 : ((laws_toWagonS.f kj20 l0).bind fun t310 => ((laws_eqWagonS.f kj20 t296 t310).bind fun t313 => (if t313 = true then ((laws_toContainerS.f kj20 l1).bind fun t314 => ((laws_eqContainerS.f kj20 t299 t314).bind fun t317 => (if t317 = true then ((laws_toIntS.f kj20 l2).bind fun t318 => ((laws_eqIntS.f kj20 t302 t318).bind fun t321 => (if t321 = true then ((laws_markWagonS.f kj20 t296 1).bind fun bt322 => ((laws_markContainerS.f kj20 t299 bt322.1).bind fun bt324 => ((laws_markIntS.f kj20 t302 bt324.1).bind fun bt326 => (if bt326.1 < 0 then (laws_FnExactMoveToWagon.j1 kj20 l0 l1 l2 a3 a4 t292 t293 t305 true) else ((laws_eqIntS.f kj20 t305 t292).bind fun t328 => (if t328 = true then (laws_FnExactMoveToWagon.j1 kj20 l0 l1 l2 a3 a4 t292 t293 t305 (t306 != t293)) else (laws_FnExactMoveToWagon.j1 kj20 l0 l1 l2 a3 a4 t292 t293 t305 true))))))) else (some false)))) else (some false)))) else (some false)))) = some r:=by rw [if_neg (show ¬ (false = true) by decide)] at H;exact H
        clear H
        have H:=H1
        clear H1
        replace H:=Option.bind_eq_some_iff.mp H
        obtain ⟨t310,A440,H⟩ := H
        replace H : ((laws_eqWagonS.f kj20 t296 t310).bind fun t313 => (if t313 = true then ((laws_toContainerS.f kj20 l1).bind fun t314 => ((laws_eqContainerS.f kj20 t299 t314).bind fun t317 => (if t317 = true then ((laws_toIntS.f kj20 l2).bind fun t318 => ((laws_eqIntS.f kj20 t302 t318).bind fun t321 => (if t321 = true then ((laws_markWagonS.f kj20 t296 1).bind fun bt322 => ((laws_markContainerS.f kj20 t299 bt322.1).bind fun bt324 => ((laws_markIntS.f kj20 t302 bt324.1).bind fun bt326 => (if bt326.1 < 0 then (laws_FnExactMoveToWagon.j1 kj20 l0 l1 l2 a3 a4 t292 t293 t305 true) else ((laws_eqIntS.f kj20 t305 t292).bind fun t328 => (if t328 = true then (laws_FnExactMoveToWagon.j1 kj20 l0 l1 l2 a3 a4 t292 t293 t305 (t306 != t293)) else (laws_FnExactMoveToWagon.j1 kj20 l0 l1 l2 a3 a4 t292 t293 t305 true))))))) else (some false)))) else (some false)))) else (some false))) = some r:=H
        have A44:=Aside0.mk A440
        clear A440
        replace H:=Option.bind_eq_some_iff.mp H
        obtain ⟨t313,A450,H⟩ := H
        replace H : (if t313 = true then ((laws_toContainerS.f kj20 l1).bind fun t314 => ((laws_eqContainerS.f kj20 t299 t314).bind fun t317 => (if t317 = true then ((laws_toIntS.f kj20 l2).bind fun t318 => ((laws_eqIntS.f kj20 t302 t318).bind fun t321 => (if t321 = true then ((laws_markWagonS.f kj20 t296 1).bind fun bt322 => ((laws_markContainerS.f kj20 t299 bt322.1).bind fun bt324 => ((laws_markIntS.f kj20 t302 bt324.1).bind fun bt326 => (if bt326.1 < 0 then (laws_FnExactMoveToWagon.j1 kj20 l0 l1 l2 a3 a4 t292 t293 t305 true) else ((laws_eqIntS.f kj20 t305 t292).bind fun t328 => (if t328 = true then (laws_FnExactMoveToWagon.j1 kj20 l0 l1 l2 a3 a4 t292 t293 t305 (t306 != t293)) else (laws_FnExactMoveToWagon.j1 kj20 l0 l1 l2 a3 a4 t292 t293 t305 true))))))) else (some false)))) else (some false)))) else (some false)) = some r:=H
        have A45:=Aside0.mk A450
        clear A450
        by_cases c46 : t313 = true
        ·subst c46
         have H1 : ((laws_toContainerS.f kj20 l1).bind fun t314 => ((laws_eqContainerS.f kj20 t299 t314).bind fun t317 => (if t317 = true then ((laws_toIntS.f kj20 l2).bind fun t318 => ((laws_eqIntS.f kj20 t302 t318).bind fun t321 => (if t321 = true then ((laws_markWagonS.f kj20 t296 1).bind fun bt322 => ((laws_markContainerS.f kj20 t299 bt322.1).bind fun bt324 => ((laws_markIntS.f kj20 t302 bt324.1).bind fun bt326 => (if bt326.1 < 0 then (laws_FnExactMoveToWagon.j1 kj20 l0 l1 l2 a3 a4 t292 t293 t305 true) else ((laws_eqIntS.f kj20 t305 t292).bind fun t328 => (if t328 = true then (laws_FnExactMoveToWagon.j1 kj20 l0 l1 l2 a3 a4 t292 t293 t305 (t306 != t293)) else (laws_FnExactMoveToWagon.j1 kj20 l0 l1 l2 a3 a4 t292 t293 t305 true))))))) else (some false)))) else (some false)))) = some r:=by rw [if_pos rfl] at H;exact H
         clear H
         have H:=H1
         clear H1
         replace H:=Option.bind_eq_some_iff.mp H
         obtain ⟨t314,A470,H⟩ := H
         replace H : ((laws_eqContainerS.f kj20 t299 t314).bind fun t317 => (if t317 = true then ((laws_toIntS.f kj20 l2).bind fun t318 => ((laws_eqIntS.f kj20 t302 t318).bind fun t321 => (if t321 = true then ((laws_markWagonS.f kj20 t296 1).bind fun bt322 => ((laws_markContainerS.f kj20 t299 bt322.1).bind fun bt324 => ((laws_markIntS.f kj20 t302 bt324.1).bind fun bt326 => (if bt326.1 < 0 then (laws_FnExactMoveToWagon.j1 kj20 l0 l1 l2 a3 a4 t292 t293 t305 true) else ((laws_eqIntS.f kj20 t305 t292).bind fun t328 => (if t328 = true then (laws_FnExactMoveToWagon.j1 kj20 l0 l1 l2 a3 a4 t292 t293 t305 (t306 != t293)) else (laws_FnExactMoveToWagon.j1 kj20 l0 l1 l2 a3 a4 t292 t293 t305 true))))))) else (some false)))) else (some false))) = some r:=H
         have A47:=Aside0.mk A470
         clear A470
         replace H:=Option.bind_eq_some_iff.mp H
         obtain ⟨t317,A480,H⟩ := H
         replace H : (if t317 = true then ((laws_toIntS.f kj20 l2).bind fun t318 => ((laws_eqIntS.f kj20 t302 t318).bind fun t321 => (if t321 = true then ((laws_markWagonS.f kj20 t296 1).bind fun bt322 => ((laws_markContainerS.f kj20 t299 bt322.1).bind fun bt324 => ((laws_markIntS.f kj20 t302 bt324.1).bind fun bt326 => (if bt326.1 < 0 then (laws_FnExactMoveToWagon.j1 kj20 l0 l1 l2 a3 a4 t292 t293 t305 true) else ((laws_eqIntS.f kj20 t305 t292).bind fun t328 => (if t328 = true then (laws_FnExactMoveToWagon.j1 kj20 l0 l1 l2 a3 a4 t292 t293 t305 (t306 != t293)) else (laws_FnExactMoveToWagon.j1 kj20 l0 l1 l2 a3 a4 t292 t293 t305 true))))))) else (some false)))) else (some false)) = some r:=H
         have A48:=Aside0.mk A480
         clear A480
         by_cases c49 : t317 = true
         ·subst c49
          have H1 : ((laws_toIntS.f kj20 l2).bind fun t318 => ((laws_eqIntS.f kj20 t302 t318).bind fun t321 => (if t321 = true then ((laws_markWagonS.f kj20 t296 1).bind fun bt322 => ((laws_markContainerS.f kj20 t299 bt322.1).bind fun bt324 => ((laws_markIntS.f kj20 t302 bt324.1).bind fun bt326 => (if bt326.1 < 0 then (laws_FnExactMoveToWagon.j1 kj20 l0 l1 l2 a3 a4 t292 t293 t305 true) else ((laws_eqIntS.f kj20 t305 t292).bind fun t328 => (if t328 = true then (laws_FnExactMoveToWagon.j1 kj20 l0 l1 l2 a3 a4 t292 t293 t305 (t306 != t293)) else (laws_FnExactMoveToWagon.j1 kj20 l0 l1 l2 a3 a4 t292 t293 t305 true))))))) else (some false)))) = some r:=by rw [if_pos rfl] at H;exact H
          clear H
          have H:=H1
          clear H1
          replace H:=Option.bind_eq_some_iff.mp H
          obtain ⟨t318,A500,H⟩ := H
          replace H : ((laws_eqIntS.f kj20 t302 t318).bind fun t321 => (if t321 = true then ((laws_markWagonS.f kj20 t296 1).bind fun bt322 => ((laws_markContainerS.f kj20 t299 bt322.1).bind fun bt324 => ((laws_markIntS.f kj20 t302 bt324.1).bind fun bt326 => (if bt326.1 < 0 then (laws_FnExactMoveToWagon.j1 kj20 l0 l1 l2 a3 a4 t292 t293 t305 true) else ((laws_eqIntS.f kj20 t305 t292).bind fun t328 => (if t328 = true then (laws_FnExactMoveToWagon.j1 kj20 l0 l1 l2 a3 a4 t292 t293 t305 (t306 != t293)) else (laws_FnExactMoveToWagon.j1 kj20 l0 l1 l2 a3 a4 t292 t293 t305 true))))))) else (some false))) = some r:=H
          have A50:=Aside0.mk A500
          clear A500
          replace H:=Option.bind_eq_some_iff.mp H
          obtain ⟨t321,A510,H⟩ := H
          replace H : (if t321 = true then ((laws_markWagonS.f kj20 t296 1).bind fun bt322 => ((laws_markContainerS.f kj20 t299 bt322.1).bind fun bt324 => ((laws_markIntS.f kj20 t302 bt324.1).bind fun bt326 => (if bt326.1 < 0 then (laws_FnExactMoveToWagon.j1 kj20 l0 l1 l2 a3 a4 t292 t293 t305 true) else ((laws_eqIntS.f kj20 t305 t292).bind fun t328 => (if t328 = true then (laws_FnExactMoveToWagon.j1 kj20 l0 l1 l2 a3 a4 t292 t293 t305 (t306 != t293)) else (laws_FnExactMoveToWagon.j1 kj20 l0 l1 l2 a3 a4 t292 t293 t305 true))))))) else (some false)) = some r:=H
          have A51:=Aside0.mk A510
          clear A510
          by_cases c52 : t321 = true
          ·subst c52
           have H1 : ((laws_markWagonS.f kj20 t296 1).bind fun bt322 => ((laws_markContainerS.f kj20 t299 bt322.1).bind fun bt324 => ((laws_markIntS.f kj20 t302 bt324.1).bind fun bt326 => (if bt326.1 < 0 then (laws_FnExactMoveToWagon.j1 kj20 l0 l1 l2 a3 a4 t292 t293 t305 true) else ((laws_eqIntS.f kj20 t305 t292).bind fun t328 => (if t328 = true then (laws_FnExactMoveToWagon.j1 kj20 l0 l1 l2 a3 a4 t292 t293 t305 (t306 != t293)) else (laws_FnExactMoveToWagon.j1 kj20 l0 l1 l2 a3 a4 t292 t293 t305 true))))))) = some r:=by rw [if_pos rfl] at H;exact H
           clear H
           have H:=H1
           clear H1
           replace H:=Option.bind_eq_some_iff.mp H
           obtain ⟨⟨t322,t323⟩,A530,H⟩ := H
           replace H : ((laws_markContainerS.f kj20 t299 t322).bind fun bt324 => ((laws_markIntS.f kj20 t302 bt324.1).bind fun bt326 => (if bt326.1 < 0 then (laws_FnExactMoveToWagon.j1 kj20 l0 l1 l2 a3 a4 t292 t293 t305 true) else ((laws_eqIntS.f kj20 t305 t292).bind fun t328 => (if t328 = true then (laws_FnExactMoveToWagon.j1 kj20 l0 l1 l2 a3 a4 t292 t293 t305 (t306 != t293)) else (laws_FnExactMoveToWagon.j1 kj20 l0 l1 l2 a3 a4 t292 t293 t305 true)))))) = some r:=H
           have A53:=Aside0.mk A530
           clear A530
           replace H:=Option.bind_eq_some_iff.mp H
           obtain ⟨⟨t324,t325⟩,A540,H⟩ := H
           replace H : ((laws_markIntS.f kj20 t302 t324).bind fun bt326 => (if bt326.1 < 0 then (laws_FnExactMoveToWagon.j1 kj20 l0 l1 l2 a3 a4 t292 t293 t305 true) else ((laws_eqIntS.f kj20 t305 t292).bind fun t328 => (if t328 = true then (laws_FnExactMoveToWagon.j1 kj20 l0 l1 l2 a3 a4 t292 t293 t305 (t306 != t293)) else (laws_FnExactMoveToWagon.j1 kj20 l0 l1 l2 a3 a4 t292 t293 t305 true))))) = some r:=H
           have A54:=Aside0.mk A540
           clear A540
           replace H:=Option.bind_eq_some_iff.mp H
           obtain ⟨⟨t326,t327⟩,A550,H⟩ := H
           replace H : (if t326 < 0 then (laws_FnExactMoveToWagon.j1 kj20 l0 l1 l2 a3 a4 t292 t293 t305 true) else ((laws_eqIntS.f kj20 t305 t292).bind fun t328 => (if t328 = true then (laws_FnExactMoveToWagon.j1 kj20 l0 l1 l2 a3 a4 t292 t293 t305 (t306 != t293)) else (laws_FnExactMoveToWagon.j1 kj20 l0 l1 l2 a3 a4 t292 t293 t305 true)))) = some r:=H
           have A55:=Aside0.mk A550
           clear A550
           have HC56:=Aside0.mk H
           clear H
           go_upto_region 29 with (first | ((with_reducible refine gate_callee (f:=17) rfl ?_);refine goesL_ (some 78) rfl rfl Try.func17 (by kernel_rfl) rfl #[.slice A0 l0.length c0] rfl (by (try simp only [List.map_toArray,List.map_cons,List.map_nil]);first | done | rfl | (simp only [List.length_drop,List.length_take];rfl)) ?_;(with_reducible refine (laws_toWagonS.calls kj20 _ _ l0 t310 _ ?side1 ?side2 A44.out).mono ?_);(case side1 => repeat (first | exact (Kd.C_below HR0.out HB.out) | (with_reducible refine Kd.C_alloc ?_ _) | (with_reducible refine Kd.C_drewN ?_ _) | (with_reducible refine Kd.C_drew ?_)));(case side2 => exact HC0.out);rintro e w57 ⟨v311,rfl,ho0,hb⟩;refine ⟨_,rfl, ?_⟩;have n0_:=Aside0.mk (Kd.R_below (by (with_reducible repeat (first | apply Kd.R_alloc | apply Kd.R_drewN | apply Kd.R_drew));exact HO_12.out) hb);have n1_:=Aside0.mk (Kd.R_elder' (by (with_reducible repeat (first | apply Kd.R_alloc | apply Kd.R_drewN | apply Kd.R_drew));exact HO_14.out) (Kd.R_base ho0) hb);have n2_:=Aside0.mk (Kd.R_below (by (with_reducible repeat (first | apply Kd.R_alloc | apply Kd.R_drewN | apply Kd.R_drew));exact HO_15.out) hb);have n3_:=Aside0.mk (Kd.R_below (by (with_reducible repeat (first | apply Kd.R_alloc | apply Kd.R_drewN | apply Kd.R_drew));exact HO_16.out) hb);have n4_:=Aside0.mk (Kd.R_below (by (with_reducible repeat (first | apply Kd.R_alloc | apply Kd.R_drewN | apply Kd.R_drew));exact HO_17.out) hb);have n5_:=Aside0.mk (Kd.R_lower (Kd.R_new' ho0 (Kd.R_lt (by (with_reducible repeat (first | apply Kd.R_alloc | apply Kd.R_drewN | apply Kd.R_drew));exact HO_14.out))) (below_size (by repeat (first | (with_reducible first | exact HB.out | apply below_alloc | apply pw_below_drewN | apply below_drew1) | exact HB.out))));have n6_:=Aside0.mk (below_step (by repeat (first | (with_reducible first | exact HB.out | apply below_alloc | apply pw_below_drewN | apply below_drew1) | exact HB.out)) hb);clear HO_12;clear HO_14;clear HO_15;clear HO_16;clear HO_17;clear HB;have HO_12:=n0_;have HO_14:=n1_;have HO_15:=n2_;have HO_16:=n3_;have HO_17:=n4_;have HO312:=n5_;have HB:=n6_;clear n0_ n1_ n2_ n3_ n4_ n5_ n6_;(try clear hb);(try clear hb2);(try clear hk);(try clear hi);(try clear ho0);obtain ⟨Ao58,co58,eo58⟩ := Kd.R_slice HO312.out;subst eo58) | ((with_reducible refine gate_callee (f:=19) rfl ?_);refine goesL_ (some 79) rfl rfl Try.func19 (by kernel_rfl) rfl #[.slice Ao33 t296.length co33, .slice Ao58 t310.length co58] rfl (by (try simp only [List.map_toArray,List.map_cons,List.map_nil]);first | done | rfl | (simp only [List.length_drop,List.length_take];rfl)) ?_;(with_reducible refine (laws_eqWagonS.calls kj20 _ _ t296 _ _ t310 true _ ?side1 ?side2 ?side3 ?side4 A45.out).mono ?_);(case side1 => repeat (first | exact (Kd.R_reads' HO_14.out).2.2 | (with_reducible refine Kd.C_alloc ?_ _) | (with_reducible refine Kd.C_drewN ?_ _) | (with_reducible refine Kd.C_drew ?_)));(case side2 => exact (Kd.R_reads' HO_14.out).2.1);(case side3 => repeat (first | exact (Kd.R_reads' HO312.out).2.2 | (with_reducible refine Kd.C_alloc ?_ _) | (with_reducible refine Kd.C_drewN ?_ _) | (with_reducible refine Kd.C_drew ?_)));(case side4 => exact (Kd.R_reads' HO312.out).2.1);rintro e w59 ⟨rfl,hb⟩;refine ⟨_,rfl, ?_⟩;have n0_:=Aside0.mk (Kd.R_below (by (with_reducible repeat (first | apply Kd.R_alloc | apply Kd.R_drewN | apply Kd.R_drew));exact HO_12.out) hb);have n1_:=Aside0.mk (Kd.R_below (by (with_reducible repeat (first | apply Kd.R_alloc | apply Kd.R_drewN | apply Kd.R_drew));exact HO_14.out) hb);have n2_:=Aside0.mk (Kd.R_below (by (with_reducible repeat (first | apply Kd.R_alloc | apply Kd.R_drewN | apply Kd.R_drew));exact HO_15.out) hb);have n3_:=Aside0.mk (Kd.R_below (by (with_reducible repeat (first | apply Kd.R_alloc | apply Kd.R_drewN | apply Kd.R_drew));exact HO_16.out) hb);have n4_:=Aside0.mk (Kd.R_below (by (with_reducible repeat (first | apply Kd.R_alloc | apply Kd.R_drewN | apply Kd.R_drew));exact HO_17.out) hb);have n5_:=Aside0.mk (Kd.R_below (by (with_reducible repeat (first | apply Kd.R_alloc | apply Kd.R_drewN | apply Kd.R_drew));exact HO312.out) hb);have n6_:=Aside0.mk (below_step (by repeat (first | (with_reducible first | exact HB.out | apply below_alloc | apply pw_below_drewN | apply below_drew1) | exact HB.out)) hb);clear HO_12;clear HO_14;clear HO_15;clear HO_16;clear HO_17;clear HO312;clear HB;have HO_12:=n0_;have HO_14:=n1_;have HO_15:=n2_;have HO_16:=n3_;have HO_17:=n4_;have HO312:=n5_;have HB:=n6_;clear n0_ n1_ n2_ n3_ n4_ n5_ n6_;(try clear hb);(try clear hb2);(try clear hk);(try clear hi)) | ((with_reducible refine gate_callee (f:=22) rfl ?_);refine goesL_ (some 83) rfl rfl Try.func22 (by kernel_rfl) rfl #[.slice A1 l1.length c1] rfl (by (try simp only [List.map_toArray,List.map_cons,List.map_nil]);first | done | rfl | (simp only [List.length_drop,List.length_take];rfl)) ?_;(with_reducible refine (laws_toContainerS.calls kj20 _ _ l1 t314 _ ?side1 ?side2 A47.out).mono ?_);(case side1 => repeat (first | exact (Kd.C_below HR1.out HB.out) | (with_reducible refine Kd.C_alloc ?_ _) | (with_reducible refine Kd.C_drewN ?_ _) | (with_reducible refine Kd.C_drew ?_)));(case side2 => exact HC1.out);rintro e w60 ⟨v315,rfl,ho0,hb⟩;refine ⟨_,rfl, ?_⟩;have n0_:=Aside0.mk (Kd.R_below (by (with_reducible repeat (first | apply Kd.R_alloc | apply Kd.R_drewN | apply Kd.R_drew));exact HO_12.out) hb);have n1_:=Aside0.mk (Kd.R_below (by (with_reducible repeat (first | apply Kd.R_alloc | apply Kd.R_drewN | apply Kd.R_drew));exact HO_14.out) hb);have n2_:=Aside0.mk (Kd.R_elder' (by (with_reducible repeat (first | apply Kd.R_alloc | apply Kd.R_drewN | apply Kd.R_drew));exact HO_15.out) (Kd.R_base ho0) hb);have n3_:=Aside0.mk (Kd.R_below (by (with_reducible repeat (first | apply Kd.R_alloc | apply Kd.R_drewN | apply Kd.R_drew));exact HO_16.out) hb);have n4_:=Aside0.mk (Kd.R_below (by (with_reducible repeat (first | apply Kd.R_alloc | apply Kd.R_drewN | apply Kd.R_drew));exact HO_17.out) hb);have n5_:=Aside0.mk (Kd.R_below (by (with_reducible repeat (first | apply Kd.R_alloc | apply Kd.R_drewN | apply Kd.R_drew));exact HO312.out) hb);have n6_:=Aside0.mk (Kd.R_lower (Kd.R_new' ho0 (Kd.R_lt (by (with_reducible repeat (first | apply Kd.R_alloc | apply Kd.R_drewN | apply Kd.R_drew));exact HO_15.out))) (below_size (by repeat (first | (with_reducible first | exact HB.out | apply below_alloc | apply pw_below_drewN | apply below_drew1) | exact HB.out))));have n7_:=Aside0.mk (below_step (by repeat (first | (with_reducible first | exact HB.out | apply below_alloc | apply pw_below_drewN | apply below_drew1) | exact HB.out)) hb);clear HO_12;clear HO_14;clear HO_15;clear HO_16;clear HO_17;clear HO312;clear HB;have HO_12:=n0_;have HO_14:=n1_;have HO_15:=n2_;have HO_16:=n3_;have HO_17:=n4_;have HO312:=n5_;have HO316:=n6_;have HB:=n7_;clear n0_ n1_ n2_ n3_ n4_ n5_ n6_ n7_;(try clear hb);(try clear hb2);(try clear hk);(try clear hi);(try clear ho0);obtain ⟨Ao61,co61,eo61⟩ := Kd.R_slice HO316.out;subst eo61) | ((with_reducible refine gate_callee (f:=25) rfl ?_);refine goesL_ (some 84) rfl rfl Try.func25 (by kernel_rfl) rfl #[.slice Ao34 t299.length co34, .slice Ao61 t314.length co61] rfl (by (try simp only [List.map_toArray,List.map_cons,List.map_nil]);first | done | rfl | (simp only [List.length_drop,List.length_take];rfl)) ?_;(with_reducible refine (laws_eqContainerS.calls kj20 _ _ t299 _ _ t314 true _ ?side1 ?side2 ?side3 ?side4 A48.out).mono ?_);(case side1 => repeat (first | exact (Kd.R_reads' HO_15.out).2.2 | (with_reducible refine Kd.C_alloc ?_ _) | (with_reducible refine Kd.C_drewN ?_ _) | (with_reducible refine Kd.C_drew ?_)));(case side2 => exact (Kd.R_reads' HO_15.out).2.1);(case side3 => repeat (first | exact (Kd.R_reads' HO316.out).2.2 | (with_reducible refine Kd.C_alloc ?_ _) | (with_reducible refine Kd.C_drewN ?_ _) | (with_reducible refine Kd.C_drew ?_)));(case side4 => exact (Kd.R_reads' HO316.out).2.1);rintro e w62 ⟨rfl,hb⟩;refine ⟨_,rfl, ?_⟩;have n0_:=Aside0.mk (Kd.R_below (by (with_reducible repeat (first | apply Kd.R_alloc | apply Kd.R_drewN | apply Kd.R_drew));exact HO_12.out) hb);have n1_:=Aside0.mk (Kd.R_below (by (with_reducible repeat (first | apply Kd.R_alloc | apply Kd.R_drewN | apply Kd.R_drew));exact HO_14.out) hb);have n2_:=Aside0.mk (Kd.R_below (by (with_reducible repeat (first | apply Kd.R_alloc | apply Kd.R_drewN | apply Kd.R_drew));exact HO_15.out) hb);have n3_:=Aside0.mk (Kd.R_below (by (with_reducible repeat (first | apply Kd.R_alloc | apply Kd.R_drewN | apply Kd.R_drew));exact HO_16.out) hb);have n4_:=Aside0.mk (Kd.R_below (by (with_reducible repeat (first | apply Kd.R_alloc | apply Kd.R_drewN | apply Kd.R_drew));exact HO_17.out) hb);have n5_:=Aside0.mk (Kd.R_below (by (with_reducible repeat (first | apply Kd.R_alloc | apply Kd.R_drewN | apply Kd.R_drew));exact HO312.out) hb);have n6_:=Aside0.mk (Kd.R_below (by (with_reducible repeat (first | apply Kd.R_alloc | apply Kd.R_drewN | apply Kd.R_drew));exact HO316.out) hb);have n7_:=Aside0.mk (below_step (by repeat (first | (with_reducible first | exact HB.out | apply below_alloc | apply pw_below_drewN | apply below_drew1) | exact HB.out)) hb);clear HO_12;clear HO_14;clear HO_15;clear HO_16;clear HO_17;clear HO312;clear HO316;clear HB;have HO_12:=n0_;have HO_14:=n1_;have HO_15:=n2_;have HO_16:=n3_;have HO_17:=n4_;have HO312:=n5_;have HO316:=n6_;have HB:=n7_;clear n0_ n1_ n2_ n3_ n4_ n5_ n6_ n7_;(try clear hb);(try clear hb2);(try clear hk);(try clear hi)) | ((with_reducible refine gate_callee (f:=23) rfl ?_);refine goesL_ (some 88) rfl rfl Try.func23 (by kernel_rfl) rfl #[.slice A2 l2.length c2] rfl (by (try simp only [List.map_toArray,List.map_cons,List.map_nil]);first | done | rfl | (simp only [List.length_drop,List.length_take];rfl)) ?_;(with_reducible refine (laws_toIntS.calls kj20 _ _ l2 t318 _ ?side1 ?side2 A50.out).mono ?_);(case side1 => repeat (first | exact (Kd.C_below HR2.out HB.out) | (with_reducible refine Kd.C_alloc ?_ _) | (with_reducible refine Kd.C_drewN ?_ _) | (with_reducible refine Kd.C_drew ?_)));(case side2 => exact HC2.out);rintro e w63 ⟨v319,rfl,ho0,hb⟩;refine ⟨_,rfl, ?_⟩;have n0_:=Aside0.mk (Kd.R_elder' (by (with_reducible repeat (first | apply Kd.R_alloc | apply Kd.R_drewN | apply Kd.R_drew));exact HO_12.out) (Kd.R_base ho0) hb);have n1_:=Aside0.mk (Kd.R_below (by (with_reducible repeat (first | apply Kd.R_alloc | apply Kd.R_drewN | apply Kd.R_drew));exact HO_14.out) hb);have n2_:=Aside0.mk (Kd.R_below (by (with_reducible repeat (first | apply Kd.R_alloc | apply Kd.R_drewN | apply Kd.R_drew));exact HO_15.out) hb);have n3_:=Aside0.mk (Kd.R_elder' (by (with_reducible repeat (first | apply Kd.R_alloc | apply Kd.R_drewN | apply Kd.R_drew));exact HO_16.out) (Kd.R_base ho0) hb);have n4_:=Aside0.mk (Kd.R_elder' (by (with_reducible repeat (first | apply Kd.R_alloc | apply Kd.R_drewN | apply Kd.R_drew));exact HO_17.out) (Kd.R_base ho0) hb);have n5_:=Aside0.mk (Kd.R_below (by (with_reducible repeat (first | apply Kd.R_alloc | apply Kd.R_drewN | apply Kd.R_drew));exact HO312.out) hb);have n6_:=Aside0.mk (Kd.R_below (by (with_reducible repeat (first | apply Kd.R_alloc | apply Kd.R_drewN | apply Kd.R_drew));exact HO316.out) hb);have n7_:=Aside0.mk (Kd.R_lower (Kd.R_new' (Kd.R_new' (Kd.R_new' ho0 (Kd.R_lt (by (with_reducible repeat (first | apply Kd.R_alloc | apply Kd.R_drewN | apply Kd.R_drew));exact HO_12.out))) (Kd.R_lt (by (with_reducible repeat (first | apply Kd.R_alloc | apply Kd.R_drewN | apply Kd.R_drew));exact HO_16.out))) (Kd.R_lt (by (with_reducible repeat (first | apply Kd.R_alloc | apply Kd.R_drewN | apply Kd.R_drew));exact HO_17.out))) (below_size (by repeat (first | (with_reducible first | exact HB.out | apply below_alloc | apply pw_below_drewN | apply below_drew1) | exact HB.out))));have n8_:=Aside0.mk (below_step (by repeat (first | (with_reducible first | exact HB.out | apply below_alloc | apply pw_below_drewN | apply below_drew1) | exact HB.out)) hb);clear HO_12;clear HO_14;clear HO_15;clear HO_16;clear HO_17;clear HO312;clear HO316;clear HB;have HO_12:=n0_;have HO_14:=n1_;have HO_15:=n2_;have HO_16:=n3_;have HO_17:=n4_;have HO312:=n5_;have HO316:=n6_;have HO320:=n7_;have HB:=n8_;clear n0_ n1_ n2_ n3_ n4_ n5_ n6_ n7_ n8_;(try clear hb);(try clear hb2);(try clear hk);(try clear hi);(try clear ho0);obtain ⟨Ao64,co64,eo64⟩ := Kd.R_slice HO320.out;subst eo64) | ((with_reducible refine gate_callee (f:=26) rfl ?_);refine goesL_ (some 89) rfl rfl Try.func26 (by kernel_rfl) rfl #[.slice Ao35 t302.length co35, .slice Ao64 t318.length co64] rfl (by (try simp only [List.map_toArray,List.map_cons,List.map_nil]);first | done | rfl | (simp only [List.length_drop,List.length_take];rfl)) ?_;(with_reducible refine (laws_eqIntS.calls kj20 _ _ t302 _ _ t318 true _ ?side1 ?side2 ?side3 ?side4 A51.out).mono ?_);(case side1 => repeat (first | exact (Kd.R_reads' HO_16.out).2.2 | (with_reducible refine Kd.C_alloc ?_ _) | (with_reducible refine Kd.C_drewN ?_ _) | (with_reducible refine Kd.C_drew ?_)));(case side2 => exact (Kd.R_reads' HO_16.out).2.1);(case side3 => repeat (first | exact (Kd.R_reads' HO320.out).2.2 | (with_reducible refine Kd.C_alloc ?_ _) | (with_reducible refine Kd.C_drewN ?_ _) | (with_reducible refine Kd.C_drew ?_)));(case side4 => exact (Kd.R_reads' HO320.out).2.1);rintro e w' ⟨rfl,⟨nd,rfl⟩⟩;refine ⟨_,rfl, ?_⟩) | ((with_reducible refine gate_callee (f:=33) rfl ?_);refine goesL_ (some 93) rfl rfl Try.func33 (by kernel_rfl) rfl #[.slice Ao33 t296.length co33, .int .i64 1] rfl (by (try simp only [List.map_toArray,List.map_cons,List.map_nil]);first | done | rfl | (simp only [List.length_drop,List.length_take];rfl)) ?_;(with_reducible refine (laws_markWagonS.calls kj20 (fun k_ => some k_ = (.slice Ao33 t296.length co33 : Value).ownBlock) (.slice Ao33 t296.length co33) t296 1 t322 t323 w _ ?side1 ?side2 A53.out).mono ?_);(case side1 => repeat (first | (with_reducible first | exact HB.out | apply below_alloc | apply pw_below_drewN | apply below_drew1) | exact HB.out));(case side2 => exact Kd.R_tight rfl HO_14.out);rintro e w65 ⟨rfl,hy0,hb,hkp⟩;refine ⟨_,rfl, ?_⟩;have n0_:=Aside0.mk (Kd.R_mono (ok':=fun k_ => some k_ ≠ (.slice Ao35 t302.length co35 : Value).ownBlock ∧ some k_ ≠ (v307 : Value).ownBlock ∧ some k_ ≠ (.slice Ao64 t318.length co64 : Value).ownBlock) (Kd.R_keptB ((Kd.R_apart' HO_12.out (Kd.R_typed HO_14.out) (by decide))) hkp (fun k_ hk_ hs_ => (hk_.2) hs_)) (fun k_ hk_ => ⟨hk_.1.1.1.1,hk_.1.1.1.2,hk_.1.1.2⟩));have n1_:=Aside0.mk (Kd.R_reok rfl hy0 (fun k_ e_ => HO_14.out.1 k_ e_));have n2_:=Aside0.mk (Kd.R_mono (ok':=fun k_ => some k_ ≠ (.slice Ao61 t314.length co61 : Value).ownBlock) (Kd.R_keptB ((Kd.R_apart' HO_15.out (Kd.R_typed HO_14.out) (by decide))) hkp (fun k_ hk_ hs_ => (hk_.2) hs_)) (fun k_ hk_ => hk_.1.1.2));have n3_:=Aside0.mk (Kd.R_mono (ok':=fun k_ => some k_ ≠ (v294 : Value).ownBlock ∧ some k_ ≠ (v307 : Value).ownBlock ∧ some k_ ≠ (.slice Ao64 t318.length co64 : Value).ownBlock) (Kd.R_keptB ((Kd.R_apart' HO_16.out (Kd.R_typed HO_14.out) (by decide))) hkp (fun k_ hk_ hs_ => (hk_.2) hs_)) (fun k_ hk_ => ⟨hk_.1.1.1.1,hk_.1.1.1.2,hk_.1.1.2⟩));have n4_:=Aside0.mk (Kd.R_mono (ok':=fun k_ => some k_ ≠ (v294 : Value).ownBlock ∧ some k_ ≠ (.slice Ao35 t302.length co35 : Value).ownBlock ∧ some k_ ≠ (.slice Ao64 t318.length co64 : Value).ownBlock) (Kd.R_keptB ((Kd.R_apart' HO_17.out (Kd.R_typed HO_14.out) (by decide))) hkp (fun k_ hk_ hs_ => (hk_.2) hs_)) (fun k_ hk_ => ⟨hk_.1.1.1.1,hk_.1.1.1.2,hk_.1.1.2⟩));have n5_:=Aside0.mk (Kd.R_mono (ok':=fun k_ => some k_ ≠ (.slice Ao33 t296.length co33 : Value).ownBlock) (Kd.R_keptB (HO312.out) hkp (fun k_ hk_ hs_ => (hk_.2) hs_)) (fun k_ hk_ => hk_.1.2));have n6_:=Aside0.mk (Kd.R_mono (ok':=fun k_ => some k_ ≠ (.slice Ao34 t299.length co34 : Value).ownBlock) (Kd.R_keptB ((Kd.R_apart' HO316.out (Kd.R_typed HO_14.out) (by decide))) hkp (fun k_ hk_ hs_ => (hk_.2) hs_)) (fun k_ hk_ => hk_.1.1.2));have n7_:=Aside0.mk (Kd.R_mono (ok':=fun k_ => some k_ ≠ (v294 : Value).ownBlock ∧ some k_ ≠ (.slice Ao35 t302.length co35 : Value).ownBlock ∧ some k_ ≠ (v307 : Value).ownBlock) (Kd.R_keptB ((Kd.R_apart' HO320.out (Kd.R_typed HO_14.out) (by decide))) hkp (fun k_ hk_ hs_ => (hk_.2) hs_)) (fun k_ hk_ => ⟨hk_.1.1.1.1.2,hk_.1.1.1.2,hk_.1.1.2⟩));have n8_:=Aside0.mk (hb);clear HO_12;clear HO_14;clear HO_15;clear HO_16;clear HO_17;clear HO312;clear HO316;clear HO320;clear HB;have HO_12:=n0_;have HO_14:=n1_;have HO_15:=n2_;have HO_16:=n3_;have HO_17:=n4_;have HO312:=n5_;have HO316:=n6_;have HO320:=n7_;have HB:=n8_;clear n0_ n1_ n2_ n3_ n4_ n5_ n6_ n7_ n8_;(try clear hb);(try clear hkp);(try clear hy0)) | ((with_reducible refine gate_callee (f:=34) rfl ?_);refine goesL_ (some 96) rfl rfl Try.func34 (by kernel_rfl) rfl #[.slice Ao34 t299.length co34, .int .i64 t322] rfl (by (try simp only [List.map_toArray,List.map_cons,List.map_nil]);first | done | rfl | (simp only [List.length_drop,List.length_take];rfl)) ?_;(with_reducible refine (laws_markContainerS.calls kj20 (fun k_ => some k_ = (.slice Ao34 t299.length co34 : Value).ownBlock) (.slice Ao34 t299.length co34) t299 t322 t324 t325 w _ ?side1 ?side2 A54.out).mono ?_);(case side1 => repeat (first | (with_reducible first | exact HB.out | apply below_alloc | apply pw_below_drewN | apply below_drew1) | exact HB.out));(case side2 => exact Kd.R_tight rfl HO_15.out);rintro e w66 ⟨rfl,hy0,hb,hkp⟩;refine ⟨_,rfl, ?_⟩;have n0_:=Aside0.mk (Kd.R_mono (ok':=fun k_ => some k_ ≠ (.slice Ao35 t302.length co35 : Value).ownBlock ∧ some k_ ≠ (v307 : Value).ownBlock ∧ some k_ ≠ (.slice Ao64 t318.length co64 : Value).ownBlock) (Kd.R_keptB ((Kd.R_apart' HO_12.out (Kd.R_typed HO_15.out) (by decide))) hkp (fun k_ hk_ hs_ => (hk_.2) hs_)) (fun k_ hk_ => ⟨hk_.1.1.1,hk_.1.1.2.1,hk_.1.1.2.2⟩));have n1_:=Aside0.mk (Kd.R_mono (ok':=fun k_ => some k_ ≠ (.slice Ao58 t310.length co58 : Value).ownBlock) (Kd.R_keptB ((Kd.R_apart' HO_14.out (Kd.R_typed HO_15.out) (by decide))) hkp (fun k_ hk_ hs_ => (hk_.2) hs_)) (fun k_ hk_ => hk_.1.1.2));have n2_:=Aside0.mk (Kd.R_reok rfl hy0 (fun k_ e_ => HO_15.out.1 k_ e_));have n3_:=Aside0.mk (Kd.R_mono (ok':=fun k_ => some k_ ≠ (v294 : Value).ownBlock ∧ some k_ ≠ (v307 : Value).ownBlock ∧ some k_ ≠ (.slice Ao64 t318.length co64 : Value).ownBlock) (Kd.R_keptB ((Kd.R_apart' HO_16.out (Kd.R_typed HO_15.out) (by decide))) hkp (fun k_ hk_ hs_ => (hk_.2) hs_)) (fun k_ hk_ => ⟨hk_.1.1.1,hk_.1.1.2.1,hk_.1.1.2.2⟩));have n4_:=Aside0.mk (Kd.R_mono (ok':=fun k_ => some k_ ≠ (v294 : Value).ownBlock ∧ some k_ ≠ (.slice Ao35 t302.length co35 : Value).ownBlock ∧ some k_ ≠ (.slice Ao64 t318.length co64 : Value).ownBlock) (Kd.R_keptB ((Kd.R_apart' HO_17.out (Kd.R_typed HO_15.out) (by decide))) hkp (fun k_ hk_ hs_ => (hk_.2) hs_)) (fun k_ hk_ => ⟨hk_.1.1.1,hk_.1.1.2.1,hk_.1.1.2.2⟩));have n5_:=Aside0.mk (Kd.R_mono (ok':=fun k_ => some k_ ≠ (.slice Ao33 t296.length co33 : Value).ownBlock) (Kd.R_keptB ((Kd.R_apart' HO312.out (Kd.R_typed HO_15.out) (by decide))) hkp (fun k_ hk_ hs_ => (hk_.2) hs_)) (fun k_ hk_ => hk_.1.1));have n6_:=Aside0.mk (Kd.R_mono (ok':=fun k_ => some k_ ≠ (.slice Ao34 t299.length co34 : Value).ownBlock) (Kd.R_keptB (HO316.out) hkp (fun k_ hk_ hs_ => (hk_) hs_)) (fun k_ hk_ => hk_.1));have n7_:=Aside0.mk (Kd.R_mono (ok':=fun k_ => some k_ ≠ (v294 : Value).ownBlock ∧ some k_ ≠ (.slice Ao35 t302.length co35 : Value).ownBlock ∧ some k_ ≠ (v307 : Value).ownBlock) (Kd.R_keptB ((Kd.R_apart' HO320.out (Kd.R_typed HO_15.out) (by decide))) hkp (fun k_ hk_ hs_ => (hk_.2) hs_)) (fun k_ hk_ => ⟨hk_.1.1.1,hk_.1.1.2.1,hk_.1.1.2.2⟩));have n8_:=Aside0.mk (hb);clear HO_12;clear HO_14;clear HO_15;clear HO_16;clear HO_17;clear HO312;clear HO316;clear HO320;clear HB;have HO_12:=n0_;have HO_14:=n1_;have HO_15:=n2_;have HO_16:=n3_;have HO_17:=n4_;have HO312:=n5_;have HO316:=n6_;have HO320:=n7_;have HB:=n8_;clear n0_ n1_ n2_ n3_ n4_ n5_ n6_ n7_ n8_;(try clear hb);(try clear hkp);(try clear hy0)) | ((with_reducible refine gate_callee (f:=35) rfl ?_);refine goesL_ (some 99) rfl rfl Try.func35 (by kernel_rfl) rfl #[.slice Ao35 t302.length co35, .int .i64 t324] rfl (by (try simp only [List.map_toArray,List.map_cons,List.map_nil]);first | done | rfl | (simp only [List.length_drop,List.length_take];rfl)) ?_;(with_reducible refine (laws_markIntS.calls kj20 (fun k_ => some k_ = (.slice Ao35 t302.length co35 : Value).ownBlock) (.slice Ao35 t302.length co35) t302 t324 t326 t327 w _ ?side1 ?side2 A55.out).mono ?_);(case side1 => repeat (first | (with_reducible first | exact HB.out | apply below_alloc | apply pw_below_drewN | apply below_drew1) | exact HB.out));(case side2 => exact Kd.R_tight rfl HO_16.out);rintro e w67 ⟨rfl,hy0,hb,hkp⟩;refine ⟨_,rfl, ?_⟩;have n0_:=Aside0.mk (Kd.R_mono (ok':=fun k_ => some k_ ≠ (.slice Ao35 t302.length co35 : Value).ownBlock ∧ some k_ ≠ (v307 : Value).ownBlock ∧ some k_ ≠ (.slice Ao64 t318.length co64 : Value).ownBlock) (Kd.R_keptB (HO_12.out) hkp (fun k_ hk_ hs_ => (hk_.1) hs_)) (fun k_ hk_ => ⟨hk_.1.1,hk_.1.2.1,hk_.1.2.2⟩));have n1_:=Aside0.mk (Kd.R_mono (ok':=fun k_ => some k_ ≠ (.slice Ao58 t310.length co58 : Value).ownBlock) (Kd.R_keptB ((Kd.R_apart' HO_14.out (Kd.R_typed HO_16.out) (by decide))) hkp (fun k_ hk_ hs_ => (hk_.2) hs_)) (fun k_ hk_ => hk_.1.1));have n2_:=Aside0.mk (Kd.R_mono (ok':=fun k_ => some k_ ≠ (.slice Ao61 t314.length co61 : Value).ownBlock) (Kd.R_keptB ((Kd.R_apart' HO_15.out (Kd.R_typed HO_16.out) (by decide))) hkp (fun k_ hk_ hs_ => (hk_.2) hs_)) (fun k_ hk_ => hk_.1.1));have n3_:=Aside0.mk (Kd.R_reok rfl hy0 (fun k_ e_ => HO_16.out.1 k_ e_));have n4_:=Aside0.mk (Kd.R_mono (ok':=fun k_ => some k_ ≠ (v294 : Value).ownBlock ∧ some k_ ≠ (.slice Ao35 t302.length co35 : Value).ownBlock ∧ some k_ ≠ (.slice Ao64 t318.length co64 : Value).ownBlock) (Kd.R_keptB (HO_17.out) hkp (fun k_ hk_ hs_ => (hk_.2.1) hs_)) (fun k_ hk_ => ⟨hk_.1.1,hk_.1.2.1,hk_.1.2.2⟩));have n5_:=Aside0.mk (Kd.R_mono (ok':=fun k_ => some k_ ≠ (.slice Ao33 t296.length co33 : Value).ownBlock) (Kd.R_keptB ((Kd.R_apart' HO312.out (Kd.R_typed HO_16.out) (by decide))) hkp (fun k_ hk_ hs_ => (hk_.2) hs_)) (fun k_ hk_ => hk_.1.1));have n6_:=Aside0.mk (Kd.R_mono (ok':=fun k_ => some k_ ≠ (.slice Ao34 t299.length co34 : Value).ownBlock) (Kd.R_keptB ((Kd.R_apart' HO316.out (Kd.R_typed HO_16.out) (by decide))) hkp (fun k_ hk_ hs_ => (hk_.2) hs_)) (fun k_ hk_ => hk_.1.1));have n7_:=Aside0.mk (Kd.R_mono (ok':=fun k_ => some k_ ≠ (v294 : Value).ownBlock ∧ some k_ ≠ (.slice Ao35 t302.length co35 : Value).ownBlock ∧ some k_ ≠ (v307 : Value).ownBlock) (Kd.R_keptB (HO320.out) hkp (fun k_ hk_ hs_ => (hk_.2.1) hs_)) (fun k_ hk_ => ⟨hk_.1.1,hk_.1.2.1,hk_.1.2.2⟩));have n8_:=Aside0.mk (hb);clear HO_12;clear HO_14;clear HO_15;clear HO_16;clear HO_17;clear HO312;clear HO316;clear HO320;clear HB;have HO_12:=n0_;have HO_14:=n1_;have HO_15:=n2_;have HO_16:=n3_;have HO_17:=n4_;have HO312:=n5_;have HO316:=n6_;have HO320:=n7_;have HB:=n8_;clear n0_ n1_ n2_ n3_ n4_ n5_ n6_ n7_ n8_;(try clear hb);(try clear hkp);(try clear hy0)))
           (try simp only [Act.put,sA_,s0_,s1_])
           go_cut [112] (fun v112 wc => ∃ (kq : Nat) (x112_55 : Bool),v112 = .bool x112_55 ∧ Aside0 (laws_FnExactMoveToWagon.j1 kq l0 l1 l2 a3 a4 t292 t293 t305 x112_55 = some r) ∧ Aside0 (kq ≤ kj20) ∧ Aside0 (Kd.R (Kd.int .i64) 3 wc w.heap.size (fun k_ => some k_ ≠ (v307 : Value).ownBlock) v294 t292) ∧ Aside0 (Kd.R (Kd.int .i64) 3 wc w.heap.size (fun k_ => some k_ ≠ (v294 : Value).ownBlock) v307 t305) ∧ Aside0 (Below w.heap.size w wc))
           case first =>
            have H:=HC56.out
            clear HC56
            by_cases c68 : t326 < 0
            ·rw [if_pos c68] at H
             have c68b0 : decide (t326 < 0) = true:=decide_eq_true c68
             clear c68
             (first | rw [c68b0] | (simp only [i64_w,i32_w];rw [c68b0]) | skip)
             have H':=Aside0.mk H
             clear H
             go_wp2
             go_meet
             case rel => exact ⟨_,(true),(by first | rfl | (simp;done) | (simp [*];done)),H',⟨by have:=HJ20.out;first | omega | exact Nat.le_refl _⟩,⟨by (with_reducible repeat (first | apply Kd.R_alloc | apply Kd.R_drewN | apply Kd.R_drew));exact Kd.R_mono HO_12.out (fun _ hk => hk.2.1)⟩,⟨by (with_reducible repeat (first | apply Kd.R_alloc | apply Kd.R_drewN | apply Kd.R_drew));exact Kd.R_mono HO_17.out (fun _ hk => hk.1)⟩,⟨by repeat (first | (with_reducible first | exact HB.out | apply below_alloc | apply pw_below_drewN | apply below_drew1) | exact HB.out)⟩⟩
            ·rw [if_neg c68] at H
             have c68b0 : decide (t326 < 0) = false:=decide_eq_false c68
             clear c68
             (first | rw [c68b0] | (simp only [i64_w,i32_w];rw [c68b0]) | skip)
             replace H:=Option.bind_eq_some_iff.mp H
             obtain ⟨t328,A690,H⟩ := H
             replace H : (if t328 = true then (laws_FnExactMoveToWagon.j1 kj20 l0 l1 l2 a3 a4 t292 t293 t305 (t306 != t293)) else (laws_FnExactMoveToWagon.j1 kj20 l0 l1 l2 a3 a4 t292 t293 t305 true)) = some r:=H
             have A69:=Aside0.mk A690
             clear A690
             by_cases c70 : t328 = true
             ·subst c70
              have H1 : (laws_FnExactMoveToWagon.j1 kj20 l0 l1 l2 a3 a4 t292 t293 t305 (t306 != t293)) = some r:=by rw [if_pos rfl] at H;exact H
              clear H
              have H:=H1
              clear H1
              have H':=Aside0.mk H
              clear H
              obtain ⟨Ao71,co71,eo71⟩ := Kd.R_slice HO_17.out
              subst eo71
              obtain ⟨Ao72,co72,eo72⟩ := Kd.R_slice HO_12.out
              subst eo72
              go_wp2_with (first | (go_at_call 26;(with_reducible refine (laws_eqIntS.calls kj20 _ _ t305 _ _ t292 true _ ?side1 ?side2 ?side3 ?side4 A69.out).mono ?_);(case side1 => repeat (first | exact (Kd.R_reads' HO_17.out).2.2 | (with_reducible refine Kd.C_alloc ?_ _) | (with_reducible refine Kd.C_drewN ?_ _) | (with_reducible refine Kd.C_drew ?_)));(case side2 => exact (Kd.R_reads' HO_17.out).2.1);(case side3 => repeat (first | exact (Kd.R_reads' HO_12.out).2.2 | (with_reducible refine Kd.C_alloc ?_ _) | (with_reducible refine Kd.C_drewN ?_ _) | (with_reducible refine Kd.C_drew ?_)));(case side4 => exact (Kd.R_reads' HO_12.out).2.1);rintro e w' ⟨rfl,⟨nd,rfl⟩⟩))
              go_meet
              case rel => exact ⟨_,((t306 != t293)),(by first | rfl | (simp;done) | (simp [*];done)),H',⟨by have:=HJ20.out;first | omega | exact Nat.le_refl _⟩,⟨by (with_reducible repeat (first | apply Kd.R_alloc | apply Kd.R_drewN | apply Kd.R_drew));exact Kd.R_mono HO_12.out (fun _ hk => hk.2.1)⟩,⟨by (with_reducible repeat (first | apply Kd.R_alloc | apply Kd.R_drewN | apply Kd.R_drew));exact Kd.R_mono HO_17.out (fun _ hk => hk.1)⟩,⟨by repeat (first | (with_reducible first | exact HB.out | apply below_alloc | apply pw_below_drewN | apply below_drew1) | exact HB.out)⟩⟩
             ·replace c70:=Bool.eq_false_iff.mpr c70
              subst c70
              have H1 : (laws_FnExactMoveToWagon.j1 kj20 l0 l1 l2 a3 a4 t292 t293 t305 true) = some r:=by rw [if_neg (show ¬ (false = true) by decide)] at H;exact H
              clear H
              have H:=H1
              clear H1
              have H':=Aside0.mk H
              clear H
              obtain ⟨Ao73,co73,eo73⟩ := Kd.R_slice HO_17.out
              subst eo73
              obtain ⟨Ao74,co74,eo74⟩ := Kd.R_slice HO_12.out
              subst eo74
              go_wp2_with (first | (go_at_call 26;(with_reducible refine (laws_eqIntS.calls kj20 _ _ t305 _ _ t292 false _ ?side1 ?side2 ?side3 ?side4 A69.out).mono ?_);(case side1 => repeat (first | exact (Kd.R_reads' HO_17.out).2.2 | (with_reducible refine Kd.C_alloc ?_ _) | (with_reducible refine Kd.C_drewN ?_ _) | (with_reducible refine Kd.C_drew ?_)));(case side2 => exact (Kd.R_reads' HO_17.out).2.1);(case side3 => repeat (first | exact (Kd.R_reads' HO_12.out).2.2 | (with_reducible refine Kd.C_alloc ?_ _) | (with_reducible refine Kd.C_drewN ?_ _) | (with_reducible refine Kd.C_drew ?_)));(case side4 => exact (Kd.R_reads' HO_12.out).2.1);rintro e w' ⟨rfl,⟨nd,rfl⟩⟩))
              go_meet
              case rel => exact ⟨_,(true),(by first | rfl | (simp;done) | (simp [*];done)),H',⟨by have:=HJ20.out;first | omega | exact Nat.le_refl _⟩,⟨by (with_reducible repeat (first | apply Kd.R_alloc | apply Kd.R_drewN | apply Kd.R_drew));exact Kd.R_mono HO_12.out (fun _ hk => hk.2.1)⟩,⟨by (with_reducible repeat (first | apply Kd.R_alloc | apply Kd.R_drewN | apply Kd.R_drew));exact Kd.R_mono HO_17.out (fun _ hk => hk.1)⟩,⟨by repeat (first | (with_reducible first | exact HB.out | apply below_alloc | apply pw_below_drewN | apply below_drew1) | exact HB.out)⟩⟩
           case rest =>
            clear HC56
            try clear c1
            try clear c2
            try clear p2
            try clear c3
            try clear c4
            try clear c5
            try clear c6
            try clear c6b0
            try clear c6b1
            try clear c7
            try clear c7b0
            try clear c7b1
            try clear c9
            try clear c9b0
            try clear c10
            try clear c11
            try clear c11b0
            try clear c15
            try clear c17
            try clear c19
            try clear c20
            try clear c22
            try clear c23
            try clear c25
            try clear c26
            try clear c33
            try clear c34
            try clear c35
            try clear c38
            try clear c41
            try clear c42
            try clear c43
            try clear c46
            try clear c49
            try clear c52
            try clear c68
            try clear c68b0
            try clear c70
            try clear p2
            obtain ⟨kq,x112_55,rfl,HA,HJ55,HO_12,HO_17,HB⟩ := hcut
            cases kq with
            | zero => exact absurd HA.out (by simp [laws_FnExactMoveToWagon.j1])
            | succ kj55 =>
             have H:=HA.out
             clear HA
             simp only [laws_FnExactMoveToWagon.j1] at H
             by_cases c75 : x112_55 = true
             ·subst c75
              have H1 : (some false) = some r:=by rw [if_pos rfl] at H;exact H
              clear H
              have H:=H1
              clear H1
              obtain rfl:=Option.some.inj H
              go_wp2
              go_ret
              exact ⟨by first | rfl | (simp [errW_none,errW_some] <;> rfl) | (simp [*,errW_none,errW_some] <;> rfl),by repeat (first | (with_reducible first | exact HB.out | apply below_alloc | apply pw_below_drewN | apply below_drew1) | exact HB.out)⟩
             ·replace c75:=Bool.eq_false_iff.mpr c75
              subst c75
              have H1 : ((laws_markIntS.f kj55 t305 1).bind fun bt329 => ((laws_heldIntS.f kj55 bt329.2 1).bind fun t331 => (if t331 < 0 then (some false) else (if t331 = bt329.1 then ((laws_toWagonS.f kj55 l0).bind fun t332 => ((laws_toContainerS.f kj55 l1).bind fun t335 => ((laws_toIntS.f kj55 l2).bind fun t338 => ((impl_MoveToWagon.f kj55 t332 t335 t338 a3 a4).bind fun bt341 => ((laws_eqIntS.f kj55 bt341.1 t292).bind fun t345 => (if t345 = true then (laws_FnExactMoveToWagon.j2 kj55 bt329.2 bt329.1 (bt341.2 != t293)) else (laws_FnExactMoveToWagon.j2 kj55 bt329.2 bt329.1 true))))))) else (some false))))) = some r:=by rw [if_neg (show ¬ (false = true) by decide)] at H;exact H
              clear H
              have H:=H1
              clear H1
              replace H:=Option.bind_eq_some_iff.mp H
              obtain ⟨⟨t329,t330⟩,A760,H⟩ := H
              replace H : ((laws_heldIntS.f kj55 t330 1).bind fun t331 => (if t331 < 0 then (some false) else (if t331 = t329 then ((laws_toWagonS.f kj55 l0).bind fun t332 => ((laws_toContainerS.f kj55 l1).bind fun t335 => ((laws_toIntS.f kj55 l2).bind fun t338 => ((impl_MoveToWagon.f kj55 t332 t335 t338 a3 a4).bind fun bt341 => ((laws_eqIntS.f kj55 bt341.1 t292).bind fun t345 => (if t345 = true then (laws_FnExactMoveToWagon.j2 kj55 t330 t329 (bt341.2 != t293)) else (laws_FnExactMoveToWagon.j2 kj55 t330 t329 true))))))) else (some false)))) = some r:=H
              have A76:=Aside0.mk A760
              clear A760
              replace H:=Option.bind_eq_some_iff.mp H
              obtain ⟨t331,A770,H⟩ := H
              replace H : (if t331 < 0 then (some false) else (if t331 = t329 then ((laws_toWagonS.f kj55 l0).bind fun t332 => ((laws_toContainerS.f kj55 l1).bind fun t335 => ((laws_toIntS.f kj55 l2).bind fun t338 => ((impl_MoveToWagon.f kj55 t332 t335 t338 a3 a4).bind fun bt341 => ((laws_eqIntS.f kj55 bt341.1 t292).bind fun t345 => (if t345 = true then (laws_FnExactMoveToWagon.j2 kj55 t330 t329 (bt341.2 != t293)) else (laws_FnExactMoveToWagon.j2 kj55 t330 t329 true))))))) else (some false))) = some r:=H
              have A77:=Aside0.mk A770
              clear A770
              by_cases c78 : t331 < 0
              ·rw [if_pos c78] at H
               have c78b0 : decide (t331 < 0) = true:=decide_eq_true c78
               clear c78
               obtain rfl:=Option.some.inj H
               obtain ⟨Ao79,co79,eo79⟩ := Kd.R_slice HO_17.out
               subst eo79
               go_wp2_with (first | ((with_reducible refine gate_callee (f:=35) rfl ?_);refine goesL_ (some 115) rfl rfl Try.func35 (by kernel_rfl) rfl #[.slice Ao79 t305.length co79, .int .i64 1] rfl (by (try simp only [List.map_toArray,List.map_cons,List.map_nil]);first | done | rfl | (simp only [List.length_drop,List.length_take];rfl)) ?_;(with_reducible refine (laws_markIntS.calls kj55 (fun k_ => some k_ = (.slice Ao79 t305.length co79 : Value).ownBlock) (.slice Ao79 t305.length co79) t305 1 t329 t330 w _ ?side1 ?side2 A76.out).mono ?_);(case side1 => repeat (first | (with_reducible first | exact HB.out | apply below_alloc | apply pw_below_drewN | apply below_drew1) | exact HB.out));(case side2 => exact Kd.R_tight rfl HO_17.out);rintro e w80 ⟨rfl,hy0,hb,hkp⟩;refine ⟨_,rfl, ?_⟩;have n0_:=Aside0.mk (Kd.R_mono (ok':=fun k_ => some k_ ≠ (.slice Ao79 t305.length co79 : Value).ownBlock) (Kd.R_keptB (HO_12.out) hkp (fun k_ hk_ hs_ => (hk_) hs_)) (fun k_ hk_ => hk_.1));have n1_:=Aside0.mk (Kd.R_reok rfl hy0 (fun k_ e_ => HO_17.out.1 k_ e_));have n2_:=Aside0.mk (hb);clear HO_12;clear HO_17;clear HB;have HO_12:=n0_;have HO_17:=n1_;have HB:=n2_;clear n0_ n1_ n2_;(try clear hb);(try clear hkp);(try clear hy0)) | ((with_reducible refine gate_callee (f:=36) rfl ?_);refine goesL_ (some 118) rfl rfl Try.func36 (by kernel_rfl) rfl #[.slice Ao79 t330.length co79, .int .i64 1] rfl (by (try simp only [List.map_toArray,List.map_cons,List.map_nil]);first | done | (rw [show t330.length = t305.length from (Kd.R_reads' HO_17.out).1.symm] <;> rfl) | rfl | (simp only [List.length_drop,List.length_take];rfl)) ?_;(with_reducible refine (laws_heldIntS.calls kj55 _ _ t330 1 t331 _ ?side1 ?side2 A77.out).mono ?_);(case side1 => repeat (first | exact (Kd.R_reads' HO_17.out).2.2 | (with_reducible refine Kd.C_alloc ?_ _) | (with_reducible refine Kd.C_drewN ?_ _) | (with_reducible refine Kd.C_drew ?_)));(case side2 => rw [show t330.length = t305.length from (Kd.R_reads' HO_17.out).1.symm];exact (Kd.R_reads' HO_17.out).2.1);rintro e w' ⟨rfl,⟨nd,rfl⟩⟩;refine ⟨_,rfl, ?_⟩))
               go_ret
               exact ⟨by first | rfl | (simp [errW_none,errW_some] <;> rfl) | (simp [*,errW_none,errW_some] <;> rfl),by repeat (first | (with_reducible first | exact HB.out | apply below_alloc | apply pw_below_drewN | apply below_drew1) | exact HB.out)⟩
              ·rw [if_neg c78] at H
               have c78b0 : decide (t331 < 0) = false:=decide_eq_false c78
               clear c78
               by_cases c81 : t331 = t329
               ·rw [if_pos c81] at H
                have c81b0 : (t331 == t329) = true:=beq_iff_eq.mpr c81
                have c81b1 : (t331 != t329) = false:=bne_eq_false_iff_eq.mpr c81
                clear c81
                replace H:=Option.bind_eq_some_iff.mp H
                obtain ⟨t332,A820,H⟩ := H
                replace H : ((laws_toContainerS.f kj55 l1).bind fun t335 => ((laws_toIntS.f kj55 l2).bind fun t338 => ((impl_MoveToWagon.f kj55 t332 t335 t338 a3 a4).bind fun bt341 => ((laws_eqIntS.f kj55 bt341.1 t292).bind fun t345 => (if t345 = true then (laws_FnExactMoveToWagon.j2 kj55 t330 t329 (bt341.2 != t293)) else (laws_FnExactMoveToWagon.j2 kj55 t330 t329 true)))))) = some r:=H
                have A82:=Aside0.mk A820
                clear A820
                replace H:=Option.bind_eq_some_iff.mp H
                obtain ⟨t335,A830,H⟩ := H
                replace H : ((laws_toIntS.f kj55 l2).bind fun t338 => ((impl_MoveToWagon.f kj55 t332 t335 t338 a3 a4).bind fun bt341 => ((laws_eqIntS.f kj55 bt341.1 t292).bind fun t345 => (if t345 = true then (laws_FnExactMoveToWagon.j2 kj55 t330 t329 (bt341.2 != t293)) else (laws_FnExactMoveToWagon.j2 kj55 t330 t329 true))))) = some r:=H
                have A83:=Aside0.mk A830
                clear A830
                replace H:=Option.bind_eq_some_iff.mp H
                obtain ⟨t338,A840,H⟩ := H
                replace H : ((impl_MoveToWagon.f kj55 t332 t335 t338 a3 a4).bind fun bt341 => ((laws_eqIntS.f kj55 bt341.1 t292).bind fun t345 => (if t345 = true then (laws_FnExactMoveToWagon.j2 kj55 t330 t329 (bt341.2 != t293)) else (laws_FnExactMoveToWagon.j2 kj55 t330 t329 true)))) = some r:=H
                have A84:=Aside0.mk A840
                clear A840
                replace H:=Option.bind_eq_some_iff.mp H
                obtain ⟨⟨t341,t342⟩,A850,H⟩ := H
                replace H : ((laws_eqIntS.f kj55 t341 t292).bind fun t345 => (if t345 = true then (laws_FnExactMoveToWagon.j2 kj55 t330 t329 (t342 != t293)) else (laws_FnExactMoveToWagon.j2 kj55 t330 t329 true))) = some r:=H
                have A85:=Aside0.mk A850
                clear A850
                have HC86:=Aside0.mk H
                clear H
                obtain ⟨Ao87,co87,eo87⟩ := Kd.R_slice HO_17.out
                subst eo87
                go_upto_region 40 with (first | ((with_reducible refine gate_callee (f:=35) rfl ?_);refine goesL_ (some 115) rfl rfl Try.func35 (by kernel_rfl) rfl #[.slice Ao87 t305.length co87, .int .i64 1] rfl (by (try simp only [List.map_toArray,List.map_cons,List.map_nil]);first | done | rfl | (simp only [List.length_drop,List.length_take];rfl)) ?_;(with_reducible refine (laws_markIntS.calls kj55 (fun k_ => some k_ = (.slice Ao87 t305.length co87 : Value).ownBlock) (.slice Ao87 t305.length co87) t305 1 t329 t330 w _ ?side1 ?side2 A76.out).mono ?_);(case side1 => repeat (first | (with_reducible first | exact HB.out | apply below_alloc | apply pw_below_drewN | apply below_drew1) | exact HB.out));(case side2 => exact Kd.R_tight rfl HO_17.out);rintro e w88 ⟨rfl,hy0,hb,hkp⟩;refine ⟨_,rfl, ?_⟩;have n0_:=Aside0.mk (Kd.R_mono (ok':=fun k_ => some k_ ≠ (.slice Ao87 t305.length co87 : Value).ownBlock) (Kd.R_keptB (HO_12.out) hkp (fun k_ hk_ hs_ => (hk_) hs_)) (fun k_ hk_ => hk_.1));have n1_:=Aside0.mk (Kd.R_reok rfl hy0 (fun k_ e_ => HO_17.out.1 k_ e_));have n2_:=Aside0.mk (hb);clear HO_12;clear HO_17;clear HB;have HO_12:=n0_;have HO_17:=n1_;have HB:=n2_;clear n0_ n1_ n2_;(try clear hb);(try clear hkp);(try clear hy0)) | ((with_reducible refine gate_callee (f:=36) rfl ?_);refine goesL_ (some 118) rfl rfl Try.func36 (by kernel_rfl) rfl #[.slice Ao87 t330.length co87, .int .i64 1] rfl (by (try simp only [List.map_toArray,List.map_cons,List.map_nil]);first | done | (rw [show t330.length = t305.length from (Kd.R_reads' HO_17.out).1.symm] <;> rfl) | rfl | (simp only [List.length_drop,List.length_take];rfl)) ?_;(with_reducible refine (laws_heldIntS.calls kj55 _ _ t330 1 t331 _ ?side1 ?side2 A77.out).mono ?_);(case side1 => repeat (first | exact (Kd.R_reads' HO_17.out).2.2 | (with_reducible refine Kd.C_alloc ?_ _) | (with_reducible refine Kd.C_drewN ?_ _) | (with_reducible refine Kd.C_drew ?_)));(case side2 => rw [show t330.length = t305.length from (Kd.R_reads' HO_17.out).1.symm];exact (Kd.R_reads' HO_17.out).2.1);rintro e w' ⟨rfl,⟨nd,rfl⟩⟩;refine ⟨_,rfl, ?_⟩) | ((with_reducible refine gate_callee (f:=17) rfl ?_);refine goesL_ (some 126) rfl rfl Try.func17 (by kernel_rfl) rfl #[.slice A0 l0.length c0] rfl (by (try simp only [List.map_toArray,List.map_cons,List.map_nil]);first | done | rfl | (simp only [List.length_drop,List.length_take];rfl)) ?_;(with_reducible refine (laws_toWagonS.calls kj55 _ _ l0 t332 _ ?side1 ?side2 A82.out).mono ?_);(case side1 => repeat (first | exact (Kd.C_below HR0.out (by repeat (first | (with_reducible first | exact HB.out | apply below_alloc | apply pw_below_drewN | apply below_drew1) | exact HB.out))) | (with_reducible refine Kd.C_alloc ?_ _) | (with_reducible refine Kd.C_drewN ?_ _) | (with_reducible refine Kd.C_drew ?_)));(case side2 => exact HC0.out);rintro e w89 ⟨v333,rfl,ho0,hb⟩;refine ⟨_,rfl, ?_⟩;have n0_:=Aside0.mk (Kd.R_below (by (with_reducible repeat (first | apply Kd.R_alloc | apply Kd.R_drewN | apply Kd.R_drew));exact HO_12.out) hb);have n1_:=Aside0.mk (Kd.R_below (by (with_reducible repeat (first | apply Kd.R_alloc | apply Kd.R_drewN | apply Kd.R_drew));exact HO_17.out) hb);have n2_:=Aside0.mk (Kd.R_lower ho0 (below_size (by repeat (first | (with_reducible first | exact HB.out | apply below_alloc | apply pw_below_drewN | apply below_drew1) | exact HB.out))));have n3_:=Aside0.mk (below_step (by repeat (first | (with_reducible first | exact HB.out | apply below_alloc | apply pw_below_drewN | apply below_drew1) | exact HB.out)) hb);clear HO_12;clear HO_17;clear HB;have HO_12:=n0_;have HO_17:=n1_;have HO334:=n2_;have HB:=n3_;clear n0_ n1_ n2_ n3_;(try clear hb);(try clear hb2);(try clear hk);(try clear hi);(try clear ho0)) | ((with_reducible refine gate_callee (f:=22) rfl ?_);refine goesL_ (some 128) rfl rfl Try.func22 (by kernel_rfl) rfl #[.slice A1 l1.length c1] rfl (by (try simp only [List.map_toArray,List.map_cons,List.map_nil]);first | done | rfl | (simp only [List.length_drop,List.length_take];rfl)) ?_;(with_reducible refine (laws_toContainerS.calls kj55 _ _ l1 t335 _ ?side1 ?side2 A83.out).mono ?_);(case side1 => repeat (first | exact (Kd.C_below HR1.out HB.out) | (with_reducible refine Kd.C_alloc ?_ _) | (with_reducible refine Kd.C_drewN ?_ _) | (with_reducible refine Kd.C_drew ?_)));(case side2 => exact HC1.out);rintro e w90 ⟨v336,rfl,ho0,hb⟩;refine ⟨_,rfl, ?_⟩;have n0_:=Aside0.mk (Kd.R_below (by (with_reducible repeat (first | apply Kd.R_alloc | apply Kd.R_drewN | apply Kd.R_drew));exact HO_12.out) hb);have n1_:=Aside0.mk (Kd.R_below (by (with_reducible repeat (first | apply Kd.R_alloc | apply Kd.R_drewN | apply Kd.R_drew));exact HO_17.out) hb);have n2_:=Aside0.mk (Kd.R_below (by (with_reducible repeat (first | apply Kd.R_alloc | apply Kd.R_drewN | apply Kd.R_drew));exact HO334.out) hb);have n3_:=Aside0.mk (Kd.R_lower ho0 (below_size (by repeat (first | (with_reducible first | exact HB.out | apply below_alloc | apply pw_below_drewN | apply below_drew1) | exact HB.out))));have n4_:=Aside0.mk (below_step (by repeat (first | (with_reducible first | exact HB.out | apply below_alloc | apply pw_below_drewN | apply below_drew1) | exact HB.out)) hb);clear HO_12;clear HO_17;clear HO334;clear HB;have HO_12:=n0_;have HO_17:=n1_;have HO334:=n2_;have HO337:=n3_;have HB:=n4_;clear n0_ n1_ n2_ n3_ n4_;(try clear hb);(try clear hb2);(try clear hk);(try clear hi);(try clear ho0)) | ((with_reducible refine gate_callee (f:=23) rfl ?_);refine goesL_ (some 130) rfl rfl Try.func23 (by kernel_rfl) rfl #[.slice A2 l2.length c2] rfl (by (try simp only [List.map_toArray,List.map_cons,List.map_nil]);first | done | rfl | (simp only [List.length_drop,List.length_take];rfl)) ?_;(with_reducible refine (laws_toIntS.calls kj55 _ _ l2 t338 _ ?side1 ?side2 A84.out).mono ?_);(case side1 => repeat (first | exact (Kd.C_below HR2.out HB.out) | (with_reducible refine Kd.C_alloc ?_ _) | (with_reducible refine Kd.C_drewN ?_ _) | (with_reducible refine Kd.C_drew ?_)));(case side2 => exact HC2.out);rintro e w91 ⟨v339,rfl,ho0,hb⟩;refine ⟨_,rfl, ?_⟩;have n0_:=Aside0.mk (Kd.R_elder' (by (with_reducible repeat (first | apply Kd.R_alloc | apply Kd.R_drewN | apply Kd.R_drew));exact HO_12.out) (Kd.R_base ho0) hb);have n1_:=Aside0.mk (Kd.R_elder' (by (with_reducible repeat (first | apply Kd.R_alloc | apply Kd.R_drewN | apply Kd.R_drew));exact HO_17.out) (Kd.R_base ho0) hb);have n2_:=Aside0.mk (Kd.R_below (by (with_reducible repeat (first | apply Kd.R_alloc | apply Kd.R_drewN | apply Kd.R_drew));exact HO334.out) hb);have n3_:=Aside0.mk (Kd.R_below (by (with_reducible repeat (first | apply Kd.R_alloc | apply Kd.R_drewN | apply Kd.R_drew));exact HO337.out) hb);have n4_:=Aside0.mk (Kd.R_lower (Kd.R_new' (Kd.R_new' ho0 (Kd.R_lt (by (with_reducible repeat (first | apply Kd.R_alloc | apply Kd.R_drewN | apply Kd.R_drew));exact HO_12.out))) (Kd.R_lt (by (with_reducible repeat (first | apply Kd.R_alloc | apply Kd.R_drewN | apply Kd.R_drew));exact HO_17.out))) (below_size (by repeat (first | (with_reducible first | exact HB.out | apply below_alloc | apply pw_below_drewN | apply below_drew1) | exact HB.out))));have n5_:=Aside0.mk (below_step (by repeat (first | (with_reducible first | exact HB.out | apply below_alloc | apply pw_below_drewN | apply below_drew1) | exact HB.out)) hb);clear HO_12;clear HO_17;clear HO334;clear HO337;clear HB;have HO_12:=n0_;have HO_17:=n1_;have HO334:=n2_;have HO337:=n3_;have HO340:=n4_;have HB:=n5_;clear n0_ n1_ n2_ n3_ n4_ n5_;(try clear hb);(try clear hb2);(try clear hk);(try clear hi);(try clear ho0);obtain ⟨Ao92,co92,eo92⟩ := Kd.R_slice HO334.out;subst eo92;obtain ⟨Ao93,co93,eo93⟩ := Kd.R_slice HO337.out;subst eo93;obtain ⟨Ao94,co94,eo94⟩ := Kd.R_slice HO340.out;subst eo94) | ((with_reducible refine gate_callee (f:=42) rfl ?_);refine goesL_ (some 133) rfl rfl Try.func42 (by kernel_rfl) rfl #[.slice Ao92 t332.length co92, .slice Ao93 t335.length co93, .slice Ao94 t338.length co94, .string a3, .int .i64 a4] rfl (by (try simp only [List.map_toArray,List.map_cons,List.map_nil]);first | done | rfl | (simp only [List.length_drop,List.length_take];rfl)) ?_;(with_reducible refine (impl_MoveToWagon.calls kj55 _ _ t332 _ _ t335 _ _ t338 a3 a4 t341 t342 _ ?side1 ?side2 ?side3 ?side4 ?side5 ?side6 A85.out).mono ?_);(case side1 => repeat (first | exact (Kd.R_reads' HO334.out).2.2 | (with_reducible refine Kd.C_alloc ?_ _) | (with_reducible refine Kd.C_drewN ?_ _) | (with_reducible refine Kd.C_drew ?_)));(case side2 => exact (Kd.R_reads' HO334.out).2.1);(case side3 => repeat (first | exact (Kd.R_reads' HO337.out).2.2 | (with_reducible refine Kd.C_alloc ?_ _) | (with_reducible refine Kd.C_drewN ?_ _) | (with_reducible refine Kd.C_drew ?_)));(case side4 => exact (Kd.R_reads' HO337.out).2.1);(case side5 => repeat (first | exact (Kd.R_reads' HO340.out).2.2 | (with_reducible refine Kd.C_alloc ?_ _) | (with_reducible refine Kd.C_drewN ?_ _) | (with_reducible refine Kd.C_drew ?_)));(case side6 => exact (Kd.R_reads' HO340.out).2.1);rintro e w95 ⟨v343,rfl,ho0,hb⟩;refine ⟨_,rfl, ?_⟩;have n0_:=Aside0.mk (Kd.R_elder' (by (with_reducible repeat (first | apply Kd.R_alloc | apply Kd.R_drewN | apply Kd.R_drew));exact HO_12.out) (Kd.R_base ho0) hb);have n1_:=Aside0.mk (Kd.R_elder' (by (with_reducible repeat (first | apply Kd.R_alloc | apply Kd.R_drewN | apply Kd.R_drew));exact HO_17.out) (Kd.R_base ho0) hb);have n2_:=Aside0.mk (Kd.R_below (by (with_reducible repeat (first | apply Kd.R_alloc | apply Kd.R_drewN | apply Kd.R_drew));exact HO334.out) hb);have n3_:=Aside0.mk (Kd.R_below (by (with_reducible repeat (first | apply Kd.R_alloc | apply Kd.R_drewN | apply Kd.R_drew));exact HO337.out) hb);have n4_:=Aside0.mk (Kd.R_elder' (by (with_reducible repeat (first | apply Kd.R_alloc | apply Kd.R_drewN | apply Kd.R_drew));exact HO340.out) (Kd.R_base ho0) hb);have n5_:=Aside0.mk (Kd.R_lower (Kd.R_new' (Kd.R_new' (Kd.R_new' ho0 (Kd.R_lt (by (with_reducible repeat (first | apply Kd.R_alloc | apply Kd.R_drewN | apply Kd.R_drew));exact HO_12.out))) (Kd.R_lt (by (with_reducible repeat (first | apply Kd.R_alloc | apply Kd.R_drewN | apply Kd.R_drew));exact HO_17.out))) (Kd.R_lt (by (with_reducible repeat (first | apply Kd.R_alloc | apply Kd.R_drewN | apply Kd.R_drew));exact HO340.out))) (below_size (by repeat (first | (with_reducible first | exact HB.out | apply below_alloc | apply pw_below_drewN | apply below_drew1) | exact HB.out))));have n6_:=Aside0.mk (below_step (by repeat (first | (with_reducible first | exact HB.out | apply below_alloc | apply pw_below_drewN | apply below_drew1) | exact HB.out)) hb);clear HO_12;clear HO_17;clear HO334;clear HO337;clear HO340;clear HB;have HO_12:=n0_;have HO_17:=n1_;have HO334:=n2_;have HO337:=n3_;have HO340:=n4_;have HO344:=n5_;have HB:=n6_;clear n0_ n1_ n2_ n3_ n4_ n5_ n6_;(try clear hb);(try clear hb2);(try clear hk);(try clear hi);(try clear ho0)))
                (try simp only [Act.put,sA_,s0_,s1_])
                go_cut [144] (fun v144 wc => ∃ (kq : Nat) (x144_85 : Bool),v144 = .bool x144_85 ∧ Aside0 (laws_FnExactMoveToWagon.j2 kq t330 t329 x144_85 = some r) ∧ Aside0 (kq ≤ kj55) ∧ Aside0 (Kd.R (Kd.int .i64) 3 wc w.heap.size (fun _ => True) (.slice Ao87 t305.length co87) t330) ∧ Aside0 (Below w.heap.size w wc))
                case first =>
                 have H:=HC86.out
                 clear HC86
                 replace H:=Option.bind_eq_some_iff.mp H
                 obtain ⟨t345,A960,H⟩ := H
                 replace H : (if t345 = true then (laws_FnExactMoveToWagon.j2 kj55 t330 t329 (t342 != t293)) else (laws_FnExactMoveToWagon.j2 kj55 t330 t329 true)) = some r:=H
                 have A96:=Aside0.mk A960
                 clear A960
                 by_cases c97 : t345 = true
                 ·subst c97
                  have H1 : (laws_FnExactMoveToWagon.j2 kj55 t330 t329 (t342 != t293)) = some r:=by rw [if_pos rfl] at H;exact H
                  clear H
                  have H:=H1
                  clear H1
                  have H':=Aside0.mk H
                  clear H
                  obtain ⟨Ao98,co98,eo98⟩ := Kd.R_slice HO344.out
                  subst eo98
                  obtain ⟨Ao99,co99,eo99⟩ := Kd.R_slice HO_12.out
                  subst eo99
                  go_wp2_with (first | ((with_reducible refine gate_callee (f:=26) rfl ?_);refine goesL_ (some 138) rfl rfl Try.func26 (by kernel_rfl) rfl #[.slice Ao98 t341.length co98, .slice Ao99 t292.length co99] rfl (by (try simp only [List.map_toArray,List.map_cons,List.map_nil]);first | done | rfl | (simp only [List.length_drop,List.length_take];rfl)) ?_;(with_reducible refine (laws_eqIntS.calls kj55 _ _ t341 _ _ t292 true _ ?side1 ?side2 ?side3 ?side4 A96.out).mono ?_);(case side1 => repeat (first | exact (Kd.R_reads' HO344.out).2.2 | (with_reducible refine Kd.C_alloc ?_ _) | (with_reducible refine Kd.C_drewN ?_ _) | (with_reducible refine Kd.C_drew ?_)));(case side2 => exact (Kd.R_reads' HO344.out).2.1);(case side3 => repeat (first | exact (Kd.R_reads' HO_12.out).2.2 | (with_reducible refine Kd.C_alloc ?_ _) | (with_reducible refine Kd.C_drewN ?_ _) | (with_reducible refine Kd.C_drew ?_)));(case side4 => exact (Kd.R_reads' HO_12.out).2.1);rintro e w' ⟨rfl,⟨nd,rfl⟩⟩;refine ⟨_,rfl, ?_⟩))
                  go_meet
                  case rel => exact ⟨_,((t342 != t293)),(by first | rfl | (simp;done) | (simp [*];done)),H',⟨by have:=HJ20.out;have:=HJ55.out;first | omega | exact Nat.le_refl _⟩,⟨by (with_reducible repeat (first | apply Kd.R_alloc | apply Kd.R_drewN | apply Kd.R_drew));exact Kd.R_mono HO_17.out (fun _ hk => trivial)⟩,⟨by repeat (first | (with_reducible first | exact HB.out | apply below_alloc | apply pw_below_drewN | apply below_drew1) | exact HB.out)⟩⟩
                 ·replace c97:=Bool.eq_false_iff.mpr c97
                  subst c97
                  have H1 : (laws_FnExactMoveToWagon.j2 kj55 t330 t329 true) = some r:=by rw [if_neg (show ¬ (false = true) by decide)] at H;exact H
                  clear H
                  have H:=H1
                  clear H1
                  have H':=Aside0.mk H
                  clear H
                  obtain ⟨Ao100,co100,eo100⟩ := Kd.R_slice HO344.out
                  subst eo100
                  obtain ⟨Ao101,co101,eo101⟩ := Kd.R_slice HO_12.out
                  subst eo101
                  go_wp2_with (first | ((with_reducible refine gate_callee (f:=26) rfl ?_);refine goesL_ (some 138) rfl rfl Try.func26 (by kernel_rfl) rfl #[.slice Ao100 t341.length co100, .slice Ao101 t292.length co101] rfl (by (try simp only [List.map_toArray,List.map_cons,List.map_nil]);first | done | rfl | (simp only [List.length_drop,List.length_take];rfl)) ?_;(with_reducible refine (laws_eqIntS.calls kj55 _ _ t341 _ _ t292 false _ ?side1 ?side2 ?side3 ?side4 A96.out).mono ?_);(case side1 => repeat (first | exact (Kd.R_reads' HO344.out).2.2 | (with_reducible refine Kd.C_alloc ?_ _) | (with_reducible refine Kd.C_drewN ?_ _) | (with_reducible refine Kd.C_drew ?_)));(case side2 => exact (Kd.R_reads' HO344.out).2.1);(case side3 => repeat (first | exact (Kd.R_reads' HO_12.out).2.2 | (with_reducible refine Kd.C_alloc ?_ _) | (with_reducible refine Kd.C_drewN ?_ _) | (with_reducible refine Kd.C_drew ?_)));(case side4 => exact (Kd.R_reads' HO_12.out).2.1);rintro e w' ⟨rfl,⟨nd,rfl⟩⟩;refine ⟨_,rfl, ?_⟩))
                  go_meet
                  case rel => exact ⟨_,(true),(by first | rfl | (simp;done) | (simp [*];done)),H',⟨by have:=HJ20.out;have:=HJ55.out;first | omega | exact Nat.le_refl _⟩,⟨by (with_reducible repeat (first | apply Kd.R_alloc | apply Kd.R_drewN | apply Kd.R_drew));exact Kd.R_mono HO_17.out (fun _ hk => trivial)⟩,⟨by repeat (first | (with_reducible first | exact HB.out | apply below_alloc | apply pw_below_drewN | apply below_drew1) | exact HB.out)⟩⟩
                case rest =>
                 clear HC86
                 try clear c1
                 try clear c2
                 try clear p2
                 try clear c3
                 try clear c4
                 try clear c5
                 try clear c6
                 try clear c6b0
                 try clear c6b1
                 try clear c7
                 try clear c7b0
                 try clear c7b1
                 try clear c8
                 try clear c9
                 try clear c9b0
                 try clear c10
                 try clear c11
                 try clear c11b0
                 try clear c15
                 try clear c17
                 try clear c19
                 try clear c20
                 try clear c22
                 try clear c23
                 try clear c25
                 try clear c26
                 try clear c33
                 try clear c34
                 try clear c35
                 try clear c36
                 try clear c38
                 try clear c41
                 try clear c42
                 try clear c43
                 try clear c46
                 try clear c49
                 try clear c52
                 try clear c68
                 try clear c68b0
                 try clear c70
                 try clear c75
                 try clear c78
                 try clear c78b0
                 try clear c81
                 try clear c81b0
                 try clear c81b1
                 try clear c97
                 try clear p2
                 obtain ⟨kq,x144_85,rfl,HA,HJ85,HO_17,HB⟩ := hcut
                 have hl17_85:=(Kd.R_reads' HO_17.out).1
                 rw [hl17_85] at HO_17
                 (try simp only [hl17_85])
                 cases kq with
                 | zero => exact absurd HA.out (by simp [laws_FnExactMoveToWagon.j2])
                 | succ kj85 =>
                  have H:=HA.out
                  clear HA
                  simp only [laws_FnExactMoveToWagon.j2] at H
                  by_cases c102 : x144_85 = true
                  ·subst c102
                   have H1 : (some false) = some r:=by rw [if_pos rfl] at H;exact H
                   clear H
                   have H:=H1
                   clear H1
                   obtain rfl:=Option.some.inj H
                   go_wp2
                   go_ret
                   exact ⟨by first | rfl | (simp [errW_none,errW_some] <;> rfl) | (simp [*,errW_none,errW_some] <;> rfl),by repeat (first | (with_reducible first | exact HB.out | apply below_alloc | apply pw_below_drewN | apply below_drew1) | exact HB.out)⟩
                  ·replace c102:=Bool.eq_false_iff.mpr c102
                   subst c102
                   have H1 : ((laws_heldIntS.f kj85 t330 1).bind fun t346 => (if t346 < 0 then (some false) else (if t346 = t329 then (some true) else (some false)))) = some r:=by rw [if_neg (show ¬ (false = true) by decide)] at H;exact H
                   clear H
                   have H:=H1
                   clear H1
                   replace H:=Option.bind_eq_some_iff.mp H
                   obtain ⟨t346,A1030,H⟩ := H
                   replace H : (if t346 < 0 then (some false) else (if t346 = t329 then (some true) else (some false))) = some r:=H
                   have A103:=Aside0.mk A1030
                   clear A1030
                   by_cases c104 : t346 < 0
                   ·rw [if_pos c104] at H
                    have c104b0 : decide (t346 < 0) = true:=decide_eq_true c104
                    clear c104
                    obtain rfl:=Option.some.inj H
                    go_wp2_with (first | ((with_reducible refine gate_callee (f:=36) rfl ?_);refine goesL_ (some 147) rfl rfl Try.func36 (by kernel_rfl) rfl #[.slice Ao87 t330.length co87, .int .i64 1] rfl (by (try simp only [List.map_toArray,List.map_cons,List.map_nil]);first | done | rfl | (simp only [List.length_drop,List.length_take];rfl)) ?_;(with_reducible refine (laws_heldIntS.calls kj85 _ _ t330 1 t346 _ ?side1 ?side2 A103.out).mono ?_);(case side1 => repeat (first | exact (Kd.R_reads' HO_17.out).2.2 | (with_reducible refine Kd.C_alloc ?_ _) | (with_reducible refine Kd.C_drewN ?_ _) | (with_reducible refine Kd.C_drew ?_)));(case side2 => exact (Kd.R_reads' HO_17.out).2.1);rintro e w' ⟨rfl,⟨nd,rfl⟩⟩;refine ⟨_,rfl, ?_⟩))
                    go_ret
                    exact ⟨by first | rfl | (simp [errW_none,errW_some] <;> rfl) | (simp [*,errW_none,errW_some] <;> rfl),by repeat (first | (with_reducible first | exact HB.out | apply below_alloc | apply pw_below_drewN | apply below_drew1) | exact HB.out)⟩
                   ·rw [if_neg c104] at H
                    have c104b0 : decide (t346 < 0) = false:=decide_eq_false c104
                    clear c104
                    by_cases c105 : t346 = t329
                    ·rw [if_pos c105] at H
                     have c105b0 : (t346 == t329) = true:=beq_iff_eq.mpr c105
                     have c105b1 : (t346 != t329) = false:=bne_eq_false_iff_eq.mpr c105
                     clear c105
                     obtain rfl:=Option.some.inj H
                     go_wp2_with (first | ((with_reducible refine gate_callee (f:=36) rfl ?_);refine goesL_ (some 147) rfl rfl Try.func36 (by kernel_rfl) rfl #[.slice Ao87 t330.length co87, .int .i64 1] rfl (by (try simp only [List.map_toArray,List.map_cons,List.map_nil]);first | done | rfl | (simp only [List.length_drop,List.length_take];rfl)) ?_;(with_reducible refine (laws_heldIntS.calls kj85 _ _ t330 1 t346 _ ?side1 ?side2 A103.out).mono ?_);(case side1 => repeat (first | exact (Kd.R_reads' HO_17.out).2.2 | (with_reducible refine Kd.C_alloc ?_ _) | (with_reducible refine Kd.C_drewN ?_ _) | (with_reducible refine Kd.C_drew ?_)));(case side2 => exact (Kd.R_reads' HO_17.out).2.1);rintro e w' ⟨rfl,⟨nd,rfl⟩⟩;refine ⟨_,rfl, ?_⟩))
                     go_ret
                     exact ⟨by first | rfl | (simp [errW_none,errW_some] <;> rfl) | (simp [*,errW_none,errW_some] <;> rfl),by repeat (first | (with_reducible first | exact HB.out | apply below_alloc | apply pw_below_drewN | apply below_drew1) | exact HB.out)⟩
                    ·rw [if_neg c105] at H
                     have c105b0 : (t346 == t329) = false:=beq_eq_false_iff_ne.mpr c105
                     have c105b1 : (t346 != t329) = true:=bne_iff_ne.mpr c105
                     obtain rfl:=Option.some.inj H
                     go_wp2_with (first | ((with_reducible refine gate_callee (f:=36) rfl ?_);refine goesL_ (some 147) rfl rfl Try.func36 (by kernel_rfl) rfl #[.slice Ao87 t330.length co87, .int .i64 1] rfl (by (try simp only [List.map_toArray,List.map_cons,List.map_nil]);first | done | rfl | (simp only [List.length_drop,List.length_take];rfl)) ?_;(with_reducible refine (laws_heldIntS.calls kj85 _ _ t330 1 t346 _ ?side1 ?side2 A103.out).mono ?_);(case side1 => repeat (first | exact (Kd.R_reads' HO_17.out).2.2 | (with_reducible refine Kd.C_alloc ?_ _) | (with_reducible refine Kd.C_drewN ?_ _) | (with_reducible refine Kd.C_drew ?_)));(case side2 => exact (Kd.R_reads' HO_17.out).2.1);rintro e w' ⟨rfl,⟨nd,rfl⟩⟩;refine ⟨_,rfl, ?_⟩))
                     go_ret
                     exact ⟨by first | rfl | (simp [errW_none,errW_some] <;> rfl) | (simp [*,errW_none,errW_some] <;> rfl),by repeat (first | (with_reducible first | exact HB.out | apply below_alloc | apply pw_below_drewN | apply below_drew1) | exact HB.out)⟩
               ·rw [if_neg c81] at H
                have c81b0 : (t331 == t329) = false:=beq_eq_false_iff_ne.mpr c81
                have c81b1 : (t331 != t329) = true:=bne_iff_ne.mpr c81
                obtain rfl:=Option.some.inj H
                obtain ⟨Ao106,co106,eo106⟩ := Kd.R_slice HO_17.out
                subst eo106
                go_wp2_with (first | ((with_reducible refine gate_callee (f:=35) rfl ?_);refine goesL_ (some 115) rfl rfl Try.func35 (by kernel_rfl) rfl #[.slice Ao106 t305.length co106, .int .i64 1] rfl (by (try simp only [List.map_toArray,List.map_cons,List.map_nil]);first | done | rfl | (simp only [List.length_drop,List.length_take];rfl)) ?_;(with_reducible refine (laws_markIntS.calls kj55 (fun k_ => some k_ = (.slice Ao106 t305.length co106 : Value).ownBlock) (.slice Ao106 t305.length co106) t305 1 t329 t330 w _ ?side1 ?side2 A76.out).mono ?_);(case side1 => repeat (first | (with_reducible first | exact HB.out | apply below_alloc | apply pw_below_drewN | apply below_drew1) | exact HB.out));(case side2 => exact Kd.R_tight rfl HO_17.out);rintro e w107 ⟨rfl,hy0,hb,hkp⟩;refine ⟨_,rfl, ?_⟩;have n0_:=Aside0.mk (Kd.R_mono (ok':=fun k_ => some k_ ≠ (.slice Ao106 t305.length co106 : Value).ownBlock) (Kd.R_keptB (HO_12.out) hkp (fun k_ hk_ hs_ => (hk_) hs_)) (fun k_ hk_ => hk_.1));have n1_:=Aside0.mk (Kd.R_reok rfl hy0 (fun k_ e_ => HO_17.out.1 k_ e_));have n2_:=Aside0.mk (hb);clear HO_12;clear HO_17;clear HB;have HO_12:=n0_;have HO_17:=n1_;have HB:=n2_;clear n0_ n1_ n2_;(try clear hb);(try clear hkp);(try clear hy0)) | ((with_reducible refine gate_callee (f:=36) rfl ?_);refine goesL_ (some 118) rfl rfl Try.func36 (by kernel_rfl) rfl #[.slice Ao106 t330.length co106, .int .i64 1] rfl (by (try simp only [List.map_toArray,List.map_cons,List.map_nil]);first | done | (rw [show t330.length = t305.length from (Kd.R_reads' HO_17.out).1.symm] <;> rfl) | rfl | (simp only [List.length_drop,List.length_take];rfl)) ?_;(with_reducible refine (laws_heldIntS.calls kj55 _ _ t330 1 t331 _ ?side1 ?side2 A77.out).mono ?_);(case side1 => repeat (first | exact (Kd.R_reads' HO_17.out).2.2 | (with_reducible refine Kd.C_alloc ?_ _) | (with_reducible refine Kd.C_drewN ?_ _) | (with_reducible refine Kd.C_drew ?_)));(case side2 => rw [show t330.length = t305.length from (Kd.R_reads' HO_17.out).1.symm];exact (Kd.R_reads' HO_17.out).2.1);rintro e w' ⟨rfl,⟨nd,rfl⟩⟩;refine ⟨_,rfl, ?_⟩))
                go_ret
                exact ⟨by first | rfl | (simp [errW_none,errW_some] <;> rfl) | (simp [*,errW_none,errW_some] <;> rfl),by repeat (first | (with_reducible first | exact HB.out | apply below_alloc | apply pw_below_drewN | apply below_drew1) | exact HB.out)⟩
          ·replace c52:=Bool.eq_false_iff.mpr c52
           subst c52
           have H1 : (some false) = some r:=by rw [if_neg (show ¬ (false = true) by decide)] at H;exact H
           clear H
           have H:=H1
           clear H1
           obtain rfl:=Option.some.inj H
           go_wp2_with (first | ((with_reducible refine gate_callee (f:=17) rfl ?_);refine goesL_ (some 78) rfl rfl Try.func17 (by kernel_rfl) rfl #[.slice A0 l0.length c0] rfl (by (try simp only [List.map_toArray,List.map_cons,List.map_nil]);first | done | rfl | (simp only [List.length_drop,List.length_take];rfl)) ?_;(with_reducible refine (laws_toWagonS.calls kj20 _ _ l0 t310 _ ?side1 ?side2 A44.out).mono ?_);(case side1 => repeat (first | exact (Kd.C_below HR0.out HB.out) | (with_reducible refine Kd.C_alloc ?_ _) | (with_reducible refine Kd.C_drewN ?_ _) | (with_reducible refine Kd.C_drew ?_)));(case side2 => exact HC0.out);rintro e w108 ⟨v311,rfl,ho0,hb⟩;refine ⟨_,rfl, ?_⟩;have n0_:=Aside0.mk (Kd.R_below (by (with_reducible repeat (first | apply Kd.R_alloc | apply Kd.R_drewN | apply Kd.R_drew));exact HO_12.out) hb);have n1_:=Aside0.mk (Kd.R_elder' (by (with_reducible repeat (first | apply Kd.R_alloc | apply Kd.R_drewN | apply Kd.R_drew));exact HO_14.out) (Kd.R_base ho0) hb);have n2_:=Aside0.mk (Kd.R_below (by (with_reducible repeat (first | apply Kd.R_alloc | apply Kd.R_drewN | apply Kd.R_drew));exact HO_15.out) hb);have n3_:=Aside0.mk (Kd.R_below (by (with_reducible repeat (first | apply Kd.R_alloc | apply Kd.R_drewN | apply Kd.R_drew));exact HO_16.out) hb);have n4_:=Aside0.mk (Kd.R_below (by (with_reducible repeat (first | apply Kd.R_alloc | apply Kd.R_drewN | apply Kd.R_drew));exact HO_17.out) hb);have n5_:=Aside0.mk (Kd.R_lower (Kd.R_new' ho0 (Kd.R_lt (by (with_reducible repeat (first | apply Kd.R_alloc | apply Kd.R_drewN | apply Kd.R_drew));exact HO_14.out))) (below_size (by repeat (first | (with_reducible first | exact HB.out | apply below_alloc | apply pw_below_drewN | apply below_drew1) | exact HB.out))));have n6_:=Aside0.mk (below_step (by repeat (first | (with_reducible first | exact HB.out | apply below_alloc | apply pw_below_drewN | apply below_drew1) | exact HB.out)) hb);clear HO_12;clear HO_14;clear HO_15;clear HO_16;clear HO_17;clear HB;have HO_12:=n0_;have HO_14:=n1_;have HO_15:=n2_;have HO_16:=n3_;have HO_17:=n4_;have HO312:=n5_;have HB:=n6_;clear n0_ n1_ n2_ n3_ n4_ n5_ n6_;(try clear hb);(try clear hb2);(try clear hk);(try clear hi);(try clear ho0);obtain ⟨Ao109,co109,eo109⟩ := Kd.R_slice HO312.out;subst eo109) | ((with_reducible refine gate_callee (f:=19) rfl ?_);refine goesL_ (some 79) rfl rfl Try.func19 (by kernel_rfl) rfl #[.slice Ao33 t296.length co33, .slice Ao109 t310.length co109] rfl (by (try simp only [List.map_toArray,List.map_cons,List.map_nil]);first | done | rfl | (simp only [List.length_drop,List.length_take];rfl)) ?_;(with_reducible refine (laws_eqWagonS.calls kj20 _ _ t296 _ _ t310 true _ ?side1 ?side2 ?side3 ?side4 A45.out).mono ?_);(case side1 => repeat (first | exact (Kd.R_reads' HO_14.out).2.2 | (with_reducible refine Kd.C_alloc ?_ _) | (with_reducible refine Kd.C_drewN ?_ _) | (with_reducible refine Kd.C_drew ?_)));(case side2 => exact (Kd.R_reads' HO_14.out).2.1);(case side3 => repeat (first | exact (Kd.R_reads' HO312.out).2.2 | (with_reducible refine Kd.C_alloc ?_ _) | (with_reducible refine Kd.C_drewN ?_ _) | (with_reducible refine Kd.C_drew ?_)));(case side4 => exact (Kd.R_reads' HO312.out).2.1);rintro e w110 ⟨rfl,hb⟩;refine ⟨_,rfl, ?_⟩;have n0_:=Aside0.mk (Kd.R_below (by (with_reducible repeat (first | apply Kd.R_alloc | apply Kd.R_drewN | apply Kd.R_drew));exact HO_12.out) hb);have n1_:=Aside0.mk (Kd.R_below (by (with_reducible repeat (first | apply Kd.R_alloc | apply Kd.R_drewN | apply Kd.R_drew));exact HO_14.out) hb);have n2_:=Aside0.mk (Kd.R_below (by (with_reducible repeat (first | apply Kd.R_alloc | apply Kd.R_drewN | apply Kd.R_drew));exact HO_15.out) hb);have n3_:=Aside0.mk (Kd.R_below (by (with_reducible repeat (first | apply Kd.R_alloc | apply Kd.R_drewN | apply Kd.R_drew));exact HO_16.out) hb);have n4_:=Aside0.mk (Kd.R_below (by (with_reducible repeat (first | apply Kd.R_alloc | apply Kd.R_drewN | apply Kd.R_drew));exact HO_17.out) hb);have n5_:=Aside0.mk (Kd.R_below (by (with_reducible repeat (first | apply Kd.R_alloc | apply Kd.R_drewN | apply Kd.R_drew));exact HO312.out) hb);have n6_:=Aside0.mk (below_step (by repeat (first | (with_reducible first | exact HB.out | apply below_alloc | apply pw_below_drewN | apply below_drew1) | exact HB.out)) hb);clear HO_12;clear HO_14;clear HO_15;clear HO_16;clear HO_17;clear HO312;clear HB;have HO_12:=n0_;have HO_14:=n1_;have HO_15:=n2_;have HO_16:=n3_;have HO_17:=n4_;have HO312:=n5_;have HB:=n6_;clear n0_ n1_ n2_ n3_ n4_ n5_ n6_;(try clear hb);(try clear hb2);(try clear hk);(try clear hi)) | ((with_reducible refine gate_callee (f:=22) rfl ?_);refine goesL_ (some 83) rfl rfl Try.func22 (by kernel_rfl) rfl #[.slice A1 l1.length c1] rfl (by (try simp only [List.map_toArray,List.map_cons,List.map_nil]);first | done | rfl | (simp only [List.length_drop,List.length_take];rfl)) ?_;(with_reducible refine (laws_toContainerS.calls kj20 _ _ l1 t314 _ ?side1 ?side2 A47.out).mono ?_);(case side1 => repeat (first | exact (Kd.C_below HR1.out HB.out) | (with_reducible refine Kd.C_alloc ?_ _) | (with_reducible refine Kd.C_drewN ?_ _) | (with_reducible refine Kd.C_drew ?_)));(case side2 => exact HC1.out);rintro e w111 ⟨v315,rfl,ho0,hb⟩;refine ⟨_,rfl, ?_⟩;have n0_:=Aside0.mk (Kd.R_below (by (with_reducible repeat (first | apply Kd.R_alloc | apply Kd.R_drewN | apply Kd.R_drew));exact HO_12.out) hb);have n1_:=Aside0.mk (Kd.R_below (by (with_reducible repeat (first | apply Kd.R_alloc | apply Kd.R_drewN | apply Kd.R_drew));exact HO_14.out) hb);have n2_:=Aside0.mk (Kd.R_elder' (by (with_reducible repeat (first | apply Kd.R_alloc | apply Kd.R_drewN | apply Kd.R_drew));exact HO_15.out) (Kd.R_base ho0) hb);have n3_:=Aside0.mk (Kd.R_below (by (with_reducible repeat (first | apply Kd.R_alloc | apply Kd.R_drewN | apply Kd.R_drew));exact HO_16.out) hb);have n4_:=Aside0.mk (Kd.R_below (by (with_reducible repeat (first | apply Kd.R_alloc | apply Kd.R_drewN | apply Kd.R_drew));exact HO_17.out) hb);have n5_:=Aside0.mk (Kd.R_below (by (with_reducible repeat (first | apply Kd.R_alloc | apply Kd.R_drewN | apply Kd.R_drew));exact HO312.out) hb);have n6_:=Aside0.mk (Kd.R_lower (Kd.R_new' ho0 (Kd.R_lt (by (with_reducible repeat (first | apply Kd.R_alloc | apply Kd.R_drewN | apply Kd.R_drew));exact HO_15.out))) (below_size (by repeat (first | (with_reducible first | exact HB.out | apply below_alloc | apply pw_below_drewN | apply below_drew1) | exact HB.out))));have n7_:=Aside0.mk (below_step (by repeat (first | (with_reducible first | exact HB.out | apply below_alloc | apply pw_below_drewN | apply below_drew1) | exact HB.out)) hb);clear HO_12;clear HO_14;clear HO_15;clear HO_16;clear HO_17;clear HO312;clear HB;have HO_12:=n0_;have HO_14:=n1_;have HO_15:=n2_;have HO_16:=n3_;have HO_17:=n4_;have HO312:=n5_;have HO316:=n6_;have HB:=n7_;clear n0_ n1_ n2_ n3_ n4_ n5_ n6_ n7_;(try clear hb);(try clear hb2);(try clear hk);(try clear hi);(try clear ho0);obtain ⟨Ao112,co112,eo112⟩ := Kd.R_slice HO316.out;subst eo112) | ((with_reducible refine gate_callee (f:=25) rfl ?_);refine goesL_ (some 84) rfl rfl Try.func25 (by kernel_rfl) rfl #[.slice Ao34 t299.length co34, .slice Ao112 t314.length co112] rfl (by (try simp only [List.map_toArray,List.map_cons,List.map_nil]);first | done | rfl | (simp only [List.length_drop,List.length_take];rfl)) ?_;(with_reducible refine (laws_eqContainerS.calls kj20 _ _ t299 _ _ t314 true _ ?side1 ?side2 ?side3 ?side4 A48.out).mono ?_);(case side1 => repeat (first | exact (Kd.R_reads' HO_15.out).2.2 | (with_reducible refine Kd.C_alloc ?_ _) | (with_reducible refine Kd.C_drewN ?_ _) | (with_reducible refine Kd.C_drew ?_)));(case side2 => exact (Kd.R_reads' HO_15.out).2.1);(case side3 => repeat (first | exact (Kd.R_reads' HO316.out).2.2 | (with_reducible refine Kd.C_alloc ?_ _) | (with_reducible refine Kd.C_drewN ?_ _) | (with_reducible refine Kd.C_drew ?_)));(case side4 => exact (Kd.R_reads' HO316.out).2.1);rintro e w113 ⟨rfl,hb⟩;refine ⟨_,rfl, ?_⟩;have n0_:=Aside0.mk (Kd.R_below (by (with_reducible repeat (first | apply Kd.R_alloc | apply Kd.R_drewN | apply Kd.R_drew));exact HO_12.out) hb);have n1_:=Aside0.mk (Kd.R_below (by (with_reducible repeat (first | apply Kd.R_alloc | apply Kd.R_drewN | apply Kd.R_drew));exact HO_14.out) hb);have n2_:=Aside0.mk (Kd.R_below (by (with_reducible repeat (first | apply Kd.R_alloc | apply Kd.R_drewN | apply Kd.R_drew));exact HO_15.out) hb);have n3_:=Aside0.mk (Kd.R_below (by (with_reducible repeat (first | apply Kd.R_alloc | apply Kd.R_drewN | apply Kd.R_drew));exact HO_16.out) hb);have n4_:=Aside0.mk (Kd.R_below (by (with_reducible repeat (first | apply Kd.R_alloc | apply Kd.R_drewN | apply Kd.R_drew));exact HO_17.out) hb);have n5_:=Aside0.mk (Kd.R_below (by (with_reducible repeat (first | apply Kd.R_alloc | apply Kd.R_drewN | apply Kd.R_drew));exact HO312.out) hb);have n6_:=Aside0.mk (Kd.R_below (by (with_reducible repeat (first | apply Kd.R_alloc | apply Kd.R_drewN | apply Kd.R_drew));exact HO316.out) hb);have n7_:=Aside0.mk (below_step (by repeat (first | (with_reducible first | exact HB.out | apply below_alloc | apply pw_below_drewN | apply below_drew1) | exact HB.out)) hb);clear HO_12;clear HO_14;clear HO_15;clear HO_16;clear HO_17;clear HO312;clear HO316;clear HB;have HO_12:=n0_;have HO_14:=n1_;have HO_15:=n2_;have HO_16:=n3_;have HO_17:=n4_;have HO312:=n5_;have HO316:=n6_;have HB:=n7_;clear n0_ n1_ n2_ n3_ n4_ n5_ n6_ n7_;(try clear hb);(try clear hb2);(try clear hk);(try clear hi)) | ((with_reducible refine gate_callee (f:=23) rfl ?_);refine goesL_ (some 88) rfl rfl Try.func23 (by kernel_rfl) rfl #[.slice A2 l2.length c2] rfl (by (try simp only [List.map_toArray,List.map_cons,List.map_nil]);first | done | rfl | (simp only [List.length_drop,List.length_take];rfl)) ?_;(with_reducible refine (laws_toIntS.calls kj20 _ _ l2 t318 _ ?side1 ?side2 A50.out).mono ?_);(case side1 => repeat (first | exact (Kd.C_below HR2.out HB.out) | (with_reducible refine Kd.C_alloc ?_ _) | (with_reducible refine Kd.C_drewN ?_ _) | (with_reducible refine Kd.C_drew ?_)));(case side2 => exact HC2.out);rintro e w114 ⟨v319,rfl,ho0,hb⟩;refine ⟨_,rfl, ?_⟩;have n0_:=Aside0.mk (Kd.R_elder' (by (with_reducible repeat (first | apply Kd.R_alloc | apply Kd.R_drewN | apply Kd.R_drew));exact HO_12.out) (Kd.R_base ho0) hb);have n1_:=Aside0.mk (Kd.R_below (by (with_reducible repeat (first | apply Kd.R_alloc | apply Kd.R_drewN | apply Kd.R_drew));exact HO_14.out) hb);have n2_:=Aside0.mk (Kd.R_below (by (with_reducible repeat (first | apply Kd.R_alloc | apply Kd.R_drewN | apply Kd.R_drew));exact HO_15.out) hb);have n3_:=Aside0.mk (Kd.R_elder' (by (with_reducible repeat (first | apply Kd.R_alloc | apply Kd.R_drewN | apply Kd.R_drew));exact HO_16.out) (Kd.R_base ho0) hb);have n4_:=Aside0.mk (Kd.R_elder' (by (with_reducible repeat (first | apply Kd.R_alloc | apply Kd.R_drewN | apply Kd.R_drew));exact HO_17.out) (Kd.R_base ho0) hb);have n5_:=Aside0.mk (Kd.R_below (by (with_reducible repeat (first | apply Kd.R_alloc | apply Kd.R_drewN | apply Kd.R_drew));exact HO312.out) hb);have n6_:=Aside0.mk (Kd.R_below (by (with_reducible repeat (first | apply Kd.R_alloc | apply Kd.R_drewN | apply Kd.R_drew));exact HO316.out) hb);have n7_:=Aside0.mk (Kd.R_lower (Kd.R_new' (Kd.R_new' (Kd.R_new' ho0 (Kd.R_lt (by (with_reducible repeat (first | apply Kd.R_alloc | apply Kd.R_drewN | apply Kd.R_drew));exact HO_12.out))) (Kd.R_lt (by (with_reducible repeat (first | apply Kd.R_alloc | apply Kd.R_drewN | apply Kd.R_drew));exact HO_16.out))) (Kd.R_lt (by (with_reducible repeat (first | apply Kd.R_alloc | apply Kd.R_drewN | apply Kd.R_drew));exact HO_17.out))) (below_size (by repeat (first | (with_reducible first | exact HB.out | apply below_alloc | apply pw_below_drewN | apply below_drew1) | exact HB.out))));have n8_:=Aside0.mk (below_step (by repeat (first | (with_reducible first | exact HB.out | apply below_alloc | apply pw_below_drewN | apply below_drew1) | exact HB.out)) hb);clear HO_12;clear HO_14;clear HO_15;clear HO_16;clear HO_17;clear HO312;clear HO316;clear HB;have HO_12:=n0_;have HO_14:=n1_;have HO_15:=n2_;have HO_16:=n3_;have HO_17:=n4_;have HO312:=n5_;have HO316:=n6_;have HO320:=n7_;have HB:=n8_;clear n0_ n1_ n2_ n3_ n4_ n5_ n6_ n7_ n8_;(try clear hb);(try clear hb2);(try clear hk);(try clear hi);(try clear ho0);obtain ⟨Ao115,co115,eo115⟩ := Kd.R_slice HO320.out;subst eo115) | ((with_reducible refine gate_callee (f:=26) rfl ?_);refine goesL_ (some 89) rfl rfl Try.func26 (by kernel_rfl) rfl #[.slice Ao35 t302.length co35, .slice Ao115 t318.length co115] rfl (by (try simp only [List.map_toArray,List.map_cons,List.map_nil]);first | done | rfl | (simp only [List.length_drop,List.length_take];rfl)) ?_;(with_reducible refine (laws_eqIntS.calls kj20 _ _ t302 _ _ t318 false _ ?side1 ?side2 ?side3 ?side4 A51.out).mono ?_);(case side1 => repeat (first | exact (Kd.R_reads' HO_16.out).2.2 | (with_reducible refine Kd.C_alloc ?_ _) | (with_reducible refine Kd.C_drewN ?_ _) | (with_reducible refine Kd.C_drew ?_)));(case side2 => exact (Kd.R_reads' HO_16.out).2.1);(case side3 => repeat (first | exact (Kd.R_reads' HO320.out).2.2 | (with_reducible refine Kd.C_alloc ?_ _) | (with_reducible refine Kd.C_drewN ?_ _) | (with_reducible refine Kd.C_drew ?_)));(case side4 => exact (Kd.R_reads' HO320.out).2.1);rintro e w' ⟨rfl,⟨nd,rfl⟩⟩;refine ⟨_,rfl, ?_⟩))
           go_ret
           exact ⟨by first | rfl | (simp [errW_none,errW_some] <;> rfl) | (simp [*,errW_none,errW_some] <;> rfl),by repeat (first | (with_reducible first | exact HB.out | apply below_alloc | apply pw_below_drewN | apply below_drew1) | exact HB.out)⟩
         ·replace c49:=Bool.eq_false_iff.mpr c49
          subst c49
          have H1 : (some false) = some r:=by rw [if_neg (show ¬ (false = true) by decide)] at H;exact H
          clear H
          have H:=H1
          clear H1
          obtain rfl:=Option.some.inj H
          go_wp2_with (first | ((with_reducible refine gate_callee (f:=17) rfl ?_);refine goesL_ (some 78) rfl rfl Try.func17 (by kernel_rfl) rfl #[.slice A0 l0.length c0] rfl (by (try simp only [List.map_toArray,List.map_cons,List.map_nil]);first | done | rfl | (simp only [List.length_drop,List.length_take];rfl)) ?_;(with_reducible refine (laws_toWagonS.calls kj20 _ _ l0 t310 _ ?side1 ?side2 A44.out).mono ?_);(case side1 => repeat (first | exact (Kd.C_below HR0.out HB.out) | (with_reducible refine Kd.C_alloc ?_ _) | (with_reducible refine Kd.C_drewN ?_ _) | (with_reducible refine Kd.C_drew ?_)));(case side2 => exact HC0.out);rintro e w116 ⟨v311,rfl,ho0,hb⟩;refine ⟨_,rfl, ?_⟩;have n0_:=Aside0.mk (Kd.R_below (by (with_reducible repeat (first | apply Kd.R_alloc | apply Kd.R_drewN | apply Kd.R_drew));exact HO_12.out) hb);have n1_:=Aside0.mk (Kd.R_elder' (by (with_reducible repeat (first | apply Kd.R_alloc | apply Kd.R_drewN | apply Kd.R_drew));exact HO_14.out) (Kd.R_base ho0) hb);have n2_:=Aside0.mk (Kd.R_below (by (with_reducible repeat (first | apply Kd.R_alloc | apply Kd.R_drewN | apply Kd.R_drew));exact HO_15.out) hb);have n3_:=Aside0.mk (Kd.R_below (by (with_reducible repeat (first | apply Kd.R_alloc | apply Kd.R_drewN | apply Kd.R_drew));exact HO_16.out) hb);have n4_:=Aside0.mk (Kd.R_below (by (with_reducible repeat (first | apply Kd.R_alloc | apply Kd.R_drewN | apply Kd.R_drew));exact HO_17.out) hb);have n5_:=Aside0.mk (Kd.R_lower (Kd.R_new' ho0 (Kd.R_lt (by (with_reducible repeat (first | apply Kd.R_alloc | apply Kd.R_drewN | apply Kd.R_drew));exact HO_14.out))) (below_size (by repeat (first | (with_reducible first | exact HB.out | apply below_alloc | apply pw_below_drewN | apply below_drew1) | exact HB.out))));have n6_:=Aside0.mk (below_step (by repeat (first | (with_reducible first | exact HB.out | apply below_alloc | apply pw_below_drewN | apply below_drew1) | exact HB.out)) hb);clear HO_12;clear HO_14;clear HO_15;clear HO_16;clear HO_17;clear HB;have HO_12:=n0_;have HO_14:=n1_;have HO_15:=n2_;have HO_16:=n3_;have HO_17:=n4_;have HO312:=n5_;have HB:=n6_;clear n0_ n1_ n2_ n3_ n4_ n5_ n6_;(try clear hb);(try clear hb2);(try clear hk);(try clear hi);(try clear ho0);obtain ⟨Ao117,co117,eo117⟩ := Kd.R_slice HO312.out;subst eo117) | ((with_reducible refine gate_callee (f:=19) rfl ?_);refine goesL_ (some 79) rfl rfl Try.func19 (by kernel_rfl) rfl #[.slice Ao33 t296.length co33, .slice Ao117 t310.length co117] rfl (by (try simp only [List.map_toArray,List.map_cons,List.map_nil]);first | done | rfl | (simp only [List.length_drop,List.length_take];rfl)) ?_;(with_reducible refine (laws_eqWagonS.calls kj20 _ _ t296 _ _ t310 true _ ?side1 ?side2 ?side3 ?side4 A45.out).mono ?_);(case side1 => repeat (first | exact (Kd.R_reads' HO_14.out).2.2 | (with_reducible refine Kd.C_alloc ?_ _) | (with_reducible refine Kd.C_drewN ?_ _) | (with_reducible refine Kd.C_drew ?_)));(case side2 => exact (Kd.R_reads' HO_14.out).2.1);(case side3 => repeat (first | exact (Kd.R_reads' HO312.out).2.2 | (with_reducible refine Kd.C_alloc ?_ _) | (with_reducible refine Kd.C_drewN ?_ _) | (with_reducible refine Kd.C_drew ?_)));(case side4 => exact (Kd.R_reads' HO312.out).2.1);rintro e w118 ⟨rfl,hb⟩;refine ⟨_,rfl, ?_⟩;have n0_:=Aside0.mk (Kd.R_below (by (with_reducible repeat (first | apply Kd.R_alloc | apply Kd.R_drewN | apply Kd.R_drew));exact HO_12.out) hb);have n1_:=Aside0.mk (Kd.R_below (by (with_reducible repeat (first | apply Kd.R_alloc | apply Kd.R_drewN | apply Kd.R_drew));exact HO_14.out) hb);have n2_:=Aside0.mk (Kd.R_below (by (with_reducible repeat (first | apply Kd.R_alloc | apply Kd.R_drewN | apply Kd.R_drew));exact HO_15.out) hb);have n3_:=Aside0.mk (Kd.R_below (by (with_reducible repeat (first | apply Kd.R_alloc | apply Kd.R_drewN | apply Kd.R_drew));exact HO_16.out) hb);have n4_:=Aside0.mk (Kd.R_below (by (with_reducible repeat (first | apply Kd.R_alloc | apply Kd.R_drewN | apply Kd.R_drew));exact HO_17.out) hb);have n5_:=Aside0.mk (Kd.R_below (by (with_reducible repeat (first | apply Kd.R_alloc | apply Kd.R_drewN | apply Kd.R_drew));exact HO312.out) hb);have n6_:=Aside0.mk (below_step (by repeat (first | (with_reducible first | exact HB.out | apply below_alloc | apply pw_below_drewN | apply below_drew1) | exact HB.out)) hb);clear HO_12;clear HO_14;clear HO_15;clear HO_16;clear HO_17;clear HO312;clear HB;have HO_12:=n0_;have HO_14:=n1_;have HO_15:=n2_;have HO_16:=n3_;have HO_17:=n4_;have HO312:=n5_;have HB:=n6_;clear n0_ n1_ n2_ n3_ n4_ n5_ n6_;(try clear hb);(try clear hb2);(try clear hk);(try clear hi)) | ((with_reducible refine gate_callee (f:=22) rfl ?_);refine goesL_ (some 83) rfl rfl Try.func22 (by kernel_rfl) rfl #[.slice A1 l1.length c1] rfl (by (try simp only [List.map_toArray,List.map_cons,List.map_nil]);first | done | rfl | (simp only [List.length_drop,List.length_take];rfl)) ?_;(with_reducible refine (laws_toContainerS.calls kj20 _ _ l1 t314 _ ?side1 ?side2 A47.out).mono ?_);(case side1 => repeat (first | exact (Kd.C_below HR1.out HB.out) | (with_reducible refine Kd.C_alloc ?_ _) | (with_reducible refine Kd.C_drewN ?_ _) | (with_reducible refine Kd.C_drew ?_)));(case side2 => exact HC1.out);rintro e w119 ⟨v315,rfl,ho0,hb⟩;refine ⟨_,rfl, ?_⟩;have n0_:=Aside0.mk (Kd.R_below (by (with_reducible repeat (first | apply Kd.R_alloc | apply Kd.R_drewN | apply Kd.R_drew));exact HO_12.out) hb);have n1_:=Aside0.mk (Kd.R_below (by (with_reducible repeat (first | apply Kd.R_alloc | apply Kd.R_drewN | apply Kd.R_drew));exact HO_14.out) hb);have n2_:=Aside0.mk (Kd.R_elder' (by (with_reducible repeat (first | apply Kd.R_alloc | apply Kd.R_drewN | apply Kd.R_drew));exact HO_15.out) (Kd.R_base ho0) hb);have n3_:=Aside0.mk (Kd.R_below (by (with_reducible repeat (first | apply Kd.R_alloc | apply Kd.R_drewN | apply Kd.R_drew));exact HO_16.out) hb);have n4_:=Aside0.mk (Kd.R_below (by (with_reducible repeat (first | apply Kd.R_alloc | apply Kd.R_drewN | apply Kd.R_drew));exact HO_17.out) hb);have n5_:=Aside0.mk (Kd.R_below (by (with_reducible repeat (first | apply Kd.R_alloc | apply Kd.R_drewN | apply Kd.R_drew));exact HO312.out) hb);have n6_:=Aside0.mk (Kd.R_lower (Kd.R_new' ho0 (Kd.R_lt (by (with_reducible repeat (first | apply Kd.R_alloc | apply Kd.R_drewN | apply Kd.R_drew));exact HO_15.out))) (below_size (by repeat (first | (with_reducible first | exact HB.out | apply below_alloc | apply pw_below_drewN | apply below_drew1) | exact HB.out))));have n7_:=Aside0.mk (below_step (by repeat (first | (with_reducible first | exact HB.out | apply below_alloc | apply pw_below_drewN | apply below_drew1) | exact HB.out)) hb);clear HO_12;clear HO_14;clear HO_15;clear HO_16;clear HO_17;clear HO312;clear HB;have HO_12:=n0_;have HO_14:=n1_;have HO_15:=n2_;have HO_16:=n3_;have HO_17:=n4_;have HO312:=n5_;have HO316:=n6_;have HB:=n7_;clear n0_ n1_ n2_ n3_ n4_ n5_ n6_ n7_;(try clear hb);(try clear hb2);(try clear hk);(try clear hi);(try clear ho0);obtain ⟨Ao120,co120,eo120⟩ := Kd.R_slice HO316.out;subst eo120) | ((with_reducible refine gate_callee (f:=25) rfl ?_);refine goesL_ (some 84) rfl rfl Try.func25 (by kernel_rfl) rfl #[.slice Ao34 t299.length co34, .slice Ao120 t314.length co120] rfl (by (try simp only [List.map_toArray,List.map_cons,List.map_nil]);first | done | rfl | (simp only [List.length_drop,List.length_take];rfl)) ?_;(with_reducible refine (laws_eqContainerS.calls kj20 _ _ t299 _ _ t314 false _ ?side1 ?side2 ?side3 ?side4 A48.out).mono ?_);(case side1 => repeat (first | exact (Kd.R_reads' HO_15.out).2.2 | (with_reducible refine Kd.C_alloc ?_ _) | (with_reducible refine Kd.C_drewN ?_ _) | (with_reducible refine Kd.C_drew ?_)));(case side2 => exact (Kd.R_reads' HO_15.out).2.1);(case side3 => repeat (first | exact (Kd.R_reads' HO316.out).2.2 | (with_reducible refine Kd.C_alloc ?_ _) | (with_reducible refine Kd.C_drewN ?_ _) | (with_reducible refine Kd.C_drew ?_)));(case side4 => exact (Kd.R_reads' HO316.out).2.1);rintro e w121 ⟨rfl,hb⟩;refine ⟨_,rfl, ?_⟩;have n0_:=Aside0.mk (Kd.R_below (by (with_reducible repeat (first | apply Kd.R_alloc | apply Kd.R_drewN | apply Kd.R_drew));exact HO_12.out) hb);have n1_:=Aside0.mk (Kd.R_below (by (with_reducible repeat (first | apply Kd.R_alloc | apply Kd.R_drewN | apply Kd.R_drew));exact HO_14.out) hb);have n2_:=Aside0.mk (Kd.R_below (by (with_reducible repeat (first | apply Kd.R_alloc | apply Kd.R_drewN | apply Kd.R_drew));exact HO_15.out) hb);have n3_:=Aside0.mk (Kd.R_below (by (with_reducible repeat (first | apply Kd.R_alloc | apply Kd.R_drewN | apply Kd.R_drew));exact HO_16.out) hb);have n4_:=Aside0.mk (Kd.R_below (by (with_reducible repeat (first | apply Kd.R_alloc | apply Kd.R_drewN | apply Kd.R_drew));exact HO_17.out) hb);have n5_:=Aside0.mk (Kd.R_below (by (with_reducible repeat (first | apply Kd.R_alloc | apply Kd.R_drewN | apply Kd.R_drew));exact HO312.out) hb);have n6_:=Aside0.mk (Kd.R_below (by (with_reducible repeat (first | apply Kd.R_alloc | apply Kd.R_drewN | apply Kd.R_drew));exact HO316.out) hb);have n7_:=Aside0.mk (below_step (by repeat (first | (with_reducible first | exact HB.out | apply below_alloc | apply pw_below_drewN | apply below_drew1) | exact HB.out)) hb);clear HO_12;clear HO_14;clear HO_15;clear HO_16;clear HO_17;clear HO312;clear HO316;clear HB;have HO_12:=n0_;have HO_14:=n1_;have HO_15:=n2_;have HO_16:=n3_;have HO_17:=n4_;have HO312:=n5_;have HO316:=n6_;have HB:=n7_;clear n0_ n1_ n2_ n3_ n4_ n5_ n6_ n7_;(try clear hb);(try clear hb2);(try clear hk);(try clear hi)))
          go_ret
          exact ⟨by first | rfl | (simp [errW_none,errW_some] <;> rfl) | (simp [*,errW_none,errW_some] <;> rfl),by repeat (first | (with_reducible first | exact HB.out | apply below_alloc | apply pw_below_drewN | apply below_drew1) | exact HB.out)⟩
        ·replace c46:=Bool.eq_false_iff.mpr c46
         subst c46
         have H1 : (some false) = some r:=by rw [if_neg (show ¬ (false = true) by decide)] at H;exact H
         clear H
         have H:=H1
         clear H1
         obtain rfl:=Option.some.inj H
         go_wp2_with (first | ((with_reducible refine gate_callee (f:=17) rfl ?_);refine goesL_ (some 78) rfl rfl Try.func17 (by kernel_rfl) rfl #[.slice A0 l0.length c0] rfl (by (try simp only [List.map_toArray,List.map_cons,List.map_nil]);first | done | rfl | (simp only [List.length_drop,List.length_take];rfl)) ?_;(with_reducible refine (laws_toWagonS.calls kj20 _ _ l0 t310 _ ?side1 ?side2 A44.out).mono ?_);(case side1 => repeat (first | exact (Kd.C_below HR0.out HB.out) | (with_reducible refine Kd.C_alloc ?_ _) | (with_reducible refine Kd.C_drewN ?_ _) | (with_reducible refine Kd.C_drew ?_)));(case side2 => exact HC0.out);rintro e w122 ⟨v311,rfl,ho0,hb⟩;refine ⟨_,rfl, ?_⟩;have n0_:=Aside0.mk (Kd.R_below (by (with_reducible repeat (first | apply Kd.R_alloc | apply Kd.R_drewN | apply Kd.R_drew));exact HO_12.out) hb);have n1_:=Aside0.mk (Kd.R_elder' (by (with_reducible repeat (first | apply Kd.R_alloc | apply Kd.R_drewN | apply Kd.R_drew));exact HO_14.out) (Kd.R_base ho0) hb);have n2_:=Aside0.mk (Kd.R_below (by (with_reducible repeat (first | apply Kd.R_alloc | apply Kd.R_drewN | apply Kd.R_drew));exact HO_15.out) hb);have n3_:=Aside0.mk (Kd.R_below (by (with_reducible repeat (first | apply Kd.R_alloc | apply Kd.R_drewN | apply Kd.R_drew));exact HO_16.out) hb);have n4_:=Aside0.mk (Kd.R_below (by (with_reducible repeat (first | apply Kd.R_alloc | apply Kd.R_drewN | apply Kd.R_drew));exact HO_17.out) hb);have n5_:=Aside0.mk (Kd.R_lower (Kd.R_new' ho0 (Kd.R_lt (by (with_reducible repeat (first | apply Kd.R_alloc | apply Kd.R_drewN | apply Kd.R_drew));exact HO_14.out))) (below_size (by repeat (first | (with_reducible first | exact HB.out | apply below_alloc | apply pw_below_drewN | apply below_drew1) | exact HB.out))));have n6_:=Aside0.mk (below_step (by repeat (first | (with_reducible first | exact HB.out | apply below_alloc | apply pw_below_drewN | apply below_drew1) | exact HB.out)) hb);clear HO_12;clear HO_14;clear HO_15;clear HO_16;clear HO_17;clear HB;have HO_12:=n0_;have HO_14:=n1_;have HO_15:=n2_;have HO_16:=n3_;have HO_17:=n4_;have HO312:=n5_;have HB:=n6_;clear n0_ n1_ n2_ n3_ n4_ n5_ n6_;(try clear hb);(try clear hb2);(try clear hk);(try clear hi);(try clear ho0);obtain ⟨Ao123,co123,eo123⟩ := Kd.R_slice HO312.out;subst eo123) | ((with_reducible refine gate_callee (f:=19) rfl ?_);refine goesL_ (some 79) rfl rfl Try.func19 (by kernel_rfl) rfl #[.slice Ao33 t296.length co33, .slice Ao123 t310.length co123] rfl (by (try simp only [List.map_toArray,List.map_cons,List.map_nil]);first | done | rfl | (simp only [List.length_drop,List.length_take];rfl)) ?_;(with_reducible refine (laws_eqWagonS.calls kj20 _ _ t296 _ _ t310 false _ ?side1 ?side2 ?side3 ?side4 A45.out).mono ?_);(case side1 => repeat (first | exact (Kd.R_reads' HO_14.out).2.2 | (with_reducible refine Kd.C_alloc ?_ _) | (with_reducible refine Kd.C_drewN ?_ _) | (with_reducible refine Kd.C_drew ?_)));(case side2 => exact (Kd.R_reads' HO_14.out).2.1);(case side3 => repeat (first | exact (Kd.R_reads' HO312.out).2.2 | (with_reducible refine Kd.C_alloc ?_ _) | (with_reducible refine Kd.C_drewN ?_ _) | (with_reducible refine Kd.C_drew ?_)));(case side4 => exact (Kd.R_reads' HO312.out).2.1);rintro e w124 ⟨rfl,hb⟩;refine ⟨_,rfl, ?_⟩;have n0_:=Aside0.mk (Kd.R_below (by (with_reducible repeat (first | apply Kd.R_alloc | apply Kd.R_drewN | apply Kd.R_drew));exact HO_12.out) hb);have n1_:=Aside0.mk (Kd.R_below (by (with_reducible repeat (first | apply Kd.R_alloc | apply Kd.R_drewN | apply Kd.R_drew));exact HO_14.out) hb);have n2_:=Aside0.mk (Kd.R_below (by (with_reducible repeat (first | apply Kd.R_alloc | apply Kd.R_drewN | apply Kd.R_drew));exact HO_15.out) hb);have n3_:=Aside0.mk (Kd.R_below (by (with_reducible repeat (first | apply Kd.R_alloc | apply Kd.R_drewN | apply Kd.R_drew));exact HO_16.out) hb);have n4_:=Aside0.mk (Kd.R_below (by (with_reducible repeat (first | apply Kd.R_alloc | apply Kd.R_drewN | apply Kd.R_drew));exact HO_17.out) hb);have n5_:=Aside0.mk (Kd.R_below (by (with_reducible repeat (first | apply Kd.R_alloc | apply Kd.R_drewN | apply Kd.R_drew));exact HO312.out) hb);have n6_:=Aside0.mk (below_step (by repeat (first | (with_reducible first | exact HB.out | apply below_alloc | apply pw_below_drewN | apply below_drew1) | exact HB.out)) hb);clear HO_12;clear HO_14;clear HO_15;clear HO_16;clear HO_17;clear HO312;clear HB;have HO_12:=n0_;have HO_14:=n1_;have HO_15:=n2_;have HO_16:=n3_;have HO_17:=n4_;have HO312:=n5_;have HB:=n6_;clear n0_ n1_ n2_ n3_ n4_ n5_ n6_;(try clear hb);(try clear hb2);(try clear hk);(try clear hi)))
         go_ret
         exact ⟨by first | rfl | (simp [errW_none,errW_some] <;> rfl) | (simp [*,errW_none,errW_some] <;> rfl),by repeat (first | (with_reducible first | exact HB.out | apply below_alloc | apply pw_below_drewN | apply below_drew1) | exact HB.out)⟩

end Go.Proofs.Ythfbnadlpninaaa.PFnExactMoveToWagon
