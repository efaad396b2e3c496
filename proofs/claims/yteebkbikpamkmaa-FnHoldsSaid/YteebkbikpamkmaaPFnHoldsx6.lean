-- Written by a program of this session, over the kit's print (wip/xprint.py)
import Derived.Test.YteebkbikpamkmaaPFnHoldsx0
import Derived.Test.YteebkbikpamkmaaPFnHoldsx4
import Derived.Test.YteebkbikpamkmaaPFnHoldsx5
namespace Go.Proofs.Yteebkbikpamkmaa.PFnHolds
open Go.RowKit Go.Proofs.YteebkbikpamkmaaW.PrintWords Go.Proofs.YteebkbikpamkmaaW.PrintLast Go.Proofs.YteebkbikpamkmaaW.PrintMore
attribute [local go_sem] max2_int min2_int max_two min_two max_three min_three max_four min_four   -- for this text's walks alone
set_option linter.unusedVariables false
set_option linter.unusedSimpArgs false

/-! ### impl_IsValidFile: function 11 -/
def impl_IsValidFile.f (k : Nat) (l0 : List (S52)) : Option (Bool):=(impl_conflictIn.f k l0).bind fun t287 => (some (t287 == (l0.length : Int)))
theorem impl_IsValidFile.mono : ∀ a0 k,LeO (impl_IsValidFile.f k a0) (impl_IsValidFile.f (k + 1) a0):=by
 intro a0 k
 unfold impl_IsValidFile.f
 repeat' first
   | (with_reducible exact impl_conflictIn.mono _ _)
   | (with_reducible exact LeO.refl _)
   | (with_reducible exact LeO.none _)
   | (with_reducible refine LeO.ite ?_ ?_)
   | (with_reducible refine LeO.bind ?_ (fun _ => ?_))
   | exact impl_conflictIn.mono _ _
   | exact LeO.none _
   | refine LeO.ite ?_ ?_
   | refine LeO.bind ?_ (fun _ => ?_)
set_option maxHeartbeats 8000000 in
set_option maxRecDepth 100000 in
theorem impl_IsValidFile.calls (k : Nat) (A0 : Option Addr) (c0 : Nat) (l0 : List (S52)) (r : Bool) (w : World) (hr0 : Kd.C k52 w A0 l0.length l0) (hc0 : l0.length ≤ c0) (h : impl_IsValidFile.f k l0 = some r) :
  Calls Try.prog 11 #[.slice A0 l0.length c0] w fun e w' => e = .returned (.bool r) ∧ Below w.heap.size w w':=by
 have HR0:=Aside0.mk hr0
 have HC0:=Aside0.mk hc0
 clear hr0 hc0
 have HB:=Aside0.mk (Below.refl w.heap.size w)
 have H : ((impl_conflictIn.f k l0).bind fun t287 => (some (t287 == (l0.length : Int)))) = some r:=h
 clear h
 replace H:=Option.bind_eq_some_iff.mp H
 obtain ⟨t287,A20,H⟩ := H
 replace H : (some (t287 == (l0.length : Int))) = some r:=H
 have A2:=Aside0.mk A20
 clear A20
 obtain rfl:=Option.some.inj H
 go_enter Try.func11,Try.ntmps11
 go_wp2_with (((with_reducible refine gate_callee (f:=36) rfl ?_);refine goesL_ (some 4) rfl rfl Try.func36 (by kernel_rfl) rfl #[.slice A0 l0.length c0] rfl (by (try simp only [List.map_toArray,List.map_cons,List.map_nil]);rfl) ?_;(with_reducible refine (impl_conflictIn.calls k _ _ l0 t287 _ ?side1 ?side2 A2.out).mono ?_);(case side1 => repeat (exact HR0.out));(case side2 => exact HC0.out);rintro e w3 ⟨rfl,hb⟩;refine ⟨_,rfl, ?_⟩;have n0_:=Aside0.mk (below_step (by exact HB.out) hb);clear HB;have HB:=n0_;clear n0_;(try clear hb)))
 go_ret
 exact ⟨by rfl,by exact HB.out⟩

/-! ### impl_isFileAt: function 28 -/
def impl_isFileAt.f (k : Nat) (l0 : List (S52)) (a1 : ByteArray) (a2 : Int) : Option (Bool):=(impl_IsValidFile.f k l0).bind fun t288 => (if t288 = true then ((impl_IsValidId.f k a1).bind fun t289 => (if t289 = true then ((impl_within.f a2 0 240).bind fun t290 => (some t290)) else (some false))) else (some false))
theorem impl_isFileAt.mono : ∀ a0 a1 a2 k,LeO (impl_isFileAt.f k a0 a1 a2) (impl_isFileAt.f (k + 1) a0 a1 a2):=by
 intro a0 a1 a2 k
 unfold impl_isFileAt.f
 repeat' first
   | (with_reducible exact impl_IsValidFile.mono _ _)
   | (with_reducible exact impl_IsValidId.mono _ _)
   | (with_reducible exact LeO.refl _)
   | (with_reducible exact LeO.none _)
   | (with_reducible refine LeO.ite ?_ ?_)
   | (with_reducible refine LeO.bind ?_ (fun _ => ?_))
   | exact impl_IsValidFile.mono _ _
   | exact impl_IsValidId.mono _ _
   | exact LeO.none _
   | refine LeO.ite ?_ ?_
   | refine LeO.bind ?_ (fun _ => ?_)
set_option maxHeartbeats 8000000 in
set_option maxRecDepth 100000 in
theorem impl_isFileAt.calls (k : Nat) (A0 : Option Addr) (c0 : Nat) (l0 : List (S52)) (a1 : ByteArray) (a2 : Int) (r : Bool) (w : World) (hr0 : Kd.C k52 w A0 l0.length l0) (hc0 : l0.length ≤ c0) (h : impl_isFileAt.f k l0 a1 a2 = some r) :
  Calls Try.prog 28 #[.slice A0 l0.length c0, .string a1, .int .i64 a2] w fun e w' => e = .returned (.bool r) ∧ Below w.heap.size w w':=by
 have HR0:=Aside0.mk hr0
 have HC0:=Aside0.mk hc0
 clear hr0 hc0
 have HB:=Aside0.mk (Below.refl w.heap.size w)
 have H : ((impl_IsValidFile.f k l0).bind fun t288 => (if t288 = true then ((impl_IsValidId.f k a1).bind fun t289 => (if t289 = true then ((impl_within.f a2 0 240).bind fun t290 => (some t290)) else (some false))) else (some false))) = some r:=h
 clear h
 replace H:=Option.bind_eq_some_iff.mp H
 obtain ⟨t288,A40,H⟩ := H
 replace H : (if t288 = true then ((impl_IsValidId.f k a1).bind fun t289 => (if t289 = true then ((impl_within.f a2 0 240).bind fun t290 => (some t290)) else (some false))) else (some false)) = some r:=H
 have A4:=Aside0.mk A40
 clear A40
 by_cases c5 : t288 = true
 ·subst c5
  have H1 : ((impl_IsValidId.f k a1).bind fun t289 => (if t289 = true then ((impl_within.f a2 0 240).bind fun t290 => (some t290)) else (some false))) = some r:=by rw [if_pos rfl] at H;exact H
  clear H
  have H:=H1
  clear H1
  replace H:=Option.bind_eq_some_iff.mp H
  obtain ⟨t289,A60,H⟩ := H
  replace H : (if t289 = true then ((impl_within.f a2 0 240).bind fun t290 => (some t290)) else (some false)) = some r:=H
  have A6:=Aside0.mk A60
  clear A60
  by_cases c7 : t289 = true
  ·subst c7
   have H1 : ((impl_within.f a2 0 240).bind fun t290 => (some t290)) = some r:=by rw [if_pos rfl] at H;exact H
   clear H
   have H:=H1
   clear H1
   replace H:=Option.bind_eq_some_iff.mp H
   obtain ⟨t290,A80,H⟩ := H
   replace H : (some t290) = some r:=H
   have A8:=Aside0.mk A80
   clear A80
   obtain rfl:=Option.some.inj H
   go_enter Try.func28,Try.ntmps28
   go_wp2_with (first | ((with_reducible refine gate_callee (f:=11) rfl ?_);refine goesL_ (some 8) rfl rfl Try.func11 (by kernel_rfl) rfl #[.slice A0 l0.length c0] rfl (by (try simp only [List.map_toArray,List.map_cons,List.map_nil]);rfl) ?_;(with_reducible refine (impl_IsValidFile.calls k _ _ l0 true _ ?side1 ?side2 A4.out).mono ?_);(case side1 => repeat (exact HR0.out));(case side2 => exact HC0.out);rintro e w9 ⟨rfl,hb⟩;refine ⟨_,rfl, ?_⟩;have n0_:=Aside0.mk (below_step (by exact HB.out) hb);clear HB;have HB:=n0_;clear n0_;(try clear hb)) | (go_at_call 51;(with_reducible refine (impl_IsValidId.calls k a1 true _ A6.out).mono ?_);rintro e w' ⟨rfl,⟨nd,rfl⟩⟩) | (go_at_call 39;(with_reducible refine (impl_within.calls a2 0 240 t290 _ A8.out).mono ?_);rintro e w' ⟨rfl,⟨nd,rfl⟩⟩))
   go_ret
   exact ⟨by rfl,by repeat ((with_reducible first | exact HB.out | apply pw_below_drewN))⟩
  ·replace c7:=Bool.eq_false_iff.mpr c7
   subst c7
   have H1 : (some false) = some r:=by rw [if_neg (show ¬ (false = true) by decide)] at H;exact H
   clear H
   have H:=H1
   clear H1
   obtain rfl:=Option.some.inj H
   go_enter Try.func28,Try.ntmps28
   go_wp2_with (first | ((with_reducible refine gate_callee (f:=11) rfl ?_);refine goesL_ (some 8) rfl rfl Try.func11 (by kernel_rfl) rfl #[.slice A0 l0.length c0] rfl (by (try simp only [List.map_toArray,List.map_cons,List.map_nil]);rfl) ?_;(with_reducible refine (impl_IsValidFile.calls k _ _ l0 true _ ?side1 ?side2 A4.out).mono ?_);(case side1 => repeat (exact HR0.out));(case side2 => exact HC0.out);rintro e w10 ⟨rfl,hb⟩;refine ⟨_,rfl, ?_⟩;have n0_:=Aside0.mk (below_step (by exact HB.out) hb);clear HB;have HB:=n0_;clear n0_;(try clear hb)) | (go_at_call 51;(with_reducible refine (impl_IsValidId.calls k a1 false _ A6.out).mono ?_);rintro e w' ⟨rfl,⟨nd,rfl⟩⟩))
   go_ret
   exact ⟨by rfl,by repeat ((with_reducible first | exact HB.out | apply pw_below_drewN))⟩
 ·replace c5:=Bool.eq_false_iff.mpr c5
  subst c5
  have H1 : (some false) = some r:=by rw [if_neg (show ¬ (false = true) by decide)] at H;exact H
  clear H
  have H:=H1
  clear H1
  obtain rfl:=Option.some.inj H
  go_enter Try.func28,Try.ntmps28
  go_wp2_with (((with_reducible refine gate_callee (f:=11) rfl ?_);refine goesL_ (some 8) rfl rfl Try.func11 (by kernel_rfl) rfl #[.slice A0 l0.length c0] rfl (by (try simp only [List.map_toArray,List.map_cons,List.map_nil]);rfl) ?_;(with_reducible refine (impl_IsValidFile.calls k _ _ l0 false _ ?side1 ?side2 A4.out).mono ?_);(case side1 => repeat (exact HR0.out));(case side2 => exact HC0.out);rintro e w11 ⟨rfl,hb⟩;refine ⟨_,rfl, ?_⟩;have n0_:=Aside0.mk (below_step (by exact HB.out) hb);clear HB;have HB:=n0_;clear n0_;(try clear hb)))
  go_ret
  exact ⟨by rfl,by exact HB.out⟩

/-! ### impl_holdsOn: function 29 -/
mutual
def impl_holdsOn.l0 : Nat → ByteArray → Int → Int → List (S52) → Int → Int → Option (Int)
 | 0,_,_,_,_,_,_ => none
 | k + 1,x1,x2,x7,x10,x11,x12 => if x12 < x11 then (if 0 ≤ x12 then (if x12 < (x10.length : Int) then (if ((rd_T52 x10 x12).f1).toList = x1.toList then (impl_holdsOn.j1 k x1 x2 x7 x10 x11 x12 (decide (((rd_T52 x10 x12).f0) > x2)) ((rd_T52 x10 x12).f0) ((rd_T52 x10 x12).f1) ((rd_T52 x10 x12).f2) ((rd_T52 x10 x12).f3)) else (impl_holdsOn.j1 k x1 x2 x7 x10 x11 x12 true ((rd_T52 x10 x12).f0) ((rd_T52 x10 x12).f1) ((rd_T52 x10 x12).f2) ((rd_T52 x10 x12).f3))) else (none)) else (none)) else (some x7)
def impl_holdsOn.j1 : Nat → ByteArray → Int → Int → List (S52) → Int → Int → Bool → Int → ByteArray → Bool → Int → Option (Int)
 | 0,_,_,_,_,_,_,_,_,_,_,_ => none
 | k + 1,x1,x2,x7,x10,x11,x12,x20,x293000,x293001,x293002,x293003 => if x20 = true then (impl_holdsOn.l0 k x1 x2 x7 x10 x11 (wrap64 (x12 + 1))) else (if x293002 = true then (impl_holdsOn.l0 k x1 x2 (Go.bits .or .i64 x7 x293003) x10 x11 (wrap64 (x12 + 1))) else (impl_holdsOn.l0 k x1 x2 (Go.bits .andNot .i64 x7 x293003) x10 x11 (wrap64 (x12 + 1))))
end
def impl_holdsOn.f (k : Nat) (l0 : List (S52)) (a1 : ByteArray) (a2 : Int) : Option (Int):=impl_holdsOn.l0 k a1 a2 0 l0 (l0.length : Int) 0
theorem impl_holdsOn.mono_l : ∀ k,(∀ y0 y1 y2 y3 y4 y5,LeO (impl_holdsOn.l0 k y0 y1 y2 y3 y4 y5) (impl_holdsOn.l0 (k + 1) y0 y1 y2 y3 y4 y5)) ∧ (∀ y0 y1 y2 y3 y4 y5 y6 y7 y8 y9 y10,LeO (impl_holdsOn.j1 k y0 y1 y2 y3 y4 y5 y6 y7 y8 y9 y10) (impl_holdsOn.j1 (k + 1) y0 y1 y2 y3 y4 y5 y6 y7 y8 y9 y10))
 | 0 => ⟨fun _ _ _ _ _ _ r h => by simp [impl_holdsOn.l0] at h,fun _ _ _ _ _ _ _ _ _ _ _ r h => by simp [impl_holdsOn.j1] at h⟩
 | k + 1 => by
  obtain ⟨ih0,ih1⟩ := impl_holdsOn.mono_l k
  refine ⟨?_, ?_⟩
  ·intro y0 y1 y2 y3 y4 y5
   unfold impl_holdsOn.l0
   repeat' first
   | (with_reducible exact ih0 _ _ _ _ _ _)
   | (with_reducible exact ih1 _ _ _ _ _ _ _ _ _ _ _)
   | (with_reducible exact LeO.refl _)
   | (with_reducible exact LeO.none _)
   | (with_reducible refine LeO.ite ?_ ?_)
   | (with_reducible refine LeO.bind ?_ (fun _ => ?_))
   | exact ih0 _ _ _ _ _ _
   | exact ih1 _ _ _ _ _ _ _ _ _ _ _
   | exact LeO.none _
   | refine LeO.ite ?_ ?_
   | refine LeO.bind ?_ (fun _ => ?_)
  ·intro y0 y1 y2 y3 y4 y5 y6 y7 y8 y9 y10
   unfold impl_holdsOn.j1
   repeat' first
   | (with_reducible exact ih0 _ _ _ _ _ _)
   | (with_reducible exact ih1 _ _ _ _ _ _ _ _ _ _ _)
   | (with_reducible exact LeO.refl _)
   | (with_reducible exact LeO.none _)
   | (with_reducible refine LeO.ite ?_ ?_)
   | (with_reducible refine LeO.bind ?_ (fun _ => ?_))
   | exact ih0 _ _ _ _ _ _
   | exact ih1 _ _ _ _ _ _ _ _ _ _ _
   | exact LeO.none _
   | refine LeO.ite ?_ ?_
   | refine LeO.bind ?_ (fun _ => ?_)
theorem impl_holdsOn.mono : ∀ a0 a1 a2 k,LeO (impl_holdsOn.f k a0 a1 a2) (impl_holdsOn.f (k + 1) a0 a1 a2):=by
 intro a0 a1 a2 k
 obtain ⟨ih0,ih1⟩ := impl_holdsOn.mono_l k
 unfold impl_holdsOn.f
 repeat' first
   | (with_reducible exact ih0 _ _ _ _ _ _)
   | (with_reducible exact ih1 _ _ _ _ _ _ _ _ _ _ _)
   | (with_reducible exact LeO.refl _)
   | (with_reducible exact LeO.none _)
   | (with_reducible refine LeO.ite ?_ ?_)
   | (with_reducible refine LeO.bind ?_ (fun _ => ?_))
   | exact ih0 _ _ _ _ _ _
   | exact ih1 _ _ _ _ _ _ _ _ _ _ _
   | exact LeO.none _
   | refine LeO.ite ?_ ?_
   | refine LeO.bind ?_ (fun _ => ?_)
set_option maxHeartbeats 8000000 in
set_option maxRecDepth 100000 in
theorem impl_holdsOn.calls (k : Nat) (A0 : Option Addr) (c0 : Nat) (l0 : List (S52)) (a1 : ByteArray) (a2 : Int) (r : Int) (w : World) (hr0 : Kd.C k52 w A0 l0.length l0) (hc0 : l0.length ≤ c0) (h : impl_holdsOn.f k l0 a1 a2 = some r) :
  Calls Try.prog 29 #[.slice A0 l0.length c0, .string a1, .int .i64 a2] w fun e w' => e = .returned (.int .i64 r) ∧ Below w.heap.size w w':=by
 have hu52:=Try.underlying52
 have HR0:=Aside0.mk hr0
 have HC0:=Aside0.mk hc0
 clear hr0 hc0
 have HB:=Aside0.mk (Below.refl w.heap.size w)
 have H : (impl_holdsOn.l0 k a1 a2 0 l0 (l0.length : Int) 0) = some r:=h
 clear h
 have H':=Aside0.mk H
 clear H
 go_enter Try.func29,Try.ntmps29
 go_wp2
 go_loopg [7,12] k (fun kq v7 v12 w' => ∃ (x7_1 : Int) (x12_1 : Int),v7 = .int .i64 x7_1 ∧ v12 = .int .i64 x12_1 ∧ Aside0 (impl_holdsOn.l0 kq a1 a2 x7_1 l0 (l0.length : Int) x12_1 = some r) ∧ Aside0 (kq ≤ k) ∧ Aside0 (Below w.heap.size w w'))
 case atStart => exact ⟨(0),(0),(by rfl),(by rfl),H',⟨Nat.le_refl _⟩,⟨by exact HB.out⟩⟩
 case round =>
  clear H'
  try clear c2
  try clear p2
  obtain ⟨x7_1,x12_1,rfl,rfl,HA,HK1,HB⟩ := hrel
  cases gk with
  | zero => exact absurd HA.out (by simp [impl_holdsOn.l0])
  | succ k1 =>
   have H:=HA.out
   clear HA
   simp only [impl_holdsOn.l0] at H
   by_cases c4 : x12_1 < (l0.length : Int)
   ·rw [if_pos c4] at H
    have c4b0 : decide (x12_1 < (l0.length : Int)) = true:=decide_eq_true c4
    clear c4
    by_cases c5 : 0 ≤ x12_1
    ·rw [if_pos c5] at H
     have c5b0 : decide (0 ≤ x12_1) = true:=decide_eq_true c5
     clear c5
     by_cases c6 : x12_1 < (l0.length : Int)
     ·rw [if_pos c6] at H
      have c6b0 : decide (x12_1 < (l0.length : Int)) = true:=decide_eq_true c6
      clear c6
      have HC7:=Aside0.mk H
      clear H
      have p291 : 0 ≤ (x12_1 : Int):=of_decide_eq_true (by (with_reducible assumption))
      have q291 : x12_1 < (l0.length : Int):=of_decide_eq_true (by (with_reducible assumption))
      obtain ⟨ad291,e291,hx291_0,hx291_1,hx291_2,hx291_3⟩ := at_T52 HR0.out x12_1 p291 q291
      cases e291
      replace hx291_0:=(HB.out.cell (World.block_lt_of_cell? w _ hx291_0)).trans hx291_0
      replace hx291_1:=(HB.out.cell (World.block_lt_of_cell? w _ hx291_1)).trans hx291_1
      replace hx291_2:=(HB.out.cell (World.block_lt_of_cell? w _ hx291_2)).trans hx291_2
      replace hx291_3:=(HB.out.cell (World.block_lt_of_cell? w _ hx291_3)).trans hx291_3
      replace p291:=eq_true p291
      replace q291:=eq_true q291
      go_upto_region 6 with (((with_reducible refine gate_dst (N:=9) rfl ?_);refine box_event ?hg (N:=9) ?hd (cs:=#[.int .i64 0, .string (⟨#[]⟩ : ByteArray), .bool false, .int .i64 0]) (t:=52) ?hr ?_;(case hd => rfl);(case hg => rfl);(case hr => (go_simp;done));intro gb292 hg w8 hbox hb;have n0_:=Aside0.mk (below_step (by exact HB.out) hb);have n1_:=Aside0.mk (hbox);have n2_:=Aside0.mk ((by rw [hg];exact (below_size (by exact HB.out)) : w.heap.size ≤ gb292));have n3_:=Aside0.mk ((by rw [hg];exact (below_size (by exact HB.out)) : w.heap.size ≤ gb292));clear HB;have HB:=n0_;have BK292:=n1_;have GW292:=n2_;have GE292:=n3_;clear n0_ n1_ n2_ n3_;clear hb hbox hg;have hcz9_0 : w8.cell? ⟨gb292,0,none⟩ = some (.int .i64 0):=(blk_cell BK292.out 0).trans rfl;have hcz9_1 : w8.cell? ⟨gb292,1,none⟩ = some (.string (⟨#[]⟩ : ByteArray)):=(blk_cell BK292.out 1).trans rfl;have hcz9_2 : w8.cell? ⟨gb292,2,none⟩ = some (.bool false):=(blk_cell BK292.out 2).trans rfl;have hcz9_3 : w8.cell? ⟨gb292,3,none⟩ = some (.int .i64 0):=(blk_cell BK292.out 3).trans rfl;have hfz9_0:=blk_frozen BK292.out 0;have hfz9_1:=blk_frozen BK292.out 1;have hfz9_2:=blk_frozen BK292.out 2;have hfz9_3:=blk_frozen BK292.out 3))
      (skip)
      go_cut [20] (fun v20 wc => ∃ (kq : Nat) (x20_6 : Bool),v20 = .bool x20_6 ∧ Aside0 (impl_holdsOn.j1 kq a1 a2 x7_1 l0 (l0.length : Int) x12_1 x20_6 ((rd_T52 l0 x12_1).f0) ((rd_T52 l0 x12_1).f1) ((rd_T52 l0 x12_1).f2) ((rd_T52 l0 x12_1).f3) = some r) ∧ Aside0 (kq ≤ k1) ∧ Aside0 (wc.heap[gb292]? = some (.cells #[.int .i64 ((rd_T52 l0 x12_1).f0), .string ((rd_T52 l0 x12_1).f1), .bool ((rd_T52 l0 x12_1).f2), .int .i64 ((rd_T52 l0 x12_1).f3)] 52 (0,0))) ∧ Aside0 (Below w.heap.size w wc))
      case first =>
       have H:=HC7.out
       clear HC7
       by_cases c10 : ((rd_T52 l0 x12_1).f1).toList = a1.toList
       ·rw [if_pos c10] at H
        have c10b0 : (((rd_T52 l0 x12_1).f1).toList == a1.toList) = true:=beq_iff_eq.mpr c10
        have c10b1 : (((rd_T52 l0 x12_1).f1).toList != a1.toList) = false:=bne_eq_false_iff_eq.mpr c10
        clear c10
        (skip)
        have H':=Aside0.mk H
        clear H
        have hcz11_0 : w8.cell? ⟨gb292,0,none⟩ = some (.int .i64 0):=(blk_cell BK292.out 0).trans rfl
        have hcz11_1 : w8.cell? ⟨gb292,1,none⟩ = some (.string (⟨#[]⟩ : ByteArray)):=(blk_cell BK292.out 1).trans rfl
        have hcz11_2 : w8.cell? ⟨gb292,2,none⟩ = some (.bool false):=(blk_cell BK292.out 2).trans rfl
        have hcz11_3 : w8.cell? ⟨gb292,3,none⟩ = some (.int .i64 0):=(blk_cell BK292.out 3).trans rfl
        have hfz11_0:=blk_frozen BK292.out 0
        have hfz11_1:=blk_frozen BK292.out 1
        have hfz11_2:=blk_frozen BK292.out 2
        have hfz11_3:=blk_frozen BK292.out 3
        go_wp2
        go_meet
        case rel => exact ⟨_,(decide (((rd_T52 l0 x12_1).f0) > a2)),(by rfl),H',⟨by have:=HK1.out;omega⟩,⟨by refine blk_put (cs:=#[.int .i64 ((rd_T52 l0 x12_1).f0), .string ((rd_T52 l0 x12_1).f1), .bool ((rd_T52 l0 x12_1).f2), .int .i64 0]) ?_ 3 _ rfl;refine blk_put (cs:=#[.int .i64 ((rd_T52 l0 x12_1).f0), .string ((rd_T52 l0 x12_1).f1), .bool false, .int .i64 0]) ?_ 2 _ rfl;refine blk_put (cs:=#[.int .i64 ((rd_T52 l0 x12_1).f0), .string (⟨#[]⟩ : ByteArray), .bool false, .int .i64 0]) ?_ 1 _ rfl;refine blk_put (cs:=#[.int .i64 0, .string (⟨#[]⟩ : ByteArray), .bool false, .int .i64 0]) ?_ 0 _ rfl;exact BK292.out⟩,⟨by repeat ((with_reducible first | exact HB.out | refine below_set ?_ GE292.out))⟩⟩
       ·rw [if_neg c10] at H
        have c10b0 : (((rd_T52 l0 x12_1).f1).toList == a1.toList) = false:=beq_eq_false_iff_ne.mpr c10
        have c10b1 : (((rd_T52 l0 x12_1).f1).toList != a1.toList) = true:=bne_iff_ne.mpr c10
        (skip)
        have H':=Aside0.mk H
        clear H
        have hcz12_0 : w8.cell? ⟨gb292,0,none⟩ = some (.int .i64 0):=(blk_cell BK292.out 0).trans rfl
        have hcz12_1 : w8.cell? ⟨gb292,1,none⟩ = some (.string (⟨#[]⟩ : ByteArray)):=(blk_cell BK292.out 1).trans rfl
        have hcz12_2 : w8.cell? ⟨gb292,2,none⟩ = some (.bool false):=(blk_cell BK292.out 2).trans rfl
        have hcz12_3 : w8.cell? ⟨gb292,3,none⟩ = some (.int .i64 0):=(blk_cell BK292.out 3).trans rfl
        have hfz12_0:=blk_frozen BK292.out 0
        have hfz12_1:=blk_frozen BK292.out 1
        have hfz12_2:=blk_frozen BK292.out 2
        have hfz12_3:=blk_frozen BK292.out 3
        go_wp2
        go_meet
        case rel => exact ⟨_,(true),(by rfl),H',⟨by have:=HK1.out;omega⟩,⟨by refine blk_put (cs:=#[.int .i64 ((rd_T52 l0 x12_1).f0), .string ((rd_T52 l0 x12_1).f1), .bool ((rd_T52 l0 x12_1).f2), .int .i64 0]) ?_ 3 _ rfl;refine blk_put (cs:=#[.int .i64 ((rd_T52 l0 x12_1).f0), .string ((rd_T52 l0 x12_1).f1), .bool false, .int .i64 0]) ?_ 2 _ rfl;refine blk_put (cs:=#[.int .i64 ((rd_T52 l0 x12_1).f0), .string (⟨#[]⟩ : ByteArray), .bool false, .int .i64 0]) ?_ 1 _ rfl;refine blk_put (cs:=#[.int .i64 0, .string (⟨#[]⟩ : ByteArray), .bool false, .int .i64 0]) ?_ 0 _ rfl;exact BK292.out⟩,⟨by repeat ((with_reducible first | exact HB.out | refine below_set ?_ GE292.out))⟩⟩
      case rest =>
       clear HC7
       try clear c1
       try clear c2
       try clear p2
       try clear q2
       try clear hx2
       try clear c4
       try clear c4b0
       try clear c5
       try clear c5b0
       try clear c6
       try clear c6b0
       try clear c10
       try clear c10b0
       try clear c10b1
       try clear hcz11_0
       try clear hcz11_1
       try clear hcz11_2
       try clear hcz11_3
       try clear hcz12_0
       try clear hcz12_1
       try clear hcz12_2
       try clear hcz12_3
       try clear hcz9_0
       try clear hcz9_1
       try clear hcz9_2
       try clear hcz9_3
       try clear hfz11_0
       try clear hfz11_1
       try clear hfz11_2
       try clear hfz11_3
       try clear hfz12_0
       try clear hfz12_1
       try clear hfz12_2
       try clear hfz12_3
       try clear hfz9_0
       try clear hfz9_1
       try clear hfz9_2
       try clear hfz9_3
       try clear hx291_0
       try clear hx291_1
       try clear hx291_2
       try clear hx291_3
       try clear p2
       try clear p291
       try clear q291
       obtain ⟨kq,x20_6,rfl,HA,HJ6,BK292,HB⟩ := hcut
       cases kq with
       | zero => exact absurd HA.out (by simp [impl_holdsOn.j1])
       | succ kj6 =>
        have H:=HA.out
        clear HA
        simp only [impl_holdsOn.j1] at H
        by_cases c13 : x20_6 = true
        ·subst c13
         have H1 : (impl_holdsOn.l0 kj6 a1 a2 x7_1 l0 (l0.length : Int) (wrap64 (x12_1 + 1))) = some r:=by rw [if_pos rfl] at H;exact H
         clear H
         have H:=H1
         clear H1
         have H':=Aside0.mk H
         clear H
         go_wp2
         go_roundg kj6
         case measure => have:=HK1.out;have:=HJ6.out;omega
         case rel => exact ⟨(x7_1),(wrap64 (x12_1 + 1)),(by rfl),(by rfl),H',⟨by have:=HK1.out;have:=HJ6.out;omega⟩,⟨by exact HB.out⟩⟩
        ·replace c13:=Bool.eq_false_iff.mpr c13
         subst c13
         have H1 : (if ((rd_T52 l0 x12_1).f2) = true then (impl_holdsOn.l0 kj6 a1 a2 (Go.bits .or .i64 x7_1 ((rd_T52 l0 x12_1).f3)) l0 (l0.length : Int) (wrap64 (x12_1 + 1))) else (impl_holdsOn.l0 kj6 a1 a2 (Go.bits .andNot .i64 x7_1 ((rd_T52 l0 x12_1).f3)) l0 (l0.length : Int) (wrap64 (x12_1 + 1)))) = some r:=by rw [if_neg (show ¬ (false = true) by decide)] at H;exact H
         clear H
         have H:=H1
         clear H1
         by_cases c14 : ((rd_T52 l0 x12_1).f2) = true
         ·rw [if_pos c14] at H
          have c14b0 : ((rd_T52 l0 x12_1).f2) = true:=c14
          clear c14
          have H':=Aside0.mk H
          clear H
          have hcz15_0 : wc.cell? ⟨gb292,0,none⟩ = some (.int .i64 ((rd_T52 l0 x12_1).f0)):=(blk_cell BK292.out 0).trans rfl
          have hcz15_1 : wc.cell? ⟨gb292,1,none⟩ = some (.string ((rd_T52 l0 x12_1).f1)):=(blk_cell BK292.out 1).trans rfl
          have hcz15_2 : wc.cell? ⟨gb292,2,none⟩ = some (.bool ((rd_T52 l0 x12_1).f2)):=(blk_cell BK292.out 2).trans rfl
          have hcz15_3 : wc.cell? ⟨gb292,3,none⟩ = some (.int .i64 ((rd_T52 l0 x12_1).f3)):=(blk_cell BK292.out 3).trans rfl
          have hfz15_0:=blk_frozen BK292.out 0
          have hfz15_1:=blk_frozen BK292.out 1
          have hfz15_2:=blk_frozen BK292.out 2
          have hfz15_3:=blk_frozen BK292.out 3
          go_wp2
          go_roundg kj6
          case measure => have:=HK1.out;have:=HJ6.out;omega
          case rel => exact ⟨(Go.bits .or .i64 x7_1 ((rd_T52 l0 x12_1).f3)),(wrap64 (x12_1 + 1)),(by rfl),(by rfl),H',⟨by have:=HK1.out;have:=HJ6.out;omega⟩,⟨by exact HB.out⟩⟩
         ·rw [if_neg c14] at H
          have c14b0 : ((rd_T52 l0 x12_1).f2) = false:=by simpa using c14
          clear c14
          have H':=Aside0.mk H
          clear H
          have hcz16_0 : wc.cell? ⟨gb292,0,none⟩ = some (.int .i64 ((rd_T52 l0 x12_1).f0)):=(blk_cell BK292.out 0).trans rfl
          have hcz16_1 : wc.cell? ⟨gb292,1,none⟩ = some (.string ((rd_T52 l0 x12_1).f1)):=(blk_cell BK292.out 1).trans rfl
          have hcz16_2 : wc.cell? ⟨gb292,2,none⟩ = some (.bool ((rd_T52 l0 x12_1).f2)):=(blk_cell BK292.out 2).trans rfl
          have hcz16_3 : wc.cell? ⟨gb292,3,none⟩ = some (.int .i64 ((rd_T52 l0 x12_1).f3)):=(blk_cell BK292.out 3).trans rfl
          have hfz16_0:=blk_frozen BK292.out 0
          have hfz16_1:=blk_frozen BK292.out 1
          have hfz16_2:=blk_frozen BK292.out 2
          have hfz16_3:=blk_frozen BK292.out 3
          go_wp2
          go_roundg kj6
          case measure => have:=HK1.out;have:=HJ6.out;omega
          case rel => exact ⟨(Go.bits .andNot .i64 x7_1 ((rd_T52 l0 x12_1).f3)),(wrap64 (x12_1 + 1)),(by rfl),(by rfl),H',⟨by have:=HK1.out;have:=HJ6.out;omega⟩,⟨by exact HB.out⟩⟩
     ·rw [if_neg c6] at H
      exact absurd H (by simp)
    ·rw [if_neg c5] at H
     exact absurd H (by simp)
   ·rw [if_neg c4] at H
    have c4b0 : decide (x12_1 < (l0.length : Int)) = false:=decide_eq_false c4
    clear c4
    obtain rfl:=Option.some.inj H
    go_wp2
    go_ret
    exact ⟨by rfl,by exact HB.out⟩

/-! ### slices_Clone_impl_Entry: function 30 -/
def slices_Clone_impl_Entry.f (l0 : List (S52)) : Option ((List (S52))):=(some (([] : List (S52)) : List (S52))).bind fun y293 => (if y293.length + l0.length < 3518437208883 then (some (y293 ++ l0)) else (none))
set_option maxHeartbeats 8000000 in
set_option maxRecDepth 100000 in
theorem slices_Clone_impl_Entry.calls (A0 : Option Addr) (c0 : Nat) (l0 : List (S52)) (r : List (S52)) (w : World) (hr0 : Kd.C k52 w A0 l0.length l0) (hc0 : l0.length ≤ c0) (h : slices_Clone_impl_Entry.f l0 = some r) :
  Calls Try.prog 30 #[.slice A0 l0.length c0] w fun e w' => ∃ v0_ : Value,e = .returned (v0_) ∧ Kd.R k52 52 w' w.heap.size (fun _ => True) v0_ r ∧ Below w.heap.size w w':=by
 have HR0:=Aside0.mk hr0
 have HC0:=Aside0.mk hc0
 clear hr0 hc0
 have HB:=Aside0.mk (Below.refl w.heap.size w)
 have H : ((some (([] : List (S52)) : List (S52))).bind fun y293 => (if y293.length + l0.length < 3518437208883 then (some (y293 ++ l0)) else (none))) = some r:=h
 clear h
 obtain ⟨y293,hy293⟩ : ∃ y_ : List (S52),y_ = (([] : List (S52))):=⟨_,rfl⟩
 replace H : (if y293.length + l0.length < 3518437208883 then (some (y293 ++ l0)) else (none)) = some r:=by (have H2_:=(Option.bind_some _ _).symm.trans H;rw [hy293];with_reducible exact H2_)
 have Ny293:=Aside0.mk hy293
 clear hy293
 by_cases c2 : y293.length + l0.length < 3518437208883
 ·rw [if_pos c2] at H
  have LMc2:=Aside0.mk c2
  clear c2
  obtain ⟨y296,hy296⟩ : ∃ y_ : List (S52),y_ = (y293 ++ l0):=⟨_,rfl⟩
  replace H : (some y296) = some r:=by (rw [hy296];with_reducible exact H)
  have Ny296:=Aside0.mk hy296
  clear hy296
  obtain rfl:=Option.some.inj H
  have hnil_:=fun (w_ : World) (a_ : Option Addr) (n_ c_ : Nat) => Lib.run_eql_slice_nil (P:=Try.prog) w_ 24 52 a_ n_ c_ 0 0 Try.underlying24
  rcases A0 with _ | ad0_
  ·have l0nil : l0 = []:=by
    rcases l0 with _ | ⟨x_,l_⟩
    ·rfl
    ·obtain ⟨ad_,e_,_⟩ := HR0.out.2.2 (by simp)
     cases e_
   have rnil : y296 = []:=by rw [Ny296.out,Ny293.out,l0nil];rfl
   subst rnil
   subst l0nil
   go_enter Try.func30,Try.ntmps30
   go_wp2
   go_ret
   exact ⟨_,rfl,Kd.R_nil _ _ _ _ _,Below.refl _ _⟩
  ·go_enter Try.func30,Try.ntmps30
   go_wp2_with (first | ((with_reducible refine gate_dst (N:=5) rfl ?_);refine Kd.R_lit k52 _ 52 ?hg (N:=5) ?hd (xs:=([] : List (S52))) (inner := []) (ok:=fun _ => True) (okp:=fun _ => True) ?hr ?hp (fun _ hk => hk) trivial (Below.refl _ _) (Nat.le_refl _) (by simp) ?_;(case hd => rfl);(case hg => rfl);(case hr => (go_simp;done));(case hp => exact (Reps.none _ _));intro v294 w3 ho4 hb hg_ hnew_;clear hg_ hnew_;(rw [← Ny293.out] at ho4);have n0_:=Aside0.mk (Kd.R_lower ho4 (below_size (by exact HB.out)));have n1_:=Aside0.mk (below_step (by exact HB.out) hb);clear HB;have HO295:=n0_;have HB:=n1_;clear n0_ n1_;clear hb ho4) | ((with_reducible refine gate_builtin (b := .append) (xs:=#[.tmp 5, .tmp 6]) rfl ?_);at_builtin;refine Kd.R_append_rows k52 (w0:=w) w.heap.size rfl (.tmp 5) (.tmp 6) 24 52 (.agg #[(.int .i64 0),(.string ⟨#[]⟩),(.bool false),(.int .i64 0)]) 40 rfl Try.underlying24 info52 rfl (by decide) (by omega) v294 y293 l0 _ _ _ (fun _ => True) (fun _ => False) rfl rfl ?aO ?aR (fun _ _ h => h) (fun _ h => h.elim) ?aF ?aB ?aS ?aL ?_;(case aR => repeat (exact (Kd.C_below HR0.out HB.out)));(case aB => exact (by exact HB.out));(case aF => exact (fun _ _ => trivial));(case aO => exact (by exact HO295.out));(case aS => exact (below_size (by exact HB.out)));(case aL => have:=LMc2.out;omega);intro v297 w5 ho hb hg hat;rw [← Ny296.out] at ho;have n0_:=Aside0.mk (hb);have n1_:=Aside0.mk (ho);clear HB;clear HO295;have HB:=n0_;have HO298:=n1_;clear n0_ n1_;clear ho hb hg hat))
   go_ret
   exact ⟨_,by rfl,by exact HO298.out,by exact HB.out⟩
 ·rw [if_neg c2] at H
  exact absurd H (by simp)

end Go.Proofs.Yteebkbikpamkmaa.PFnHolds
