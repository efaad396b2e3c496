-- Written by a program of this session, over the kit's print (wip/xprint.py)
import Derived.Test.YtglfjaaaegfdnaaPFnBookingx0
import Derived.Test.YtglfjaaaegfdnaaPFnBookingx7
import Derived.Test.YtglfjaaaegfdnaaPFnBookingx8
namespace Go.Proofs.Ytglfjaaaegfdnaa.PFnBooking
open Go.RowKit Go.Proofs.YtglfjaaaegfdnaaW.PrintWords Go.Proofs.YtglfjaaaegfdnaaW.PrintLast Go.Proofs.YtglfjaaaegfdnaaW.PrintMore
attribute [local go_sem] max2_int min2_int max_two min_two max_three min_three max_four min_four   -- for this text's walks alone
set_option linter.unusedVariables false
set_option linter.unusedSimpArgs false

/-! ### impl_isGateFor: function 42 -/
def impl_isGateFor.f (k : Nat) (l0_0 : List Int) (l0_1 : List (List Int)) (a1 : Int) (l2 : List Int) : Option (Bool):=(impl_IsValidGate.f k l0_0 l0_1).bind fun t350 => (if t350 = true then ((impl_within.f a1 1 99).bind fun t351 => (if t351 = true then ((slices_ContainsFunc_int.f k l2 l0_0 l0_1).bind fun t352 => (some (!t352))) else (some false))) else (some false))
theorem impl_isGateFor.mono : ∀ a0 a1 a2 a3 k,LeO (impl_isGateFor.f k a0 a1 a2 a3) (impl_isGateFor.f (k + 1) a0 a1 a2 a3):=by
 intro a0 a1 a2 a3 k
 unfold impl_isGateFor.f
 repeat' first
   | (with_reducible exact impl_IsValidGate.mono _ _ _)
   | (with_reducible exact slices_ContainsFunc_int.mono _ _ _ _)
   | (with_reducible exact LeO.refl _)
   | (with_reducible exact LeO.none _)
   | (with_reducible refine LeO.ite ?_ ?_)
   | (with_reducible refine LeO.bind ?_ (fun _ => ?_))
   | exact impl_IsValidGate.mono _ _ _
   | exact slices_ContainsFunc_int.mono _ _ _ _
   | exact LeO.none _
   | refine LeO.ite ?_ ?_
   | refine LeO.bind ?_ (fun _ => ?_)
set_option maxHeartbeats 8000000 in
set_option maxRecDepth 100000 in
theorem impl_isGateFor.calls (k : Nat) (A0_0 : Option Addr) (c0_0 : Nat) (l0_0 : List Int) (A0_1 : Option Addr) (c0_1 : Nat) (l0_1 : List (List Int)) (a1 : Int) (A2 : Option Addr) (c2 : Nat) (l2 : List Int) (r : Bool) (w : World) (hr0_0 : Kd.C (Kd.int .i64) w A0_0 l0_0.length l0_0) (hc0_0 : l0_0.length ≤ c0_0) (hr0_1 : Kd.C (Kd.slice 3 (Kd.int .i64)) w A0_1 l0_1.length l0_1) (hc0_1 : l0_1.length ≤ c0_1) (hr2 : Kd.C (Kd.int .i64) w A2 l2.length l2) (hc2 : l2.length ≤ c2) (h : impl_isGateFor.f k l0_0 l0_1 a1 l2 = some r) :
  Calls Try.prog 42 #[.agg #[.slice A0_0 l0_0.length c0_0, .slice A0_1 l0_1.length c0_1], .int .i64 a1, .slice A2 l2.length c2] w fun e w' => e = .returned (.bool r) ∧ Below w.heap.size w w':=by
 have hu27:=Try.underlying27;have HR0_0:=am_ hr0_0;have HC0_0:=am_ hc0_0;clear hr0_0 hc0_0;have HR0_1:=am_ hr0_1;have HC0_1:=am_ hc0_1;clear hr0_1 hc0_1;have HR2:=am_ hr2;have HC2:=am_ hc2;clear hr2 hc2;have HB:=am_ (Below.refl w.heap.size w);have H : ((impl_IsValidGate.f k l0_0 l0_1).bind fun t350 => (if t350 = true then ((impl_within.f a1 1 99).bind fun t351 => (if t351 = true then ((slices_ContainsFunc_int.f k l2 l0_0 l0_1).bind fun t352 => (some (!t352))) else (some false))) else (some false))) = some r:=h;clear h;replace H:=bn_ H;obtain ⟨t350,A4,H⟩:=H;replace H:=jb_ H;obtain ⟨rfl,H⟩|⟨rfl,H⟩:=H
 ·obtain rfl:=Option.some.inj H;go_enter Try.func42,Try.ntmps42;go_wp2_with (first | ((with_reducible refine gate_dst (N:=3) rfl ?_);refine box_event ?hg (N:=3) ?hd (cs:=#[.slice A0_0 l0_0.length c0_0, .slice A0_1 l0_1.length c0_1]) (t:=27) ?hr ?_;(case hd => rfl);(case hg => rfl);(case hr => (go_simp;done));intro gb349 hg w16 hbox hb;have BK349:=am_ hbox;have GW349:=am_ (ge_ hg (by exact HB.out));have GE349:=am_ (ge_ hg (by exact HB.out));replace HB:=am_ (below_step (by exact HB.out) hb);clear hb hbox hg;have hcz17_0:=c2_0 BK349.out;have hcz17_1:=c2_1 BK349.out;have hfz17_0:=blk_frozen BK349.out 0;have hfz17_1:=blk_frozen BK349.out 1) | ((with_reducible refine gate_callee (f:=15) rfl ?_);refine goesL_ (some 8) rfl rfl Try.func15 (by kernel_rfl) rfl #[.agg #[.slice A0_0 l0_0.length c0_0, .slice A0_1 l0_1.length c0_1]] rfl (by (try simp only [List.map_toArray,List.map_cons,List.map_nil]);rfl) ?_;(with_reducible refine (impl_IsValidGate.calls k _ _ l0_0 _ _ l0_1 false _ ?side1 ?side2 ?side3 ?side4 A4.out).mono ?_);(case side1 => repeat (exact (Kd.C_below HR0_0.out HB.out)));(case side2 => exact HC0_0.out);(case side3 => repeat (exact (Kd.C_below HR0_1.out HB.out)));(case side4 => exact HC0_1.out);rintro e w18 ⟨rfl,hb⟩;refine ⟨_,rfl, ?_⟩;replace BK349:=am_ (blk_below (by exact BK349.out) hb);replace HB:=am_ (below_step (by exact HB.out) hb);(try clear hb)));go_ret;exact ⟨by rfl,by exact HB.out⟩
 replace H:=bn_ H;obtain ⟨t351,A6,H⟩:=H;replace H:=jb_ H;obtain ⟨rfl,H⟩|⟨rfl,H⟩:=H
 ·obtain rfl:=Option.some.inj H;go_enter Try.func42,Try.ntmps42;go_wp2_with (first | ((with_reducible refine gate_dst (N:=3) rfl ?_);refine box_event ?hg (N:=3) ?hd (cs:=#[.slice A0_0 l0_0.length c0_0, .slice A0_1 l0_1.length c0_1]) (t:=27) ?hr ?_;(case hd => rfl);(case hg => rfl);(case hr => (go_simp;done));intro gb349 hg w13 hbox hb;have BK349:=am_ hbox;have GW349:=am_ (ge_ hg (by exact HB.out));have GE349:=am_ (ge_ hg (by exact HB.out));replace HB:=am_ (below_step (by exact HB.out) hb);clear hb hbox hg;have hcz14_0:=c2_0 BK349.out;have hcz14_1:=c2_1 BK349.out;have hfz14_0:=blk_frozen BK349.out 0;have hfz14_1:=blk_frozen BK349.out 1) | ((with_reducible refine gate_callee (f:=15) rfl ?_);refine goesL_ (some 8) rfl rfl Try.func15 (by kernel_rfl) rfl #[.agg #[.slice A0_0 l0_0.length c0_0, .slice A0_1 l0_1.length c0_1]] rfl (by (try simp only [List.map_toArray,List.map_cons,List.map_nil]);rfl) ?_;(with_reducible refine (impl_IsValidGate.calls k _ _ l0_0 _ _ l0_1 true _ ?side1 ?side2 ?side3 ?side4 A4.out).mono ?_);(case side1 => repeat (exact (Kd.C_below HR0_0.out HB.out)));(case side2 => exact HC0_0.out);(case side3 => repeat (exact (Kd.C_below HR0_1.out HB.out)));(case side4 => exact HC0_1.out);rintro e w15 ⟨rfl,hb⟩;refine ⟨_,rfl, ?_⟩;replace BK349:=am_ (blk_below (by exact BK349.out) hb);replace HB:=am_ (below_step (by exact HB.out) hb);(try clear hb)) | (go_at_call 53;(with_reducible refine (impl_within.calls a1 1 99 false _ A6.out).mono ?_);rintro e w' ⟨rfl,⟨nd,rfl⟩⟩));go_ret;exact ⟨by rfl,by repeat ((with_reducible first | exact HB.out | apply pw_below_drewN))⟩
 replace H:=bn_ H;obtain ⟨t352,A8,H⟩:=H;obtain rfl:=Option.some.inj H;go_enter Try.func42,Try.ntmps42;go_wp2_with (first | ((with_reducible refine gate_dst (N:=3) rfl ?_);refine box_event ?hg (N:=3) ?hd (cs:=#[.slice A0_0 l0_0.length c0_0, .slice A0_1 l0_1.length c0_1]) (t:=27) ?hr ?_;(case hd => rfl);(case hg => rfl);(case hr => (go_simp;done));intro gb349 hg w9 hbox hb;have BK349:=am_ hbox;have GW349:=am_ (ge_ hg (by exact HB.out));have GE349:=am_ (ge_ hg (by exact HB.out));replace HB:=am_ (below_step (by exact HB.out) hb);clear hb hbox hg;have hcz10_0:=c2_0 BK349.out;have hcz10_1:=c2_1 BK349.out;have hfz10_0:=blk_frozen BK349.out 0;have hfz10_1:=blk_frozen BK349.out 1) | ((with_reducible refine gate_callee (f:=15) rfl ?_);refine goesL_ (some 8) rfl rfl Try.func15 (by kernel_rfl) rfl #[.agg #[.slice A0_0 l0_0.length c0_0, .slice A0_1 l0_1.length c0_1]] rfl (by (try simp only [List.map_toArray,List.map_cons,List.map_nil]);rfl) ?_;(with_reducible refine (impl_IsValidGate.calls k _ _ l0_0 _ _ l0_1 true _ ?side1 ?side2 ?side3 ?side4 A4.out).mono ?_);(case side1 => repeat (exact (Kd.C_below HR0_0.out HB.out)));(case side2 => exact HC0_0.out);(case side3 => repeat (exact (Kd.C_below HR0_1.out HB.out)));(case side4 => exact HC0_1.out);rintro e w11 ⟨rfl,hb⟩;refine ⟨_,rfl, ?_⟩;replace BK349:=am_ (blk_below (by exact BK349.out) hb);replace HB:=am_ (below_step (by exact HB.out) hb);(try clear hb)) | (go_at_call 53;(with_reducible refine (impl_within.calls a1 1 99 true _ A6.out).mono ?_);rintro e w' ⟨rfl,⟨nd,rfl⟩⟩) | (go_at_call 74;(with_reducible refine (slices_ContainsFunc_int.calls (hg1_0:=?sg0) (hg1_1:=?sg1) k _ _ l2 A0_0 c0_0 l0_0 A0_1 c0_1 l0_1 t352 _ ?side1 ?side2 ?side3 ?side4 ?side5 ?side6 A8.out).mono ?_);(case sg0 => exact (blk_cell (by (with_reducible repeat (refine blk_drewN ?_ _));exact BK349.out) 0).trans rfl);(case sg1 => exact (blk_cell (by (with_reducible repeat (refine blk_drewN ?_ _));exact BK349.out) 1).trans rfl);(case side1 => repeat (exact (Kd.C_below HR2.out (by repeat ((with_reducible first | exact HB.out | apply pw_below_drewN))))));(case side2 => exact HC2.out);(case side3 => repeat (exact (Kd.C_below HR0_0.out (by repeat ((with_reducible first | exact HB.out | apply pw_below_drewN))))));(case side4 => exact HC0_0.out);(case side5 => repeat (exact (Kd.C_below HR0_1.out (by repeat ((with_reducible first | exact HB.out | apply pw_below_drewN))))));(case side6 => exact HC0_1.out);rintro e w12 ⟨rfl,hb⟩;replace BK349:=am_ (blk_below (g:=gb349) (o := .cells #[.slice A0_0 l0_0.length c0_0, .slice A0_1 l0_1.length c0_1] 27 (0,0)) (by (with_reducible repeat (refine blk_drewN ?_ _));exact BK349.out) hb);replace HB:=am_ (below_step (by repeat ((with_reducible first | exact HB.out | apply pw_below_drewN))) hb);(try clear hb)));go_ret;exact ⟨by rfl,by exact HB.out⟩

/-! ### slices_Index_int: function 88 -/
def slices_Index_int.l0 : Nat → List Int → Int → Int → Int → Option (Int)
 | 0,_,_,_,_ => none
 | k + 1,x0,x1,x7,x8 => if x8 < x7 then (if 0 ≤ x8 then (if x8 < (x0.length : Int) then (if x1 = (rd x0 x8) then (some x8) else (slices_Index_int.l0 k x0 x1 x7 (wrap64 (x8 + 1)))) else (none)) else (none)) else (some (-1))
def slices_Index_int.f (k : Nat) (l0 : List Int) (a1 : Int) : Option (Int):=slices_Index_int.l0 k l0 a1 (l0.length : Int) 0
theorem slices_Index_int.mono_l : ∀ k,(∀ y0 y1 y2 y3,LeO (slices_Index_int.l0 k y0 y1 y2 y3) (slices_Index_int.l0 (k + 1) y0 y1 y2 y3))
 | 0 => fun _ _ _ _ r h => by simp [slices_Index_int.l0] at h
 | k + 1 => by
  have ih0:=slices_Index_int.mono_l k
  ·intro y0 y1 y2 y3
   unfold slices_Index_int.l0
   repeat' first
   | (with_reducible exact ih0 _ _ _ _)
   | (with_reducible exact LeO.refl _)
   | (with_reducible exact LeO.none _)
   | (with_reducible refine LeO.ite ?_ ?_)
   | (with_reducible refine LeO.bind ?_ (fun _ => ?_))
   | exact ih0 _ _ _ _
   | exact LeO.none _
   | refine LeO.ite ?_ ?_
   | refine LeO.bind ?_ (fun _ => ?_)
theorem slices_Index_int.mono : ∀ a0 a1 k,LeO (slices_Index_int.f k a0 a1) (slices_Index_int.f (k + 1) a0 a1):=by
 intro a0 a1 k;have ih0:=slices_Index_int.mono_l k
 unfold slices_Index_int.f
 repeat' first
   | (with_reducible exact ih0 _ _ _ _)
   | (with_reducible exact LeO.refl _)
   | (with_reducible exact LeO.none _)
   | (with_reducible refine LeO.ite ?_ ?_)
   | (with_reducible refine LeO.bind ?_ (fun _ => ?_))
   | exact ih0 _ _ _ _
   | exact LeO.none _
   | refine LeO.ite ?_ ?_
   | refine LeO.bind ?_ (fun _ => ?_)
set_option maxHeartbeats 8000000 in
set_option maxRecDepth 100000 in
theorem slices_Index_int.calls (k : Nat) (A0 : Option Addr) (c0 : Nat) (l0 : List Int) (a1 : Int) (r : Int) (w : World) (hr0 : Kd.C (Kd.int .i64) w A0 l0.length l0) (hc0 : l0.length ≤ c0) (h : slices_Index_int.f k l0 a1 = some r) :
  Calls Try.prog 88 #[.slice A0 l0.length c0, .int .i64 a1] w fun e w' => e = .returned (.int .i64 r) ∧ Drawn0 w w':=by
 have HR0:=am_ hr0;have HC0:=am_ hc0;clear hr0 hc0;have H : (slices_Index_int.l0 k l0 a1 (l0.length : Int) 0) = some r:=h;clear h;have H':=am_ H;clear H;go_enter Try.func88,Try.ntmps88;go_wp2;go_loopg [8] k (fun kq v8 w' => ∃ (x8_1 : Int),v8 = .int .i64 x8_1 ∧ Aside0 (slices_Index_int.l0 kq l0 a1 (l0.length : Int) x8_1 = some r) ∧ Aside0 (kq ≤ k) ∧ Drawn0 w w');case atStart =>exact ⟨(0),(by rfl),H',⟨Nat.le_refl _⟩,by repeat (exact Drawn0.refl _)⟩
 case round =>
 clear H';(try clear p2);obtain ⟨x8_1,rfl,HA,HK1,⟨m1,rfl⟩⟩ := hrel
 cases gk with
 | zero =>exact absurd HA.out (by simp [slices_Index_int.l0])
 | succ k1 =>
 have H:=HA.out;clear HA;simp only [slices_Index_int.l0] at H;replace H:=ie_ H;obtain ⟨c3b0,H⟩|⟨c3b0,H⟩:=H
 ·obtain rfl:=Option.some.inj H;go_wp2;go_ret;exact ⟨by rfl,by repeat (first | exact Drawn0.refl _ | apply Drawn0.step)⟩
 replace H:=iq_ H;obtain ⟨c4b0,H⟩:=H;replace H:=iq_ H;obtain ⟨c5b0,H⟩:=H;replace H:=ic_ H;obtain ⟨c6,H⟩|⟨c6,H⟩:=H
 ·have c6b0 : (a1 == (rd l0 x8_1)) = true:=beq_iff_eq.mpr c6;have c6b1 : (a1 != (rd l0 x8_1)) = false:=bne_eq_false_iff_eq.mpr c6;clear c6;obtain rfl:=Option.some.inj H;have p353 : 0 ≤ (x8_1 : Int):=of_decide_eq_true (by (with_reducible assumption));have q353 : x8_1 < (l0.length : Int):=of_decide_eq_true (by (with_reducible assumption));obtain ⟨ad353,e353,hx353_0⟩ := Kd.at_int HR0.out x8_1 p353 q353;cases e353;replace p353:=eq_true p353;replace q353:=eq_true q353;go_wp2;go_ret;exact ⟨by rfl,by repeat (first | exact Drawn0.refl _ | apply Drawn0.step)⟩
 have c6b0 : (a1 == (rd l0 x8_1)) = false:=beq_eq_false_iff_ne.mpr c6;have c6b1 : (a1 != (rd l0 x8_1)) = true:=bne_iff_ne.mpr c6;have H':=am_ H;clear H;have p353 : 0 ≤ (x8_1 : Int):=of_decide_eq_true (by (with_reducible assumption));have q353 : x8_1 < (l0.length : Int):=of_decide_eq_true (by (with_reducible assumption));obtain ⟨ad353,e353,hx353_0⟩ := Kd.at_int HR0.out x8_1 p353 q353;cases e353;replace p353:=eq_true p353;replace q353:=eq_true q353;go_wp2;go_roundg k1;case measure =>have:=HK1.out;omega
 case rel =>exact ⟨(wrap64 (x8_1 + 1)),(by rfl),H',⟨by have:=HK1.out;omega⟩,by repeat (first | exact Drawn0.refl _ | apply Drawn0.step)⟩

/-! ### slices_Contains_int: function 78 -/
def slices_Contains_int.f (k : Nat) (l0 : List Int) (a1 : Int) : Option (Bool):=(slices_Index_int.f k l0 a1).bind fun t354 => (some (decide (t354 ≥ 0)))
theorem slices_Contains_int.mono : ∀ a0 a1 k,LeO (slices_Contains_int.f k a0 a1) (slices_Contains_int.f (k + 1) a0 a1):=by
 intro a0 a1 k
 unfold slices_Contains_int.f
 repeat' first
   | (with_reducible exact slices_Index_int.mono _ _ _)
   | (with_reducible exact LeO.refl _)
   | (with_reducible exact LeO.none _)
   | (with_reducible refine LeO.ite ?_ ?_)
   | (with_reducible refine LeO.bind ?_ (fun _ => ?_))
   | exact slices_Index_int.mono _ _ _
   | exact LeO.none _
   | refine LeO.ite ?_ ?_
   | refine LeO.bind ?_ (fun _ => ?_)
set_option maxHeartbeats 8000000 in
set_option maxRecDepth 100000 in
theorem slices_Contains_int.calls (k : Nat) (A0 : Option Addr) (c0 : Nat) (l0 : List Int) (a1 : Int) (r : Bool) (w : World) (hr0 : Kd.C (Kd.int .i64) w A0 l0.length l0) (hc0 : l0.length ≤ c0) (h : slices_Contains_int.f k l0 a1 = some r) :
  Calls Try.prog 78 #[.slice A0 l0.length c0, .int .i64 a1] w fun e w' => e = .returned (.bool r) ∧ Drawn0 w w':=by
 have HR0:=am_ hr0;have HC0:=am_ hc0;clear hr0 hc0;have H : ((slices_Index_int.f k l0 a1).bind fun t354 => (some (decide (t354 ≥ 0)))) = some r:=h;clear h;replace H:=bn_ H;obtain ⟨t354,A3,H⟩:=H;obtain rfl:=Option.some.inj H;go_enter Try.func78,Try.ntmps78;go_wp2_with ((with_reducible refine gate_callee (f:=88) rfl ?_);refine goesL_ (some 7) rfl rfl Try.func88 (by kernel_rfl) rfl #[.slice A0 l0.length c0, .int .i64 a1] rfl (by (try simp only [List.map_toArray,List.map_cons,List.map_nil]);rfl) ?_;(with_reducible refine (slices_Index_int.calls k _ _ l0 a1 t354 _ ?side1 ?side2 A3.out).mono ?_);(case side1 => repeat (exact HR0.out));(case side2 => exact HC0.out);rintro e w' ⟨rfl,⟨nd,rfl⟩⟩;refine ⟨_,rfl, ?_⟩);go_ret;exact ⟨by rfl,by repeat (first | exact Drawn0.refl _ | apply Drawn0.step)⟩

/-! ### impl_slotOfTruck_1: function 77 -/
def impl_slotOfTruck_1.f (k : Nat) (l0 : List Int) (a1 : Int) : Option (Bool):=(slices_Contains_int.f k l0 a1).bind fun t355 => (some t355)
theorem impl_slotOfTruck_1.mono : ∀ a0 a1 k,LeO (impl_slotOfTruck_1.f k a0 a1) (impl_slotOfTruck_1.f (k + 1) a0 a1):=by
 intro a0 a1 k
 unfold impl_slotOfTruck_1.f
 repeat' first
   | (with_reducible exact slices_Contains_int.mono _ _ _)
   | (with_reducible exact LeO.refl _)
   | (with_reducible exact LeO.none _)
   | (with_reducible refine LeO.ite ?_ ?_)
   | (with_reducible refine LeO.bind ?_ (fun _ => ?_))
   | exact slices_Contains_int.mono _ _ _
   | exact LeO.none _
   | refine LeO.ite ?_ ?_
   | refine LeO.bind ?_ (fun _ => ?_)
set_option maxHeartbeats 8000000 in
set_option maxRecDepth 100000 in
theorem impl_slotOfTruck_1.calls (k : Nat) (A0 : Option Addr) (c0 : Nat) (l0 : List Int) (a1 : Int) {G1 : Nat} (r : Bool) (w : World) (hr0 : Kd.C (Kd.int .i64) w A0 l0.length l0) (hc0 : l0.length ≤ c0) (hg1 : w.cell? ⟨G1,0,none⟩ = some (.int .i64 a1)) (h : impl_slotOfTruck_1.f k l0 a1 = some r) :
  Calls Try.prog 77 #[.slice A0 l0.length c0, .pointer (some ⟨G1,0,none⟩)] w fun e w' => e = .returned (.bool r) ∧ Below w.heap.size w w':=by
 have HR0:=am_ hr0;have HC0:=am_ hc0;clear hr0 hc0;have HB:=am_ (Below.refl w.heap.size w);have H : ((slices_Contains_int.f k l0 a1).bind fun t355 => (some t355)) = some r:=h;clear h;replace H:=bn_ H;obtain ⟨t355,A3,H⟩:=H;obtain rfl:=Option.some.inj H;go_enter Try.func77,Try.ntmps77;go_wp2_with ((with_reducible refine gate_callee (f:=78) rfl ?_);refine goesL_ (some 6) rfl rfl Try.func78 (by kernel_rfl) rfl #[.slice A0 l0.length c0, .int .i64 a1] rfl (by (try simp only [List.map_toArray,List.map_cons,List.map_nil]);rfl) ?_;(with_reducible refine (slices_Contains_int.calls k _ _ l0 a1 t355 _ ?side1 ?side2 A3.out).mono ?_);(case side1 => repeat (exact HR0.out));(case side2 => exact HC0.out);rintro e w' ⟨rfl,⟨nd,rfl⟩⟩;refine ⟨_,rfl, ?_⟩);go_ret;exact ⟨by rfl,by repeat ((with_reducible first | exact HB.out | apply pw_below_drewN))⟩

/-! ### slices_IndexFunc_int_76: function 76 -/
def slices_IndexFunc_int_76.l0 : Nat → List (List Int) → Int → Int → Int → Option (Int)
 | 0,_,_,_,_ => none
 | k + 1,x0,x7,x8,x902000 => if x8 < x7 then (if 0 ≤ x8 then (if x8 < (x0.length : Int) then ((impl_slotOfTruck_1.f k (rd_L2 x0 x8) x902000).bind fun t357 => (if t357 = true then (some x8) else (slices_IndexFunc_int_76.l0 k x0 x7 (wrap64 (x8 + 1)) x902000))) else (none)) else (none)) else (some (-1))
def slices_IndexFunc_int_76.f (k : Nat) (l0 : List (List Int)) (a1_0 : Int) : Option (Int):=slices_IndexFunc_int_76.l0 k l0 (l0.length : Int) 0 a1_0
theorem slices_IndexFunc_int_76.mono_l : ∀ k,(∀ y0 y1 y2 y3,LeO (slices_IndexFunc_int_76.l0 k y0 y1 y2 y3) (slices_IndexFunc_int_76.l0 (k + 1) y0 y1 y2 y3))
 | 0 => fun _ _ _ _ r h => by simp [slices_IndexFunc_int_76.l0] at h
 | k + 1 => by
  have ih0:=slices_IndexFunc_int_76.mono_l k
  ·intro y0 y1 y2 y3
   unfold slices_IndexFunc_int_76.l0
   repeat' first
   | (with_reducible exact ih0 _ _ _ _)
   | (with_reducible exact impl_slotOfTruck_1.mono _ _ _)
   | (with_reducible exact LeO.refl _)
   | (with_reducible exact LeO.none _)
   | (with_reducible refine LeO.ite ?_ ?_)
   | (with_reducible refine LeO.bind ?_ (fun _ => ?_))
   | exact ih0 _ _ _ _
   | exact impl_slotOfTruck_1.mono _ _ _
   | exact LeO.none _
   | refine LeO.ite ?_ ?_
   | refine LeO.bind ?_ (fun _ => ?_)
theorem slices_IndexFunc_int_76.mono : ∀ a0 a1 k,LeO (slices_IndexFunc_int_76.f k a0 a1) (slices_IndexFunc_int_76.f (k + 1) a0 a1):=by
 intro a0 a1 k;have ih0:=slices_IndexFunc_int_76.mono_l k
 unfold slices_IndexFunc_int_76.f
 repeat' first
   | (with_reducible exact ih0 _ _ _ _)
   | (with_reducible exact impl_slotOfTruck_1.mono _ _ _)
   | (with_reducible exact LeO.refl _)
   | (with_reducible exact LeO.none _)
   | (with_reducible refine LeO.ite ?_ ?_)
   | (with_reducible refine LeO.bind ?_ (fun _ => ?_))
   | exact ih0 _ _ _ _
   | exact impl_slotOfTruck_1.mono _ _ _
   | exact LeO.none _
   | refine LeO.ite ?_ ?_
   | refine LeO.bind ?_ (fun _ => ?_)
set_option maxHeartbeats 8000000 in
set_option maxRecDepth 100000 in
theorem slices_IndexFunc_int_76.calls (k : Nat) (A0 : Option Addr) (c0 : Nat) (l0 : List (List Int)) (a1_0 : Int) {G1_0 : Nat} (r : Int) (w : World) (hr0 : Kd.C (Kd.slice 3 (Kd.int .i64)) w A0 l0.length l0) (hc0 : l0.length ≤ c0) (hg1_0 : w.cell? ⟨G1_0,0,none⟩ = some (.int .i64 a1_0)) (h : slices_IndexFunc_int_76.f k l0 a1_0 = some r) :
  Calls Try.prog 76 #[.slice A0 l0.length c0,(.func (.func 77) #[] #[.pointer (some ⟨G1_0,0,none⟩)])] w fun e w' => e = .returned (.int .i64 r) ∧ Below w.heap.size w w':=by
 have HR0:=am_ hr0;have HC0:=am_ hc0;clear hr0 hc0;have HB:=am_ (Below.refl w.heap.size w);have H : (slices_IndexFunc_int_76.l0 k l0 (l0.length : Int) 0 a1_0) = some r:=h;clear h;have H':=am_ H;clear H;go_enter Try.func76,Try.ntmps76;go_wp2;go_loopg [8] k (fun kq v8 w' => ∃ (x8_1 : Int),v8 = .int .i64 x8_1 ∧ Aside0 (slices_IndexFunc_int_76.l0 kq l0 (l0.length : Int) x8_1 a1_0 = some r) ∧ Aside0 (kq ≤ k) ∧ Aside0 (Below w.heap.size w w'));case atStart =>exact ⟨(0),(by rfl),H',⟨Nat.le_refl _⟩,⟨by exact HB.out⟩⟩
 case round =>
 clear H';(try clear p2);obtain ⟨x8_1,rfl,HA,HK1,HB⟩ := hrel
 cases gk with
 | zero =>exact absurd HA.out (by simp [slices_IndexFunc_int_76.l0])
 | succ k1 =>
 have H:=HA.out;clear HA;simp only [slices_IndexFunc_int_76.l0] at H;replace H:=ie_ H;obtain ⟨c3b0,H⟩|⟨c3b0,H⟩:=H
 ·obtain rfl:=Option.some.inj H;go_wp2;go_ret;exact ⟨by rfl,by exact HB.out⟩
 replace H:=iq_ H;obtain ⟨c4b0,H⟩:=H;replace H:=iq_ H;obtain ⟨c5b0,H⟩:=H;replace H:=bn_ H;obtain ⟨t357,A6,H⟩:=H;replace H:=ib_ H;obtain ⟨rfl,H⟩|⟨rfl,H⟩:=H
 ·obtain rfl:=Option.some.inj H;have p356 : 0 ≤ (x8_1 : Int):=of_decide_eq_true (by (with_reducible assumption));have q356 : x8_1 < (l0.length : Int):=of_decide_eq_true (by (with_reducible assumption));obtain ⟨ad356,A356_0,c356_0,e356,hx356_0,hl356_0,hi356_0⟩ := at_L2 HR0.out x8_1 p356 q356;cases e356;replace hx356_0:=(HB.out.cell (World.block_lt_of_cell? w _ hx356_0)).trans hx356_0;have HR356_0:=am_ hi356_0;have HC356_0:=am_ hl356_0;clear hi356_0 hl356_0;replace p356:=eq_true p356;replace q356:=eq_true q356;go_wp2_with ((with_reducible refine gateV_ (x := .tmp 11) rfl ?_);refine goesD_ (some 16) rfl rfl Try.func77 (by kernel_rfl) rfl #[.pointer (some ⟨G1_0,0,none⟩)] #[.slice A356_0 (rd_L2 l0 x8_1).length c356_0] #[.slice A356_0 (rd_L2 l0 x8_1).length c356_0, .pointer (some ⟨G1_0,0,none⟩)] rfl rfl (by (try simp only [List.map_toArray,List.map_cons,List.map_nil]);rfl) rfl ?_;(with_reducible refine (impl_slotOfTruck_1.calls (hg1:=?sg0) k1 _ _ (rd_L2 l0 x8_1) a1_0 true _ ?side1 ?side2 A6.out).mono ?_);(case sg0 => exact (by exact (Below.cell (by exact HB.out) (World.block_lt_of_cell? w _ hg1_0)).trans hg1_0));(case side1 => repeat (exact (Kd.C_below HR356_0.out HB.out)));(case side2 => exact HC356_0.out);rintro e w8 ⟨rfl,hb⟩;refine ⟨_,rfl, ?_⟩;replace HB:=am_ (below_step (by exact HB.out) hb);(try clear hb));go_ret;exact ⟨by rfl,by exact HB.out⟩
 have H':=am_ H;clear H;have p356 : 0 ≤ (x8_1 : Int):=of_decide_eq_true (by (with_reducible assumption));have q356 : x8_1 < (l0.length : Int):=of_decide_eq_true (by (with_reducible assumption));obtain ⟨ad356,A356_0,c356_0,e356,hx356_0,hl356_0,hi356_0⟩ := at_L2 HR0.out x8_1 p356 q356;cases e356;replace hx356_0:=(HB.out.cell (World.block_lt_of_cell? w _ hx356_0)).trans hx356_0;have HR356_0:=am_ hi356_0;have HC356_0:=am_ hl356_0;clear hi356_0 hl356_0;replace p356:=eq_true p356;replace q356:=eq_true q356;go_wp2_with ((with_reducible refine gateV_ (x := .tmp 11) rfl ?_);refine goesD_ (some 16) rfl rfl Try.func77 (by kernel_rfl) rfl #[.pointer (some ⟨G1_0,0,none⟩)] #[.slice A356_0 (rd_L2 l0 x8_1).length c356_0] #[.slice A356_0 (rd_L2 l0 x8_1).length c356_0, .pointer (some ⟨G1_0,0,none⟩)] rfl rfl (by (try simp only [List.map_toArray,List.map_cons,List.map_nil]);rfl) rfl ?_;(with_reducible refine (impl_slotOfTruck_1.calls (hg1:=?sg0) k1 _ _ (rd_L2 l0 x8_1) a1_0 false _ ?side1 ?side2 A6.out).mono ?_);(case sg0 => exact (by exact (Below.cell (by exact HB.out) (World.block_lt_of_cell? w _ hg1_0)).trans hg1_0));(case side1 => repeat (exact (Kd.C_below HR356_0.out HB.out)));(case side2 => exact HC356_0.out);rintro e w9 ⟨rfl,hb⟩;refine ⟨_,rfl, ?_⟩;replace HB:=am_ (below_step (by exact HB.out) hb);(try clear hb));go_roundg k1;case measure =>have:=HK1.out;omega
 case rel =>exact ⟨(wrap64 (x8_1 + 1)),(by rfl),H',⟨by have:=HK1.out;omega⟩,⟨by exact HB.out⟩⟩

/-! ### impl_slotOfTruck: function 43 -/
def impl_slotOfTruck.f (k : Nat) (l0_0 : List Int) (l0_1 : List (List Int)) (a1 : Int) : Option (Int):=(slices_IndexFunc_int_76.f k l0_1 a1).bind fun t360 => (some t360)
theorem impl_slotOfTruck.mono : ∀ a0 a1 a2 k,LeO (impl_slotOfTruck.f k a0 a1 a2) (impl_slotOfTruck.f (k + 1) a0 a1 a2):=by
 intro a0 a1 a2 k
 unfold impl_slotOfTruck.f
 repeat' first
   | (with_reducible exact slices_IndexFunc_int_76.mono _ _ _)
   | (with_reducible exact LeO.refl _)
   | (with_reducible exact LeO.none _)
   | (with_reducible refine LeO.ite ?_ ?_)
   | (with_reducible refine LeO.bind ?_ (fun _ => ?_))
   | exact slices_IndexFunc_int_76.mono _ _ _
   | exact LeO.none _
   | refine LeO.ite ?_ ?_
   | refine LeO.bind ?_ (fun _ => ?_)
set_option maxHeartbeats 8000000 in
set_option maxRecDepth 100000 in
theorem impl_slotOfTruck.calls (k : Nat) (A0_0 : Option Addr) (c0_0 : Nat) (l0_0 : List Int) (A0_1 : Option Addr) (c0_1 : Nat) (l0_1 : List (List Int)) (a1 : Int) (r : Int) (w : World) (hr0_0 : Kd.C (Kd.int .i64) w A0_0 l0_0.length l0_0) (hc0_0 : l0_0.length ≤ c0_0) (hr0_1 : Kd.C (Kd.slice 3 (Kd.int .i64)) w A0_1 l0_1.length l0_1) (hc0_1 : l0_1.length ≤ c0_1) (h : impl_slotOfTruck.f k l0_0 l0_1 a1 = some r) :
  Calls Try.prog 43 #[.agg #[.slice A0_0 l0_0.length c0_0, .slice A0_1 l0_1.length c0_1], .int .i64 a1] w fun e w' => e = .returned (.int .i64 r) ∧ Below w.heap.size w w':=by
 have hu27:=Try.underlying27;have HR0_0:=am_ hr0_0;have HC0_0:=am_ hc0_0;clear hr0_0 hc0_0;have HR0_1:=am_ hr0_1;have HC0_1:=am_ hc0_1;clear hr0_1 hc0_1;have HB:=am_ (Below.refl w.heap.size w);have H : ((slices_IndexFunc_int_76.f k l0_1 a1).bind fun t360 => (some t360)) = some r:=h;clear h;replace H:=bn_ H;obtain ⟨t360,A3,H⟩:=H;obtain rfl:=Option.some.inj H;go_enter Try.func43,Try.ntmps43;go_wp2_with (first | ((with_reducible refine gate_dst (N:=2) rfl ?_);refine box_event ?hg (N:=2) ?hd (cs:=#[.slice A0_0 l0_0.length c0_0, .slice A0_1 l0_1.length c0_1]) (t:=27) ?hr ?_;(case hd => rfl);(case hg => rfl);(case hr => (go_simp;done));intro gb358 hg w4 hbox hb;have BK358:=am_ hbox;have GW358:=am_ (ge_ hg (by exact HB.out));have GE358:=am_ (ge_ hg (by exact HB.out));replace HB:=am_ (below_step (by exact HB.out) hb);clear hb hbox hg) | ((with_reducible refine gate_dst (N:=3) rfl ?_);refine box_event ?hg (N:=3) ?hd (cs:=#[.int .i64 a1]) (t:=3) ?hr ?_;(case hd => rfl);(case hg => rfl);(case hr => (go_simp;done));intro gb359 hg w5 hbox hb;have BK359:=am_ hbox;have GW359:=am_ (ge_ hg (by exact HB.out));have GE359:=am_ (ge_ hg (by exact HB.out));replace HB:=am_ (below_step (by exact HB.out) hb);have NB358_359:=am_ (nl_ hg (by exact BK358.out));have NB359_358:=am_ (ng_ hg (by exact BK358.out));replace BK358:=am_ (blk_below (by exact BK358.out) hb);clear hb hbox hg;have hnb6:=NB358_359.out;have hnc6:=NB359_358.out;have hcz7_0:=c2_0 BK358.out;have hcz7_1:=c2_1 BK358.out;have hfz7_0:=blk_frozen BK358.out 0;have hfz7_1:=blk_frozen BK358.out 1) | ((with_reducible refine gate_callee (f:=76) rfl ?_);refine goesL_ (some 8) rfl rfl Try.func76 (by kernel_rfl) rfl #[.slice A0_1 l0_1.length c0_1,(.func (.func 77) #[] #[.pointer (some ⟨gb359,0,none⟩)])] rfl (by (try simp only [List.map_toArray,List.map_cons,List.map_nil]);rfl) ?_;(with_reducible refine (slices_IndexFunc_int_76.calls (hg1_0:=?sg0) k _ _ l0_1 a1 t360 _ ?side1 ?side2 A3.out).mono ?_);(case sg0 => exact (blk_cell (by exact BK359.out) 0).trans rfl);(case side1 => repeat (exact (Kd.C_below HR0_1.out HB.out)));(case side2 => exact HC0_1.out);rintro e w8 ⟨rfl,hb⟩;refine ⟨_,rfl, ?_⟩;replace BK358:=am_ (blk_below (by exact BK358.out) hb);replace BK359:=am_ (blk_below (by exact BK359.out) hb);replace HB:=am_ (below_step (by exact HB.out) hb);(try clear hb)));go_ret;exact ⟨by rfl,by exact HB.out⟩

/-! ### slices_Clone_int: function 79 -/
def slices_Clone_int.f (l0 : List Int) : Option (List Int):=(some (([] : List Int) : List Int)).bind fun y361 => (if y361.length + l0.length < 17592186044416 then (some (y361 ++ l0)) else (none))
set_option maxHeartbeats 8000000 in
set_option maxRecDepth 100000 in
theorem slices_Clone_int.calls (A0 : Option Addr) (c0 : Nat) (l0 : List Int) (r : List Int) (w : World) (hr0 : Kd.C (Kd.int .i64) w A0 l0.length l0) (hc0 : l0.length ≤ c0) (h : slices_Clone_int.f l0 = some r) :
  Calls Try.prog 79 #[.slice A0 l0.length c0] w fun e w' => ∃ v0_ : Value,e = .returned (v0_) ∧ Kd.R (Kd.int .i64) 3 w' w.heap.size (fun _ => True) v0_ r ∧ Below w.heap.size w w':=by
 have HR0:=am_ hr0;have HC0:=am_ hc0;clear hr0 hc0;have HB:=am_ (Below.refl w.heap.size w);have H : ((some (([] : List Int) : List Int)).bind fun y361 => (if y361.length + l0.length < 17592186044416 then (some (y361 ++ l0)) else (none))) = some r:=h;clear h;replace H:=sb_ H;obtain ⟨y361,Ny361,H⟩:=H;replace H:=ip_ H;obtain ⟨c2,H⟩:=H;have LMc2:=am_ c2;clear c2;obtain ⟨y364,hy364⟩ : ∃ y_ : List Int,y_ = (y361 ++ l0):=⟨_,rfl⟩;rw [← hy364] at H;have Ny364:=am_ hy364;clear hy364;obtain rfl:=Option.some.inj H;have hnil_:=fun (w_ : World) (a_ : Option Addr) (n_ c_ : Nat) => Lib.run_eql_slice_nil (P:=Try.prog) w_ 24 3 a_ n_ c_ 0 0 Try.underlying24
 rcases A0 with _ | ad0_
 ·have l0nil : l0 = []:=by
   rcases l0 with _ | ⟨x_,l_⟩
   ·rfl
   ·obtain ⟨ad_,e_,_⟩ := HR0.out.2.2 (by simp);cases e_
  have rnil : y364 = []:=by rw [Ny364.out,Ny361.out,l0nil];rfl
  subst rnil;subst l0nil;go_enter Try.func79,Try.ntmps79;go_wp2;go_ret;exact ⟨_,rfl,Kd.R_nil _ _ _ _ _,Below.refl _ _⟩
 go_enter Try.func79,Try.ntmps79;go_wp2_with (first | ((with_reducible refine gate_dst (N:=5) rfl ?_);refine Kd.R_lit (Kd.int .i64) _ 3 ?hg (N:=5) ?hd (xs:=([] : List Int)) (inner := []) (ok:=fun _ => True) (okp:=fun _ => True) ?hr ?hp (fun _ hk => hk) trivial (Below.refl _ _) (Nat.le_refl _) (by simp) ?_;(case hd => rfl);(case hg => rfl);(case hr => (go_simp;done));(case hp => exact (Reps.none _ _));intro v362 w3 ho4 hb hg_ hnew_;clear hg_ hnew_;(rw [← Ny361.out] at ho4);have HO363:=am_ (Kd.R_lower ho4 (below_size (by exact HB.out)));replace HB:=am_ (below_step (by exact HB.out) hb);clear hb ho4) | ((with_reducible refine gate_builtin (b := .append) (xs:=#[.tmp 5, .tmp 6]) rfl ?_);at_builtin;refine Kd.R_append_rows (Kd.int .i64) (w0:=w) w.heap.size rfl (.tmp 5) (.tmp 6) 24 3 (.int .i64 0) 8 rfl Try.underlying24 info3 rfl (by decide) (by omega) v362 y361 l0 _ _ _ (fun _ => True) (fun _ => False) rfl rfl ?aO ?aR (fun _ _ h => h) (fun _ h => h.elim) ?aF ?aB ?aS ?aL ?_;(case aR => repeat (exact (Kd.C_below HR0.out HB.out)));(case aB => exact (by exact HB.out));(case aF => exact (fun _ _ => trivial));(case aO => exact (by exact HO363.out));(case aS => exact (below_size (by exact HB.out)));(case aL => have:=LMc2.out;omega);intro v365 w5 ho hb hg hat;rw [← Ny364.out] at ho;replace HB:=am_ hb;have HO366:=am_ (ho);clear HO363 ho hb hg hat));go_ret;exact ⟨_,by rfl,by exact HO366.out,by exact HB.out⟩

/-! ### impl_ownGate: function 44 -/
def impl_ownGate.l0 : Nat → List (List Int) → Int → Int → List Int → List (List Int) → Option (List Int × (List (List Int)))
 | 0,_,_,_,_,_ => none
 | k + 1,x11,x12,x13,x373000,x373001 => if x13 < x12 then (if 0 ≤ x13 then (if x13 < (x11.length : Int) then ((slices_Clone_int.f (rd_L2 x11 x13)).bind fun t374 => (if x373001.length < 5864062014805 then (impl_ownGate.l0 k x11 x12 (wrap64 (x13 + 1)) x373000 (x373001 ++ [t374])) else (none))) else (none)) else (none)) else (some (x373000,x373001))
def impl_ownGate.f (k : Nat) (l0_0 : List Int) (l0_1 : List (List Int)) : Option (List Int × (List (List Int))):=(slices_Clone_int.f l0_0).bind fun t369 => (impl_ownGate.l0 k l0_1 (l0_1.length : Int) 0 t369 ([] : List (List Int)))
theorem impl_ownGate.mono_l : ∀ k,(∀ y0 y1 y2 y3 y4,LeO (impl_ownGate.l0 k y0 y1 y2 y3 y4) (impl_ownGate.l0 (k + 1) y0 y1 y2 y3 y4))
 | 0 => fun _ _ _ _ _ r h => by simp [impl_ownGate.l0] at h
 | k + 1 => by
  have ih0:=impl_ownGate.mono_l k
  ·intro y0 y1 y2 y3 y4
   unfold impl_ownGate.l0
   repeat' first
   | (with_reducible exact ih0 _ _ _ _ _)
   | (with_reducible exact LeO.refl _)
   | (with_reducible exact LeO.none _)
   | (with_reducible refine LeO.ite ?_ ?_)
   | (with_reducible refine LeO.bind ?_ (fun _ => ?_))
   | exact ih0 _ _ _ _ _
   | exact LeO.none _
   | refine LeO.ite ?_ ?_
   | refine LeO.bind ?_ (fun _ => ?_)
theorem impl_ownGate.mono : ∀ a0 a1 k,LeO (impl_ownGate.f k a0 a1) (impl_ownGate.f (k + 1) a0 a1):=by
 intro a0 a1 k;have ih0:=impl_ownGate.mono_l k
 unfold impl_ownGate.f
 repeat' first
   | (with_reducible exact ih0 _ _ _ _ _)
   | (with_reducible exact LeO.refl _)
   | (with_reducible exact LeO.none _)
   | (with_reducible refine LeO.ite ?_ ?_)
   | (with_reducible refine LeO.bind ?_ (fun _ => ?_))
   | exact ih0 _ _ _ _ _
   | exact LeO.none _
   | refine LeO.ite ?_ ?_
   | refine LeO.bind ?_ (fun _ => ?_)
def impl_ownGate.T5 : Bool × List (List Nat × List Nat):=(true,[([],[]),([0],[0]),([],[]),([2],[2]),([3],[3]),([1,4,3],[1,4]),([0,1,2,3,4,5],[]),([6,5,5,0,1,2,3,4,5],[5,6])])
def impl_ownGate.B5 : List Nat := [0,1,0,4,12,31,63,127]
theorem impl_ownGate.tab5 : rtab .any (opsOf Try.f44 5) = impl_ownGate.T5:=by kernel_rfl
theorem impl_ownGate.bits5 : waitsOk impl_ownGate.T5.2 impl_ownGate.B5 = true:=by kernel_rfl
set_option maxHeartbeats 8000000 in
set_option maxRecDepth 100000 in
theorem impl_ownGate.calls (k : Nat) (A0_0 : Option Addr) (c0_0 : Nat) (l0_0 : List Int) (A0_1 : Option Addr) (c0_1 : Nat) (l0_1 : List (List Int)) (r1 : List Int) (r2 : List (List Int)) (w : World) (hr0_0 : Kd.C (Kd.int .i64) w A0_0 l0_0.length l0_0) (hc0_0 : l0_0.length ≤ c0_0) (hr0_1 : Kd.C (Kd.slice 3 (Kd.int .i64)) w A0_1 l0_1.length l0_1) (hc0_1 : l0_1.length ≤ c0_1) (h : impl_ownGate.f k l0_0 l0_1 = some (r1,r2)) :
  Calls Try.prog 44 #[.agg #[.slice A0_0 l0_0.length c0_0, .slice A0_1 l0_1.length c0_1]] w fun e w' => ∃ v0_ v1_ : Value,e = .returned (.agg #[v0_,v1_]) ∧ Kd.R (Kd.int .i64) 3 w' w.heap.size (fun _ => True) v0_ r1 ∧ Kd.S (Kd.slice 3 (Kd.int .i64)) 24 w' w.heap.size (fun k_ => some k_ ≠ (v0_ : Value).ownBlock) v1_ r2 ∧ Below w.heap.size w w':=by
 have hu27:=Try.underlying27;have HR0_0:=am_ hr0_0;have HC0_0:=am_ hc0_0;clear hr0_0 hc0_0;have HR0_1:=am_ hr0_1;have HC0_1:=am_ hc0_1;clear hr0_1 hc0_1;have HB:=am_ (Below.refl w.heap.size w);have H : ((slices_Clone_int.f l0_0).bind fun t369 => (impl_ownGate.l0 k l0_1 (l0_1.length : Int) 0 t369 ([] : List (List Int)))) = some (r1,r2):=h;clear h;replace H:=bn_ H;obtain ⟨t369,A2,H⟩:=H;have H':=am_ H;clear H;go_enter Try.func44,Try.ntmps44;go_wp2_with (first | ((with_reducible refine gate_dst (N:=1) rfl ?_);refine box_event ?hg (N:=1) ?hd (cs:=#[.slice A0_0 l0_0.length c0_0, .slice A0_1 l0_1.length c0_1]) (t:=27) ?hr ?_;(case hd => rfl);(case hg => rfl);(case hr => (go_simp;done));intro gb367 hg w3 hbox hb;have BK367:=am_ hbox;have GW367:=am_ (ge_ hg (by exact HB.out));have GE367:=am_ (ge_ hg (by exact HB.out));replace HB:=am_ (below_step (by exact HB.out) hb);clear hb hbox hg) | ((with_reducible refine gate_dst (N:=2) rfl ?_);refine box_event ?hg (N:=2) ?hd (cs:=#[.slice none 0 0, .slice none 0 0]) (t:=27) ?hr ?_;(case hd => rfl);(case hg => rfl);(case hr => (go_simp;done));intro gb368 hg w4 hbox hb;have BK368:=am_ hbox;have GW368:=am_ (ge_ hg (by exact HB.out));have GE368:=am_ (ge_ hg (by exact HB.out));replace HB:=am_ (below_step (by exact HB.out) hb);have NB367_368:=am_ (nl_ hg (by exact BK367.out));have NB368_367:=am_ (ng_ hg (by exact BK367.out));replace BK367:=am_ (blk_below (by exact BK367.out) hb);clear hb hbox hg;have hnb5:=NB367_368.out;have hnc5:=NB368_367.out;have hcz6_0:=c2_0 BK367.out;have hcz6_1:=c2_1 BK367.out;have hfz6_0:=blk_frozen BK367.out 0;have hfz6_1:=blk_frozen BK367.out 1) | ((with_reducible refine gate_callee (f:=79) rfl ?_);refine goesL_ (some 8) rfl rfl Try.func79 (by kernel_rfl) rfl #[.slice A0_0 l0_0.length c0_0] rfl (by (try simp only [List.map_toArray,List.map_cons,List.map_nil]);rfl) ?_;(with_reducible refine (slices_Clone_int.calls _ _ l0_0 t369 _ ?side1 ?side2 A2.out).mono ?_);(case side1 => repeat (exact (Kd.C_below HR0_0.out HB.out)));(case side2 => exact HC0_0.out);rintro e w7 ⟨v370,rfl,ho0,hb⟩;refine ⟨_,rfl, ?_⟩;have HO371:=am_ (Kd.R_lower ho0 (below_size (by exact HB.out)));replace BK367:=am_ (blk_below (by exact BK367.out) hb);replace BK368:=am_ (blk_below (by exact BK368.out) hb);replace HB:=am_ (below_step (by exact HB.out) hb);(try clear hb);(try clear ho0);obtain ⟨Ao8,co8,eo8⟩ := Kd.R_slice HO371.out;subst eo8) | ((with_reducible refine gate_dst (N:=3) rfl ?_);refine box_event ?hg (N:=3) ?hd (cs:=#[.slice none 0 0, .slice none 0 0]) (t:=27) ?hr ?_;(case hd => rfl);(case hg => rfl);(case hr => (go_simp;done));intro gb372 hg w9 hbox hb;replace HO371:=am_ (Kd.R_below (by exact HO371.out) hb);have BK372:=am_ hbox;have GW372:=am_ (ge_ hg (by exact HB.out));have GE372:=am_ (ge_ hg (by exact HB.out));replace HB:=am_ (below_step (by exact HB.out) hb);have NB367_372:=am_ (nl_ hg (by exact BK367.out));have NB372_367:=am_ (ng_ hg (by exact BK367.out));replace BK367:=am_ (blk_below (by exact BK367.out) hb);have NB368_372:=am_ (nl_ hg (by exact BK368.out));have NB372_368:=am_ (ng_ hg (by exact BK368.out));replace BK368:=am_ (blk_below (by exact BK368.out) hb);clear hb hbox hg;have hnb10:=NB372_367.out;have hnc10:=NB367_372.out;have hnb11:=NB372_368.out;have hnc11:=NB368_372.out;have hcz12_0:=c2_0 BK372.out;have hcz12_1:=c2_1 BK372.out;have hfz12_0:=blk_frozen BK372.out 0;have hfz12_1:=blk_frozen BK372.out 1;have hcz13_0:=c2_0 BK367.out;have hcz13_1:=c2_1 BK367.out;have hfz13_0:=blk_frozen BK367.out 0;have hfz13_1:=blk_frozen BK367.out 1));go_loopg [13] k (fun kq v13 w' => ∃ (x13_1 : Int) (x373001_1 : List (List Int)) (u373001 : Value),v13 = .int .i64 x13_1 ∧ Aside0 (impl_ownGate.l0 kq l0_1 (l0_1.length : Int) x13_1 t369 x373001_1 = some (r1,r2)) ∧ Aside0 (kq ≤ k) ∧ Aside0 (Kd.R (Kd.int .i64) 3 w' w.heap.size (fun _ => True) (.slice Ao8 t369.length co8) t369) ∧ Aside0 (Kd.S (Kd.slice 3 (Kd.int .i64)) 24 w' w.heap.size (fun k_ => some k_ ≠ ((.slice Ao8 t369.length co8) : Value).ownBlock) u373001 x373001_1) ∧ Aside0 (w'.heap[gb367]? = some (.cells #[(.slice A0_0 l0_0.length c0_0),(.slice A0_1 l0_1.length c0_1)] 27 (0,0))) ∧ Aside0 (w'.heap[gb368]? = some (.cells #[(.slice none 0 0),(.slice none 0 0)] 27 (0,0))) ∧ Aside0 (w'.heap[gb372]? = some (.cells #[(.slice Ao8 t369.length co8),u373001] 27 (0,0))) ∧ Aside0 (Below w.heap.size w w'));case atStart =>exact ⟨(0),(([] : List (List Int))),(.slice none 0 0),(by rfl),H',⟨Nat.le_refl _⟩,⟨by exact Kd.R_mono (rf2_ (Kd.R_types HO371.out BK372.out (by decide)) (.slice Ao8 t369.length co8) (.slice none 0 0)) (fun _ hk => trivial)⟩,⟨by exact Kd.S_nil _ _ _ _ _⟩,⟨by refine blk_far ?_ NB367_372.out _;refine blk_far ?_ NB367_372.out _;exact BK367.out⟩,⟨by refine blk_far ?_ NB368_372.out _;refine blk_far ?_ NB368_372.out _;exact BK368.out⟩,⟨by refine blk_put (cs:=#[.slice Ao8 t369.length co8, .slice none 0 0]) ?_ 1 _ rfl;refine blk_put (cs:=#[.slice none 0 0, .slice none 0 0]) ?_ 0 _ rfl;exact BK372.out⟩,⟨by repeat ((with_reducible first | exact HB.out | refine below_set ?_ GE372.out))⟩⟩
 case round =>
 clear H';(try clear c1);(try clear p2);(try clear c4);(try clear c5);(try clear c7);(try clear c10);(try clear c11);(try clear hcz12_0);(try clear hcz12_1);(try clear hcz13_0);(try clear hcz13_1);(try clear hcz6_0);(try clear hcz6_1);(try clear hfz12_0);(try clear hfz12_1);(try clear hfz13_0);(try clear hfz13_1);(try clear hfz6_0);(try clear hfz6_1);obtain ⟨x13_1,x373001_1,u373001,rfl,HA,HK1,HO_373000,HO_373001,BK367,BK368,BK372,HB⟩ := hrel
 cases gk with
 | zero =>exact absurd HA.out (by simp [impl_ownGate.l0])
 | succ k1 =>
 have H:=HA.out;clear HA;simp only [impl_ownGate.l0] at H;replace H:=ie_ H;obtain ⟨c14b0,H⟩|⟨c14b0,H⟩:=H
 ·simp only [Option.some.injEq,Prod.mk.injEq] at H;obtain ⟨rfl,rfl⟩ := H;have hnb25:=NB372_367.out;have hnc25:=NB367_372.out;have hnb26:=NB372_368.out;have hnc26:=NB368_372.out;have hcz27_0:=c2_0 BK372.out;have hcz27_1:=c2_1 BK372.out;have hfz27_0:=blk_frozen BK372.out 0;have hfz27_1:=blk_frozen BK372.out 1;have hnb28:=NB368_367.out;have hnc28:=NB367_368.out;have hcz29_0:=c2_0 BK368.out;have hcz29_1:=c2_1 BK368.out;have hfz29_0:=blk_frozen BK368.out 0;have hfz29_1:=blk_frozen BK368.out 1;obtain ⟨Ao30,co30,eo30⟩ := Kd.S_slice HO_373001.out;subst eo30;go_wp2;refine bodyPost_ret (results_cell_row rfl _ _ gb368 27 #[.slice Ao8 t369.length co8, .slice Ao30 x373001_1.length co30] (0,0) _ rfl ?hblk_ Try.underlying27 rfl (by kernel_rfl)) rfl ?_;case hblk_ =>refine blk_put (cs:=#[.slice Ao8 t369.length co8, .slice none 0 0]) ?_ 1 _ rfl;refine blk_put (cs:=#[.slice none 0 0, .slice none 0 0]) ?_ 0 _ rfl;exact BK368.out
  exact ⟨_,_,by rfl,by exact Kd.R_mono (rf2_ (Kd.R_types HO_373000.out BK368.out (by decide)) (.slice Ao8 t369.length co8) (.slice Ao30 x373001_1.length co30)) (fun _ hk => trivial),by exact Kd.S_mono (Kd.S_far (p:=⟨gb368,1,none⟩) (Kd.S_far (p:=⟨gb368,0,none⟩) (Kd.S_types HO_373001.out BK368.out (by decide)) (fun _ hk => hk.2) (.slice Ao8 t369.length co8)) (fun _ hk => hk.2) (.slice Ao30 x373001_1.length co30)) (fun _ hk => hk.1),by repeat ((with_reducible first | exact HB.out | refine below_set ?_ GE368.out))⟩
 replace H:=iq_ H;obtain ⟨c15b0,H⟩:=H;replace H:=iq_ H;obtain ⟨c16b0,H⟩:=H;replace H:=bn_ H;obtain ⟨t374,A17,H⟩:=H;replace H:=ip_ H;obtain ⟨c18,H⟩:=H;have LMc18:=am_ c18;clear c18;obtain ⟨y377,hy377⟩ : ∃ y_ : List (List Int),y_ = (x373001_1 ++ [t374]):=⟨_,rfl⟩;rw [← hy377] at H;have Ny377:=am_ hy377;clear hy377;have H':=am_ H;clear H;have p373 : 0 ≤ (x13_1 : Int):=of_decide_eq_true (by (with_reducible assumption));have q373 : x13_1 < (l0_1.length : Int):=of_decide_eq_true (by (with_reducible assumption));obtain ⟨ad373,A373_0,c373_0,e373,hx373_0,hl373_0,hi373_0⟩ := at_L2 HR0_1.out x13_1 p373 q373;cases e373;replace hx373_0:=(HB.out.cell (World.block_lt_of_cell? w _ hx373_0)).trans hx373_0;have HR373_0:=am_ hi373_0;have HC373_0:=am_ hl373_0;clear hi373_0 hl373_0;replace p373:=eq_true p373;replace q373:=eq_true q373;try go_wp2
 replace HO_373000:=am_ (Kd.R_drew HO_373000.out);replace HO_373001:=am_ (Kd.S_drew HO_373001.out);replace BK367:=am_ (blk_drew BK367.out);replace BK368:=am_ (blk_drew BK368.out);replace BK372:=am_ (blk_drew BK372.out);replace HB:=am_ (below_drew1 HB.out);refine st_ 8 (fun w' => w'.cell? ⟨gb372,0,none⟩ = some (.slice Ao8 t369.length co8) ∧ w'.cell? ⟨gb372,1,none⟩ = some (u373001)) [7] impl_ownGate.tab5 impl_ownGate.bits5 ⟨(blk_cell BK372.out 0).trans rfl,(blk_cell BK372.out 1).trans rfl⟩ (fun hHeld HT_ HW_ => ?_);generalize wr.drew = w19 at HO_373000 HO_373001 BK367 BK368 BK372 HB hHeld ⊢;refine p_ 0 17 HT_ ?_;refine p_ 2 19 HT_ ?_;refine t_ 1 18 HT_ HW_ hHeld ?_;refine o_ 3 (some 20) HT_ (fun K hK => ?_);refine goes_ Try.func79 (by kernel_rfl) rfl #[.slice A373_0 (rd_L2 l0_1 x13_1).length c373_0] (by rfl) rfl rfl (by (try simp only [List.map_toArray,List.map_cons,List.map_nil]);rfl) ?_;(with_reducible refine (slices_Clone_int.calls _ _ (rd_L2 l0_1 x13_1) t374 _ ?side1 ?side2 A17.out).mono ?_);(case side1 => repeat (exact (Kd.C_below HR373_0.out HB.out)));(case side2 => exact HC373_0.out);rintro e w20 ⟨v375,rfl,ho0,hb⟩;refine ⟨_,rfl, ?_⟩;replace HO_373001:=am_ (Kd.S_elder' (by exact HO_373001.out) (Kd.R_base ho0) hb);have HO376:=am_ (Kd.R_lower (Kd.R_new' ho0 (Kd.R_lt (by exact HO_373000.out))) (below_size (by exact HB.out)));replace HO_373000:=am_ (Kd.R_elder' (by exact HO_373000.out) (Kd.R_base ho0) hb);replace BK367:=am_ (blk_below (by exact BK367.out) hb);replace BK368:=am_ (blk_below (by exact BK368.out) hb);replace BK372:=am_ (blk_below (by exact BK372.out) hb);replace HB:=am_ (below_step (by exact HB.out) hb);(try clear hb);(try clear ho0);obtain ⟨Ao22,co22,eo22⟩ := Kd.R_slice HO376.out;(subst eo22);refine hK.out _ _ ⟨(blk_cell BK372.out 0).trans rfl,(blk_cell BK372.out 1).trans rfl⟩ (fun hHeld => ?_);clear hK K;refine norm_ (a':=?_) ?_ ?_;rotate_left
 ·show Act.put _ (some 20) _ = _;simp only [Act.put,sA_,s0_,s1_,i64_w,i32_w];rfl
 refine o_ 4 (some 21) HT_ (fun K hK => ?_);refine value_ (w1:=?_) (v:=?_) (by rfl) rfl ?_ ?_;rotate_left 2
 ·go_simp;constructor
  ·rfl
  rfl
 refine hK.out _ _ ⟨(blk_cell (blk_alloc BK372.out _) 0).trans rfl,(blk_cell (blk_alloc BK372.out _) 1).trans rfl⟩ (fun hHeld => ?_);clear hK K;refine norm_ (a':=?_) ?_ ?_;rotate_left
 ·show Act.put _ (some 21) _ = _;simp only [Act.put,sA_,s0_,s1_,i64_w,i32_w];rfl
 refine o_ 5 (some 22) HT_ (fun K hK => ?_);refine Kd.S_append_step (Kd.slice 3 (Kd.int .i64)) (w0:=w) w.heap.size (by rfl) (.tmp 18) (.tmp 21) 25 24 (.slice none 0 0) 24 rfl Try.underlying25 info24 rfl (by decide) (by omega) u373001 x373001_1 t374 [.slice Ao22 t374.length co22] (fun k_ => some k_ ≠ (.slice Ao8 t369.length co8 : Value).ownBlock) (fun k_ => some k_ = (.slice Ao22 t374.length co22 : Value).ownBlock) rfl rfl ?aP (fun k_ hk_ => ((Kd.R_mono (ok':=fun k_ => ((fun k_ => some k_ ≠ (.slice Ao8 t369.length co8 : Value).ownBlock)) k_ ∧ some k_ ≠ (u373001 : Value).ownBlock) (Kd.R_apart' (HO376.out) (Kd.S_typed HO_373001.out) (by decide)) (fun k_ hk => ⟨hk.1.2,hk.2⟩))).1 k_ hk_.symm) ?aF ?aO ?aB ?aS ?aL ?_;(case aP => exact Kd.M_row (Kd.R_mono (Kd.R_tight rfl (Kd.R_mono (ok':=fun k_ => ((fun k_ => some k_ ≠ (.slice Ao8 t369.length co8 : Value).ownBlock)) k_ ∧ some k_ ≠ (u373001 : Value).ownBlock) (Kd.R_apart' (HO376.out) (Kd.S_typed HO_373001.out) (by decide)) (fun k_ hk => ⟨hk.1.2,hk.2⟩))) (fun _ h_ => h_)));(case aB => exact (by exact HB.out));(case aF => exact (fun k_ hk => Kd.fresh' (Kd.R_lt (by exact HO_373000.out)) k_ hk));(case aO => exact (by exact Kd.S_mono HO_373001.out (fun k_ hk => ⟨hk.1,fun e_ => hk.2 e_⟩)));(case aS => exact (below_size (by exact HB.out)));(case aL => have:=LMc18.out;omega);intro v378 w21 ho hb hg hat;rw [← Ny377.out] at ho;replace HO_373000:=am_ (Kd.R_over' (by exact HO_373000.out) (Kd.S_typed (by exact HO_373001.out)) (by decide) hg);replace BK367:=am_ (blk_grown (g:=gb367) (o := .cells #[.slice A0_0 l0_0.length c0_0, .slice (some ad373) l0_1.length c0_1] 27 (0,0)) (by exact BK367.out) hg (Kd.S_ne HO_373001.out BK367.out (by decide)));replace BK368:=am_ (blk_grown (g:=gb368) (o := .cells #[.slice none 0 0, .slice none 0 0] 27 (0,0)) (by exact BK368.out) hg (Kd.S_ne HO_373001.out BK368.out (by decide)));replace BK372:=am_ (blk_grown (g:=gb372) (o := .cells #[.slice Ao8 t369.length co8,u373001] 27 (0,0)) (by exact BK372.out) hg (Kd.S_ne HO_373001.out BK372.out (by decide)));replace HB:=am_ hb;have HO379:=am_ (ho);clear HO376 HO_373001 ho hb hg hat;obtain ⟨Ao23,co23,eo23⟩ := Kd.S_slice HO379.out;(subst eo23);refine hK.out _ _ ⟨(blk_cell BK372.out 0).trans rfl,(blk_cell BK372.out 1).trans rfl⟩ (fun hHeld => ?_);clear hK K;refine norm_ (a':=?_) ?_ ?_;rotate_left
 ·show Act.put _ (some 22) _ = _;simp only [Act.put,sA_,s0_,s1_,i64_w,i32_w];rfl
 refine p_ 6 23 HT_ ?_;refine z_ 7 none HT_ (fun K hK => ?_);have hs24 : w21.cell? ⟨gb372,1,none⟩ = some (u373001):=(blk_cell BK372.out 1).trans rfl;have hfs24:=blk_frozen BK372.out 1;have hns24_0:=NB367_372.out;have hns24_1:=NB368_372.out;have hms24_0:=NB372_367.out;have hms24_1:=NB372_368.out;refine skip_ (w1:=?_) (by rfl) rfl ?_ ?_;rotate_left
 ·go_simp;rfl
 refine hK.out _ _ ?_;clear hK K;refine d_ HT_ ?_;try go_wp2
 go_roundg k1;case measure =>have:=HK1.out;omega
 case rel =>exact ⟨(wrap64 (x13_1 + 1)),(y377),(.slice Ao23 y377.length co23),(by rfl),H',⟨by have:=HK1.out;omega⟩,⟨by exact Kd.R_mono (Kd.R_far (p:=⟨gb372,1,none⟩) (Kd.R_types HO_373000.out BK372.out (by decide)) (fun _ hk => hk.2) (.slice Ao23 y377.length co23)) (fun _ hk => trivial)⟩,⟨by exact Kd.S_mono (Kd.S_far (p:=⟨gb372,1,none⟩) (Kd.S_types HO379.out BK372.out (by decide)) (fun _ hk => hk.2) (.slice Ao23 y377.length co23)) (fun _ hk => hk.1)⟩,⟨by refine blk_far ?_ NB367_372.out _;exact BK367.out⟩,⟨by refine blk_far ?_ NB368_372.out _;exact BK368.out⟩,⟨by refine blk_put (cs:=#[.slice Ao8 t369.length co8,u373001]) ?_ 1 _ rfl;exact BK372.out⟩,⟨by repeat ((with_reducible first | exact HB.out | refine below_set ?_ GE372.out))⟩⟩





















end Go.Proofs.Ytglfjaaaegfdnaa.PFnBooking
