-- Written by a program of this session, over the kit's print (wip/xprint.py)
import Derived.Test.YtglfjaaaegfdnaaPFnExactCloseSlotx0
import Derived.Test.YtglfjaaaegfdnaaPFnExactCloseSlotx1
namespace Go.Proofs.Ytglfjaaaegfdnaa.PFnExactCloseSlot
open Go.RowKit Go.Proofs.YtglfjaaaegfdnaaW.PrintWords Go.Proofs.YtglfjaaaegfdnaaW.PrintLast Go.Proofs.YtglfjaaaegfdnaaW.PrintMore
attribute [local go_sem] max2_int min2_int max_two min_two max_three min_three max_four min_four   -- for this text's walks alone
set_option linter.unusedVariables false
set_option linter.unusedSimpArgs false

/-! ### impl_isGateFor: function 42 -/
def impl_isGateFor.f (k : Nat) (l0_0 : List Int) (l0_1 : List (List Int)) (a1 : Int) (l2 : List Int) : Option (Bool):=(impl_IsValidGate.f k l0_0 l0_1).bind fun t119 => (if t119 = true then ((impl_within.f a1 1 99).bind fun t120 => (if t120 = true then ((slices_ContainsFunc_int.f k l2 l0_0 l0_1).bind fun t121 => (some (!t121))) else (some false))) else (some false))
theorem impl_isGateFor.mono : ∀ a0 a1 a2 a3 k,LeO (impl_isGateFor.f k a0 a1 a2 a3) (impl_isGateFor.f (k + 1) a0 a1 a2 a3):=by
 intro a0 a1 a2 a3 k
 unfold impl_isGateFor.f
 repeat' first
   | (with_reducible exact impl_IsValidGate.mono _ _ _)
   | (with_reducible exact slices_ContainsFunc_int.mono _ _ _ _)
   | (with_reducible exact LeO.refl _)
   | (with_reducible exact LeO.none _)
   | (with_reducible refine LeO.ite ?_ ?_)
   | (with_reducible refine LeO.bind ?_ (fun _ => ?_))
   | exact impl_IsValidGate.mono _ _ _
   | exact slices_ContainsFunc_int.mono _ _ _ _
   | exact LeO.none _
   | refine LeO.ite ?_ ?_
   | refine LeO.bind ?_ (fun _ => ?_)
set_option maxHeartbeats 8000000 in
set_option maxRecDepth 100000 in
theorem impl_isGateFor.calls (k : Nat) (A0_0 : Option Addr) (c0_0 : Nat) (l0_0 : List Int) (A0_1 : Option Addr) (c0_1 : Nat) (l0_1 : List (List Int)) (a1 : Int) (A2 : Option Addr) (c2 : Nat) (l2 : List Int) (r : Bool) (w : World) (hr0_0 : Kd.C (Kd.int .i64) w A0_0 l0_0.length l0_0) (hc0_0 : l0_0.length ≤ c0_0) (hr0_1 : Kd.C (Kd.slice 3 (Kd.int .i64)) w A0_1 l0_1.length l0_1) (hc0_1 : l0_1.length ≤ c0_1) (hr2 : Kd.C (Kd.int .i64) w A2 l2.length l2) (hc2 : l2.length ≤ c2) (h : impl_isGateFor.f k l0_0 l0_1 a1 l2 = some r) :
  Calls Try.prog 42 #[.agg #[.slice A0_0 l0_0.length c0_0, .slice A0_1 l0_1.length c0_1], .int .i64 a1, .slice A2 l2.length c2] w fun e w' => e = .returned (.bool r) ∧ Below w.heap.size w w':=by
 have hu27:=Try.underlying27;have HR0_0:=am_ hr0_0;have HC0_0:=am_ hc0_0;clear hr0_0 hc0_0;have HR0_1:=am_ hr0_1;have HC0_1:=am_ hc0_1;clear hr0_1 hc0_1;have HR2:=am_ hr2;have HC2:=am_ hc2;clear hr2 hc2;have HB:=am_ (Below.refl w.heap.size w);have H : ((impl_IsValidGate.f k l0_0 l0_1).bind fun t119 => (if t119 = true then ((impl_within.f a1 1 99).bind fun t120 => (if t120 = true then ((slices_ContainsFunc_int.f k l2 l0_0 l0_1).bind fun t121 => (some (!t121))) else (some false))) else (some false))) = some r:=h;clear h;replace H:=Option.bind_eq_some_iff.mp H;obtain ⟨t119,A40,H⟩ := H;replace H : (if t119 = true then ((impl_within.f a1 1 99).bind fun t120 => (if t120 = true then ((slices_ContainsFunc_int.f k l2 l0_0 l0_1).bind fun t121 => (some (!t121))) else (some false))) else (some false)) = some r:=H;have A4:=am_ A40;clear A40
 by_cases c5 : t119 = true
 ·subst c5
  have H1 : ((impl_within.f a1 1 99).bind fun t120 => (if t120 = true then ((slices_ContainsFunc_int.f k l2 l0_0 l0_1).bind fun t121 => (some (!t121))) else (some false))) = some r:=by rw [if_pos rfl] at H;exact H
  clear H;have H:=H1;clear H1;replace H:=Option.bind_eq_some_iff.mp H;obtain ⟨t120,A60,H⟩ := H;replace H : (if t120 = true then ((slices_ContainsFunc_int.f k l2 l0_0 l0_1).bind fun t121 => (some (!t121))) else (some false)) = some r:=H;have A6:=am_ A60;clear A60
  by_cases c7 : t120 = true
  ·subst c7
   have H1 : ((slices_ContainsFunc_int.f k l2 l0_0 l0_1).bind fun t121 => (some (!t121))) = some r:=by rw [if_pos rfl] at H;exact H
   clear H;have H:=H1;clear H1;replace H:=Option.bind_eq_some_iff.mp H;obtain ⟨t121,A80,H⟩ := H;replace H : (some (!t121)) = some r:=H;have A8:=am_ A80;clear A80;obtain rfl:=Option.some.inj H
   go_enter Try.func42,Try.ntmps42
   go_wp2_with (first | ((with_reducible refine gate_dst (N:=3) rfl ?_);refine box_event ?hg (N:=3) ?hd (cs:=#[.slice A0_0 l0_0.length c0_0, .slice A0_1 l0_1.length c0_1]) (t:=27) ?hr ?_;(case hd => rfl);(case hg => rfl);(case hr => first | (go_simp;done) | (go_simp;rfl));intro gb118 hg w9 hbox hb;have n0_:=am_ (below_step (by repeat (first | (with_reducible first | exact HB.out | apply below_alloc | apply pw_below_drewN | apply below_drew1) | exact HB.out)) hb);have n1_:=am_ hbox;have n2_:=am_ ((by rw [hg];exact (below_size (by repeat (first | (with_reducible first | exact HB.out | apply below_alloc | apply pw_below_drewN | apply below_drew1) | exact HB.out))) : w.heap.size ≤ gb118));have n3_:=am_ ((by rw [hg];exact (below_size (by repeat (first | (with_reducible first | exact HB.out | apply below_alloc | apply pw_below_drewN | apply below_drew1) | exact HB.out))) : w.heap.size ≤ gb118));clear HB;have HB:=n0_;have BK118:=n1_;have GW118:=n2_;have GE118:=n3_;clear n0_ n1_ n2_ n3_;clear hb hbox hg;have hcz10_0:=c2_0 BK118.out;have hcz10_1:=c2_1 BK118.out;have hfz10_0:=blk_frozen BK118.out 0;have hfz10_1:=blk_frozen BK118.out 1) | ((with_reducible refine gate_callee (f:=15) rfl ?_);refine goesL_ (some 8) rfl rfl Try.func15 (by kernel_rfl) rfl #[.agg #[.slice A0_0 l0_0.length c0_0, .slice A0_1 l0_1.length c0_1]] rfl (by (try simp only [List.map_toArray,List.map_cons,List.map_nil]);first | done | rfl | (simp only [List.length_drop,List.length_take];rfl)) ?_;(with_reducible refine (impl_IsValidGate.calls k _ _ l0_0 _ _ l0_1 true _ ?side1 ?side2 ?side3 ?side4 A4.out).mono ?_);(case side1 => repeat (first | exact (Kd.C_below HR0_0.out HB.out) | (with_reducible refine Kd.C_alloc ?_ _) | (with_reducible refine Kd.C_drewN ?_ _) | (with_reducible refine Kd.C_drew ?_)));(case side2 => exact HC0_0.out);(case side3 => repeat (first | exact (Kd.C_below HR0_1.out HB.out) | (with_reducible refine Kd.C_alloc ?_ _) | (with_reducible refine Kd.C_drewN ?_ _) | (with_reducible refine Kd.C_drew ?_)));(case side4 => exact HC0_1.out);rintro e w11 ⟨rfl,hb⟩;refine ⟨_,rfl, ?_⟩;have n0_:=am_ (blk_below (g:=gb118) (o := .cells #[.slice A0_0 l0_0.length c0_0, .slice A0_1 l0_1.length c0_1] 27 (0,0)) (by (with_reducible repeat (first | refine blk_drewN ?_ _ | refine blk_drew ?_ | refine blk_alloc ?_ _));exact BK118.out) hb);have n1_:=am_ (below_step (by repeat (first | (with_reducible first | exact HB.out | apply below_alloc | apply pw_below_drewN | apply below_drew1 | refine below_set ?_ GE118.out) | exact HB.out)) hb);clear BK118;clear HB;have BK118:=n0_;have HB:=n1_;clear n0_ n1_;(try clear hb);(try clear hb2);(try clear hk);(try clear hi)) | (go_at_call 53;(with_reducible refine (impl_within.calls a1 1 99 true _ A6.out).mono ?_);rintro e w' ⟨rfl,⟨nd,rfl⟩⟩) | (go_at_call 74;(with_reducible refine (slices_ContainsFunc_int.calls (hg1_0:=?sg0) (hg1_1:=?sg1) k _ _ l2 A0_0 c0_0 l0_0 A0_1 c0_1 l0_1 t121 _ ?side1 ?side2 ?side3 ?side4 ?side5 ?side6 A8.out).mono ?_);(case sg0 => exact (blk_cell (by (with_reducible repeat (first | refine blk_drewN ?_ _ | refine blk_drew ?_ | refine blk_alloc ?_ _));exact BK118.out) 0).trans rfl);(case sg1 => exact (blk_cell (by (with_reducible repeat (first | refine blk_drewN ?_ _ | refine blk_drew ?_ | refine blk_alloc ?_ _));exact BK118.out) 1).trans rfl);(case side1 => repeat (first | exact (Kd.C_below HR2.out (by repeat (first | (with_reducible first | exact HB.out | apply below_alloc | apply pw_below_drewN | apply below_drew1 | refine below_set ?_ GE118.out) | exact HB.out))) | (with_reducible refine Kd.C_alloc ?_ _) | (with_reducible refine Kd.C_drewN ?_ _) | (with_reducible refine Kd.C_drew ?_)));(case side2 => exact HC2.out);(case side3 => repeat (first | exact (Kd.C_below HR0_0.out (by repeat (first | (with_reducible first | exact HB.out | apply below_alloc | apply pw_below_drewN | apply below_drew1 | refine below_set ?_ GE118.out) | exact HB.out))) | (with_reducible refine Kd.C_alloc ?_ _) | (with_reducible refine Kd.C_drewN ?_ _) | (with_reducible refine Kd.C_drew ?_)));(case side4 => exact HC0_0.out);(case side5 => repeat (first | exact (Kd.C_below HR0_1.out (by repeat (first | (with_reducible first | exact HB.out | apply below_alloc | apply pw_below_drewN | apply below_drew1 | refine below_set ?_ GE118.out) | exact HB.out))) | (with_reducible refine Kd.C_alloc ?_ _) | (with_reducible refine Kd.C_drewN ?_ _) | (with_reducible refine Kd.C_drew ?_)));(case side6 => exact HC0_1.out);rintro e w12 ⟨rfl,hb⟩;have n0_:=am_ (blk_below (g:=gb118) (o := .cells #[.slice A0_0 l0_0.length c0_0, .slice A0_1 l0_1.length c0_1] 27 (0,0)) (by (with_reducible repeat (first | refine blk_drewN ?_ _ | refine blk_drew ?_ | refine blk_alloc ?_ _));exact BK118.out) hb);have n1_:=am_ (below_step (by repeat (first | (with_reducible first | exact HB.out | apply below_alloc | apply pw_below_drewN | apply below_drew1 | refine below_set ?_ GE118.out) | exact HB.out)) hb);clear BK118;clear HB;have BK118:=n0_;have HB:=n1_;clear n0_ n1_;(try clear hb);(try clear hb2);(try clear hk);(try clear hi)))
   go_ret
   exact ⟨by first | rfl | (simp [errW_none,errW_some] <;> rfl) | (simp [*,errW_none,errW_some] <;> rfl),by repeat (first | (with_reducible first | exact HB.out | apply below_alloc | apply pw_below_drewN | apply below_drew1 | refine below_set ?_ GE118.out) | exact HB.out)⟩
  ·replace c7:=Bool.eq_false_iff.mpr c7;subst c7
   have H1 : (some false) = some r:=by rw [if_neg (show ¬ (false = true) by decide)] at H;exact H
   clear H;have H:=H1;clear H1;obtain rfl:=Option.some.inj H
   go_enter Try.func42,Try.ntmps42
   go_wp2_with (first | ((with_reducible refine gate_dst (N:=3) rfl ?_);refine box_event ?hg (N:=3) ?hd (cs:=#[.slice A0_0 l0_0.length c0_0, .slice A0_1 l0_1.length c0_1]) (t:=27) ?hr ?_;(case hd => rfl);(case hg => rfl);(case hr => first | (go_simp;done) | (go_simp;rfl));intro gb118 hg w13 hbox hb;have n0_:=am_ (below_step (by repeat (first | (with_reducible first | exact HB.out | apply below_alloc | apply pw_below_drewN | apply below_drew1) | exact HB.out)) hb);have n1_:=am_ hbox;have n2_:=am_ ((by rw [hg];exact (below_size (by repeat (first | (with_reducible first | exact HB.out | apply below_alloc | apply pw_below_drewN | apply below_drew1) | exact HB.out))) : w.heap.size ≤ gb118));have n3_:=am_ ((by rw [hg];exact (below_size (by repeat (first | (with_reducible first | exact HB.out | apply below_alloc | apply pw_below_drewN | apply below_drew1) | exact HB.out))) : w.heap.size ≤ gb118));clear HB;have HB:=n0_;have BK118:=n1_;have GW118:=n2_;have GE118:=n3_;clear n0_ n1_ n2_ n3_;clear hb hbox hg;have hcz14_0:=c2_0 BK118.out;have hcz14_1:=c2_1 BK118.out;have hfz14_0:=blk_frozen BK118.out 0;have hfz14_1:=blk_frozen BK118.out 1) | ((with_reducible refine gate_callee (f:=15) rfl ?_);refine goesL_ (some 8) rfl rfl Try.func15 (by kernel_rfl) rfl #[.agg #[.slice A0_0 l0_0.length c0_0, .slice A0_1 l0_1.length c0_1]] rfl (by (try simp only [List.map_toArray,List.map_cons,List.map_nil]);first | done | rfl | (simp only [List.length_drop,List.length_take];rfl)) ?_;(with_reducible refine (impl_IsValidGate.calls k _ _ l0_0 _ _ l0_1 true _ ?side1 ?side2 ?side3 ?side4 A4.out).mono ?_);(case side1 => repeat (first | exact (Kd.C_below HR0_0.out HB.out) | (with_reducible refine Kd.C_alloc ?_ _) | (with_reducible refine Kd.C_drewN ?_ _) | (with_reducible refine Kd.C_drew ?_)));(case side2 => exact HC0_0.out);(case side3 => repeat (first | exact (Kd.C_below HR0_1.out HB.out) | (with_reducible refine Kd.C_alloc ?_ _) | (with_reducible refine Kd.C_drewN ?_ _) | (with_reducible refine Kd.C_drew ?_)));(case side4 => exact HC0_1.out);rintro e w15 ⟨rfl,hb⟩;refine ⟨_,rfl, ?_⟩;have n0_:=am_ (blk_below (g:=gb118) (o := .cells #[.slice A0_0 l0_0.length c0_0, .slice A0_1 l0_1.length c0_1] 27 (0,0)) (by (with_reducible repeat (first | refine blk_drewN ?_ _ | refine blk_drew ?_ | refine blk_alloc ?_ _));exact BK118.out) hb);have n1_:=am_ (below_step (by repeat (first | (with_reducible first | exact HB.out | apply below_alloc | apply pw_below_drewN | apply below_drew1 | refine below_set ?_ GE118.out) | exact HB.out)) hb);clear BK118;clear HB;have BK118:=n0_;have HB:=n1_;clear n0_ n1_;(try clear hb);(try clear hb2);(try clear hk);(try clear hi)) | (go_at_call 53;(with_reducible refine (impl_within.calls a1 1 99 false _ A6.out).mono ?_);rintro e w' ⟨rfl,⟨nd,rfl⟩⟩))
   go_ret
   exact ⟨by first | rfl | (simp [errW_none,errW_some] <;> rfl) | (simp [*,errW_none,errW_some] <;> rfl),by repeat (first | (with_reducible first | exact HB.out | apply below_alloc | apply pw_below_drewN | apply below_drew1 | refine below_set ?_ GE118.out) | exact HB.out)⟩
 ·replace c5:=Bool.eq_false_iff.mpr c5;subst c5
  have H1 : (some false) = some r:=by rw [if_neg (show ¬ (false = true) by decide)] at H;exact H
  clear H;have H:=H1;clear H1;obtain rfl:=Option.some.inj H
  go_enter Try.func42,Try.ntmps42
  go_wp2_with (first | ((with_reducible refine gate_dst (N:=3) rfl ?_);refine box_event ?hg (N:=3) ?hd (cs:=#[.slice A0_0 l0_0.length c0_0, .slice A0_1 l0_1.length c0_1]) (t:=27) ?hr ?_;(case hd => rfl);(case hg => rfl);(case hr => first | (go_simp;done) | (go_simp;rfl));intro gb118 hg w16 hbox hb;have n0_:=am_ (below_step (by repeat (first | (with_reducible first | exact HB.out | apply below_alloc | apply pw_below_drewN | apply below_drew1) | exact HB.out)) hb);have n1_:=am_ hbox;have n2_:=am_ ((by rw [hg];exact (below_size (by repeat (first | (with_reducible first | exact HB.out | apply below_alloc | apply pw_below_drewN | apply below_drew1) | exact HB.out))) : w.heap.size ≤ gb118));have n3_:=am_ ((by rw [hg];exact (below_size (by repeat (first | (with_reducible first | exact HB.out | apply below_alloc | apply pw_below_drewN | apply below_drew1) | exact HB.out))) : w.heap.size ≤ gb118));clear HB;have HB:=n0_;have BK118:=n1_;have GW118:=n2_;have GE118:=n3_;clear n0_ n1_ n2_ n3_;clear hb hbox hg;have hcz17_0:=c2_0 BK118.out;have hcz17_1:=c2_1 BK118.out;have hfz17_0:=blk_frozen BK118.out 0;have hfz17_1:=blk_frozen BK118.out 1) | ((with_reducible refine gate_callee (f:=15) rfl ?_);refine goesL_ (some 8) rfl rfl Try.func15 (by kernel_rfl) rfl #[.agg #[.slice A0_0 l0_0.length c0_0, .slice A0_1 l0_1.length c0_1]] rfl (by (try simp only [List.map_toArray,List.map_cons,List.map_nil]);first | done | rfl | (simp only [List.length_drop,List.length_take];rfl)) ?_;(with_reducible refine (impl_IsValidGate.calls k _ _ l0_0 _ _ l0_1 false _ ?side1 ?side2 ?side3 ?side4 A4.out).mono ?_);(case side1 => repeat (first | exact (Kd.C_below HR0_0.out HB.out) | (with_reducible refine Kd.C_alloc ?_ _) | (with_reducible refine Kd.C_drewN ?_ _) | (with_reducible refine Kd.C_drew ?_)));(case side2 => exact HC0_0.out);(case side3 => repeat (first | exact (Kd.C_below HR0_1.out HB.out) | (with_reducible refine Kd.C_alloc ?_ _) | (with_reducible refine Kd.C_drewN ?_ _) | (with_reducible refine Kd.C_drew ?_)));(case side4 => exact HC0_1.out);rintro e w18 ⟨rfl,hb⟩;refine ⟨_,rfl, ?_⟩;have n0_:=am_ (blk_below (g:=gb118) (o := .cells #[.slice A0_0 l0_0.length c0_0, .slice A0_1 l0_1.length c0_1] 27 (0,0)) (by (with_reducible repeat (first | refine blk_drewN ?_ _ | refine blk_drew ?_ | refine blk_alloc ?_ _));exact BK118.out) hb);have n1_:=am_ (below_step (by repeat (first | (with_reducible first | exact HB.out | apply below_alloc | apply pw_below_drewN | apply below_drew1 | refine below_set ?_ GE118.out) | exact HB.out)) hb);clear BK118;clear HB;have BK118:=n0_;have HB:=n1_;clear n0_ n1_;(try clear hb);(try clear hb2);(try clear hk);(try clear hi)))
  go_ret
  exact ⟨by first | rfl | (simp [errW_none,errW_some] <;> rfl) | (simp [*,errW_none,errW_some] <;> rfl),by repeat (first | (with_reducible first | exact HB.out | apply below_alloc | apply pw_below_drewN | apply below_drew1 | refine below_set ?_ GE118.out) | exact HB.out)⟩

/-! ### slices_Clone_int: function 79 -/
def slices_Clone_int.f (l0 : List Int) : Option (List Int):=(some (([] : List Int) : List Int)).bind fun y122 => (if y122.length + l0.length < 17592186044416 then (some (y122 ++ l0)) else (none))
set_option maxHeartbeats 8000000 in
set_option maxRecDepth 100000 in
theorem slices_Clone_int.calls (A0 : Option Addr) (c0 : Nat) (l0 : List Int) (r : List Int) (w : World) (hr0 : Kd.C (Kd.int .i64) w A0 l0.length l0) (hc0 : l0.length ≤ c0) (h : slices_Clone_int.f l0 = some r) :
  Calls Try.prog 79 #[.slice A0 l0.length c0] w fun e w' => ∃ v0_ : Value,e = .returned (v0_) ∧ Kd.R (Kd.int .i64) 3 w' w.heap.size (fun _ => True) v0_ r ∧ Below w.heap.size w w':=by
 have HR0:=am_ hr0;have HC0:=am_ hc0;clear hr0 hc0;have HB:=am_ (Below.refl w.heap.size w);have H : ((some (([] : List Int) : List Int)).bind fun y122 => (if y122.length + l0.length < 17592186044416 then (some (y122 ++ l0)) else (none))) = some r:=h;clear h;obtain ⟨y122,hy122⟩ : ∃ y_ : List Int,y_ = (([] : List Int)):=⟨_,rfl⟩
 replace H : (if y122.length + l0.length < 17592186044416 then (some (y122 ++ l0)) else (none)) = some r:=by first | (rw [hy122];with_reducible exact H) | (have H2_:=(Option.bind_some _ _).symm.trans H;rw [hy122];with_reducible exact H2_) | (have H2_:=(Option.bind_some _ _).symm.trans H;with_reducible exact H2_) | with_reducible exact H | (rw [hy122];exact H) | exact H
 have Ny122:=am_ hy122;clear hy122
 by_cases c2 : y122.length + l0.length < 17592186044416
 ·rw [if_pos c2] at H;have LMc2:=am_ c2;clear c2;obtain ⟨y125,hy125⟩ : ∃ y_ : List Int,y_ = (y122 ++ l0):=⟨_,rfl⟩
  replace H : (some y125) = some r:=by first | (rw [hy125];with_reducible exact H) | (have H2_:=(Option.bind_some _ _).symm.trans H;rw [hy125];with_reducible exact H2_) | (have H2_:=(Option.bind_some _ _).symm.trans H;with_reducible exact H2_) | with_reducible exact H | (rw [hy125];exact H) | exact H
  have Ny125:=am_ hy125;clear hy125;obtain rfl:=Option.some.inj H
  have hnil_:=fun (w_ : World) (a_ : Option Addr) (n_ c_ : Nat) => Lib.run_eql_slice_nil (P:=Try.prog) w_ 24 3 a_ n_ c_ 0 0 Try.underlying24
  rcases A0 with _ | ad0_
  ·have l0nil : l0 = []:=by
    rcases l0 with _ | ⟨x_,l_⟩
    ·rfl
    ·obtain ⟨ad_,e_,_⟩ := HR0.out.2.2 (by simp);cases e_
   have rnil : y125 = []:=by rw [Ny125.out,Ny122.out,l0nil];rfl
   subst rnil;subst l0nil
   go_enter Try.func79,Try.ntmps79
   go_wp2
   go_ret
   exact ⟨_,rfl,Kd.R_nil _ _ _ _ _,Below.refl _ _⟩
  ·go_enter Try.func79,Try.ntmps79
   go_wp2_with (first | ((with_reducible refine gate_dst (N:=5) rfl ?_);refine Kd.R_lit (Kd.int .i64) _ 3 ?hg (N:=5) ?hd (xs:=([] : List Int)) (inner := []) (ok:=fun _ => True) (okp:=fun _ => True) ?hr ?hp (fun _ hk => hk) trivial (Below.refl _ _) (Nat.le_refl _) (by simp) ?_;(case hd => rfl);(case hg => rfl);(case hr => first | (go_simp;done) | (go_simp;rfl));(case hp => exact (Reps.none _ _));intro v123 w3 ho4 hb hg_ hnew_;clear hg_ hnew_;(first | rw [← Ny122.out] at ho4 | (simp only [Int.reduceToNat] at ho4;rw [← Ny122.out] at ho4));have n0_:=am_ (Kd.R_lower ho4 (below_size (by repeat (first | (with_reducible first | exact HB.out | apply below_alloc | apply pw_below_drewN | apply below_drew1) | exact HB.out))));have n1_:=am_ (below_step (by repeat (first | (with_reducible first | exact HB.out | apply below_alloc | apply pw_below_drewN | apply below_drew1) | exact HB.out)) hb);clear HB;have HO124:=n0_;have HB:=n1_;clear n0_ n1_;clear hb ho4) | ((with_reducible refine gate_builtin (b := .append) (xs:=#[.tmp 5, .tmp 6]) rfl ?_);at_builtin;refine Kd.R_append_rows (Kd.int .i64) (w0:=w) w.heap.size rfl (.tmp 5) (.tmp 6) 24 3 (.int .i64 0) 8 rfl Try.underlying24 info3 rfl (by decide) (by omega) v123 y122 l0 _ _ _ (fun _ => True) (fun _ => False) rfl rfl ?aO ?aR (fun _ _ h => h) (fun _ h => h.elim) ?aF ?aB ?aS ?aL ?_;(case aR => repeat (first | exact (Kd.C_below HR0.out HB.out) | (with_reducible refine Kd.C_alloc ?_ _) | (with_reducible refine Kd.C_drewN ?_ _) | (with_reducible refine Kd.C_drew ?_)));(case aB => exact (by repeat (first | (with_reducible first | exact HB.out | apply below_alloc | apply pw_below_drewN | apply below_drew1) | exact HB.out)));(case aF => exact (fun _ _ => trivial));(case aO => exact (by (with_reducible repeat (first | apply Kd.R_alloc | apply Kd.R_drewN | apply Kd.R_drew));exact HO124.out));(case aS => exact (below_size (by repeat (first | (with_reducible first | exact HB.out | apply below_alloc | apply pw_below_drewN | apply below_drew1) | exact HB.out))));(case aL => have:=LMc2.out;omega);intro v126 w5 ho hb hg hat;rw [← Ny125.out] at ho;have n0_:=am_ hb;have n1_:=am_ (ho);clear HB;clear HO124;have HB:=n0_;have HO127:=n1_;clear n0_ n1_;clear ho hb hg hat))
   go_ret
   exact ⟨_,by first | rfl | (simp [errW_none,errW_some] <;> rfl) | (simp [*,errW_none,errW_some] <;> rfl),by (with_reducible repeat (first | apply Kd.R_alloc | apply Kd.R_drewN | apply Kd.R_drew));exact HO127.out,by repeat (first | (with_reducible first | exact HB.out | apply below_alloc | apply pw_below_drewN | apply below_drew1) | exact HB.out)⟩
 ·rw [if_neg c2] at H
  exact absurd H (by simp)

/-! ### impl_ownGate: function 44 -/
def impl_ownGate.l0 : Nat → List (List Int) → Int → Int → List Int → List (List Int) → Option (List Int × (List (List Int)))
 | 0,_,_,_,_,_ => none
 | k + 1,x11,x12,x13,x134000,x134001 => if x13 < x12 then (if 0 ≤ x13 then (if x13 < (x11.length : Int) then ((slices_Clone_int.f (rd_L1 x11 x13)).bind fun t135 => (if x134001.length < 5864062014805 then (impl_ownGate.l0 k x11 x12 (wrap64 (x13 + 1)) x134000 (x134001 ++ [t135])) else (none))) else (none)) else (none)) else (some (x134000,x134001))
def impl_ownGate.f (k : Nat) (l0_0 : List Int) (l0_1 : List (List Int)) : Option (List Int × (List (List Int))):=(slices_Clone_int.f l0_0).bind fun t130 => (impl_ownGate.l0 k l0_1 (l0_1.length : Int) 0 t130 ([] : List (List Int)))
theorem impl_ownGate.mono_l : ∀ k,(∀ y0 y1 y2 y3 y4,LeO (impl_ownGate.l0 k y0 y1 y2 y3 y4) (impl_ownGate.l0 (k + 1) y0 y1 y2 y3 y4))
 | 0 => fun _ _ _ _ _ r h => by simp [impl_ownGate.l0] at h
 | k + 1 => by
  have ih0:=impl_ownGate.mono_l k
  ·intro y0 y1 y2 y3 y4
   unfold impl_ownGate.l0
   repeat' first
   | (with_reducible exact ih0 _ _ _ _ _)
   | (with_reducible exact LeO.refl _)
   | (with_reducible exact LeO.none _)
   | (with_reducible refine LeO.ite ?_ ?_)
   | (with_reducible refine LeO.bind ?_ (fun _ => ?_))
   | exact ih0 _ _ _ _ _
   | exact LeO.none _
   | refine LeO.ite ?_ ?_
   | refine LeO.bind ?_ (fun _ => ?_)
theorem impl_ownGate.mono : ∀ a0 a1 k,LeO (impl_ownGate.f k a0 a1) (impl_ownGate.f (k + 1) a0 a1):=by
 intro a0 a1 k;have ih0:=impl_ownGate.mono_l k
 unfold impl_ownGate.f
 repeat' first
   | (with_reducible exact ih0 _ _ _ _ _)
   | (with_reducible exact LeO.refl _)
   | (with_reducible exact LeO.none _)
   | (with_reducible refine LeO.ite ?_ ?_)
   | (with_reducible refine LeO.bind ?_ (fun _ => ?_))
   | exact ih0 _ _ _ _ _
   | exact LeO.none _
   | refine LeO.ite ?_ ?_
   | refine LeO.bind ?_ (fun _ => ?_)
def impl_ownGate.T5 : Bool × List (List Nat × List Nat):=(true,[([],[]),([0],[0]),([],[]),([2],[2]),([3],[3]),([1,4,3],[1,4]),([0,1,2,3,4,5],[]),([6,5,5,0,1,2,3,4,5],[5,6])])
def impl_ownGate.B5 : List Nat := [0,1,0,4,12,31,63,127]
theorem impl_ownGate.tab5 : rtab .any (opsOf Try.f44 5) = impl_ownGate.T5:=by kernel_rfl
theorem impl_ownGate.bits5 : waitsOk impl_ownGate.T5.2 impl_ownGate.B5 = true:=by kernel_rfl
set_option maxHeartbeats 8000000 in
set_option maxRecDepth 100000 in
theorem impl_ownGate.calls (k : Nat) (A0_0 : Option Addr) (c0_0 : Nat) (l0_0 : List Int) (A0_1 : Option Addr) (c0_1 : Nat) (l0_1 : List (List Int)) (r1 : List Int) (r2 : List (List Int)) (w : World) (hr0_0 : Kd.C (Kd.int .i64) w A0_0 l0_0.length l0_0) (hc0_0 : l0_0.length ≤ c0_0) (hr0_1 : Kd.C (Kd.slice 3 (Kd.int .i64)) w A0_1 l0_1.length l0_1) (hc0_1 : l0_1.length ≤ c0_1) (h : impl_ownGate.f k l0_0 l0_1 = some (r1,r2)) :
  Calls Try.prog 44 #[.agg #[.slice A0_0 l0_0.length c0_0, .slice A0_1 l0_1.length c0_1]] w fun e w' => ∃ v0_ v1_ : Value,e = .returned (.agg #[v0_,v1_]) ∧ Kd.R (Kd.int .i64) 3 w' w.heap.size (fun _ => True) v0_ r1 ∧ Kd.S (Kd.slice 3 (Kd.int .i64)) 24 w' w.heap.size (fun k_ => some k_ ≠ (v0_ : Value).ownBlock) v1_ r2 ∧ Below w.heap.size w w':=by
 have hu27:=Try.underlying27;have HR0_0:=am_ hr0_0;have HC0_0:=am_ hc0_0;clear hr0_0 hc0_0;have HR0_1:=am_ hr0_1;have HC0_1:=am_ hc0_1;clear hr0_1 hc0_1;have HB:=am_ (Below.refl w.heap.size w);have H : ((slices_Clone_int.f l0_0).bind fun t130 => (impl_ownGate.l0 k l0_1 (l0_1.length : Int) 0 t130 ([] : List (List Int)))) = some (r1,r2):=h;clear h;replace H:=Option.bind_eq_some_iff.mp H;obtain ⟨t130,A20,H⟩ := H;replace H : (impl_ownGate.l0 k l0_1 (l0_1.length : Int) 0 t130 ([] : List (List Int))) = some (r1,r2):=H;have A2:=am_ A20;clear A20;have H':=am_ H;clear H
 go_enter Try.func44,Try.ntmps44
 go_wp2_with (first | ((with_reducible refine gate_dst (N:=1) rfl ?_);refine box_event ?hg (N:=1) ?hd (cs:=#[.slice A0_0 l0_0.length c0_0, .slice A0_1 l0_1.length c0_1]) (t:=27) ?hr ?_;(case hd => rfl);(case hg => rfl);(case hr => first | (go_simp;done) | (go_simp;rfl));intro gb128 hg w3 hbox hb;have n0_:=am_ (below_step (by repeat (first | (with_reducible first | exact HB.out | apply below_alloc | apply pw_below_drewN | apply below_drew1) | exact HB.out)) hb);have n1_:=am_ hbox;have n2_:=am_ ((by rw [hg];exact (below_size (by repeat (first | (with_reducible first | exact HB.out | apply below_alloc | apply pw_below_drewN | apply below_drew1) | exact HB.out))) : w.heap.size ≤ gb128));have n3_:=am_ ((by rw [hg];exact (below_size (by repeat (first | (with_reducible first | exact HB.out | apply below_alloc | apply pw_below_drewN | apply below_drew1) | exact HB.out))) : w.heap.size ≤ gb128));clear HB;have HB:=n0_;have BK128:=n1_;have GW128:=n2_;have GE128:=n3_;clear n0_ n1_ n2_ n3_;clear hb hbox hg) | ((with_reducible refine gate_dst (N:=2) rfl ?_);refine box_event ?hg (N:=2) ?hd (cs:=#[.slice none 0 0, .slice none 0 0]) (t:=27) ?hr ?_;(case hd => rfl);(case hg => rfl);(case hr => first | (go_simp;done) | (go_simp;rfl));intro gb129 hg w4 hbox hb;have n0_:=am_ (blk_below (g:=gb128) (o := .cells #[.slice A0_0 l0_0.length c0_0, .slice A0_1 l0_1.length c0_1] 27 (0,0)) (by (with_reducible repeat (first | refine blk_drewN ?_ _ | refine blk_drew ?_ | refine blk_alloc ?_ _));exact BK128.out) hb);have n1_:=am_ (below_step (by repeat (first | (with_reducible first | exact HB.out | apply below_alloc | apply pw_below_drewN | apply below_drew1 | refine below_set ?_ GE128.out) | exact HB.out)) hb);have n2_:=am_ hbox;have n3_:=am_ ((by rw [hg];exact (below_size (by repeat (first | (with_reducible first | exact HB.out | apply below_alloc | apply pw_below_drewN | apply below_drew1 | refine below_set ?_ GE128.out) | exact HB.out))) : w.heap.size ≤ gb129));have n4_:=am_ ((by rw [hg];exact (below_size (by repeat (first | (with_reducible first | exact HB.out | apply below_alloc | apply pw_below_drewN | apply below_drew1 | refine below_set ?_ GE128.out) | exact HB.out))) : w.heap.size ≤ gb129));have n5_:=am_ ((by rw [hg];exact Nat.ne_of_lt (blk_lt (g:=gb128) (o := .cells #[.slice A0_0 l0_0.length c0_0, .slice A0_1 l0_1.length c0_1] 27 (0,0)) (by (with_reducible repeat (first | refine blk_drewN ?_ _ | refine blk_drew ?_ | refine blk_alloc ?_ _));exact BK128.out)) : gb128 ≠ gb129));have n6_:=am_ ((by rw [hg];exact Nat.ne_of_gt (blk_lt (g:=gb128) (o := .cells #[.slice A0_0 l0_0.length c0_0, .slice A0_1 l0_1.length c0_1] 27 (0,0)) (by (with_reducible repeat (first | refine blk_drewN ?_ _ | refine blk_drew ?_ | refine blk_alloc ?_ _));exact BK128.out)) : gb129 ≠ gb128));clear BK128;clear HB;have BK128:=n0_;have HB:=n1_;have BK129:=n2_;have GW129:=n3_;have GE129:=n4_;have NB128_129:=n5_;have NB129_128:=n6_;clear n0_ n1_ n2_ n3_ n4_ n5_ n6_;clear hb hbox hg;have hnb5:=NB128_129.out;have hnc5:=NB129_128.out;have hcz6_0:=c2_0 BK128.out;have hcz6_1:=c2_1 BK128.out;have hfz6_0:=blk_frozen BK128.out 0;have hfz6_1:=blk_frozen BK128.out 1) | ((with_reducible refine gate_callee (f:=79) rfl ?_);refine goesL_ (some 8) rfl rfl Try.func79 (by kernel_rfl) rfl #[.slice A0_0 l0_0.length c0_0] rfl (by (try simp only [List.map_toArray,List.map_cons,List.map_nil]);first | done | rfl | (simp only [List.length_drop,List.length_take];rfl)) ?_;(with_reducible refine (slices_Clone_int.calls _ _ l0_0 t130 _ ?side1 ?side2 A2.out).mono ?_);(case side1 => repeat (first | exact (Kd.C_below HR0_0.out HB.out) | (with_reducible refine Kd.C_alloc ?_ _) | (with_reducible refine Kd.C_drewN ?_ _) | (with_reducible refine Kd.C_drew ?_)));(case side2 => exact HC0_0.out);rintro e w7 ⟨v131,rfl,ho0,hb⟩;refine ⟨_,rfl, ?_⟩;have n0_:=am_ (Kd.R_lower ho0 (below_size (by repeat (first | (with_reducible first | exact HB.out | apply below_alloc | apply pw_below_drewN | apply below_drew1 | refine below_set ?_ GE128.out | refine below_set ?_ GE129.out) | exact HB.out))));have n1_:=am_ (blk_below (g:=gb128) (o := .cells #[.slice A0_0 l0_0.length c0_0, .slice A0_1 l0_1.length c0_1] 27 (0,0)) (by (with_reducible repeat (first | refine blk_drewN ?_ _ | refine blk_drew ?_ | refine blk_alloc ?_ _));exact BK128.out) hb);have n2_:=am_ (blk_below (g:=gb129) (o := .cells #[.slice none 0 0, .slice none 0 0] 27 (0,0)) (by (with_reducible repeat (first | refine blk_drewN ?_ _ | refine blk_drew ?_ | refine blk_alloc ?_ _));exact BK129.out) hb);have n3_:=am_ (below_step (by repeat (first | (with_reducible first | exact HB.out | apply below_alloc | apply pw_below_drewN | apply below_drew1 | refine below_set ?_ GE128.out | refine below_set ?_ GE129.out) | exact HB.out)) hb);clear BK128;clear BK129;clear HB;have HO132:=n0_;have BK128:=n1_;have BK129:=n2_;have HB:=n3_;clear n0_ n1_ n2_ n3_;(try clear hb);(try clear hb2);(try clear hk);(try clear hi);(try clear ho0);obtain ⟨Ao8,co8,eo8⟩ := Kd.R_slice HO132.out;subst eo8) | ((with_reducible refine gate_dst (N:=3) rfl ?_);refine box_event ?hg (N:=3) ?hd (cs:=#[.slice none 0 0, .slice none 0 0]) (t:=27) ?hr ?_;(case hd => rfl);(case hg => rfl);(case hr => first | (go_simp;done) | (go_simp;rfl));intro gb133 hg w9 hbox hb;have n0_:=am_ (Kd.R_below (by (with_reducible repeat (first | apply Kd.R_alloc | apply Kd.R_drewN | apply Kd.R_drew));exact HO132.out) hb);have n1_:=am_ (blk_below (g:=gb128) (o := .cells #[.slice A0_0 l0_0.length c0_0, .slice A0_1 l0_1.length c0_1] 27 (0,0)) (by (with_reducible repeat (first | refine blk_drewN ?_ _ | refine blk_drew ?_ | refine blk_alloc ?_ _));exact BK128.out) hb);have n2_:=am_ (blk_below (g:=gb129) (o := .cells #[.slice none 0 0, .slice none 0 0] 27 (0,0)) (by (with_reducible repeat (first | refine blk_drewN ?_ _ | refine blk_drew ?_ | refine blk_alloc ?_ _));exact BK129.out) hb);have n3_:=am_ (below_step (by repeat (first | (with_reducible first | exact HB.out | apply below_alloc | apply pw_below_drewN | apply below_drew1 | refine below_set ?_ GE128.out | refine below_set ?_ GE129.out) | exact HB.out)) hb);have n4_:=am_ hbox;have n5_:=am_ ((by rw [hg];exact (below_size (by repeat (first | (with_reducible first | exact HB.out | apply below_alloc | apply pw_below_drewN | apply below_drew1 | refine below_set ?_ GE128.out | refine below_set ?_ GE129.out) | exact HB.out))) : w.heap.size ≤ gb133));have n6_:=am_ ((by rw [hg];exact (below_size (by repeat (first | (with_reducible first | exact HB.out | apply below_alloc | apply pw_below_drewN | apply below_drew1 | refine below_set ?_ GE128.out | refine below_set ?_ GE129.out) | exact HB.out))) : w.heap.size ≤ gb133));have n7_:=am_ ((by rw [hg];exact Nat.ne_of_lt (blk_lt (g:=gb128) (o := .cells #[.slice A0_0 l0_0.length c0_0, .slice A0_1 l0_1.length c0_1] 27 (0,0)) (by (with_reducible repeat (first | refine blk_drewN ?_ _ | refine blk_drew ?_ | refine blk_alloc ?_ _));exact BK128.out)) : gb128 ≠ gb133));have n8_:=am_ ((by rw [hg];exact Nat.ne_of_gt (blk_lt (g:=gb128) (o := .cells #[.slice A0_0 l0_0.length c0_0, .slice A0_1 l0_1.length c0_1] 27 (0,0)) (by (with_reducible repeat (first | refine blk_drewN ?_ _ | refine blk_drew ?_ | refine blk_alloc ?_ _));exact BK128.out)) : gb133 ≠ gb128));have n9_:=am_ ((by rw [hg];exact Nat.ne_of_lt (blk_lt (g:=gb129) (o := .cells #[.slice none 0 0, .slice none 0 0] 27 (0,0)) (by (with_reducible repeat (first | refine blk_drewN ?_ _ | refine blk_drew ?_ | refine blk_alloc ?_ _));exact BK129.out)) : gb129 ≠ gb133));have n10_:=am_ ((by rw [hg];exact Nat.ne_of_gt (blk_lt (g:=gb129) (o := .cells #[.slice none 0 0, .slice none 0 0] 27 (0,0)) (by (with_reducible repeat (first | refine blk_drewN ?_ _ | refine blk_drew ?_ | refine blk_alloc ?_ _));exact BK129.out)) : gb133 ≠ gb129));clear HO132;clear BK128;clear BK129;clear HB;have HO132:=n0_;have BK128:=n1_;have BK129:=n2_;have HB:=n3_;have BK133:=n4_;have GW133:=n5_;have GE133:=n6_;have NB128_133:=n7_;have NB133_128:=n8_;have NB129_133:=n9_;have NB133_129:=n10_;clear n0_ n1_ n2_ n3_ n4_ n5_ n6_ n7_ n8_ n9_ n10_;clear hb hbox hg;have hnb10:=NB133_128.out;have hnc10:=NB128_133.out;have hnb11:=NB133_129.out;have hnc11:=NB129_133.out;have hcz12_0:=c2_0 BK133.out;have hcz12_1:=c2_1 BK133.out;have hfz12_0:=blk_frozen BK133.out 0;have hfz12_1:=blk_frozen BK133.out 1;have hcz13_0:=c2_0 BK128.out;have hcz13_1:=c2_1 BK128.out;have hfz13_0:=blk_frozen BK128.out 0;have hfz13_1:=blk_frozen BK128.out 1))
 go_loopg [13] k (fun kq v13 w' => ∃ (x13_1 : Int) (x134001_1 : List (List Int)) (u134001 : Value),v13 = .int .i64 x13_1 ∧ Aside0 (impl_ownGate.l0 kq l0_1 (l0_1.length : Int) x13_1 t130 x134001_1 = some (r1,r2)) ∧ Aside0 (kq ≤ k) ∧ Aside0 (Kd.R (Kd.int .i64) 3 w' w.heap.size (fun _ => True) (.slice Ao8 t130.length co8) t130) ∧ Aside0 (Kd.S (Kd.slice 3 (Kd.int .i64)) 24 w' w.heap.size (fun k_ => some k_ ≠ ((.slice Ao8 t130.length co8) : Value).ownBlock) u134001 x134001_1) ∧ Aside0 (w'.heap[gb128]? = some (.cells #[(.slice A0_0 l0_0.length c0_0),(.slice A0_1 l0_1.length c0_1)] 27 (0,0))) ∧ Aside0 (w'.heap[gb129]? = some (.cells #[(.slice none 0 0),(.slice none 0 0)] 27 (0,0))) ∧ Aside0 (w'.heap[gb133]? = some (.cells #[(.slice Ao8 t130.length co8),u134001] 27 (0,0))) ∧ Aside0 (Below w.heap.size w w'))
 case atStart => exact ⟨(0),(([] : List (List Int))),(.slice none 0 0),(by first | rfl | (simp;done) | (simp [*];done)),H',⟨Nat.le_refl _⟩,⟨by (with_reducible repeat (first | apply Kd.R_alloc | apply Kd.R_drewN | apply Kd.R_drew));exact Kd.R_mono (rf2_ (Kd.R_types HO132.out BK133.out (by decide)) (.slice Ao8 t130.length co8) (.slice none 0 0)) (fun _ hk => trivial)⟩,⟨by first | exact Kd.S_nil _ _ _ _ _ | exact Kd.N_nil _ _ _ _ _ | exact Kd.V_nil _ _ _ _ _ | exact Kd.Q_nil _ _ _ _ _ | exact Kd.R_nil _ _ _ _ _⟩,⟨by (with_reducible repeat (first | refine blk_drewN ?_ _ | refine blk_drew ?_ | refine blk_alloc ?_ _));refine blk_far ?_ NB128_133.out _;(with_reducible repeat (first | refine blk_drewN ?_ _ | refine blk_drew ?_ | refine blk_alloc ?_ _));refine blk_far ?_ NB128_133.out _;(with_reducible repeat (first | refine blk_drewN ?_ _ | refine blk_drew ?_ | refine blk_alloc ?_ _));exact BK128.out⟩,⟨by (with_reducible repeat (first | refine blk_drewN ?_ _ | refine blk_drew ?_ | refine blk_alloc ?_ _));refine blk_far ?_ NB129_133.out _;(with_reducible repeat (first | refine blk_drewN ?_ _ | refine blk_drew ?_ | refine blk_alloc ?_ _));refine blk_far ?_ NB129_133.out _;(with_reducible repeat (first | refine blk_drewN ?_ _ | refine blk_drew ?_ | refine blk_alloc ?_ _));exact BK129.out⟩,⟨by (with_reducible repeat (first | refine blk_drewN ?_ _ | refine blk_drew ?_ | refine blk_alloc ?_ _));refine blk_put (cs:=#[.slice Ao8 t130.length co8, .slice none 0 0]) ?_ 1 _ rfl;(with_reducible repeat (first | refine blk_drewN ?_ _ | refine blk_drew ?_ | refine blk_alloc ?_ _));refine blk_put (cs:=#[.slice none 0 0, .slice none 0 0]) ?_ 0 _ rfl;(with_reducible repeat (first | refine blk_drewN ?_ _ | refine blk_drew ?_ | refine blk_alloc ?_ _));exact BK133.out⟩,⟨by repeat (first | (with_reducible first | exact HB.out | apply below_alloc | apply pw_below_drewN | apply below_drew1 | refine below_set ?_ GE128.out | refine below_set ?_ GE129.out | refine below_set ?_ GE133.out) | exact HB.out)⟩⟩
 case round =>
  clear H';(try clear c1);(try clear p2);(try clear c4);(try clear c5);(try clear c7);(try clear c10);(try clear c11);(try clear hcz12_0);(try clear hcz12_1);(try clear hcz13_0);(try clear hcz13_1);(try clear hcz6_0);(try clear hcz6_1);(try clear hfz12_0);(try clear hfz12_1);(try clear hfz13_0);(try clear hfz13_1);(try clear hfz6_0);(try clear hfz6_1);obtain ⟨x13_1,x134001_1,u134001,rfl,HA,HK1,HO_134000,HO_134001,BK128,BK129,BK133,HB⟩ := hrel
  cases gk with
  | zero => exact absurd HA.out (by simp [impl_ownGate.l0])
  | succ k1 =>
   have H:=HA.out;clear HA;simp only [impl_ownGate.l0] at H
   by_cases c14 : x13_1 < (l0_1.length : Int)
   ·rw [if_pos c14] at H;have c14b0 : decide (x13_1 < (l0_1.length : Int)) = true:=decide_eq_true c14;clear c14
    by_cases c15 : 0 ≤ x13_1
    ·rw [if_pos c15] at H;have c15b0 : decide (0 ≤ x13_1) = true:=decide_eq_true c15;clear c15
     by_cases c16 : x13_1 < (l0_1.length : Int)
     ·rw [if_pos c16] at H;have c16b0 : decide (x13_1 < (l0_1.length : Int)) = true:=decide_eq_true c16;clear c16;replace H:=Option.bind_eq_some_iff.mp H;obtain ⟨t135,A170,H⟩ := H;replace H : (if x134001_1.length < 5864062014805 then (impl_ownGate.l0 k1 l0_1 (l0_1.length : Int) (wrap64 (x13_1 + 1)) t130 (x134001_1 ++ [t135])) else (none)) = some (r1,r2):=H;have A17:=am_ A170;clear A170
      by_cases c18 : x134001_1.length < 5864062014805
      ·rw [if_pos c18] at H;have LMc18:=am_ c18;clear c18;obtain ⟨y138,hy138⟩ : ∃ y_ : List (List Int),y_ = (x134001_1 ++ [t135]):=⟨_,rfl⟩
       replace H : (impl_ownGate.l0 k1 l0_1 (l0_1.length : Int) (wrap64 (x13_1 + 1)) t130 y138) = some (r1,r2):=by first | (rw [hy138];with_reducible exact H) | (have H2_:=(Option.bind_some _ _).symm.trans H;rw [hy138];with_reducible exact H2_) | (have H2_:=(Option.bind_some _ _).symm.trans H;with_reducible exact H2_) | with_reducible exact H | (rw [hy138];exact H) | exact H
       have Ny138:=am_ hy138;clear hy138;have H':=am_ H;clear H;have p134 : 0 ≤ (x13_1 : Int):=of_decide_eq_true (by first | (with_reducible assumption) | assumption);have q134 : x13_1 < (l0_1.length : Int):=of_decide_eq_true (by first | (with_reducible assumption) | assumption);obtain ⟨ad134,A134_0,c134_0,e134,hx134_0,hl134_0,hi134_0⟩ := at_L1 HR0_1.out x13_1 p134 q134;cases e134;replace hx134_0:=(HB.out.cell (World.block_lt_of_cell? w _ hx134_0)).trans hx134_0;have HR134_0:=am_ hi134_0;have HC134_0:=am_ hl134_0;clear hi134_0 hl134_0;replace p134:=eq_true p134;replace q134:=eq_true q134
       try go_wp2
       have n0_:=am_ (Kd.R_drew HO_134000.out);have n1_:=am_ (Kd.S_drew HO_134001.out);have n2_:=am_ (blk_drew BK128.out);have n3_:=am_ (blk_drew BK129.out);have n4_:=am_ (blk_drew BK133.out);have n5_:=am_ (below_drew1 HB.out);clear HO_134000;clear HO_134001;clear BK128;clear BK129;clear BK133;clear HB;have HO_134000:=n0_;have HO_134001:=n1_;have BK128:=n2_;have BK129:=n3_;have BK133:=n4_;have HB:=n5_;clear n0_ n1_ n2_ n3_ n4_ n5_
       refine start_ (n:=8) (S:=fun w' => w'.cell? ⟨gb133,0,none⟩ = some (.slice Ao8 t130.length co8) ∧ w'.cell? ⟨gb133,1,none⟩ = some (u134001)) (ds := [7]) #[false,false,false,false,false,false,false,false] (by kernel_rfl) rfl rfl ⟨(blk_cell BK133.out 0).trans rfl,(blk_cell BK133.out 1).trans rfl⟩ (fun hHeld => ?_);refine with_tabW impl_ownGate.tab5 impl_ownGate.bits5 (fun HT_ HW_ => ?_)
       generalize wr.drew = w19 at HO_134000 HO_134001 BK128 BK129 BK133 HB hHeld ⊢;refine pure_ (i:=0) (N:=some 17) (v:=?_) (a':=?_) #[true,false,false,false,false,false,false,false] rfl rfl (any_of HT_.out (by kernel_rfl)) (fun _ _ _ h => h) (Or.inl ⟨by rfl, ?_⟩) ?_ ?_
       rotate_left
       ·intro w'
        go_simp
        with_reducible rfl
       rotate_left
       ·simp only [Act.put,sA_,s0_,s1_,i64_w,i32_w]
        rfl
       refine pure_ (i:=2) (N:=some 19) (v:=?_) (a':=?_) #[true,false,true,false,false,false,false,false] rfl rfl (any_of HT_.out (by kernel_rfl)) (fun _ _ _ h => h) (Or.inl ⟨by rfl, ?_⟩) ?_ ?_
       rotate_left
       ·intro w'
        go_simp
        with_reducible rfl
       rotate_left
       ·simp only [Act.put,sA_,s0_,s1_,i64_w,i32_w]
        rfl
       refine take_ (i:=1) (N:=some 18) (v:=?_) (a':=?_) #[true,true,true,false,false,false,false,false] rfl rfl (take_ofW HT_.out HW_.out (by kernel_rfl)) (fun _ _ _ h => h) (Or.inl ⟨by rfl, ?_⟩) hHeld ?_ ?_
       rotate_left
       ·rintro w' ⟨s0,s1⟩
        go_simp
        with_reducible rfl
       rotate_left
       ·simp only [Act.put,sA_,s0_,s1_,i64_w,i32_w]
        rfl
       refine one_ (i:=3) (N:=some 20) #[true,true,true,true,false,false,false,false] rfl rfl (one_of HT_.out (by kernel_rfl)) (by decide) (fun K hK => ?_);refine goes_ Try.func79 (by kernel_rfl) rfl #[.slice A134_0 (rd_L1 l0_1 x13_1).length c134_0] (by rfl) rfl rfl (by (try simp only [List.map_toArray,List.map_cons,List.map_nil]);first | done | rfl | (simp only [List.length_drop,List.length_take];rfl)) ?_
       with_reducible refine (slices_Clone_int.calls _ _ (rd_L1 l0_1 x13_1) t135 _ ?side1 ?side2 A17.out).mono ?_
       (case side1 => repeat (first | exact (Kd.C_below HR134_0.out HB.out) | (with_reducible refine Kd.C_alloc ?_ _) | (with_reducible refine Kd.C_drewN ?_ _) | (with_reducible refine Kd.C_drew ?_)))
       (case side2 => exact HC134_0.out)
       rintro e w20 ⟨v136,rfl,ho0,hb⟩;refine ⟨_,rfl, ?_⟩;have n0_:=am_ (Kd.R_elder' (by (with_reducible repeat (first | apply Kd.R_alloc | apply Kd.R_drewN | apply Kd.R_drew));exact HO_134000.out) (Kd.R_base ho0) hb);have n1_:=am_ (Kd.S_elder' (by (with_reducible repeat (first | apply Kd.S_alloc | apply Kd.S_drewN | apply Kd.S_drew));exact HO_134001.out) (Kd.R_base ho0) hb);have n2_:=am_ (Kd.R_lower (Kd.R_new' ho0 (Kd.R_lt (by (with_reducible repeat (first | apply Kd.R_alloc | apply Kd.R_drewN | apply Kd.R_drew));exact HO_134000.out))) (below_size (by repeat (first | (with_reducible first | exact HB.out | apply below_alloc | apply pw_below_drewN | apply below_drew1 | refine below_set ?_ GE128.out | refine below_set ?_ GE129.out | refine below_set ?_ GE133.out) | exact HB.out))));have n3_:=am_ (blk_below (g:=gb128) (o := .cells #[.slice A0_0 l0_0.length c0_0, .slice (some ad134) l0_1.length c0_1] 27 (0,0)) (by (with_reducible repeat (first | refine blk_drewN ?_ _ | refine blk_drew ?_ | refine blk_alloc ?_ _));exact BK128.out) hb);have n4_:=am_ (blk_below (g:=gb129) (o := .cells #[.slice none 0 0, .slice none 0 0] 27 (0,0)) (by (with_reducible repeat (first | refine blk_drewN ?_ _ | refine blk_drew ?_ | refine blk_alloc ?_ _));exact BK129.out) hb);have n5_:=am_ (blk_below (g:=gb133) (o := .cells #[.slice Ao8 t130.length co8,u134001] 27 (0,0)) (by (with_reducible repeat (first | refine blk_drewN ?_ _ | refine blk_drew ?_ | refine blk_alloc ?_ _));exact BK133.out) hb);have n6_:=am_ (below_step (by repeat (first | (with_reducible first | exact HB.out | apply below_alloc | apply pw_below_drewN | apply below_drew1 | refine below_set ?_ GE128.out | refine below_set ?_ GE129.out | refine below_set ?_ GE133.out) | exact HB.out)) hb);clear HO_134000;clear HO_134001;clear BK128;clear BK129;clear BK133;clear HB;have HO_134000:=n0_;have HO_134001:=n1_;have HO137:=n2_;have BK128:=n3_;have BK129:=n4_;have BK133:=n5_;have HB:=n6_;clear n0_ n1_ n2_ n3_ n4_ n5_ n6_;(try clear hb);(try clear hb2);(try clear hk);(try clear hi);(try clear ho0);obtain ⟨Ao22,co22,eo22⟩ := Kd.R_slice HO137.out
       (first | subst eo22 | (injection eo22 with f1_ f2_ f3_;have f4_:=f1_.symm;have f5_:=f3_.symm;clear f1_ f2_ f3_;subst f4_;subst f5_))
       refine hK.out _ _ ⟨(blk_cell BK133.out 0).trans rfl,(blk_cell BK133.out 1).trans rfl⟩ (fun hHeld => ?_);clear hK K;refine norm_ (a':=?_) ?_ ?_
       rotate_left
       ·show Act.put _ (some 20) _ = _
        simp only [Act.put,sA_,s0_,s1_,i64_w,i32_w]
        rfl
       refine one_ (i:=4) (N:=some 21) #[true,true,true,true,true,false,false,false] rfl rfl (one_of HT_.out (by kernel_rfl)) (by decide) (fun K hK => ?_);refine value_ (w1:=?_) (v:=?_) (by rfl) rfl ?_ ?_
       rotate_left 2
       ·go_simp
        constructor
        ·rfl
        ·rfl
       refine hK.out _ _ ⟨(blk_cell (blk_alloc BK133.out _) 0).trans rfl,(blk_cell (blk_alloc BK133.out _) 1).trans rfl⟩ (fun hHeld => ?_);clear hK K;refine norm_ (a':=?_) ?_ ?_
       rotate_left
       ·show Act.put _ (some 21) _ = _
        simp only [Act.put,sA_,s0_,s1_,i64_w,i32_w]
        rfl
       refine one_ (i:=5) (N:=some 22) #[true,true,true,true,true,true,false,false] rfl rfl (one_of HT_.out (by kernel_rfl)) (by decide) (fun K hK => ?_);refine Kd.S_append_step (Kd.slice 3 (Kd.int .i64)) (w0:=w) w.heap.size (by rfl) (.tmp 18) (.tmp 21) 25 24 (.slice none 0 0) 24 rfl Try.underlying25 info24 rfl (by decide) (by omega) u134001 x134001_1 t135 [.slice Ao22 t135.length co22] (fun k_ => some k_ ≠ (.slice Ao8 t130.length co8 : Value).ownBlock) (fun k_ => some k_ = (.slice Ao22 t135.length co22 : Value).ownBlock) rfl rfl ?aP (fun k_ hk_ => ((Kd.R_mono (ok':=fun k_ => ((fun k_ => some k_ ≠ (.slice Ao8 t130.length co8 : Value).ownBlock)) k_ ∧ some k_ ≠ (u134001 : Value).ownBlock) (Kd.R_apart' (HO137.out) (Kd.S_typed HO_134001.out) (by decide)) (fun k_ hk => ⟨hk.1.2,hk.2⟩))).1 k_ hk_.symm) ?aF ?aO ?aB ?aS ?aL ?_
       (case aP => exact Kd.M_row (Kd.R_mono (Kd.R_tight rfl (Kd.R_mono (ok':=fun k_ => ((fun k_ => some k_ ≠ (.slice Ao8 t130.length co8 : Value).ownBlock)) k_ ∧ some k_ ≠ (u134001 : Value).ownBlock) (Kd.R_apart' (HO137.out) (Kd.S_typed HO_134001.out) (by decide)) (fun k_ hk => ⟨hk.1.2,hk.2⟩))) (fun _ h_ => h_)))
       (case aB => exact (by repeat (first | (with_reducible first | exact HB.out | apply below_alloc | apply pw_below_drewN | apply below_drew1 | refine below_set ?_ GE128.out | refine below_set ?_ GE129.out | refine below_set ?_ GE133.out) | exact HB.out)))
       (case aF => exact (fun k_ hk => Kd.fresh' (Kd.R_lt (by (with_reducible repeat (first | apply Kd.R_alloc | apply Kd.R_drewN | apply Kd.R_drew));exact HO_134000.out)) k_ hk))
       (case aO => exact (by (with_reducible repeat (first | apply Kd.S_alloc | apply Kd.S_drewN | apply Kd.S_drew));exact Kd.S_mono HO_134001.out (fun k_ hk => ⟨hk.1,fun e_ => hk.2 e_⟩)))
       (case aS => exact (below_size (by repeat (first | (with_reducible first | exact HB.out | apply below_alloc | apply pw_below_drewN | apply below_drew1 | refine below_set ?_ GE128.out | refine below_set ?_ GE129.out | refine below_set ?_ GE133.out) | exact HB.out))))
       (case aL => have:=LMc18.out;omega)
       intro v139 w21 ho hb hg hat
       rw [← Ny138.out] at ho;have n0_:=am_ (Kd.R_over' (by (with_reducible repeat (first | apply Kd.R_alloc | apply Kd.R_drewN | apply Kd.R_drew));exact HO_134000.out) (Kd.S_typed (by (with_reducible repeat (first | apply Kd.S_alloc | apply Kd.S_drewN | apply Kd.S_drew));exact HO_134001.out)) (by decide) hg);have n1_:=am_ (blk_grown (g:=gb128) (o := .cells #[.slice A0_0 l0_0.length c0_0, .slice (some ad134) l0_1.length c0_1] 27 (0,0)) (by (with_reducible repeat (first | refine blk_drewN ?_ _ | refine blk_drew ?_ | refine blk_alloc ?_ _));exact BK128.out) hg (Kd.S_ne HO_134001.out BK128.out (by decide)));have n2_:=am_ (blk_grown (g:=gb129) (o := .cells #[.slice none 0 0, .slice none 0 0] 27 (0,0)) (by (with_reducible repeat (first | refine blk_drewN ?_ _ | refine blk_drew ?_ | refine blk_alloc ?_ _));exact BK129.out) hg (Kd.S_ne HO_134001.out BK129.out (by decide)));have n3_:=am_ (blk_grown (g:=gb133) (o := .cells #[.slice Ao8 t130.length co8,u134001] 27 (0,0)) (by (with_reducible repeat (first | refine blk_drewN ?_ _ | refine blk_drew ?_ | refine blk_alloc ?_ _));exact BK133.out) hg (Kd.S_ne HO_134001.out BK133.out (by decide)));have n4_:=am_ hb;have n5_:=am_ (ho);clear HO_134000;clear BK128;clear BK129;clear BK133;clear HB;clear HO_134001;clear HO137;have HO_134000:=n0_;have BK128:=n1_;have BK129:=n2_;have BK133:=n3_;have HB:=n4_;have HO140:=n5_;clear n0_ n1_ n2_ n3_ n4_ n5_
       clear ho hb hg hat
       obtain ⟨Ao23,co23,eo23⟩ := Kd.S_slice HO140.out
       (first | subst eo23 | (injection eo23 with f1_ f2_ f3_;have f4_:=f1_.symm;have f5_:=f3_.symm;clear f1_ f2_ f3_;subst f4_;subst f5_))
       refine hK.out _ _ ⟨(blk_cell BK133.out 0).trans rfl,(blk_cell BK133.out 1).trans rfl⟩ (fun hHeld => ?_);clear hK K;refine norm_ (a':=?_) ?_ ?_
       rotate_left
       ·show Act.put _ (some 22) _ = _
        simp only [Act.put,sA_,s0_,s1_,i64_w,i32_w]
        rfl
       refine pure_ (i:=6) (N:=some 23) (v:=?_) (a':=?_) #[true,true,true,true,true,true,true,false] rfl rfl (any_of HT_.out (by kernel_rfl)) (fun _ _ _ h => h) (Or.inl ⟨by rfl, ?_⟩) ?_ ?_
       rotate_left
       ·intro w'
        go_simp
        with_reducible rfl
       rotate_left
       ·simp only [Act.put,sA_,s0_,s1_,i64_w,i32_w]
        rfl
       refine last_ (i:=7) (N:=none) #[true,true,true,true,true,true,true,true] rfl rfl (one_of HT_.out (by kernel_rfl)) (by decide) (fun K hK => ?_);have hs24 : w21.cell? ⟨gb133,1,none⟩ = some (u134001):=(blk_cell BK133.out 1).trans rfl;have hfs24:=blk_frozen BK133.out 1;have hns24_0:=NB128_133.out;have hns24_1:=NB129_133.out;have hms24_0:=NB133_128.out;have hms24_1:=NB133_129.out;refine skip_ (w1:=?_) (by rfl) rfl ?_ ?_
       rotate_left
       ·go_simp
        rfl
       refine hK.out _ _ ?_;clear hK K;refine done_ (done_of HT_.out (by kernel_rfl)) ?_
       try go_wp2
       go_roundg k1
       case measure => have:=HK1.out;omega
       case rel => exact ⟨(wrap64 (x13_1 + 1)),(y138),(.slice Ao23 y138.length co23),(by first | rfl | (simp;done) | (simp [*];done)),H',⟨by have:=HK1.out;omega⟩,⟨by (with_reducible repeat (first | apply Kd.R_alloc | apply Kd.R_drewN | apply Kd.R_drew));exact Kd.R_mono (Kd.R_far (p:=⟨gb133,1,none⟩) (Kd.R_types HO_134000.out BK133.out (by decide)) (fun _ hk => hk.2) (.slice Ao23 y138.length co23)) (fun _ hk => trivial)⟩,⟨by (with_reducible repeat (first | apply Kd.S_alloc | apply Kd.S_drewN | apply Kd.S_drew));exact Kd.S_mono (Kd.S_far (p:=⟨gb133,1,none⟩) (Kd.S_types HO140.out BK133.out (by decide)) (fun _ hk => hk.2) (.slice Ao23 y138.length co23)) (fun _ hk => hk.1)⟩,⟨by (with_reducible repeat (first | refine blk_drewN ?_ _ | refine blk_drew ?_ | refine blk_alloc ?_ _));refine blk_far ?_ NB128_133.out _;(with_reducible repeat (first | refine blk_drewN ?_ _ | refine blk_drew ?_ | refine blk_alloc ?_ _));exact BK128.out⟩,⟨by (with_reducible repeat (first | refine blk_drewN ?_ _ | refine blk_drew ?_ | refine blk_alloc ?_ _));refine blk_far ?_ NB129_133.out _;(with_reducible repeat (first | refine blk_drewN ?_ _ | refine blk_drew ?_ | refine blk_alloc ?_ _));exact BK129.out⟩,⟨by (with_reducible repeat (first | refine blk_drewN ?_ _ | refine blk_drew ?_ | refine blk_alloc ?_ _));refine blk_put (cs:=#[.slice Ao8 t130.length co8,u134001]) ?_ 1 _ rfl;(with_reducible repeat (first | refine blk_drewN ?_ _ | refine blk_drew ?_ | refine blk_alloc ?_ _));exact BK133.out⟩,⟨by repeat (first | (with_reducible first | exact HB.out | apply below_alloc | apply pw_below_drewN | apply below_drew1 | refine below_set ?_ GE128.out | refine below_set ?_ GE129.out | refine below_set ?_ GE133.out) | exact HB.out)⟩⟩
      ·rw [if_neg c18] at H
       exact absurd H (by simp)
     ·rw [if_neg c16] at H
      exact absurd H (by simp)
    ·rw [if_neg c15] at H
     exact absurd H (by simp)
   ·rw [if_neg c14] at H;have c14b0 : decide (x13_1 < (l0_1.length : Int)) = false:=decide_eq_false c14;clear c14;simp only [Option.some.injEq,Prod.mk.injEq] at H;obtain ⟨rfl,rfl⟩ := H;have hnb25:=NB133_128.out;have hnc25:=NB128_133.out;have hnb26:=NB133_129.out;have hnc26:=NB129_133.out;have hcz27_0:=c2_0 BK133.out;have hcz27_1:=c2_1 BK133.out;have hfz27_0:=blk_frozen BK133.out 0;have hfz27_1:=blk_frozen BK133.out 1;have hnb28:=NB129_128.out;have hnc28:=NB128_129.out;have hcz29_0:=c2_0 BK129.out;have hcz29_1:=c2_1 BK129.out;have hfz29_0:=blk_frozen BK129.out 0;have hfz29_1:=blk_frozen BK129.out 1;obtain ⟨Ao30,co30,eo30⟩ := Kd.S_slice HO_134001.out;subst eo30
    go_wp2
    refine bodyPost_ret (results_cell_row rfl _ _ gb129 27 #[.slice Ao8 t130.length co8, .slice Ao30 x134001_1.length co30] (0,0) _ rfl ?hblk_ Try.underlying27 rfl (by kernel_rfl)) rfl ?_
    case hblk_ => (with_reducible repeat (first | refine blk_drewN ?_ _ | refine blk_drew ?_ | refine blk_alloc ?_ _));refine blk_put (cs:=#[.slice Ao8 t130.length co8, .slice none 0 0]) ?_ 1 _ rfl;(with_reducible repeat (first | refine blk_drewN ?_ _ | refine blk_drew ?_ | refine blk_alloc ?_ _));refine blk_put (cs:=#[.slice none 0 0, .slice none 0 0]) ?_ 0 _ rfl;(with_reducible repeat (first | refine blk_drewN ?_ _ | refine blk_drew ?_ | refine blk_alloc ?_ _));exact BK129.out
    exact ⟨_,_,by first | rfl | (simp [errW_none,errW_some] <;> rfl) | (simp [*,errW_none,errW_some] <;> rfl),by (with_reducible repeat (first | apply Kd.R_alloc | apply Kd.R_drewN | apply Kd.R_drew));exact Kd.R_mono (rf2_ (Kd.R_types HO_134000.out BK129.out (by decide)) (.slice Ao8 t130.length co8) (.slice Ao30 x134001_1.length co30)) (fun _ hk => trivial),by (with_reducible repeat (first | apply Kd.S_alloc | apply Kd.S_drewN | apply Kd.S_drew));exact Kd.S_mono (Kd.S_far (p:=⟨gb129,1,none⟩) (Kd.S_far (p:=⟨gb129,0,none⟩) (Kd.S_types HO_134001.out BK129.out (by decide)) (fun _ hk => hk.2) (.slice Ao8 t130.length co8)) (fun _ hk => hk.2) (.slice Ao30 x134001_1.length co30)) (fun _ hk => hk.1),by repeat (first | (with_reducible first | exact HB.out | apply below_alloc | apply pw_below_drewN | apply below_drew1 | refine below_set ?_ GE128.out | refine below_set ?_ GE129.out | refine below_set ?_ GE133.out) | exact HB.out)⟩





















/-! ### slices_Sort_int: function 80 -/
open Go.Shelf Go.Lib Go.Sort in
theorem SOI_below {w0 w : World} {g n : Nat} {dk : Array Int} {os : Array Obj} (hb0 : Below w0.heap.size w0 w) (hg : w0.heap.size ≤ g) : Below w0.heap.size w0 (grow (putRow (Value.int .i64) (Sort.ahead w n) g 0 dk) os) :=
 hb0.trans ⟨rfl,rfl,rfl,by show w.heap.size ≤ (_ ++ os).size;rw [Array.size_append,size_putRow];show w.heap.size ≤ w.heap.size + _;omega,fun k hk => by
  have hk' : k < w.heap.size:=Nat.lt_of_lt_of_le hk hb0.size;rw [Sort.heap_grow_old _ os (by rw [size_putRow];exact hk')]
  show ((putRow (Value.int .i64) (Sort.ahead w n) g 0 dk).heap)[k]? = w.heap[k]?
  simp only [putRow,mapBlock,Array.getElem?_modify];rw [if_neg (by omega)]
  rfl⟩
open Go.Shelf Go.Lib Go.Sort in
theorem SOI_kept {w : World} {g n : Nat} {dk : Array Int} {os : Array Obj} {S : Nat → Prop} (hs : S g) : Kept w (grow (putRow (Value.int .i64) (Sort.ahead w n) g 0 dk) os) S :=
 ⟨by show w.heap.size ≤ (_ ++ os).size;rw [Array.size_append,size_putRow];show w.heap.size ≤ w.heap.size + _;omega,fun k hk hn => by
  rw [Sort.heap_grow_old _ os (by rw [size_putRow];exact hk)]
  show ((putRow (Value.int .i64) (Sort.ahead w n) g 0 dk).heap)[k]? = w.heap[k]?
  simp only [putRow,mapBlock,Array.getElem?_modify];rw [if_neg (fun h => hn (by subst h;exact hs))]
  rfl⟩
open Go.Shelf Go.Lib Go.Sort in
theorem SOI_holds {w : World} {base g cap : Nat} {ok : Nat → Prop} {xs : List Int} (hO : Kd.R (Kd.int .i64) 3 w base ok (.slice (some ⟨g,0,none⟩) xs.length cap) xs) : Holds (Value.int .i64) w g 0 xs.toArray:=fun j hj => by
 have hj' : j < xs.length:=hj;have:=Kd.R_cell (0 : Int) hO (j : Int) (by omega) (by omega);rw [Int.toNat_natCast] at this;rw [Nat.zero_add];refine ⟨this.1.trans ?_,this.2⟩
 unfold rdOf
 rw [Int.toNat_natCast,getElem!_pos xs.toArray j hj,List.getElem_toArray,List.getD_eq_getElem?_getD,List.getElem?_eq_getElem hj']
 rfl
open Go.Shelf Go.Lib Go.Sort in
theorem SOI_row {w : World} {base g cap m n : Nat} {ok : Nat → Prop} {cur : Array Value} {zs : List Int} {os : Array Obj} (hbase : base ≤ g) (hg : w.heap[g]? = some (.cells cur 3 (0,0))) (hm : m = zs.length) (hn : m ≤ cap) (hcap : cap ≤ maxLen) (hsz : cur.size = cap * 1)
  (hok : ok g) : Kd.R (Kd.int .i64) 3 (grow (putRow (Value.int .i64) (Sort.ahead w n) g 0 zs.toArray) os) base ok (.slice (some ⟨g,0,none⟩) m cap) zs:=by
 have hglt:=blk_lt hg;refine Kd.R_of_own ?_ (fun k hk => by injection hk with hk;subst hk;exact hok);refine ⟨by simp [encs],Or.inr ⟨g,cap,putCells (Value.int .i64) 0 zs.toArray cur,by rw [hm],hbase, ?_,by rw [← hm];exact hn,hcap,by rw [← hsz];simp [putCells], ?_⟩⟩
 ·rw [Sort.heap_grow_old _ os (by rw [size_putRow];exact hglt)];simp only [putRow,mapBlock,Array.getElem?_modify,if_true]
  show (w.heap[g]?).map _ = _
  rw [hg]
  rfl
 ·apply List.ext_getElem
  ·simp [putCells,encs]
   omega
  ·intro j h1 h2
   have hj : j < zs.length:=by simpa [encs] using h2
   simp [putCells,encs]
   rw [if_pos (by omega),List.getElem?_eq_getElem hj]
   rfl
def slices_Sort_int.f (l0 : List Int) : Option (List Int):=if l0.length < 4611686018427387904 then some (l0.mergeSort fun x y => decide (x ≤ y)) else none
set_option maxHeartbeats 8000000 in
set_option maxRecDepth 100000 in
open Go.Shelf Go.Lib Go.Sort in
theorem slices_Sort_int.calls (P0_ : Nat → Prop) (u9000_ : Value) (l0 : List Int) (r : List Int) (w0 w : World) (hB : Below w0.heap.size w0 w) (ho0 : Kd.R (Kd.int .i64) 3 w w0.heap.size P0_ u9000_ l0) (h : slices_Sort_int.f l0 = some r) :
  Calls Try.prog 80 #[u9000_] w fun e w' => e = .returned (.tuple #[]) ∧ Kd.R (Kd.int .i64) 3 w' w0.heap.size (fun k_ => (P0_ k_ ∨ w.heap.size ≤ k_)) u9000_ r ∧ Below w0.heap.size w0 w' ∧ Kept w w' (fun k_ => P0_ k_):=by
 unfold slices_Sort_int.f at h
 by_cases hl : l0.length < 4611686018427387904
 ·rw [if_pos hl] at h;obtain rfl:=Option.some.inj h;obtain ⟨hlen,hnil | ⟨g,cap,cur,hv,hbase,hg,hn,hcap,hsz,htk⟩⟩ := Kd.own_of_R ho0
  ·obtain ⟨rfl,h0⟩ := hnil;obtain rfl:=List.eq_nil_of_length_eq_zero h0
   refine (Try.slices_Sort_int_none none 0 w).mono fun e w' ⟨he,hw⟩ => ?_
   subst hw;rw [show (([] : List Int).mergeSort fun x y => decide (x ≤ y)) = [] from by simp]
   exact ⟨he,Kd.R_mono ho0 (fun k hk => .inl hk),hB,Kept.refl _ _⟩
  ·subst hv;have hglt:=blk_lt hg;have hP : P0_ g:=ho0.1 g rfl;have con:=Try.slices_Sort_int g 0 cap l0 w (SOI_holds ho0) hglt hl
   have hs : l0.length = (l0.mergeSort fun x y => decide (x ≤ y)).length:=by rw [List.length_mergeSort]
   generalize (l0.mergeSort fun x y => decide (x ≤ y)) = zs at con hs ⊢
   refine con.mono fun e w' ⟨he,n,os,hw⟩ => ?_
   subst hw
   exact ⟨he,SOI_row (n:=n) (os:=os) (ok:=fun k_ => (P0_ k_ ∨ w.heap.size ≤ k_)) hbase hg hs hn hcap hsz (.inl hP),SOI_below hB hbase,SOI_kept hP⟩
 ·rw [if_neg hl] at h;cases h

/-! ### impl_Gate_put: function 45 -/
def impl_Gate_put.f (l0_0 : List Int) (l0_1 : List (List Int)) (a1 : Int) (a2 : Int) : Option (List (List Int)):=if 0 ≤ a2 then (if a2 < (l0_1.length : Int) then (if (l0_1.getD a2.toNat ([] : List Int)).length < 17592186044416 then some (l0_1.set a2.toNat ((l0_1.getD a2.toNat ([] : List Int) ++ [a1]).mergeSort fun x y => decide (x ≤ y))) else none) else none) else none
def impl_Gate_put.T1 : Bool × List (List Nat × List Nat):=(true,[([],[]),([0],[0]),([],[]),([],[]),([3],[3]),([],[]),([4,5],[4,5]),([6],[6]),([],[]),([8],[8]),([7,9],[7,9]),([1,2,0,1,2,3,4,5,6,7,8,9,10],[1,2]),([11,10,10,0,1,2,3,4,5,6,7,8,9,10],[10,11])])
def impl_Gate_put.B1 : List Nat := [0,1,0,0,8,0,56,120,0,256,1016,2047,4095]
theorem impl_Gate_put.tab1 : rtab .any (opsOf Try.f45 1) = impl_Gate_put.T1:=by kernel_rfl
theorem impl_Gate_put.bits1 : waitsOk impl_Gate_put.T1.2 impl_Gate_put.B1 = true:=by kernel_rfl
set_option maxHeartbeats 8000000 in
set_option maxRecDepth 100000 in
theorem impl_Gate_put.walk (A0_0 : Option Addr) (c0_0 : Nat) (l0_0 : List Int) (P0_1_ : Nat → Prop) (u9000_ : Value) (l0_1 : List (List Int)) (a1 : Int) (a2 : Int) (xs : List Int) (hxs : xs = l0_1.getD a2.toNat ([] : List Int)) (w0 w : World) (hB : Below w0.heap.size w0 w) (ho0_1 : Kd.S (Kd.slice 3 (Kd.int .i64)) 24 w w0.heap.size P0_1_ u9000_ l0_1) (p4 : 0 ≤ a2) (p5 : a2 < (l0_1.length : Int)) (p6 : xs.length < 17592186044416) :
  Calls Try.prog 45 #[.agg #[.slice A0_0 l0_0.length c0_0,u9000_], .int .i64 a1, .int .i64 a2] w fun e w' => e = .returned (.tuple #[]) ∧ Kd.S (Kd.slice 3 (Kd.int .i64)) 24 w' w0.heap.size (fun k_ => (P0_1_ k_ ∨ w.heap.size ≤ k_)) u9000_ (l0_1.set a2.toNat ((xs ++ [a1]).mergeSort fun x y => decide (x ≤ y))) ∧ Below w0.heap.size w0 w' ∧ Kept w w' (fun k_ => P0_1_ k_):=by
 have hu27:=Try.underlying27;have LM:=am_ p6;clear p6;have c4b0 : decide (0 ≤ a2) = true:=decide_eq_true p4;have c5b0 : decide (a2 < (l0_1.length : Int)) = true:=decide_eq_true p5;have P4:=am_ p4;have P5:=am_ p5;clear p4 p5;obtain ⟨go,co,eo,gb,gl,cl,HG⟩ := Kd.S_form ho0_1 (by have:=P4.out;have:=P5.out;omega);subst eo;have HMgo:=am_ (show P0_1_ go from (Kd.S_R ho0_1).1 go rfl);have GB:=am_ gb;have HO:=am_ (show Kd.S (Kd.slice 3 (Kd.int .i64)) 24 w w0.heap.size (fun k_ => P0_1_ k_ ∨ w.heap.size ≤ k_) (.slice (some ⟨go,0,none⟩) l0_1.length co) l0_1 from Kd.S_mono ho0_1 (fun k_ hk => .inl hk));have HK:=am_ (Kept.refl w P0_1_);have HW0:=am_ hB.size;have HB:=am_ hB;have HXS:=am_ hxs;clear hB gb gl HG ho0_1 hxs
 go_enter Try.func45,Try.ntmps45
 try go_wp2_with (first | ((with_reducible refine gate_dst (N:=3) rfl ?_);refine box_event ?hg (N:=3) ?hd (cs:=#[.slice A0_0 l0_0.length c0_0, .slice (some ⟨go,0,none⟩) l0_1.length co]) (t:=27) ?hr ?_;(case hd => rfl);(case hg => rfl);(case hr => first | (go_simp;done) | (go_simp;rfl));intro gx hg w9 hbox hb;have n0_:=am_ (Kd.S_below (Kd.S_elderB (by (with_reducible repeat (first | apply Kd.S_alloc | apply Kd.S_drewN | apply Kd.S_drew));exact HO.out) gx (Nat.le_of_eq hg.symm)) hb);have n1_:=am_ (Kept.below (S:=P0_1_) (by repeat (first | (with_reducible first | exact HK.out | apply Kept.alloc | apply Kept.drewN | apply Kept.drew) | exact HK.out)) hb);have n2_:=am_ (below_step (by repeat (first | (with_reducible first | exact HB.out | apply below_alloc | apply pw_below_drewN | apply below_drew1) | exact HB.out)) hb);have n3_:=am_ hbox;have n4_:=am_ ((by rw [hg];exact (show Kept w _ P0_1_ from by repeat (first | (with_reducible first | exact HK.out | apply Kept.alloc | apply Kept.drewN | apply Kept.drew) | exact HK.out)).1 : w.heap.size ≤ gx));clear HO;clear HK;clear HB;have HO:=n0_;have HK:=n1_;have HB:=n2_;have BKg:=n3_;have GWg:=n4_;clear n0_ n1_ n2_ n3_ n4_;clear hb hbox hg))
 have n0_:=am_ (Kd.S_drew HO.out);have n1_:=am_ (Kept.drew HK.out);have n2_:=am_ (below_drew1 HB.out);have n_g:=am_ (blk_drew BKg.out);clear HO HK HB BKg;have HO:=n0_;have HK:=n1_;have HB:=n2_;have BKg:=n_g;clear n0_ n1_ n2_ n_g;obtain ⟨oki1,ce1,hce1,hM1,hcell1,hfr1,hoki1,hH1⟩ := Kd.S_elem HO.out ([] : List Int) a2 P4.out (by have:=P5.out;omega);obtain ⟨v1,hv1,hR1⟩ := hM1;subst hv1
 have hx1 : (w9.drew).cell? ⟨go,a2.toNat,none⟩ = some v1:=by
  have:=hcell1 0 v1 rfl;rwa [show a2.toNat * (Kd.slice 3 (Kd.int .i64)).sz + 0 = a2.toNat from Nat.mul_one _] at this
 rw [← HXS.out] at hR1;obtain ⟨av,cv,ev⟩ := Kd.R_slice hR1;subst ev;have UU:=am_ hR1;have HH:=am_ hH1;have HI:=am_ hoki1;clear hR1 hH1 hoki1 hcell1 hfr1 hce1;have p4e:=eq_true P4.out;have p5e:=eq_true P5.out
 refine start_ (n:=13) (S:=fun w' => w'.cell? ⟨gx,0,none⟩ = some (.slice A0_0 l0_0.length c0_0) ∧ w'.cell? ⟨gx,1,none⟩ = some (.slice (some ⟨go,0,none⟩) l0_1.length co) ∧ w'.cell? ⟨go,(a2).toNat,none⟩ = some (.slice av xs.length cv)) (ds := [12]) #[false,false,false,false,false,false,false,false,false,false,false,false,false] (by kernel_rfl) rfl rfl ⟨(blk_cell BKg.out 0).trans rfl,(blk_cell BKg.out 1).trans rfl,hx1⟩ (fun hHeld => ?_);refine with_tabW impl_Gate_put.tab1 impl_Gate_put.bits1 (fun HT_ HW_ => ?_)
 generalize w9.drew = w10 at HO BKg HK HB UU HH hx1 hHeld ⊢;have n0_:=am_ (Kd.H_widen HH.out);clear HH;have HH:=n0_;clear n0_;refine pure_ (i:=0) (N:=some 6) (v:=?_) (a':=?_) #[true,false,false,false,false,false,false,false,false,false,false,false,false] rfl rfl (any_of HT_.out (by kernel_rfl)) (fun _ _ _ h => h) (Or.inl ⟨by rfl, ?_⟩) ?_ ?_
 rotate_left
 ·intro w'
  go_simp
  with_reducible rfl
 rotate_left
 ·simp only [Act.put,sA_,s0_,s1_,i64_w,i32_w]
  rfl
 refine pure_ (i:=2) (N:=some 8) (v:=?_) (a':=?_) #[true,false,true,false,false,false,false,false,false,false,false,false,false] rfl rfl (any_of HT_.out (by kernel_rfl)) (fun _ _ _ h => h) (Or.inl ⟨by rfl, ?_⟩) ?_ ?_
 rotate_left
 ·intro w'
  go_simp
  with_reducible rfl
 rotate_left
 ·simp only [Act.put,sA_,s0_,s1_,i64_w,i32_w]
  rfl
 refine pure_ (i:=3) (N:=some 9) (v:=?_) (a':=?_) #[true,false,true,true,false,false,false,false,false,false,false,false,false] rfl rfl (any_of HT_.out (by kernel_rfl)) (fun _ _ _ h => h) (Or.inl ⟨by rfl, ?_⟩) ?_ ?_
 rotate_left
 ·intro w'
  go_simp
  with_reducible rfl
 rotate_left
 ·simp only [Act.put,sA_,s0_,s1_,i64_w,i32_w]
  rfl
 refine pure_ (i:=5) (N:=some 11) (v:=?_) (a':=?_) #[true,false,true,true,false,true,false,false,false,false,false,false,false] rfl rfl (any_of HT_.out (by kernel_rfl)) (fun _ _ _ h => h) (Or.inl ⟨by rfl, ?_⟩) ?_ ?_
 rotate_left
 ·intro w'
  go_simp
  with_reducible rfl
 rotate_left
 ·simp only [Act.put,sA_,s0_,s1_,i64_w,i32_w]
  rfl
 refine pure_ (i:=8) (N:=some 14) (v:=?_) (a':=?_) #[true,false,true,true,false,true,false,false,true,false,false,false,false] rfl rfl (any_of HT_.out (by kernel_rfl)) (fun _ _ _ h => h) (Or.inl ⟨by rfl, ?_⟩) ?_ ?_
 rotate_left
 ·intro w'
  go_simp
  with_reducible rfl
 rotate_left
 ·simp only [Act.put,sA_,s0_,s1_,i64_w,i32_w]
  rfl
 refine take_ (i:=1) (N:=some 7) (v:=?_) (a':=?_) #[true,true,true,true,false,true,false,false,true,false,false,false,false] rfl rfl (take_ofW HT_.out HW_.out (by kernel_rfl)) (fun _ _ _ h => h) (Or.inl ⟨by rfl, ?_⟩) hHeld ?_ ?_
 rotate_left
 ·rintro w' ⟨s0,s1,s2⟩
  go_simp
  with_reducible rfl
 rotate_left
 ·simp only [Act.put,sA_,s0_,s1_,i64_w,i32_w]
  rfl
 refine take_ (i:=4) (N:=some 10) (v:=?_) (a':=?_) #[true,true,true,true,true,true,false,false,true,false,false,false,false] rfl rfl (take_ofW HT_.out HW_.out (by kernel_rfl)) (fun _ _ _ h => h) (Or.inl ⟨by rfl, ?_⟩) hHeld ?_ ?_
 rotate_left
 ·rintro w' ⟨s0,s1,s2⟩
  go_simp
  with_reducible rfl
 rotate_left
 ·simp only [Act.put,sA_,s0_,s1_,i64_w,i32_w]
  rfl
 refine pure_ (i:=6) (N:=some 12) (v:=?_) (a':=?_) #[true,true,true,true,true,true,true,false,true,false,false,false,false] rfl rfl (any_of HT_.out (by kernel_rfl)) (fun _ _ _ h => h) (Or.inl ⟨by rfl, ?_⟩) ?_ ?_
 rotate_left
 ·intro w'
  go_simp
  with_reducible rfl
 rotate_left
 ·simp only [Act.put,sA_,s0_,s1_,i64_w,i32_w]
  rfl
 refine take_ (i:=7) (N:=some 13) (v:=?_) (a':=?_) #[true,true,true,true,true,true,true,true,true,false,false,false,false] rfl rfl (take_ofW HT_.out HW_.out (by kernel_rfl)) (fun _ _ _ h => h) (Or.inl ⟨by rfl, ?_⟩) hHeld ?_ ?_
 rotate_left
 ·rintro w' ⟨s0,s1,s2⟩
  go_simp
  with_reducible rfl
 rotate_left
 ·simp only [Act.put,sA_,s0_,s1_,i64_w,i32_w]
  rfl
 refine one_ (i:=9) (N:=some 15) #[true,true,true,true,true,true,true,true,true,true,false,false,false] rfl rfl (one_of HT_.out (by kernel_rfl)) (by decide) (fun K hK => ?_);refine value_ (w1:=?_) (v:=?_) (by rfl) rfl ?_ ?_
 rotate_left 2
 ·go_simp
  constructor
  ·rfl
  ·rfl
 refine hK.out _ _ ⟨(blk_cell (blk_alloc BKg.out _) 0).trans rfl,(blk_cell (blk_alloc BKg.out _) 1).trans rfl,(World.cell?_alloc_lt _ _ _ (World.block_lt_of_cell? _ _ (hHeld.2.2))).trans (hHeld.2.2)⟩ (fun hHeld => ?_);clear hK K;refine norm_ (a':=?_) ?_ ?_
 rotate_left
 ·show Act.put _ (some 15) _ = _
  simp only [Act.put,sA_,s0_,s1_,i64_w,i32_w]
  rfl
 refine one_ (i:=10) (N:=some 16) #[true,true,true,true,true,true,true,true,true,true,true,false,false] rfl rfl (one_of HT_.out (by kernel_rfl)) (by decide) (fun K hK => ?_);refine Kd.R_append_step (Kd.int .i64) (w0:=w0) w0.heap.size (by rfl) (.tmp 13) (.tmp 15) 24 3 (.int .i64 0) 8 rfl Try.underlying24 info3 rfl (by decide) (by omega) (.slice av xs.length cv) xs a1 [.int .i64 a1] (fun k_ => oki1 k_ ∨ ((P0_1_ k_ ∨ w.heap.size ≤ k_) ∧ k_ ≠ gx) ∧ w10.heap.size ≤ k_) (fun _ => False) rfl rfl ?aP (fun _ hk => hk.elim) ?aF ?aO ?aB ?aS ?aL ?_
 (case aP => exact rfl)
 (case aB => exact (by repeat (first | (with_reducible first | exact HB.out | apply below_alloc | apply pw_below_drewN | apply below_drew1) | exact HB.out)))
 (case aF => exact (fun k_ hk => .inr ⟨⟨.inr (Nat.le_trans HK.out.1 hk),fun e_ => by have:=blk_lt BKg.out;omega⟩,hk⟩))
 (case aO => exact (by (with_reducible repeat (first | apply Kd.R_alloc | apply Kd.R_drewN | apply Kd.R_drew));exact Kd.R_mono UU.out (fun _ hk => .inl hk)))
 (case aS => exact (below_size (by repeat (first | (with_reducible first | exact HB.out | apply below_alloc | apply pw_below_drewN | apply below_drew1) | exact HB.out))))
 (case aL => have:=LM.out;omega)
 intro v2 w26 ho hb hg hat
 have HS2_:=cell_grown hg hx1 (fun e_ => (HI.out _ (UU.out.1 _ e_.symm)).2 rfl);have n0_:=am_ (blk_grown (g:=gx) (o := .cells #[.slice A0_0 l0_0.length c0_0, .slice (some ⟨go,0,none⟩) l0_1.length co] 27 (0,0)) (by (with_reducible repeat (first | refine blk_drewN ?_ _ | refine blk_drew ?_ | refine blk_alloc ?_ _));exact BKg.out) hg (Kd.R_ne UU.out BKg.out (by decide)));have n1_:=am_ hb;have n2_:=am_ (Kd.H_grown HH.out hg (fun k_ e_ => .inl (UU.out.1 k_ e_)));have n3_:=am_ ho;have n4_:=am_ (Kept.of_grown hg HK.out (fun k_ e_ => (HI.out k_ (UU.out.1 k_ e_)).1.1));clear BKg HB HH HK HO;have BKg:=n0_;have HB:=n1_;have HH:=n2_;have HN:=n3_;have HK:=n4_
 clear n0_ n1_ n2_ n3_ n4_ ho hb hg hat
 obtain ⟨ys,hys⟩ : ∃ ys : List Int,ys = xs ++ [a1]:=⟨_,rfl⟩;have n3_:=am_ (show Kd.R (Kd.int .i64) 3 w26 w0.heap.size _ v2 ys from by rw [hys];exact HN.out);have YS:=am_ hys;clear HN hys;have HN:=n3_;clear n3_;obtain ⟨Ao,co2,eo2⟩ := Kd.R_slice HN.out;subst eo2;obtain ⟨_,_,hraw,_,_,hcc,_⟩ := Kd.H_raw HH.out P4.out P5.out;obtain ⟨_,hfr⟩ := Kd.H_at HH.out P4.out P5.out;have hx2:=hcc 0 _ rfl;have hf2:=hfr 0;(try simp only [Nat.add_zero] at hx2);(try rw [show ((Kd.slice 3 (Kd.int .i64))).sz = 1 from rfl,Nat.mul_one] at hx2);(try simp only [Nat.add_zero] at hf2);(try rw [show ((Kd.slice 3 (Kd.int .i64))).sz = 1 from rfl,Nat.mul_one] at hf2);have HP:=Kd.S_seg0 HH.out P4.out P5.out (seg := [.slice Ao (ys).length co2]) (j:=0) (show 1 ≤ 1 from by decide) (x':=ys) (Kd.M_row HN.out) (fun _ hk => hk);(try simp only [show ((Kd.slice 3 (Kd.int .i64))).sz = 1 from rfl,Nat.mul_one,Nat.add_zero] at HP);have HNB:=am_ (show gx ≠ go from by have h_:=Kd.R_ne hraw BKg.out (by decide);intro e_;exact h_ (by rw [e_];rfl));have HQ:=am_ HP.1;clear HP hcc hfr;refine hK.out _ _ ⟨(blk_cell BKg.out 0).trans rfl,(blk_cell BKg.out 1).trans rfl,HS2_⟩ (fun hHeld => ?_);clear hK K;refine norm_ (a':=?_) ?_ ?_
 rotate_left
 ·show Act.put _ (some 16) _ = _
  simp only [Act.put,sA_,s0_,s1_,i64_w,i32_w]
  rfl
 refine pure_ (i:=11) (N:=some 17) (v:=?_) (a':=?_) #[true,true,true,true,true,true,true,true,true,true,true,true,false] rfl rfl (any_of HT_.out (by kernel_rfl)) (fun _ _ _ h => h) (Or.inl ⟨by rfl, ?_⟩) ?_ ?_
 rotate_left
 ·intro w'
  go_simp
  with_reducible rfl
 rotate_left
 ·simp only [Act.put,sA_,s0_,s1_,i64_w,i32_w]
  rfl
 refine last_ (i:=12) (N:=none) #[true,true,true,true,true,true,true,true,true,true,true,true,true] rfl rfl (one_of HT_.out (by kernel_rfl)) (by decide) (fun K hK => ?_);refine skip_ (w1:=?_) (by rfl) rfl ?_ ?_
 rotate_left
 ·go_simp
  rfl
 refine hK.out _ _ ?_;clear hK K;refine done_ (done_of HT_.out (by kernel_rfl)) ?_;have n0_ : Aside0 (Kd.S (Kd.slice 3 (Kd.int .i64)) 24 (w26.setCell ⟨go,(a2 : Int).toNat,none⟩ (.slice Ao (ys).length co2)) w0.heap.size (fun k_ => (P0_1_ k_ ∨ w.heap.size ≤ k_) ∧ k_ ≠ gx) (.slice (some ⟨go,0,none⟩) l0_1.length co) (l0_1.set a2.toNat (ys))):=⟨HQ.out⟩;have n1_ : Aside0 ((w26.setCell ⟨go,(a2 : Int).toNat,none⟩ (.slice Ao (ys).length co2)).heap[gx]? = some (.cells #[.slice A0_0 l0_0.length c0_0, .slice (some ⟨go,0,none⟩) l0_1.length co] 27 (0,0))):=⟨by refine blk_far ?_ HNB.out _;exact BKg.out⟩;have n2_ : Aside0 (Below w0.heap.size w0 (w26.setCell ⟨go,(a2 : Int).toNat,none⟩ (.slice Ao (ys).length co2))):=⟨below_set HB.out GB.out⟩;have n3_ : Aside0 (Kept w (w26.setCell ⟨go,(a2 : Int).toNat,none⟩ (.slice Ao (ys).length co2)) P0_1_):=⟨Kept.setCell HK.out (.inl HMgo.out) _⟩;clear BKg HB HH HK HN HQ hx2 hf2 hraw;generalize (w26.setCell ⟨go,(a2 : Int).toNat,none⟩ (.slice Ao (ys).length co2)) = w30 at n0_ n1_ n2_ n3_ ⊢;have HO:=n0_;have BKg:=n1_;have HB:=n2_;have HK:=n3_;clear n0_ n1_ n2_ n3_;have hcz_0 : w30.cell? ⟨gx,0,none⟩ = some (.slice A0_0 l0_0.length c0_0):=(blk_cell BKg.out 0).trans rfl;have hcz_1 : w30.cell? ⟨gx,1,none⟩ = some (.slice (some ⟨go,0,none⟩) l0_1.length co):=(blk_cell BKg.out 1).trans rfl;have hfz_0:=blk_frozen BKg.out 0;have hfz_1:=blk_frozen BKg.out 1;obtain ⟨oki3,ce3,hce3,hM3,hcell3,hfr3,hoki3,hH3⟩ := Kd.S_elem HO.out ([] : List Int) a2 P4.out (by have:=P5.out;omega);obtain ⟨v3,hv3,hR3⟩ := hM3;subst hv3
 have hx3 : (w30).cell? ⟨go,a2.toNat,none⟩ = some v3:=by
  have:=hcell3 0 v3 rfl;rwa [show a2.toNat * (Kd.slice 3 (Kd.int .i64)).sz + 0 = a2.toNat from Nat.mul_one _] at this
 rw [show (l0_1.set a2.toNat (ys)).getD a2.toNat [] = ys from by rw [List.getD_eq_getElem?_getD,List.getElem?_set_self (by have:=P4.out;have:=P5.out;omega)];rfl] at hR3;obtain ⟨av3,cv3,ev3⟩ := Kd.R_slice hR3;subst ev3;have UR:=am_ hR3;have HH:=am_ hH3;have HJ:=am_ hoki3;clear hR3 hH3 hoki3 hcell3 hfr3 hce3
 have SF : slices_Sort_int.f (ys) = some ((ys).mergeSort fun x y => decide (x ≤ y)):=by
  unfold slices_Sort_int.f
  rw [if_pos (by have h1_:=LM.out;have h2_:=congrArg List.length YS.out;rw [List.length_append,List.length_singleton] at h2_;omega)]
 have SFA:=am_ SF;clear SF
 go_wp2_with (first | ((with_reducible refine gate_callee (f:=80) rfl ?_);refine goesL_ (some 23) rfl rfl Try.func80 (by kernel_rfl) rfl #[.slice av3 (ys).length cv3] rfl (by (try simp only [List.map_toArray,List.map_cons,List.map_nil]);first | done | rfl) ?_;(refine (slices_Sort_int.calls oki3 _ (ys) ((ys).mergeSort fun x y => decide (x ≤ y)) w0 _ ?sideB ?sideR SFA.out).mono ?_);(case sideB => exact (by repeat (first | (with_reducible first | exact HB.out | apply below_alloc | apply pw_below_drewN | apply below_drew1) | exact HB.out)));(case sideR => (with_reducible repeat (first | apply Kd.R_alloc | apply Kd.R_drewN | apply Kd.R_drew));exact UR.out);rintro e w40 ⟨rfl,hR4,hb4,hk4⟩;refine ⟨_,rfl, ?_⟩;have R4:=am_ hR4;have B4:=am_ hb4;have K4:=am_ (show Kept w30 w40 oki3 from hk4);clear hR4 hb4 hk4))
 first | go_end0 | ((try simp only [Exit.inBlock,Exit.then]);refine bodyPost_ret (results_none rfl _ _ _) rfl ?_)
 have h1:=Kd.H_widen HH.out;have h2:=Kd.H_step (w1:=w40) h1 (fun j hj hn hlt => K4.out.2 j hlt (fun ho => hn (.inl ho)));have h3:=Kd.H_back h2 (x':=(ys).mergeSort fun x y => decide (x ≤ y)) (okp:=fun k_ => (oki3 k_ ∨ w30.heap.size ≤ k_)) ⟨_,rfl,R4.out⟩ (fun j hj => hj.elim (fun ho => .inl ho) (fun hf => .inr ⟨⟨.inr (Nat.le_trans HK.out.1 hf),fun e_ => by have:=blk_lt BKg.out;omega⟩,hf⟩));rw [List.set_set,YS.out] at h3
 exact ⟨by first | rfl | (simp;done),Kd.S_mono h3 (fun _ hk => hk.1),B4.out,HK.out.then_ K4.out (fun j hj => (HJ.out j hj).1.1)⟩
set_option maxHeartbeats 8000000 in
set_option maxRecDepth 100000 in
theorem impl_Gate_put.calls (A0_0 : Option Addr) (c0_0 : Nat) (l0_0 : List Int) (P0_1_ : Nat → Prop) (u9000_ : Value) (l0_1 : List (List Int)) (a1 : Int) (a2 : Int) (r : List (List Int)) (w0 w : World) (hB : Below w0.heap.size w0 w) (hr0_0 : ∀ W_,Kept w W_ (fun k_ => P0_1_ k_) → Kd.C (Kd.int .i64) W_ A0_0 l0_0.length l0_0) (hc0_0 : l0_0.length ≤ c0_0) (ho0_1 : Kd.S (Kd.slice 3 (Kd.int .i64)) 24 w w0.heap.size P0_1_ u9000_ l0_1) (h : impl_Gate_put.f l0_0 l0_1 a1 a2 = some r) :
  Calls Try.prog 45 #[.agg #[.slice A0_0 l0_0.length c0_0,u9000_], .int .i64 a1, .int .i64 a2] w fun e w' => e = .returned (.tuple #[]) ∧ Kd.S (Kd.slice 3 (Kd.int .i64)) 24 w' w0.heap.size (fun k_ => (P0_1_ k_ ∨ w.heap.size ≤ k_)) u9000_ r ∧ Below w0.heap.size w0 w' ∧ Kept w w' (fun k_ => P0_1_ k_):=by
 have hu27:=Try.underlying27;clear hr0_0 hc0_0
 unfold impl_Gate_put.f at h
 by_cases c4 : 0 ≤ a2
 ·rw [if_pos c4] at h
  by_cases c5 : a2 < (l0_1.length : Int)
  ·rw [if_pos c5] at h;obtain ⟨xs,hxs⟩ : ∃ xs,xs = l0_1.getD a2.toNat ([] : List Int):=⟨_,rfl⟩;rw [← hxs] at h
   by_cases c6 : xs.length < 17592186044416
   ·rw [if_pos c6] at h;obtain rfl:=Option.some.inj h;clear h
    exact impl_Gate_put.walk A0_0 c0_0 l0_0 P0_1_ u9000_ l0_1 a1 a2 xs hxs w0 w hB ho0_1 c4 c5 c6
   ·rw [if_neg c6] at h;cases h
  ·rw [if_neg c5] at h;cases h
 ·rw [if_neg c4] at h;cases h

/-! ### impl_size: function 56 -/
def impl_size.f (a0 : Int) : Option (Int):=some (mx a0 (wrap64 (-a0)))
set_option maxHeartbeats 8000000 in
set_option maxRecDepth 100000 in
theorem impl_size.calls (a0 : Int) (r : Int) (w : World) (h : impl_size.f a0 = some r) :
  Calls Try.prog 56 #[.int .i64 a0] w fun e w' => e = .returned (.int .i64 r) ∧ Below w.heap.size w w':=by
 have HB:=am_ (Below.refl w.heap.size w);have H : (some (mx a0 (wrap64 (-a0)))) = some r:=h;clear h;obtain ⟨ji2,hji2⟩ : ∃ j_ : Int,(mx a0 (wrap64 (-a0))) = j_:=⟨_,rfl⟩
 replace H : (some ji2) = some r:=by first | (rw [hji2] at H;exact H) | (simp only [hji2] at H ⊢;exact H)
 have hji2_ : (if a0 < (wrap64 (-a0)) then (wrap64 (-a0)) else a0) = ji2:=hji2;obtain rfl:=Option.some.inj H
 go_enter Try.func56,Try.ntmps56
 go_wp2
 go_ret
 exact ⟨by first | rfl | (simp [errW_none,errW_some] <;> rfl) | (simp only [← hji2];first | rfl | (simp [errW_none,errW_some] <;> rfl)) | (simp [*,errW_none,errW_some] <;> rfl),by repeat (first | (with_reducible first | exact HB.out | apply below_alloc | apply pw_below_drewN | apply below_drew1) | exact HB.out)⟩

end Go.Proofs.Ytglfjaaaegfdnaa.PFnExactCloseSlot
