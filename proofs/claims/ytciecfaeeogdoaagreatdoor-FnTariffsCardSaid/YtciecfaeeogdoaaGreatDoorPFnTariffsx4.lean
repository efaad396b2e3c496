-- Written by a program of this session, over the kit's print (wip/xprint.py)
import Derived.Test.YtciecfaeeogdoaaGreatDoorPFnTariffsx0
import Derived.Test.YtciecfaeeogdoaaGreatDoorPFnTariffsx2
import Derived.Test.YtciecfaeeogdoaaGreatDoorPFnTariffsx3
namespace Go.Proofs.YtciecfaeeogdoaaGreatDoor.PFnTariffs
open Go.RowKit Go.Proofs.YtciecfaeeogdoaaGreatDoorW.PrintWords Go.Proofs.YtciecfaeeogdoaaGreatDoorW.PrintLast Go.Proofs.YtciecfaeeogdoaaGreatDoorW.PrintMore
attribute [local go_sem] max2_int min2_int max_two min_two max_three min_three max_four min_four   -- for this text's walks alone
set_option linter.unusedVariables false
set_option linter.unusedSimpArgs false

/-! ### spec_DrawIsValidCharge: function 18 -/
def spec_DrawIsValidCharge.f (k : Nat) (l0 : List Int) : Option (Int × (List (S45)) × Int):=(spec_l1Cur_charge.f k l0 0 0).bind fun bt190 => (some (bt190.1,bt190.2.1,bt190.2.2.1))
theorem spec_DrawIsValidCharge.mono : ∀ a0 k,LeO (spec_DrawIsValidCharge.f k a0) (spec_DrawIsValidCharge.f (k + 1) a0):=by
 intro a0 k
 unfold spec_DrawIsValidCharge.f
 repeat' first
   | (with_reducible exact spec_l1Cur_charge.mono _ _ _ _)
   | (with_reducible exact LeO.refl _)
   | (with_reducible exact LeO.none _)
   | (with_reducible refine LeO.ite ?_ ?_)
   | (with_reducible refine LeO.bind ?_ (fun _ => ?_))
   | exact spec_l1Cur_charge.mono _ _ _ _
   | exact LeO.none _
   | refine LeO.ite ?_ ?_
   | refine LeO.bind ?_ (fun _ => ?_)
set_option maxHeartbeats 8000000 in
set_option maxRecDepth 100000 in
theorem spec_DrawIsValidCharge.calls (k : Nat) (A0 : Option Addr) (c0 : Nat) (l0 : List Int) (r1 : Int) (r2 : List (S45)) (r3 : Int) (w : World) (hr0 : Kd.C (Kd.int .u8) w A0 l0.length l0) (hc0 : l0.length ≤ c0) (h : spec_DrawIsValidCharge.f k l0 = some (r1,r2,r3)) :
  Calls Tryz.prog 18 #[.slice A0 l0.length c0] w fun e w' => ∃ v1_ : Value,e = .returned (.agg #[.int .i64 r1,v1_, .int .i64 r3]) ∧ Kd.R k45 45 w' w.heap.size (fun _ => True) v1_ r2 ∧ Below w.heap.size w w':=by
 have hu26:=Tryz.underlying26;have hu55:=Tryz.underlying55;have HR0:=am_ hr0;have HC0:=am_ hc0;clear hr0 hc0;have HB:=am_ (Below.refl w.heap.size w);have H : ((spec_l1Cur_charge.f k l0 0 0).bind fun bt190 => (some (bt190.1,bt190.2.1,bt190.2.2.1))) = some (r1,r2,r3):=h;clear h;replace H:=Option.bind_eq_some_iff.mp H;obtain ⟨⟨t190,t191,t194,t195,t196⟩,A20,H⟩ := H;replace H : (some (t190,t191,t194)) = some (r1,r2,r3):=H;have A2:=am_ A20;clear A20;simp only [Option.some.injEq,Prod.mk.injEq] at H;obtain ⟨rfl,rfl,rfl⟩ := H
 go_enter Tryz.func18,Tryz.ntmps18
 go_wp2_with (first | ((with_reducible refine gate_dst (N:=2) rfl ?_);refine box_event ?hg (N:=2) ?hd (cs:=#[.int .i64 0, .slice none 0 0, .int .i64 0]) (t:=26) ?hr ?_;(case hd => rfl);(case hg => rfl);(case hr => (go_simp;done));intro gb188 hg w3 hbox hb;have n0_:=am_ (below_step (by exact HB.out) hb);have n1_:=am_ hbox;have n2_:=am_ (ge_ hg (by exact HB.out));have n3_:=am_ (ge_ hg (by exact HB.out));clear HB;have HB:=n0_;have BK188:=n1_;have GW188:=n2_;have GE188:=n3_;clear n0_ n1_ n2_ n3_;clear hb hbox hg) | ((with_reducible refine gate_dst (N:=6) rfl ?_);refine box_event ?hg (N:=6) ?hd (cs:=#[.slice A0 l0.length c0, .int .i64 0, .int .u64 0]) (t:=55) ?hr ?_;(case hd => rfl);(case hg => rfl);(case hr => (go_simp;done));intro gb189 hg w4 hbox hb;have n0_:=am_ (blk_below (by exact BK188.out) hb);have n1_:=am_ (below_step (by exact HB.out) hb);have n2_:=am_ (nl_ hg (by exact BK188.out));have n3_:=am_ (ng_ hg (by exact BK188.out));have n4_:=am_ ((show IsS55 w _ gb189 l0 0 0 from ⟨_,_,hbox,(ge_ hg (by exact HB.out)),HR0.out⟩));clear BK188;clear HB;have BK188:=n0_;have HB:=n1_;have NB188_189:=n2_;have NB189_188:=n3_;have HI189:=n4_;clear n0_ n1_ n2_ n3_ n4_;clear hb hbox hg) | ((with_reducible refine gate_callee (f:=28) rfl ?_);refine goesL_ (some 8) rfl rfl Tryz.func28 (by kernel_rfl) rfl #[.pointer (some ⟨gb189,0,none⟩)] rfl (by (try simp only [List.map_toArray,List.map_cons,List.map_nil]);rfl) ?_;(with_reducible refine (spec_l1Cur_charge.calls k gb189 l0 0 0 t190 t191 t194 t195 t196 w _ ?side1 ?side2 A2.out).mono ?_);(case side1 => exact HI189.out);(case side2 => exact HB.out);rintro e w5 ⟨v192,rfl,ho0,hi,hb,hk⟩;refine ⟨_,rfl, ?_⟩;have n0_:=am_ (KeepBut.blk hk (by exact BK188.out) NB188_189.out (by simp));have n1_:=am_ (Kd.R_lower ho0 (below_size (by exact HB.out)));have n2_:=am_ hb;have n3_:=am_ hi;clear BK188;clear HB;clear HI189;have BK188:=n0_;have HO193:=n1_;have HB:=n2_;have HI189:=n3_;clear n0_ n1_ n2_ n3_;(try clear hb);(try clear hk);(try clear hi);(try clear ho0);have hnb6:=NB188_189.out;have hnc6:=NB189_188.out;have hcz7_0:=c3_0 BK188.out;have hcz7_1:=c3_1 BK188.out;have hcz7_2:=c3_2 BK188.out;have hfz7_0:=blk_frozen BK188.out 0;have hfz7_1:=blk_frozen BK188.out 1;have hfz7_2:=blk_frozen BK188.out 2;obtain ⟨Ao8,co8,eo8⟩ := Kd.R_slice HO193.out;subst eo8))
 refine bodyPost_ret (results_cell_row rfl _ _ gb188 26 #[.int .i64 t190, .slice Ao8 t191.length co8, .int .i64 t194] (0,0) _ rfl (by refine blk_put (cs:=#[.int .i64 t190, .slice Ao8 t191.length co8, .int .i64 0]) ?_ 2 _ rfl;refine blk_put (cs:=#[.int .i64 t190, .slice none 0 0, .int .i64 0]) ?_ 1 _ rfl;refine blk_put (cs:=#[.int .i64 0, .slice none 0 0, .int .i64 0]) ?_ 0 _ rfl;exact BK188.out) Tryz.underlying26 rfl (by kernel_rfl)) rfl ?_
 exact ⟨_,by rfl,by exact Kd.R_mono (rf3_ (Kd.R_types HO193.out BK188.out (by decide)) (.int .i64 t190) (.slice Ao8 t191.length co8) (.int .i64 t194)) (fun _ hk => trivial),by repeat ((with_reducible first | exact HB.out | refine below_set ?_ GE188.out))⟩

/-! ### spec_DrawChargeText: function 5 -/
def spec_DrawChargeText.f (k : Nat) (l0 : List Int) : Option (Int × (List (S45)) × Int):=(spec_DrawIsValidCharge.f k l0).bind fun bt198 => (some (bt198.1,bt198.2.1,bt198.2.2))
theorem spec_DrawChargeText.mono : ∀ a0 k,LeO (spec_DrawChargeText.f k a0) (spec_DrawChargeText.f (k + 1) a0):=by
 intro a0 k
 unfold spec_DrawChargeText.f
 repeat' first
   | (with_reducible exact spec_DrawIsValidCharge.mono _ _)
   | (with_reducible exact LeO.refl _)
   | (with_reducible exact LeO.none _)
   | (with_reducible refine LeO.ite ?_ ?_)
   | (with_reducible refine LeO.bind ?_ (fun _ => ?_))
   | exact spec_DrawIsValidCharge.mono _ _
   | exact LeO.none _
   | refine LeO.ite ?_ ?_
   | refine LeO.bind ?_ (fun _ => ?_)
set_option maxHeartbeats 8000000 in
set_option maxRecDepth 100000 in
theorem spec_DrawChargeText.calls (k : Nat) (A0 : Option Addr) (c0 : Nat) (l0 : List Int) (r1 : Int) (r2 : List (S45)) (r3 : Int) (w : World) (hr0 : Kd.C (Kd.int .u8) w A0 l0.length l0) (hc0 : l0.length ≤ c0) (h : spec_DrawChargeText.f k l0 = some (r1,r2,r3)) :
  Calls Tryz.prog 5 #[.slice A0 l0.length c0] w fun e w' => ∃ v1_ : Value,e = .returned (.agg #[.int .i64 r1,v1_, .int .i64 r3]) ∧ Kd.R k45 45 w' w.heap.size (fun _ => True) v1_ r2 ∧ Below w.heap.size w w':=by
 have hu26:=Tryz.underlying26;have HR0:=am_ hr0;have HC0:=am_ hc0;clear hr0 hc0;have HB:=am_ (Below.refl w.heap.size w);have H : ((spec_DrawIsValidCharge.f k l0).bind fun bt198 => (some (bt198.1,bt198.2.1,bt198.2.2))) = some (r1,r2,r3):=h;clear h;replace H:=Option.bind_eq_some_iff.mp H;obtain ⟨⟨t198,t199,t202⟩,A20,H⟩ := H;replace H : (some (t198,t199,t202)) = some (r1,r2,r3):=H;have A2:=am_ A20;clear A20;simp only [Option.some.injEq,Prod.mk.injEq] at H;obtain ⟨rfl,rfl,rfl⟩ := H
 go_enter Tryz.func5,Tryz.ntmps5
 go_wp2_with (first | ((with_reducible refine gate_dst (N:=2) rfl ?_);refine box_event ?hg (N:=2) ?hd (cs:=#[.int .i64 0, .slice none 0 0, .int .i64 0]) (t:=26) ?hr ?_;(case hd => rfl);(case hg => rfl);(case hr => (go_simp;done));intro gb197 hg w3 hbox hb;have n0_:=am_ (below_step (by exact HB.out) hb);have n1_:=am_ hbox;have n2_:=am_ (ge_ hg (by exact HB.out));have n3_:=am_ (ge_ hg (by exact HB.out));clear HB;have HB:=n0_;have BK197:=n1_;have GW197:=n2_;have GE197:=n3_;clear n0_ n1_ n2_ n3_;clear hb hbox hg) | ((with_reducible refine gate_callee (f:=18) rfl ?_);refine goesL_ (some 4) rfl rfl Tryz.func18 (by kernel_rfl) rfl #[.slice A0 l0.length c0] rfl (by (try simp only [List.map_toArray,List.map_cons,List.map_nil]);rfl) ?_;(with_reducible refine (spec_DrawIsValidCharge.calls k _ _ l0 t198 t199 t202 _ ?side1 ?side2 A2.out).mono ?_);(case side1 => repeat (exact (Kd.C_below HR0.out HB.out)));(case side2 => exact HC0.out);rintro e w4 ⟨v200,rfl,ho0,hb⟩;refine ⟨_,rfl, ?_⟩;have n0_:=am_ (Kd.R_lower ho0 (below_size (by exact HB.out)));have n1_:=am_ (blk_below (by exact BK197.out) hb);have n2_:=am_ (below_step (by exact HB.out) hb);clear BK197;clear HB;have HO201:=n0_;have BK197:=n1_;have HB:=n2_;clear n0_ n1_ n2_;(try clear hb);(try clear ho0);have hcz5_0:=c3_0 BK197.out;have hcz5_1:=c3_1 BK197.out;have hcz5_2:=c3_2 BK197.out;have hfz5_0:=blk_frozen BK197.out 0;have hfz5_1:=blk_frozen BK197.out 1;have hfz5_2:=blk_frozen BK197.out 2;obtain ⟨Ao6,co6,eo6⟩ := Kd.R_slice HO201.out;subst eo6))
 refine bodyPost_ret (results_cell_row rfl _ _ gb197 26 #[.int .i64 t198, .slice Ao6 t199.length co6, .int .i64 t202] (0,0) _ rfl (by refine blk_put (cs:=#[.int .i64 t198, .slice Ao6 t199.length co6, .int .i64 0]) ?_ 2 _ rfl;refine blk_put (cs:=#[.int .i64 t198, .slice none 0 0, .int .i64 0]) ?_ 1 _ rfl;refine blk_put (cs:=#[.int .i64 0, .slice none 0 0, .int .i64 0]) ?_ 0 _ rfl;exact BK197.out) Tryz.underlying26 rfl (by kernel_rfl)) rfl ?_
 exact ⟨_,by rfl,by exact Kd.R_mono (rf3_ (Kd.R_types HO201.out BK197.out (by decide)) (.int .i64 t198) (.slice Ao6 t199.length co6) (.int .i64 t202)) (fun _ hk => trivial),by repeat ((with_reducible first | exact HB.out | refine below_set ?_ GE197.out))⟩

/-! ### impl_within: function 41 -/
def impl_within.f (a0 : Int) (a1 : Int) (a2 : Int) : Option (Bool):=if a0 ≥ a1 then (some (decide (a0 ≤ a2))) else (some false)
set_option maxHeartbeats 8000000 in
set_option maxRecDepth 100000 in
theorem impl_within.calls (a0 : Int) (a1 : Int) (a2 : Int) (r : Bool) (w : World) (h : impl_within.f a0 a1 a2 = some r) :
  Calls Tryz.prog 41 #[.int .i64 a0, .int .i64 a1, .int .i64 a2] w fun e w' => e = .returned (.bool r) ∧ Drawn0 w w':=by
 have H : (if a0 ≥ a1 then (some (decide (a0 ≤ a2))) else (some false)) = some r:=h;clear h
 by_cases c4 : a0 ≥ a1
 ·rw [if_pos c4] at H;have c4b0 : decide (a1 ≤ a0) = true:=decide_eq_true c4;clear c4;obtain rfl:=Option.some.inj H
  go_enter Tryz.func41,Tryz.ntmps41
  go_wp2
  go_ret
  exact ⟨by rfl,by repeat (exact Drawn0.refl _)⟩
 ·rw [if_neg c4] at H;have c4b0 : decide (a1 ≤ a0) = false:=decide_eq_false c4;clear c4;obtain rfl:=Option.some.inj H
  go_enter Tryz.func41,Tryz.ntmps41
  go_wp2
  go_ret
  exact ⟨by rfl,by repeat (exact Drawn0.refl _)⟩

/-! ### impl_IsValidCharge_1: function 45 -/
def impl_IsValidCharge_1.f (a0_0 : Int) (a0_1 : Int) : Option (Bool):=(impl_within.f a0_0 1 100).bind fun t204 => (if t204 = true then ((impl_within.f a0_1 0 10000).bind fun t205 => (some (!t205))) else (some true))
set_option maxHeartbeats 8000000 in
set_option maxRecDepth 100000 in
theorem impl_IsValidCharge_1.calls (a0_0 : Int) (a0_1 : Int) (r : Bool) (w : World) (h : impl_IsValidCharge_1.f a0_0 a0_1 = some r) :
  Calls Tryz.prog 45 #[.agg #[.int .i64 a0_0, .int .i64 a0_1]] w fun e w' => e = .returned (.bool r) ∧ Below w.heap.size w w':=by
 have hu45:=Tryz.underlying45;have HB:=am_ (Below.refl w.heap.size w);have H : ((impl_within.f a0_0 1 100).bind fun t204 => (if t204 = true then ((impl_within.f a0_1 0 10000).bind fun t205 => (some (!t205))) else (some true))) = some r:=h;clear h;replace H:=Option.bind_eq_some_iff.mp H;obtain ⟨t204,A20,H⟩ := H;replace H : (if t204 = true then ((impl_within.f a0_1 0 10000).bind fun t205 => (some (!t205))) else (some true)) = some r:=H;have A2:=am_ A20;clear A20
 by_cases c3 : t204 = true
 ·subst c3
  have H1 : ((impl_within.f a0_1 0 10000).bind fun t205 => (some (!t205))) = some r:=by rw [if_pos rfl] at H;exact H
  clear H;have H:=H1;clear H1;replace H:=Option.bind_eq_some_iff.mp H;obtain ⟨t205,A40,H⟩ := H;replace H : (some (!t205)) = some r:=H;have A4:=am_ A40;clear A40;obtain rfl:=Option.some.inj H
  go_enter Tryz.func45,Tryz.ntmps45
  go_wp2_with (first | ((with_reducible refine gate_dst (N:=1) rfl ?_);refine box_event ?hg (N:=1) ?hd (cs:=#[.int .i64 a0_0, .int .i64 a0_1]) (t:=45) ?hr ?_;(case hd => rfl);(case hg => rfl);(case hr => (go_simp;done));intro gb203 hg w5 hbox hb;have n0_:=am_ (below_step (by exact HB.out) hb);have n1_:=am_ hbox;have n2_:=am_ (ge_ hg (by exact HB.out));have n3_:=am_ (ge_ hg (by exact HB.out));clear HB;have HB:=n0_;have BK203:=n1_;have GW203:=n2_;have GE203:=n3_;clear n0_ n1_ n2_ n3_;clear hb hbox hg;have hcz6_0:=c2_0 BK203.out;have hcz6_1:=c2_1 BK203.out;have hfz6_0:=blk_frozen BK203.out 0;have hfz6_1:=blk_frozen BK203.out 1) | ((with_reducible refine gate_callee (f:=41) rfl ?_);refine goesL_ (some 5) rfl rfl Tryz.func41 (by kernel_rfl) rfl #[.int .i64 a0_0, .int .i64 1, .int .i64 100] rfl (by (try simp only [List.map_toArray,List.map_cons,List.map_nil]);rfl) ?_;(with_reducible refine (impl_within.calls a0_0 1 100 true _ A2.out).mono ?_);rintro e w' ⟨rfl,⟨nd,rfl⟩⟩;refine ⟨_,rfl, ?_⟩) | (go_at_call 41;(with_reducible refine (impl_within.calls a0_1 0 10000 t205 _ A4.out).mono ?_);rintro e w' ⟨rfl,⟨nd,rfl⟩⟩))
  go_ret
  exact ⟨by rfl,by repeat ((with_reducible first | exact HB.out | apply pw_below_drewN))⟩
 ·replace c3:=Bool.eq_false_iff.mpr c3;subst c3
  have H1 : (some true) = some r:=by rw [if_neg (show ¬ (false = true) by decide)] at H;exact H
  clear H;have H:=H1;clear H1;obtain rfl:=Option.some.inj H
  go_enter Tryz.func45,Tryz.ntmps45
  go_wp2_with (first | ((with_reducible refine gate_dst (N:=1) rfl ?_);refine box_event ?hg (N:=1) ?hd (cs:=#[.int .i64 a0_0, .int .i64 a0_1]) (t:=45) ?hr ?_;(case hd => rfl);(case hg => rfl);(case hr => (go_simp;done));intro gb203 hg w7 hbox hb;have n0_:=am_ (below_step (by exact HB.out) hb);have n1_:=am_ hbox;have n2_:=am_ (ge_ hg (by exact HB.out));have n3_:=am_ (ge_ hg (by exact HB.out));clear HB;have HB:=n0_;have BK203:=n1_;have GW203:=n2_;have GE203:=n3_;clear n0_ n1_ n2_ n3_;clear hb hbox hg;have hcz8_0:=c2_0 BK203.out;have hcz8_1:=c2_1 BK203.out;have hfz8_0:=blk_frozen BK203.out 0;have hfz8_1:=blk_frozen BK203.out 1) | ((with_reducible refine gate_callee (f:=41) rfl ?_);refine goesL_ (some 5) rfl rfl Tryz.func41 (by kernel_rfl) rfl #[.int .i64 a0_0, .int .i64 1, .int .i64 100] rfl (by (try simp only [List.map_toArray,List.map_cons,List.map_nil]);rfl) ?_;(with_reducible refine (impl_within.calls a0_0 1 100 false _ A2.out).mono ?_);rintro e w' ⟨rfl,⟨nd,rfl⟩⟩;refine ⟨_,rfl, ?_⟩))
  go_ret
  exact ⟨by rfl,by repeat ((with_reducible first | exact HB.out | apply pw_below_drewN))⟩

/-! ### slices_IndexFunc_impl_RateStep: function 58 -/
def slices_IndexFunc_impl_RateStep.l0 : Nat → List (S45) → Int → Int → Option (Int)
 | 0,_,_,_ => none
 | k + 1,x0,x7,x8 => if x8 < x7 then (if 0 ≤ x8 then (if x8 < (x0.length : Int) then ((impl_IsValidCharge_1.f ((rd_T45 x0 x8).f0) ((rd_T45 x0 x8).f1)).bind fun t207 => (if t207 = true then (some x8) else (slices_IndexFunc_impl_RateStep.l0 k x0 x7 (wrap64 (x8 + 1))))) else (none)) else (none)) else (some (-1))
def slices_IndexFunc_impl_RateStep.f (k : Nat) (l0 : List (S45))  : Option (Int):=slices_IndexFunc_impl_RateStep.l0 k l0 (l0.length : Int) 0
theorem slices_IndexFunc_impl_RateStep.mono_l : ∀ k,(∀ y0 y1 y2,LeO (slices_IndexFunc_impl_RateStep.l0 k y0 y1 y2) (slices_IndexFunc_impl_RateStep.l0 (k + 1) y0 y1 y2))
 | 0 => fun _ _ _ r h => by simp [slices_IndexFunc_impl_RateStep.l0] at h
 | k + 1 => by
  have ih0:=slices_IndexFunc_impl_RateStep.mono_l k
  ·intro y0 y1 y2
   unfold slices_IndexFunc_impl_RateStep.l0
   repeat' first
   | (with_reducible exact ih0 _ _ _)
   | (with_reducible exact LeO.refl _)
   | (with_reducible exact LeO.none _)
   | (with_reducible refine LeO.ite ?_ ?_)
   | (with_reducible refine LeO.bind ?_ (fun _ => ?_))
   | exact ih0 _ _ _
   | exact LeO.none _
   | refine LeO.ite ?_ ?_
   | refine LeO.bind ?_ (fun _ => ?_)
theorem slices_IndexFunc_impl_RateStep.mono : ∀ a0 k,LeO (slices_IndexFunc_impl_RateStep.f k a0) (slices_IndexFunc_impl_RateStep.f (k + 1) a0):=by
 intro a0 k;have ih0:=slices_IndexFunc_impl_RateStep.mono_l k
 unfold slices_IndexFunc_impl_RateStep.f
 repeat' first
   | (with_reducible exact ih0 _ _ _)
   | (with_reducible exact LeO.refl _)
   | (with_reducible exact LeO.none _)
   | (with_reducible refine LeO.ite ?_ ?_)
   | (with_reducible refine LeO.bind ?_ (fun _ => ?_))
   | exact ih0 _ _ _
   | exact LeO.none _
   | refine LeO.ite ?_ ?_
   | refine LeO.bind ?_ (fun _ => ?_)
set_option maxHeartbeats 8000000 in
set_option maxRecDepth 100000 in
theorem slices_IndexFunc_impl_RateStep.calls (k : Nat) (A0 : Option Addr) (c0 : Nat) (l0 : List (S45))  (r : Int) (w : World) (hr0 : Kd.C k45 w A0 l0.length l0) (hc0 : l0.length ≤ c0) (h : slices_IndexFunc_impl_RateStep.f k l0 = some r) :
  Calls Tryz.prog 58 #[.slice A0 l0.length c0,(.func (.func 45) #[] #[])] w fun e w' => e = .returned (.int .i64 r) ∧ Below w.heap.size w w':=by
 have hu45:=Tryz.underlying45;have HR0:=am_ hr0;have HC0:=am_ hc0;clear hr0 hc0;have HB:=am_ (Below.refl w.heap.size w);have H : (slices_IndexFunc_impl_RateStep.l0 k l0 (l0.length : Int) 0) = some r:=h;clear h;have H':=am_ H;clear H
 go_enter Tryz.func58,Tryz.ntmps58
 go_wp2
 go_loopg [8] k (fun kq v8 w' => ∃ (x8_1 : Int),v8 = .int .i64 x8_1 ∧ Aside0 (slices_IndexFunc_impl_RateStep.l0 kq l0 (l0.length : Int) x8_1 = some r) ∧ Aside0 (kq ≤ k) ∧ Aside0 (Below w.heap.size w w'))
 case atStart => exact ⟨(0),(by rfl),H',⟨Nat.le_refl _⟩,⟨by exact HB.out⟩⟩
 case round =>
  clear H';(try clear p2);obtain ⟨x8_1,rfl,HA,HK1,HB⟩ := hrel
  cases gk with
  | zero => exact absurd HA.out (by simp [slices_IndexFunc_impl_RateStep.l0])
  | succ k1 =>
   have H:=HA.out;clear HA;simp only [slices_IndexFunc_impl_RateStep.l0] at H
   by_cases c3 : x8_1 < (l0.length : Int)
   ·rw [if_pos c3] at H;have c3b0 : decide (x8_1 < (l0.length : Int)) = true:=decide_eq_true c3;clear c3
    by_cases c4 : 0 ≤ x8_1
    ·rw [if_pos c4] at H;have c4b0 : decide (0 ≤ x8_1) = true:=decide_eq_true c4;clear c4
     by_cases c5 : x8_1 < (l0.length : Int)
     ·rw [if_pos c5] at H;have c5b0 : decide (x8_1 < (l0.length : Int)) = true:=decide_eq_true c5;clear c5;replace H:=Option.bind_eq_some_iff.mp H;obtain ⟨t207,A60,H⟩ := H;replace H : (if t207 = true then (some x8_1) else (slices_IndexFunc_impl_RateStep.l0 k1 l0 (l0.length : Int) (wrap64 (x8_1 + 1)))) = some r:=H;have A6:=am_ A60;clear A60
      by_cases c7 : t207 = true
      ·subst c7
       have H1 : (some x8_1) = some r:=by rw [if_pos rfl] at H;exact H
       clear H;have H:=H1;clear H1;obtain rfl:=Option.some.inj H;have p206 : 0 ≤ (x8_1 : Int):=of_decide_eq_true (by (with_reducible assumption));have q206 : x8_1 < (l0.length : Int):=of_decide_eq_true (by (with_reducible assumption));obtain ⟨ad206,e206,hx206_0,hx206_1⟩ := at_T45 HR0.out x8_1 p206 q206;cases e206;replace hx206_0:=(HB.out.cell (World.block_lt_of_cell? w _ hx206_0)).trans hx206_0;replace hx206_1:=(HB.out.cell (World.block_lt_of_cell? w _ hx206_1)).trans hx206_1;replace p206:=eq_true p206;replace q206:=eq_true q206
       go_wp2_with (((with_reducible refine gateV_ (x := .tmp 11) rfl ?_);refine goesV_ (some 16) rfl rfl Tryz.func45 (by kernel_rfl) rfl #[.agg #[.int .i64 ((rd_T45 l0 x8_1).f0), .int .i64 ((rd_T45 l0 x8_1).f1)]] rfl rfl (by (try simp only [List.map_toArray,List.map_cons,List.map_nil]);rfl) ?_;(with_reducible refine (impl_IsValidCharge_1.calls ((rd_T45 l0 x8_1).f0) ((rd_T45 l0 x8_1).f1) true _ A6.out).mono ?_);rintro e w8 ⟨rfl,hb⟩;refine ⟨_,rfl, ?_⟩;have n0_:=am_ (below_step (by exact HB.out) hb);clear HB;have HB:=n0_;clear n0_;(try clear hb)))
       go_ret
       exact ⟨by rfl,by exact HB.out⟩
      ·replace c7:=Bool.eq_false_iff.mpr c7;subst c7
       have H1 : (slices_IndexFunc_impl_RateStep.l0 k1 l0 (l0.length : Int) (wrap64 (x8_1 + 1))) = some r:=by rw [if_neg (show ¬ (false = true) by decide)] at H;exact H
       clear H;have H:=H1;clear H1;have H':=am_ H;clear H;have p206 : 0 ≤ (x8_1 : Int):=of_decide_eq_true (by (with_reducible assumption));have q206 : x8_1 < (l0.length : Int):=of_decide_eq_true (by (with_reducible assumption));obtain ⟨ad206,e206,hx206_0,hx206_1⟩ := at_T45 HR0.out x8_1 p206 q206;cases e206;replace hx206_0:=(HB.out.cell (World.block_lt_of_cell? w _ hx206_0)).trans hx206_0;replace hx206_1:=(HB.out.cell (World.block_lt_of_cell? w _ hx206_1)).trans hx206_1;replace p206:=eq_true p206;replace q206:=eq_true q206
       go_wp2_with (((with_reducible refine gateV_ (x := .tmp 11) rfl ?_);refine goesV_ (some 16) rfl rfl Tryz.func45 (by kernel_rfl) rfl #[.agg #[.int .i64 ((rd_T45 l0 x8_1).f0), .int .i64 ((rd_T45 l0 x8_1).f1)]] rfl rfl (by (try simp only [List.map_toArray,List.map_cons,List.map_nil]);rfl) ?_;(with_reducible refine (impl_IsValidCharge_1.calls ((rd_T45 l0 x8_1).f0) ((rd_T45 l0 x8_1).f1) false _ A6.out).mono ?_);rintro e w9 ⟨rfl,hb⟩;refine ⟨_,rfl, ?_⟩;have n0_:=am_ (below_step (by exact HB.out) hb);clear HB;have HB:=n0_;clear n0_;(try clear hb)))
       go_roundg k1
       case measure => have:=HK1.out;omega
       case rel => exact ⟨(wrap64 (x8_1 + 1)),(by rfl),H',⟨by have:=HK1.out;omega⟩,⟨by exact HB.out⟩⟩
     ·rw [if_neg c5] at H
      exact absurd H (by simp)
    ·rw [if_neg c4] at H
     exact absurd H (by simp)
   ·rw [if_neg c3] at H;have c3b0 : decide (x8_1 < (l0.length : Int)) = false:=decide_eq_false c3;clear c3;obtain rfl:=Option.some.inj H
    go_wp2
    go_ret
    exact ⟨by rfl,by exact HB.out⟩

/-! ### slices_ContainsFunc_impl_RateStep: function 44 -/
def slices_ContainsFunc_impl_RateStep.f (k : Nat) (l0 : List (S45))  : Option (Bool):=(slices_IndexFunc_impl_RateStep.f k l0).bind fun t208 => (some (decide (t208 ≥ 0)))
theorem slices_ContainsFunc_impl_RateStep.mono : ∀ a0 k,LeO (slices_ContainsFunc_impl_RateStep.f k a0) (slices_ContainsFunc_impl_RateStep.f (k + 1) a0):=by
 intro a0 k
 unfold slices_ContainsFunc_impl_RateStep.f
 repeat' first
   | (with_reducible exact slices_IndexFunc_impl_RateStep.mono _ _)
   | (with_reducible exact LeO.refl _)
   | (with_reducible exact LeO.none _)
   | (with_reducible refine LeO.ite ?_ ?_)
   | (with_reducible refine LeO.bind ?_ (fun _ => ?_))
   | exact slices_IndexFunc_impl_RateStep.mono _ _
   | exact LeO.none _
   | refine LeO.ite ?_ ?_
   | refine LeO.bind ?_ (fun _ => ?_)
set_option maxHeartbeats 8000000 in
set_option maxRecDepth 100000 in
theorem slices_ContainsFunc_impl_RateStep.calls (k : Nat) (A0 : Option Addr) (c0 : Nat) (l0 : List (S45))  (r : Bool) (w : World) (hr0 : Kd.C k45 w A0 l0.length l0) (hc0 : l0.length ≤ c0) (h : slices_ContainsFunc_impl_RateStep.f k l0 = some r) :
  Calls Tryz.prog 44 #[.slice A0 l0.length c0,(.func (.func 45) #[] #[])] w fun e w' => e = .returned (.bool r) ∧ Below w.heap.size w w':=by
 have HR0:=am_ hr0;have HC0:=am_ hc0;clear hr0 hc0;have HB:=am_ (Below.refl w.heap.size w);have H : ((slices_IndexFunc_impl_RateStep.f k l0).bind fun t208 => (some (decide (t208 ≥ 0)))) = some r:=h;clear h;replace H:=Option.bind_eq_some_iff.mp H;obtain ⟨t208,A30,H⟩ := H;replace H : (some (decide (t208 ≥ 0))) = some r:=H;have A3:=am_ A30;clear A30;obtain rfl:=Option.some.inj H
 go_enter Tryz.func44,Tryz.ntmps44
 go_wp2_with (((with_reducible refine gate_callee (f:=58) rfl ?_);refine goesL_ (some 7) rfl rfl Tryz.func58 (by kernel_rfl) rfl #[.slice A0 l0.length c0,(.func (.func 45) #[] #[])] rfl (by (try simp only [List.map_toArray,List.map_cons,List.map_nil]);rfl) ?_;(with_reducible refine (slices_IndexFunc_impl_RateStep.calls k _ _ l0  t208 _ ?side1 ?side2 A3.out).mono ?_);(case side1 => repeat (exact HR0.out));(case side2 => exact HC0.out);rintro e w4 ⟨rfl,hb⟩;refine ⟨_,rfl, ?_⟩;have n0_:=am_ (below_step (by exact HB.out) hb);clear HB;have HB:=n0_;clear n0_;(try clear hb)))
 go_ret
 exact ⟨by rfl,by exact HB.out⟩

/-! ### impl_IsValidCharge: function 19 -/
def impl_IsValidCharge.f (k : Nat) (a0_0 : Int) (l0_1 : List (S45)) (a0_2 : Int) : Option (Bool):=(impl_within.f a0_0 0 30).bind fun t210 => (if t210 = true then ((impl_within.f (l0_1.length : Int) 1 6).bind fun t211 => (if t211 = true then ((impl_within.f a0_2 100 300).bind fun t212 => (if t212 = true then ((slices_ContainsFunc_impl_RateStep.f k l0_1).bind fun t213 => (some (!t213))) else (some false))) else (some false))) else (some false))
theorem impl_IsValidCharge.mono : ∀ a0 a1 a2 k,LeO (impl_IsValidCharge.f k a0 a1 a2) (impl_IsValidCharge.f (k + 1) a0 a1 a2):=by
 intro a0 a1 a2 k
 unfold impl_IsValidCharge.f
 repeat' first
   | (with_reducible exact slices_ContainsFunc_impl_RateStep.mono _ _)
   | (with_reducible exact LeO.refl _)
   | (with_reducible exact LeO.none _)
   | (with_reducible refine LeO.ite ?_ ?_)
   | (with_reducible refine LeO.bind ?_ (fun _ => ?_))
   | exact slices_ContainsFunc_impl_RateStep.mono _ _
   | exact LeO.none _
   | refine LeO.ite ?_ ?_
   | refine LeO.bind ?_ (fun _ => ?_)
set_option maxHeartbeats 8000000 in
set_option maxRecDepth 100000 in
theorem impl_IsValidCharge.calls (k : Nat) (a0_0 : Int) (A0_1 : Option Addr) (c0_1 : Nat) (l0_1 : List (S45)) (a0_2 : Int) (r : Bool) (w : World) (hr0_1 : Kd.C k45 w A0_1 l0_1.length l0_1) (hc0_1 : l0_1.length ≤ c0_1) (h : impl_IsValidCharge.f k a0_0 l0_1 a0_2 = some r) :
  Calls Tryz.prog 19 #[.agg #[.int .i64 a0_0, .slice A0_1 l0_1.length c0_1, .int .i64 a0_2]] w fun e w' => e = .returned (.bool r) ∧ Below w.heap.size w w':=by
 have hu26:=Tryz.underlying26;have HR0_1:=am_ hr0_1;have HC0_1:=am_ hc0_1;clear hr0_1 hc0_1;have HB:=am_ (Below.refl w.heap.size w);have H : ((impl_within.f a0_0 0 30).bind fun t210 => (if t210 = true then ((impl_within.f (l0_1.length : Int) 1 6).bind fun t211 => (if t211 = true then ((impl_within.f a0_2 100 300).bind fun t212 => (if t212 = true then ((slices_ContainsFunc_impl_RateStep.f k l0_1).bind fun t213 => (some (!t213))) else (some false))) else (some false))) else (some false))) = some r:=h;clear h;replace H:=Option.bind_eq_some_iff.mp H;obtain ⟨t210,A20,H⟩ := H;replace H : (if t210 = true then ((impl_within.f (l0_1.length : Int) 1 6).bind fun t211 => (if t211 = true then ((impl_within.f a0_2 100 300).bind fun t212 => (if t212 = true then ((slices_ContainsFunc_impl_RateStep.f k l0_1).bind fun t213 => (some (!t213))) else (some false))) else (some false))) else (some false)) = some r:=H;have A2:=am_ A20;clear A20
 by_cases c3 : t210 = true
 ·subst c3
  have H1 : ((impl_within.f (l0_1.length : Int) 1 6).bind fun t211 => (if t211 = true then ((impl_within.f a0_2 100 300).bind fun t212 => (if t212 = true then ((slices_ContainsFunc_impl_RateStep.f k l0_1).bind fun t213 => (some (!t213))) else (some false))) else (some false))) = some r:=by rw [if_pos rfl] at H;exact H
  clear H;have H:=H1;clear H1;replace H:=Option.bind_eq_some_iff.mp H;obtain ⟨t211,A40,H⟩ := H;replace H : (if t211 = true then ((impl_within.f a0_2 100 300).bind fun t212 => (if t212 = true then ((slices_ContainsFunc_impl_RateStep.f k l0_1).bind fun t213 => (some (!t213))) else (some false))) else (some false)) = some r:=H;have A4:=am_ A40;clear A40
  by_cases c5 : t211 = true
  ·subst c5
   have H1 : ((impl_within.f a0_2 100 300).bind fun t212 => (if t212 = true then ((slices_ContainsFunc_impl_RateStep.f k l0_1).bind fun t213 => (some (!t213))) else (some false))) = some r:=by rw [if_pos rfl] at H;exact H
   clear H;have H:=H1;clear H1;replace H:=Option.bind_eq_some_iff.mp H;obtain ⟨t212,A60,H⟩ := H;replace H : (if t212 = true then ((slices_ContainsFunc_impl_RateStep.f k l0_1).bind fun t213 => (some (!t213))) else (some false)) = some r:=H;have A6:=am_ A60;clear A60
   by_cases c7 : t212 = true
   ·subst c7
    have H1 : ((slices_ContainsFunc_impl_RateStep.f k l0_1).bind fun t213 => (some (!t213))) = some r:=by rw [if_pos rfl] at H;exact H
    clear H;have H:=H1;clear H1;replace H:=Option.bind_eq_some_iff.mp H;obtain ⟨t213,A80,H⟩ := H;replace H : (some (!t213)) = some r:=H;have A8:=am_ A80;clear A80;obtain rfl:=Option.some.inj H
    go_enter Tryz.func19,Tryz.ntmps19
    go_wp2_with (first | ((with_reducible refine gate_dst (N:=1) rfl ?_);(try (refine gate_guard (by rfl) ?_;dsimp only));refine box_event ?hg (N:=1) ?hd (cs:=#[.int .i64 a0_0, .slice A0_1 l0_1.length c0_1, .int .i64 a0_2]) (t:=26) ?hr ?_;(case hd => rfl);(case hg => rfl);(case hr => (go_simp;done));intro gb209 hg w9 hbox hb;have n0_:=am_ (below_step (by exact HB.out) hb);have n1_:=am_ hbox;have n2_:=am_ (ge_ hg (by exact HB.out));have n3_:=am_ (ge_ hg (by exact HB.out));clear HB;have HB:=n0_;have BK209:=n1_;have GW209:=n2_;have GE209:=n3_;clear n0_ n1_ n2_ n3_;clear hb hbox hg;have hcz10_0:=c3_0 BK209.out;have hcz10_1:=c3_1 BK209.out;have hcz10_2:=c3_2 BK209.out;have hfz10_0:=blk_frozen BK209.out 0;have hfz10_1:=blk_frozen BK209.out 1;have hfz10_2:=blk_frozen BK209.out 2) | ((with_reducible refine gate_callee (f:=41) rfl ?_);refine goesL_ (some 5) rfl rfl Tryz.func41 (by kernel_rfl) rfl #[.int .i64 a0_0, .int .i64 0, .int .i64 30] rfl (by (try simp only [List.map_toArray,List.map_cons,List.map_nil]);rfl) ?_;(with_reducible refine (impl_within.calls a0_0 0 30 true _ A2.out).mono ?_);rintro e w' ⟨rfl,⟨nd,rfl⟩⟩;refine ⟨_,rfl, ?_⟩) | (go_at_call 41;(with_reducible refine (impl_within.calls (l0_1.length : Int) 1 6 true _ A4.out).mono ?_);rintro e w' ⟨rfl,⟨nd,rfl⟩⟩) | (go_at_call 41;(with_reducible refine (impl_within.calls a0_2 100 300 true _ A6.out).mono ?_);rintro e w' ⟨rfl,⟨nd,rfl⟩⟩) | ((with_reducible refine gate_callee (f:=44) rfl ?_);refine goesL_ (some 22) rfl rfl Tryz.func44 (by kernel_rfl) rfl #[.slice A0_1 l0_1.length c0_1,(.func (.func 45) #[] #[])] rfl (by (try simp only [List.map_toArray,List.map_cons,List.map_nil]);rfl) ?_;(with_reducible refine (slices_ContainsFunc_impl_RateStep.calls k _ _ l0_1  t213 _ ?side1 ?side2 A8.out).mono ?_);(case side1 => repeat (exact (Kd.C_below HR0_1.out (by repeat ((with_reducible first | exact HB.out | apply pw_below_drewN))))));(case side2 => exact HC0_1.out);rintro e w11 ⟨rfl,hb⟩;refine ⟨_,rfl, ?_⟩;have n0_:=am_ (blk_below (g:=gb209) (o := .cells #[.int .i64 a0_0, .slice A0_1 l0_1.length c0_1, .int .i64 a0_2] 26 (0,0)) (by (with_reducible repeat (refine blk_drewN ?_ _));exact BK209.out) hb);have n1_:=am_ (below_step (by repeat ((with_reducible first | exact HB.out | apply pw_below_drewN))) hb);clear BK209;clear HB;have BK209:=n0_;have HB:=n1_;clear n0_ n1_;(try clear hb)))
    go_ret
    exact ⟨by rfl,by exact HB.out⟩
   ·replace c7:=Bool.eq_false_iff.mpr c7;subst c7
    have H1 : (some false) = some r:=by rw [if_neg (show ¬ (false = true) by decide)] at H;exact H
    clear H;have H:=H1;clear H1;obtain rfl:=Option.some.inj H
    go_enter Tryz.func19,Tryz.ntmps19
    go_wp2_with (first | ((with_reducible refine gate_dst (N:=1) rfl ?_);(try (refine gate_guard (by rfl) ?_;dsimp only));refine box_event ?hg (N:=1) ?hd (cs:=#[.int .i64 a0_0, .slice A0_1 l0_1.length c0_1, .int .i64 a0_2]) (t:=26) ?hr ?_;(case hd => rfl);(case hg => rfl);(case hr => (go_simp;done));intro gb209 hg w12 hbox hb;have n0_:=am_ (below_step (by exact HB.out) hb);have n1_:=am_ hbox;have n2_:=am_ (ge_ hg (by exact HB.out));have n3_:=am_ (ge_ hg (by exact HB.out));clear HB;have HB:=n0_;have BK209:=n1_;have GW209:=n2_;have GE209:=n3_;clear n0_ n1_ n2_ n3_;clear hb hbox hg;have hcz13_0:=c3_0 BK209.out;have hcz13_1:=c3_1 BK209.out;have hcz13_2:=c3_2 BK209.out;have hfz13_0:=blk_frozen BK209.out 0;have hfz13_1:=blk_frozen BK209.out 1;have hfz13_2:=blk_frozen BK209.out 2) | ((with_reducible refine gate_callee (f:=41) rfl ?_);refine goesL_ (some 5) rfl rfl Tryz.func41 (by kernel_rfl) rfl #[.int .i64 a0_0, .int .i64 0, .int .i64 30] rfl (by (try simp only [List.map_toArray,List.map_cons,List.map_nil]);rfl) ?_;(with_reducible refine (impl_within.calls a0_0 0 30 true _ A2.out).mono ?_);rintro e w' ⟨rfl,⟨nd,rfl⟩⟩;refine ⟨_,rfl, ?_⟩) | (go_at_call 41;(with_reducible refine (impl_within.calls (l0_1.length : Int) 1 6 true _ A4.out).mono ?_);rintro e w' ⟨rfl,⟨nd,rfl⟩⟩) | (go_at_call 41;(with_reducible refine (impl_within.calls a0_2 100 300 false _ A6.out).mono ?_);rintro e w' ⟨rfl,⟨nd,rfl⟩⟩))
    go_ret
    exact ⟨by rfl,by repeat ((with_reducible first | exact HB.out | apply pw_below_drewN))⟩
  ·replace c5:=Bool.eq_false_iff.mpr c5;subst c5
   have H1 : (some false) = some r:=by rw [if_neg (show ¬ (false = true) by decide)] at H;exact H
   clear H;have H:=H1;clear H1;obtain rfl:=Option.some.inj H
   go_enter Tryz.func19,Tryz.ntmps19
   go_wp2_with (first | ((with_reducible refine gate_dst (N:=1) rfl ?_);(try (refine gate_guard (by rfl) ?_;dsimp only));refine box_event ?hg (N:=1) ?hd (cs:=#[.int .i64 a0_0, .slice A0_1 l0_1.length c0_1, .int .i64 a0_2]) (t:=26) ?hr ?_;(case hd => rfl);(case hg => rfl);(case hr => (go_simp;done));intro gb209 hg w14 hbox hb;have n0_:=am_ (below_step (by exact HB.out) hb);have n1_:=am_ hbox;have n2_:=am_ (ge_ hg (by exact HB.out));have n3_:=am_ (ge_ hg (by exact HB.out));clear HB;have HB:=n0_;have BK209:=n1_;have GW209:=n2_;have GE209:=n3_;clear n0_ n1_ n2_ n3_;clear hb hbox hg;have hcz15_0:=c3_0 BK209.out;have hcz15_1:=c3_1 BK209.out;have hcz15_2:=c3_2 BK209.out;have hfz15_0:=blk_frozen BK209.out 0;have hfz15_1:=blk_frozen BK209.out 1;have hfz15_2:=blk_frozen BK209.out 2) | ((with_reducible refine gate_callee (f:=41) rfl ?_);refine goesL_ (some 5) rfl rfl Tryz.func41 (by kernel_rfl) rfl #[.int .i64 a0_0, .int .i64 0, .int .i64 30] rfl (by (try simp only [List.map_toArray,List.map_cons,List.map_nil]);rfl) ?_;(with_reducible refine (impl_within.calls a0_0 0 30 true _ A2.out).mono ?_);rintro e w' ⟨rfl,⟨nd,rfl⟩⟩;refine ⟨_,rfl, ?_⟩) | (go_at_call 41;(with_reducible refine (impl_within.calls (l0_1.length : Int) 1 6 false _ A4.out).mono ?_);rintro e w' ⟨rfl,⟨nd,rfl⟩⟩))
   go_ret
   exact ⟨by rfl,by repeat ((with_reducible first | exact HB.out | apply pw_below_drewN))⟩
 ·replace c3:=Bool.eq_false_iff.mpr c3;subst c3
  have H1 : (some false) = some r:=by rw [if_neg (show ¬ (false = true) by decide)] at H;exact H
  clear H;have H:=H1;clear H1;obtain rfl:=Option.some.inj H
  go_enter Tryz.func19,Tryz.ntmps19
  go_wp2_with (first | ((with_reducible refine gate_dst (N:=1) rfl ?_);(try (refine gate_guard (by rfl) ?_;dsimp only));refine box_event ?hg (N:=1) ?hd (cs:=#[.int .i64 a0_0, .slice A0_1 l0_1.length c0_1, .int .i64 a0_2]) (t:=26) ?hr ?_;(case hd => rfl);(case hg => rfl);(case hr => (go_simp;done));intro gb209 hg w16 hbox hb;have n0_:=am_ (below_step (by exact HB.out) hb);have n1_:=am_ hbox;have n2_:=am_ (ge_ hg (by exact HB.out));have n3_:=am_ (ge_ hg (by exact HB.out));clear HB;have HB:=n0_;have BK209:=n1_;have GW209:=n2_;have GE209:=n3_;clear n0_ n1_ n2_ n3_;clear hb hbox hg;have hcz17_0:=c3_0 BK209.out;have hcz17_1:=c3_1 BK209.out;have hcz17_2:=c3_2 BK209.out;have hfz17_0:=blk_frozen BK209.out 0;have hfz17_1:=blk_frozen BK209.out 1;have hfz17_2:=blk_frozen BK209.out 2) | ((with_reducible refine gate_callee (f:=41) rfl ?_);refine goesL_ (some 5) rfl rfl Tryz.func41 (by kernel_rfl) rfl #[.int .i64 a0_0, .int .i64 0, .int .i64 30] rfl (by (try simp only [List.map_toArray,List.map_cons,List.map_nil]);rfl) ?_;(with_reducible refine (impl_within.calls a0_0 0 30 false _ A2.out).mono ?_);rintro e w' ⟨rfl,⟨nd,rfl⟩⟩;refine ⟨_,rfl, ?_⟩))
  go_ret
  exact ⟨by rfl,by repeat ((with_reducible first | exact HB.out | apply pw_below_drewN))⟩














/-! ### strconv_Itoa_59: function 59 -/
def strconv_Itoa_59.f (a0 : Int) : Option (ByteArray):=if -9223372036854775808 ≤ a0 ∧ a0 ≤ 9223372036854775807 then some ⟨(Lib.itoa a0).toArray⟩ else none
theorem strconv_Itoa_59.calls (a0 : Int) (r : ByteArray) (w : World) (hT : Go.Proofs.YtciecfaeeogdoaaGreatDoorW.Met.Met w) (h : strconv_Itoa_59.f a0 = some r) :
  Calls Tryz.prog 59 #[.int .i64 a0] w fun e w' => e = .returned (.string r) ∧ Below w.heap.size w w':=by
 unfold strconv_Itoa_59.f at h
 by_cases hc : -9223372036854775808 ≤ a0 ∧ a0 ≤ 9223372036854775807
 ·rw [if_pos hc] at h;obtain rfl:=Option.some.inj h
  refine (Tryz.strconv_Itoa a0 hc.1 hc.2 w hT.1).mono fun e w' ⟨he,k,os,hw⟩ => ⟨he, ?_⟩
  subst hw
  exact ⟨rfl,rfl,rfl,by show w.heap.size ≤ (w.heap ++ os).size;rw [Array.size_append];omega,fun _ hj => Sort.heap_grow_old (w.drewN k) os hj⟩
 ·rw [if_neg hc] at h;cases h

/-! ### impl_decimal: function 46 -/
def impl_decimal.f (a0 : Int) : Option (ByteArray):=(strconv_Itoa_59.f a0).bind fun t214 => (some t214)
set_option maxHeartbeats 8000000 in
set_option maxRecDepth 100000 in
theorem impl_decimal.calls (a0 : Int) (r : ByteArray) (w : World) (hT : Go.Proofs.YtciecfaeeogdoaaGreatDoorW.Met.Met w) (h : impl_decimal.f a0 = some r) :
  Calls Tryz.prog 46 #[.int .i64 a0] w fun e w' => e = .returned (.string r) ∧ Below w.heap.size w w':=by
 have HB:=am_ (Below.refl w.heap.size w);have H : ((strconv_Itoa_59.f a0).bind fun t214 => (some t214)) = some r:=h;clear h;replace H:=Option.bind_eq_some_iff.mp H;obtain ⟨t214,A20,H⟩ := H;replace H : (some t214) = some r:=H;have A2:=am_ A20;clear A20;obtain rfl:=Option.some.inj H
 go_enter Tryz.func46,Tryz.ntmps46
 go_wp2_with (((with_reducible refine gate_callee (f:=59) rfl ?_);refine goesL_ (some 4) rfl rfl Tryz.func59 (by kernel_rfl) rfl #[.int .i64 a0] rfl (by (try simp only [List.map_toArray,List.map_cons,List.map_nil]);rfl) ?_;(with_reducible refine (strconv_Itoa_59.calls (hT:=?sgT) a0 t214 _ A2.out).mono ?_);(case sgT => exact Go.Proofs.YtciecfaeeogdoaaGreatDoorW.Met.Met.below hT (by exact HB.out));rintro e w3 ⟨rfl,hb⟩;refine ⟨_,rfl, ?_⟩;have n0_:=am_ (below_step (by exact HB.out) hb);clear HB;have HB:=n0_;clear n0_;(try clear hb)))
 go_ret
 exact ⟨by rfl,by exact HB.out⟩








/-! ### strings_Join: function 47 -/
def strings_Join.f (l0 : List ByteArray) (a1 : ByteArray) : Option (ByteArray):=if l0.length ≤ 140737488355328 ∧ (Lib.join (l0.map (·.data.toList)) a1.data.toList).length ≤ 140737488355328 then some ⟨(Lib.join (l0.map (·.data.toList)) a1.data.toList).toArray⟩ else none
theorem strings_Join.calls (A0 : Option Addr) (c0 : Nat) (l0 : List ByteArray) (a1 : ByteArray) (r : ByteArray) (w : World) (hr0 : Kd.C Kd.string w A0 l0.length l0) (hc0 : l0.length ≤ c0) (h : strings_Join.f l0 a1 = some r) :
  Calls Tryz.prog 47 #[.slice A0 l0.length c0, .string a1] w fun e w' => e = .returned (.string r) ∧ Below w.heap.size w w':=by
 unfold strings_Join.f at h
 by_cases hc : l0.length ≤ 140737488355328 ∧ (Lib.join (l0.map (·.data.toList)) a1.data.toList).length ≤ 140737488355328
 ·rw [if_pos hc] at h;obtain rfl:=Option.some.inj h
  rcases l0 with _ | ⟨x,l⟩
  ·refine (Tryz.strings_Join_none A0 c0 a1 w).mono fun e w' ⟨he,hw⟩ => ?_
   subst hw
   exact ⟨he,Below.refl _ _⟩
  ·obtain ⟨ad,e0,h0⟩ := Kd.at_string hr0 0 (by omega) (by simp only [List.length_cons];omega);have hb:=World.block_lt_of_cell? w _ h0
   have hs : ad.spot = none:=by
    unfold World.cell? Addr.add at h0
    simp only [Int.toNat_zero,if_true] at h0
    split at h0
    ·split at h0
     ·cases h0
     ·rename_i hn_
      cases hz_ : ad.spot with
      | none => rfl
      | some z_ => rw [hz_] at hn_;exact absurd rfl hn_
    ·cases h0
   obtain ⟨bk,o,sp⟩ := ad;cases hs;subst e0
   refine (Tryz.strings_Join bk o c0 (x :: l) a1 w (fun j y hj => ?_) (by simpa [Addr.add] using hb) hc.1 hc0 hc.2).mono fun e w' ⟨he,hw⟩ => ⟨he,hw⟩
   have hlt : j < (x :: l).length:=by
    rcases Nat.lt_or_ge j (x :: l).length with q | q
    ·exact q
    ·rw [List.getElem?_eq_none q] at hj;cases hj
   obtain ⟨ad,e1,h1⟩ := Kd.at_string hr0 (j : Int) (by omega) (by omega);cases e1;rw [Int.toNat_natCast] at h1
   have ea : Addr.add ⟨bk,o,none⟩ j = ⟨bk,o + j,none⟩ := by
    unfold Addr.add
    split
    ·rename_i hz
     subst hz
     rfl
    ·rfl
   rw [ea] at h1;rw [h1]
   unfold rdOf
   rw [Int.toNat_natCast,List.getD_eq_getElem?_getD,hj]
   rfl
 ·rw [if_neg hc] at h;cases h

end Go.Proofs.YtciecfaeeogdoaaGreatDoor.PFnTariffs
