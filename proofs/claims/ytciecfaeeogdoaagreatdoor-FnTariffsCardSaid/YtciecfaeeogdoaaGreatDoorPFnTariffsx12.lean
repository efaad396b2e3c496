-- Written by a program of this session, over the kit's print (wip/xprint.py)
import Derived.Test.YtciecfaeeogdoaaGreatDoorPFnTariffsx0
import Derived.Test.YtciecfaeeogdoaaGreatDoorPFnTariffsx4
namespace Go.Proofs.YtciecfaeeogdoaaGreatDoor.PFnTariffs
open Go.RowKit Go.Proofs.YtciecfaeeogdoaaGreatDoorW.PrintWords Go.Proofs.YtciecfaeeogdoaaGreatDoorW.PrintLast Go.Proofs.YtciecfaeeogdoaaGreatDoorW.PrintMore
attribute [local go_sem] max2_int min2_int max_two min_two max_three min_three max_four min_four   -- for this text's walks alone
set_option linter.unusedVariables false
set_option linter.unusedSimpArgs false

/-! ### impl_isStay: function 36 -/
def impl_isStay.f (k : Nat) (a0_0 : Int) (l0_1 : List (S45)) (a0_2 : Int) (a1 : Int) (a2 : Int) : Option (Bool):=(impl_IsValidCharge.f k a0_0 l0_1 a0_2).bind fun t430 => (if t430 = true then ((impl_within.f a1 1 2).bind fun t431 => (if t431 = true then ((impl_within.f a2 0 400).bind fun t432 => (some t432)) else (some false))) else (some false))
theorem impl_isStay.mono : ∀ a0 a1 a2 a3 a4 k,LeO (impl_isStay.f k a0 a1 a2 a3 a4) (impl_isStay.f (k + 1) a0 a1 a2 a3 a4):=by
 intro a0 a1 a2 a3 a4 k
 unfold impl_isStay.f
 repeat' first
   | (with_reducible exact impl_IsValidCharge.mono _ _ _ _)
   | (with_reducible exact LeO.refl _)
   | (with_reducible exact LeO.none _)
   | (with_reducible refine LeO.ite ?_ ?_)
   | (with_reducible refine LeO.bind ?_ (fun _ => ?_))
   | exact impl_IsValidCharge.mono _ _ _ _
   | exact LeO.none _
   | refine LeO.ite ?_ ?_
   | refine LeO.bind ?_ (fun _ => ?_)
set_option maxHeartbeats 8000000 in
set_option maxRecDepth 100000 in
theorem impl_isStay.calls (k : Nat) (a0_0 : Int) (A0_1 : Option Addr) (c0_1 : Nat) (l0_1 : List (S45)) (a0_2 : Int) (a1 : Int) (a2 : Int) (r : Bool) (w : World) (hr0_1 : Kd.C k45 w A0_1 l0_1.length l0_1) (hc0_1 : l0_1.length ≤ c0_1) (h : impl_isStay.f k a0_0 l0_1 a0_2 a1 a2 = some r) :
  Calls Tryz.prog 36 #[.agg #[.int .i64 a0_0, .slice A0_1 l0_1.length c0_1, .int .i64 a0_2], .int .i64 a1, .int .i64 a2] w fun e w' => e = .returned (.bool r) ∧ Below w.heap.size w w':=by
 have hu26:=Tryz.underlying26;have HR0_1:=am_ hr0_1;have HC0_1:=am_ hc0_1;clear hr0_1 hc0_1;have HB:=am_ (Below.refl w.heap.size w);have H : ((impl_IsValidCharge.f k a0_0 l0_1 a0_2).bind fun t430 => (if t430 = true then ((impl_within.f a1 1 2).bind fun t431 => (if t431 = true then ((impl_within.f a2 0 400).bind fun t432 => (some t432)) else (some false))) else (some false))) = some r:=h;clear h;replace H:=Option.bind_eq_some_iff.mp H;obtain ⟨t430,A40,H⟩ := H;replace H : (if t430 = true then ((impl_within.f a1 1 2).bind fun t431 => (if t431 = true then ((impl_within.f a2 0 400).bind fun t432 => (some t432)) else (some false))) else (some false)) = some r:=H;have A4:=am_ A40;clear A40
 by_cases c5 : t430 = true
 ·subst c5
  have H1 : ((impl_within.f a1 1 2).bind fun t431 => (if t431 = true then ((impl_within.f a2 0 400).bind fun t432 => (some t432)) else (some false))) = some r:=by rw [if_pos rfl] at H;exact H
  clear H;have H:=H1;clear H1;replace H:=Option.bind_eq_some_iff.mp H;obtain ⟨t431,A60,H⟩ := H;replace H : (if t431 = true then ((impl_within.f a2 0 400).bind fun t432 => (some t432)) else (some false)) = some r:=H;have A6:=am_ A60;clear A60
  by_cases c7 : t431 = true
  ·subst c7
   have H1 : ((impl_within.f a2 0 400).bind fun t432 => (some t432)) = some r:=by rw [if_pos rfl] at H;exact H
   clear H;have H:=H1;clear H1;replace H:=Option.bind_eq_some_iff.mp H;obtain ⟨t432,A80,H⟩ := H;replace H : (some t432) = some r:=H;have A8:=am_ A80;clear A80;obtain rfl:=Option.some.inj H
   go_enter Tryz.func36,Tryz.ntmps36
   go_wp2_with (first | ((with_reducible refine gate_dst (N:=3) rfl ?_);refine box_event ?hg (N:=3) ?hd (cs:=#[.int .i64 a0_0, .slice A0_1 l0_1.length c0_1, .int .i64 a0_2]) (t:=26) ?hr ?_;(case hd => rfl);(case hg => rfl);(case hr => (go_simp;done));intro gb429 hg w9 hbox hb;have n0_:=am_ (below_step (by exact HB.out) hb);have n1_:=am_ hbox;have n2_:=am_ (ge_ hg (by exact HB.out));have n3_:=am_ (ge_ hg (by exact HB.out));clear HB;have HB:=n0_;have BK429:=n1_;have GW429:=n2_;have GE429:=n3_;clear n0_ n1_ n2_ n3_;clear hb hbox hg;have hcz10_0:=c3_0 BK429.out;have hcz10_1:=c3_1 BK429.out;have hcz10_2:=c3_2 BK429.out;have hfz10_0:=blk_frozen BK429.out 0;have hfz10_1:=blk_frozen BK429.out 1;have hfz10_2:=blk_frozen BK429.out 2) | ((with_reducible refine gate_callee (f:=19) rfl ?_);refine goesL_ (some 8) rfl rfl Tryz.func19 (by kernel_rfl) rfl #[.agg #[.int .i64 a0_0, .slice A0_1 l0_1.length c0_1, .int .i64 a0_2]] rfl (by (try simp only [List.map_toArray,List.map_cons,List.map_nil]);rfl) ?_;(with_reducible refine (impl_IsValidCharge.calls k a0_0 _ _ l0_1 a0_2 true _ ?side1 ?side2 A4.out).mono ?_);(case side1 => repeat (exact (Kd.C_below HR0_1.out HB.out)));(case side2 => exact HC0_1.out);rintro e w11 ⟨rfl,hb⟩;refine ⟨_,rfl, ?_⟩;have n0_:=am_ (blk_below (by exact BK429.out) hb);have n1_:=am_ (below_step (by exact HB.out) hb);clear BK429;clear HB;have BK429:=n0_;have HB:=n1_;clear n0_ n1_;(try clear hb)) | (go_at_call 41;(with_reducible refine (impl_within.calls a1 1 2 true _ A6.out).mono ?_);rintro e w' ⟨rfl,⟨nd,rfl⟩⟩) | (go_at_call 41;(with_reducible refine (impl_within.calls a2 0 400 t432 _ A8.out).mono ?_);rintro e w' ⟨rfl,⟨nd,rfl⟩⟩))
   go_ret
   exact ⟨by rfl,by repeat ((with_reducible first | exact HB.out | apply pw_below_drewN))⟩
  ·replace c7:=Bool.eq_false_iff.mpr c7;subst c7
   have H1 : (some false) = some r:=by rw [if_neg (show ¬ (false = true) by decide)] at H;exact H
   clear H;have H:=H1;clear H1;obtain rfl:=Option.some.inj H
   go_enter Tryz.func36,Tryz.ntmps36
   go_wp2_with (first | ((with_reducible refine gate_dst (N:=3) rfl ?_);refine box_event ?hg (N:=3) ?hd (cs:=#[.int .i64 a0_0, .slice A0_1 l0_1.length c0_1, .int .i64 a0_2]) (t:=26) ?hr ?_;(case hd => rfl);(case hg => rfl);(case hr => (go_simp;done));intro gb429 hg w12 hbox hb;have n0_:=am_ (below_step (by exact HB.out) hb);have n1_:=am_ hbox;have n2_:=am_ (ge_ hg (by exact HB.out));have n3_:=am_ (ge_ hg (by exact HB.out));clear HB;have HB:=n0_;have BK429:=n1_;have GW429:=n2_;have GE429:=n3_;clear n0_ n1_ n2_ n3_;clear hb hbox hg;have hcz13_0:=c3_0 BK429.out;have hcz13_1:=c3_1 BK429.out;have hcz13_2:=c3_2 BK429.out;have hfz13_0:=blk_frozen BK429.out 0;have hfz13_1:=blk_frozen BK429.out 1;have hfz13_2:=blk_frozen BK429.out 2) | ((with_reducible refine gate_callee (f:=19) rfl ?_);refine goesL_ (some 8) rfl rfl Tryz.func19 (by kernel_rfl) rfl #[.agg #[.int .i64 a0_0, .slice A0_1 l0_1.length c0_1, .int .i64 a0_2]] rfl (by (try simp only [List.map_toArray,List.map_cons,List.map_nil]);rfl) ?_;(with_reducible refine (impl_IsValidCharge.calls k a0_0 _ _ l0_1 a0_2 true _ ?side1 ?side2 A4.out).mono ?_);(case side1 => repeat (exact (Kd.C_below HR0_1.out HB.out)));(case side2 => exact HC0_1.out);rintro e w14 ⟨rfl,hb⟩;refine ⟨_,rfl, ?_⟩;have n0_:=am_ (blk_below (by exact BK429.out) hb);have n1_:=am_ (below_step (by exact HB.out) hb);clear BK429;clear HB;have BK429:=n0_;have HB:=n1_;clear n0_ n1_;(try clear hb)) | (go_at_call 41;(with_reducible refine (impl_within.calls a1 1 2 false _ A6.out).mono ?_);rintro e w' ⟨rfl,⟨nd,rfl⟩⟩))
   go_ret
   exact ⟨by rfl,by repeat ((with_reducible first | exact HB.out | apply pw_below_drewN))⟩
 ·replace c5:=Bool.eq_false_iff.mpr c5;subst c5
  have H1 : (some false) = some r:=by rw [if_neg (show ¬ (false = true) by decide)] at H;exact H
  clear H;have H:=H1;clear H1;obtain rfl:=Option.some.inj H
  go_enter Tryz.func36,Tryz.ntmps36
  go_wp2_with (first | ((with_reducible refine gate_dst (N:=3) rfl ?_);refine box_event ?hg (N:=3) ?hd (cs:=#[.int .i64 a0_0, .slice A0_1 l0_1.length c0_1, .int .i64 a0_2]) (t:=26) ?hr ?_;(case hd => rfl);(case hg => rfl);(case hr => (go_simp;done));intro gb429 hg w15 hbox hb;have n0_:=am_ (below_step (by exact HB.out) hb);have n1_:=am_ hbox;have n2_:=am_ (ge_ hg (by exact HB.out));have n3_:=am_ (ge_ hg (by exact HB.out));clear HB;have HB:=n0_;have BK429:=n1_;have GW429:=n2_;have GE429:=n3_;clear n0_ n1_ n2_ n3_;clear hb hbox hg;have hcz16_0:=c3_0 BK429.out;have hcz16_1:=c3_1 BK429.out;have hcz16_2:=c3_2 BK429.out;have hfz16_0:=blk_frozen BK429.out 0;have hfz16_1:=blk_frozen BK429.out 1;have hfz16_2:=blk_frozen BK429.out 2) | ((with_reducible refine gate_callee (f:=19) rfl ?_);refine goesL_ (some 8) rfl rfl Tryz.func19 (by kernel_rfl) rfl #[.agg #[.int .i64 a0_0, .slice A0_1 l0_1.length c0_1, .int .i64 a0_2]] rfl (by (try simp only [List.map_toArray,List.map_cons,List.map_nil]);rfl) ?_;(with_reducible refine (impl_IsValidCharge.calls k a0_0 _ _ l0_1 a0_2 false _ ?side1 ?side2 A4.out).mono ?_);(case side1 => repeat (exact (Kd.C_below HR0_1.out HB.out)));(case side2 => exact HC0_1.out);rintro e w17 ⟨rfl,hb⟩;refine ⟨_,rfl, ?_⟩;have n0_:=am_ (blk_below (by exact BK429.out) hb);have n1_:=am_ (below_step (by exact HB.out) hb);clear BK429;clear HB;have BK429:=n0_;have HB:=n1_;clear n0_ n1_;(try clear hb)))
  go_ret
  exact ⟨by rfl,by exact HB.out⟩

/-! ### impl_splitStay: function 54 -/
def impl_splitStay.l0 : Nat → List Int → Int → List (S45) → Int → Int → Int → List (S45) → Int → Option (List Int)
 | 0,_,_,_,_,_,_,_,_ => none
 | k + 1,x5,x6,x21,x22,x23,x434000,x434001,x434002 => if x23 < x22 then (if 0 ≤ x23 then (if x23 < (x21.length : Int) then (if x23 = (wrap64 ((x434001.length : Int) - 1)) then (if x5.length < 17592186044416 then (impl_splitStay.l0 k (x5 ++ [x6]) (wrap64 (x6 - x6)) x21 x22 (wrap64 (x23 + 1)) x434000 x434001 x434002) else (none)) else (if x5.length < 17592186044416 then (impl_splitStay.l0 k (x5 ++ [mn x6 ((rd_T45 x21 x23).f0)]) (wrap64 (x6 - (mn x6 ((rd_T45 x21 x23).f0)))) x21 x22 (wrap64 (x23 + 1)) x434000 x434001 x434002) else (none))) else (none)) else (none)) else (some x5)
def impl_splitStay.f (k : Nat) (a0_0 : Int) (l0_1 : List (S45)) (a0_2 : Int) (a1 : Int) : Option (List Int):=(some (([mn a1 a0_0] : List Int) : List Int)).bind fun y434 => (if 0 < (y434.length : Int) then (impl_splitStay.l0 k y434 (wrap64 (a1 - (rd y434 0))) l0_1 (l0_1.length : Int) 0 a0_0 l0_1 a0_2) else (none))
theorem impl_splitStay.mono_l : ∀ k,(∀ y0 y1 y2 y3 y4 y5 y6 y7,LeO (impl_splitStay.l0 k y0 y1 y2 y3 y4 y5 y6 y7) (impl_splitStay.l0 (k + 1) y0 y1 y2 y3 y4 y5 y6 y7))
 | 0 => fun _ _ _ _ _ _ _ _ r h => by simp [impl_splitStay.l0] at h
 | k + 1 => by
  have ih0:=impl_splitStay.mono_l k
  ·intro y0 y1 y2 y3 y4 y5 y6 y7
   unfold impl_splitStay.l0
   repeat' first
   | (with_reducible exact ih0 _ _ _ _ _ _ _ _)
   | (with_reducible exact LeO.refl _)
   | (with_reducible exact LeO.none _)
   | (with_reducible refine LeO.ite ?_ ?_)
   | (with_reducible refine LeO.bind ?_ (fun _ => ?_))
   | exact ih0 _ _ _ _ _ _ _ _
   | exact LeO.none _
   | refine LeO.ite ?_ ?_
   | refine LeO.bind ?_ (fun _ => ?_)
theorem impl_splitStay.mono : ∀ a0 a1 a2 a3 k,LeO (impl_splitStay.f k a0 a1 a2 a3) (impl_splitStay.f (k + 1) a0 a1 a2 a3):=by
 intro a0 a1 a2 a3 k;have ih0:=impl_splitStay.mono_l k
 unfold impl_splitStay.f
 repeat' first
   | (with_reducible exact ih0 _ _ _ _ _ _ _ _)
   | (with_reducible exact LeO.refl _)
   | (with_reducible exact LeO.none _)
   | (with_reducible refine LeO.ite ?_ ?_)
   | (with_reducible refine LeO.bind ?_ (fun _ => ?_))
   | exact ih0 _ _ _ _ _ _ _ _
   | exact LeO.none _
   | refine LeO.ite ?_ ?_
   | refine LeO.bind ?_ (fun _ => ?_)
set_option maxHeartbeats 8000000 in
set_option maxRecDepth 100000 in
theorem impl_splitStay.calls (k : Nat) (a0_0 : Int) (A0_1 : Option Addr) (c0_1 : Nat) (l0_1 : List (S45)) (a0_2 : Int) (a1 : Int) (r : List Int) (w : World) (hr0_1 : Kd.C k45 w A0_1 l0_1.length l0_1) (hc0_1 : l0_1.length ≤ c0_1) (h : impl_splitStay.f k a0_0 l0_1 a0_2 a1 = some r) :
  Calls Tryz.prog 54 #[.agg #[.int .i64 a0_0, .slice A0_1 l0_1.length c0_1, .int .i64 a0_2], .int .i64 a1] w fun e w' => ∃ v0_ : Value,e = .returned (v0_) ∧ Kd.R (Kd.int .i64) 3 w' w.heap.size (fun _ => True) v0_ r ∧ Below w.heap.size w w':=by
 have hu26:=Tryz.underlying26;have hu45:=Tryz.underlying45;have HR0_1:=am_ hr0_1;have HC0_1:=am_ hc0_1;clear hr0_1 hc0_1;have HB:=am_ (Below.refl w.heap.size w);have H : ((some (([mn a1 a0_0] : List Int) : List Int)).bind fun y434 => (if 0 < (y434.length : Int) then (impl_splitStay.l0 k y434 (wrap64 (a1 - (rd y434 0))) l0_1 (l0_1.length : Int) 0 a0_0 l0_1 a0_2) else (none))) = some r:=h;clear h;obtain ⟨ji3,hji3⟩ : ∃ j_ : Int,(mn a1 a0_0) = j_:=⟨_,rfl⟩
 replace H : ((some (([ji3] : List Int) : List Int)).bind fun y434 => (if 0 < (y434.length : Int) then (impl_splitStay.l0 k y434 (wrap64 (a1 - (rd y434 0))) l0_1 (l0_1.length : Int) 0 a0_0 l0_1 a0_2) else (none))) = some r:=by (rw [hji3] at H;exact H)
 have hji3_ : (if a0_0 < a1 then a0_0 else a1) = ji3:=hji3;obtain ⟨y434,hy434⟩ : ∃ y_ : List Int,y_ = (([ji3] : List Int)):=⟨_,rfl⟩
 replace H : (if 0 < (y434.length : Int) then (impl_splitStay.l0 k y434 (wrap64 (a1 - (rd y434 0))) l0_1 (l0_1.length : Int) 0 a0_0 l0_1 a0_2) else (none)) = some r:=by (have H2_:=(Option.bind_some _ _).symm.trans H;rw [hy434];with_reducible exact H2_)
 have Ny434:=am_ hy434;clear hy434
 by_cases c4 : 0 < (y434.length : Int)
 ·rw [if_pos c4] at H;have c4b0 : decide (0 < (y434.length : Int)) = true:=decide_eq_true c4;have c4b1 : decide (0 < y434.length) = true:=decide_eq_true (by omega);clear c4;have H':=am_ H;clear H
  go_enter Tryz.func54,Tryz.ntmps54
  go_wp2_with (first | ((with_reducible refine gate_dst (N:=2) rfl ?_);refine box_event ?hg (N:=2) ?hd (cs:=#[.int .i64 a0_0, .slice A0_1 l0_1.length c0_1, .int .i64 a0_2]) (t:=26) ?hr ?_;(case hd => rfl);(case hg => rfl);(case hr => (go_simp;done));intro gb433 hg w5 hbox hb;have n0_:=am_ (below_step (by exact HB.out) hb);have n1_:=am_ hbox;have n2_:=am_ (ge_ hg (by exact HB.out));have n3_:=am_ (ge_ hg (by exact HB.out));clear HB;have HB:=n0_;have BK433:=n1_;have GW433:=n2_;have GE433:=n3_;clear n0_ n1_ n2_ n3_;clear hb hbox hg;have hcz6_0:=c3_0 BK433.out;have hcz6_1:=c3_1 BK433.out;have hcz6_2:=c3_2 BK433.out;have hfz6_0:=blk_frozen BK433.out 0;have hfz6_1:=blk_frozen BK433.out 1;have hfz6_2:=blk_frozen BK433.out 2) | ((with_reducible refine gate_dst (N:=14) rfl ?_);refine Kd.R_lit (Kd.int .i64) _ 3 ?hg (N:=14) ?hd (xs:=([ji3] : List Int)) (inner := [.int .i64 ji3]) (ok:=fun _ => True) (okp:=fun _ => True) ?hr ?hp (fun _ hk => hk) trivial (Below.refl _ _) (Nat.le_refl _) (by simp) ?_;(case hd => rfl);(case hg => rfl);(case hr => (go_simp;done));(case hp => exact (Reps.one (show Kd.M (Kd.int .i64) _ _ _ ji3 [.int .i64 ji3] from rfl) (Reps.none _ _)));intro v435 w7 ho8 hb hg_ hnew_;clear hg_ hnew_;(rw [← Ny434.out] at ho8);have n0_:=am_ (Kd.R_lower ho8 (below_size (by exact HB.out)));have n1_:=am_ (blk_below (by exact BK433.out) hb);have n2_:=am_ (below_step (by exact HB.out) hb);clear BK433;clear HB;have HO436:=n0_;have BK433:=n1_;have HB:=n2_;clear n0_ n1_ n2_;clear hb ho8;obtain ⟨Ao9,co9,eo9⟩ := Kd.R_slice HO436.out;subst eo9;have p437 : 0 ≤ (0 : Int):=(by omega);have q437 : 0 < (y434.length : Int):=of_decide_eq_true (by (with_reducible assumption));obtain ⟨ad437,e437,hx437_0⟩ := Kd.at_int (Kd.R_reads' HO436.out).2.2 0 p437 q437;cases e437;have qi437 : (0 < y434.length) = True:=eq_true (by omega);(try rw [show ((0 : Int)).toNat = 0 from rfl] at hx437_0);(try rw [Addr.add_zero'] at hx437_0);replace p437:=eq_true p437;replace q437:=eq_true q437;have hcz10_0:=c3_0 BK433.out;have hcz10_1:=c3_1 BK433.out;have hcz10_2:=c3_2 BK433.out;have hfz10_0:=blk_frozen BK433.out 0;have hfz10_1:=blk_frozen BK433.out 1;have hfz10_2:=blk_frozen BK433.out 2))
  (skip)
  go_loopg [5,6,23] k (fun kq v5 v6 v23 w' => ∃ (x5_1 : List Int) (x6_1 : Int) (x23_1 : Int),v6 = .int .i64 x6_1 ∧ v23 = .int .i64 x23_1 ∧ Aside0 (impl_splitStay.l0 kq x5_1 x6_1 l0_1 (l0_1.length : Int) x23_1 a0_0 l0_1 a0_2 = some r) ∧ Aside0 (kq ≤ k) ∧ Aside0 (Kd.R (Kd.int .i64) 3 w' w.heap.size (fun _ => True) v5 x5_1) ∧ Aside0 (w'.heap[gb433]? = some (.cells #[.int .i64 a0_0,(.slice A0_1 l0_1.length c0_1), .int .i64 a0_2] 26 (0,0))) ∧ Aside0 (Below w.heap.size w w'))
  case atStart => exact ⟨(y434),(wrap64 (a1 - (rd y434 0))),(0),(by rfl),(by rfl),H',⟨Nat.le_refl _⟩,⟨by exact HO436.out⟩,⟨by exact BK433.out⟩,⟨by exact HB.out⟩⟩
  case round =>
   clear H';(try clear p2);(try clear c4);(try clear c4b0);(try clear c4b1);(try clear p4);(try clear q4);(try clear hx4);(try clear qi4);(try clear c5);(try clear p6);(try clear hcz10_0);(try clear hcz10_1);(try clear hcz10_2);(try clear hcz6_0);(try clear hcz6_1);(try clear hcz6_2);(try clear hfz10_0);(try clear hfz10_1);(try clear hfz10_2);(try clear hfz6_0);(try clear hfz6_1);(try clear hfz6_2);(try clear hx437_0);(try clear p437);(try clear q437);obtain ⟨x5_1,x6_1,x23_1,rfl,rfl,HA,HK1,HO_5,BK433,HB⟩ := hrel
   cases gk with
   | zero => exact absurd HA.out (by simp [impl_splitStay.l0])
   | succ k1 =>
    have H:=HA.out;clear HA;simp only [impl_splitStay.l0] at H
    by_cases c11 : x23_1 < (l0_1.length : Int)
    ·rw [if_pos c11] at H;have c11b0 : decide (x23_1 < (l0_1.length : Int)) = true:=decide_eq_true c11;clear c11
     by_cases c12 : 0 ≤ x23_1
     ·rw [if_pos c12] at H;have c12b0 : decide (0 ≤ x23_1) = true:=decide_eq_true c12;clear c12
      by_cases c13 : x23_1 < (l0_1.length : Int)
      ·rw [if_pos c13] at H;have c13b0 : decide (x23_1 < (l0_1.length : Int)) = true:=decide_eq_true c13;clear c13;obtain ⟨ji14,hji14⟩ : ∃ j_ : Int,(mn x6_1 ((rd_T45 l0_1 x23_1).f0)) = j_:=⟨_,rfl⟩
       replace H : (if x23_1 = (wrap64 ((l0_1.length : Int) - 1)) then (if x5_1.length < 17592186044416 then (impl_splitStay.l0 k1 (x5_1 ++ [x6_1]) (wrap64 (x6_1 - x6_1)) l0_1 (l0_1.length : Int) (wrap64 (x23_1 + 1)) a0_0 l0_1 a0_2) else (none)) else (if x5_1.length < 17592186044416 then (impl_splitStay.l0 k1 (x5_1 ++ [ji14]) (wrap64 (x6_1 - (ji14))) l0_1 (l0_1.length : Int) (wrap64 (x23_1 + 1)) a0_0 l0_1 a0_2) else (none))) = some r:=by (rw [hji14] at H;exact H)
       have hji14_ : (if ((rd_T45 l0_1 x23_1).f0) < x6_1 then ((rd_T45 l0_1 x23_1).f0) else x6_1) = ji14:=hji14
       by_cases c15 : x23_1 = (wrap64 ((l0_1.length : Int) - 1))
       ·rw [if_pos c15] at H;have c15b0 : (x23_1 == (wrap64 ((l0_1.length : Int) - 1))) = true:=beq_iff_eq.mpr c15;have c15b1 : (x23_1 != (wrap64 ((l0_1.length : Int) - 1))) = false:=bne_eq_false_iff_eq.mpr c15;clear c15
        by_cases c16 : x5_1.length < 17592186044416
        ·rw [if_pos c16] at H;have LMc16:=am_ c16;clear c16;obtain ⟨y440,hy440⟩ : ∃ y_ : List Int,y_ = (x5_1 ++ [x6_1]):=⟨_,rfl⟩
         replace H : (impl_splitStay.l0 k1 y440 (wrap64 (x6_1 - x6_1)) l0_1 (l0_1.length : Int) (wrap64 (x23_1 + 1)) a0_0 l0_1 a0_2) = some r:=by (rw [hy440];with_reducible exact H)
         have Ny440:=am_ hy440;clear hy440;have H':=am_ H;clear H;have p438 : 0 ≤ (x23_1 : Int):=of_decide_eq_true (by (with_reducible assumption));have q438 : x23_1 < (l0_1.length : Int):=of_decide_eq_true (by (with_reducible assumption));obtain ⟨ad438,e438,hx438_0,hx438_1⟩ := at_T45 HR0_1.out x23_1 p438 q438;cases e438;replace hx438_0:=(HB.out.cell (World.block_lt_of_cell? w _ hx438_0)).trans hx438_0;replace hx438_1:=(HB.out.cell (World.block_lt_of_cell? w _ hx438_1)).trans hx438_1;replace p438:=eq_true p438;replace q438:=eq_true q438
         go_wp2_with (first | ((with_reducible refine gate_dst (N:=8) rfl ?_);refine box_event ?hg (N:=8) ?hd (cs:=#[.int .i64 0, .int .i64 0]) (t:=45) ?hr ?_;(case hd => rfl);(case hg => rfl);(case hr => (go_simp;done));intro gb439 hg w17 hbox hb;have n0_:=am_ (Kd.R_below (by exact HO_5.out) hb);have n1_:=am_ (blk_below (by exact BK433.out) hb);have n2_:=am_ (below_step (by exact HB.out) hb);have n3_:=am_ hbox;have n4_:=am_ (ge_ hg (by exact HB.out));have n5_:=am_ (ge_ hg (by exact HB.out));have n6_:=am_ (nl_ hg (by exact BK433.out));have n7_:=am_ (ng_ hg (by exact BK433.out));clear HO_5;clear BK433;clear HB;have HO_5:=n0_;have BK433:=n1_;have HB:=n2_;have BK439:=n3_;have GW439:=n4_;have GE439:=n5_;have NB433_439:=n6_;have NB439_433:=n7_;clear n0_ n1_ n2_ n3_ n4_ n5_ n6_ n7_;clear hb hbox hg;have hnb18:=NB439_433.out;have hnc18:=NB433_439.out;have hcz19_0:=c2_0 BK439.out;have hcz19_1:=c2_1 BK439.out;have hfz19_0:=blk_frozen BK439.out 0;have hfz19_1:=blk_frozen BK439.out 1;have hcz20_0:=c3_0 BK433.out;have hcz20_1:=c3_1 BK433.out;have hcz20_2:=c3_2 BK433.out;have hfz20_0:=blk_frozen BK433.out 0;have hfz20_1:=blk_frozen BK433.out 1;have hfz20_2:=blk_frozen BK433.out 2) | ((with_reducible refine gate_builtin (b := .append) (xs:=#[.tmp 39, .tmp 41]) rfl ?_);at_builtin;refine Kd.R_append (Kd.int .i64) (w0:=w) w.heap.size rfl (.tmp 39) (.tmp 41) 64 3 (.int .i64 0) 8 rfl Tryz.underlying64 info3 rfl (by decide) (by omega) u5 x5_1 x6_1 [.int .i64 x6_1] (fun _ => True) (fun _ => False) rfl (by (go_simp;done)) ?aP (fun _ hk => hk.elim) ?aF ?aO ?aB ?aS ?aL ?_;(case aP => exact rfl);(case aB => exact (by repeat ((with_reducible first | exact HB.out | refine below_set ?_ GE439.out))));(case aF => exact (fun _ _ => trivial));(case aO => exact (by exact Kd.R_mono (rf2_ (Kd.R_types HO_5.out BK439.out (by decide)) (.int .i64 ((rd_T45 l0_1 x23_1).f0)) (.int .i64 ((rd_T45 l0_1 x23_1).f1))) (fun _ hk => trivial)));(case aS => exact (below_size (by repeat ((with_reducible first | exact HB.out | refine below_set ?_ GE439.out)))));(case aL => have:=LMc16.out;omega);intro v441 w21 ho hb hg hat;rw [← Ny440.out] at ho;have n0_:=am_ (blk_grown (g:=gb433) (o := .cells #[.int .i64 a0_0, .slice (some ad438) l0_1.length c0_1, .int .i64 a0_2] 26 (0,0)) (by refine blk_far ?_ NB433_439.out _;refine blk_far ?_ NB433_439.out _;exact BK433.out) hg (Kd.R_ne HO_5.out BK433.out (by decide)));have n1_:=am_ (blk_grown (g:=gb439) (o := .cells #[.int .i64 ((rd_T45 l0_1 x23_1).f0), .int .i64 ((rd_T45 l0_1 x23_1).f1)] 45 (0,0)) (by refine blk_put (cs:=#[.int .i64 ((rd_T45 l0_1 x23_1).f0), .int .i64 0]) ?_ 1 _ rfl;refine blk_put (cs:=#[.int .i64 0, .int .i64 0]) ?_ 0 _ rfl;exact BK439.out) hg (Kd.R_ne HO_5.out BK439.out (by decide)));have n2_:=am_ hb;have n3_:=am_ (ho);clear BK433;clear BK439;clear HB;clear HO_5;have BK433:=n0_;have BK439:=n1_;have HB:=n2_;have HO442:=n3_;clear n0_ n1_ n2_ n3_;clear ho hb hg hat))
         go_roundg k1
         case measure => have:=HK1.out;omega
         case rel => exact ⟨(y440),(wrap64 (x6_1 - x6_1)),(wrap64 (x23_1 + 1)),(by (simp;exact (show (0 : Int) = wrap64 0 by unfold wrap64;omega))),(by rfl),H',⟨by have:=HK1.out;omega⟩,⟨by exact HO442.out⟩,⟨by exact BK433.out⟩,⟨by exact HB.out⟩⟩
        ·rw [if_neg c16] at H
         exact absurd H (by simp)
       ·rw [if_neg c15] at H;have c15b0 : (x23_1 == (wrap64 ((l0_1.length : Int) - 1))) = false:=beq_eq_false_iff_ne.mpr c15;have c15b1 : (x23_1 != (wrap64 ((l0_1.length : Int) - 1))) = true:=bne_iff_ne.mpr c15
        by_cases c22 : x5_1.length < 17592186044416
        ·rw [if_pos c22] at H;have LMc22:=am_ c22;clear c22;obtain ⟨y443,hy443⟩ : ∃ y_ : List Int,y_ = (x5_1 ++ [ji14]):=⟨_,rfl⟩
         replace H : (impl_splitStay.l0 k1 y443 (wrap64 (x6_1 - (ji14))) l0_1 (l0_1.length : Int) (wrap64 (x23_1 + 1)) a0_0 l0_1 a0_2) = some r:=by (rw [hy443];with_reducible exact H)
         have Ny443:=am_ hy443;clear hy443;have H':=am_ H;clear H;have p438 : 0 ≤ (x23_1 : Int):=of_decide_eq_true (by (with_reducible assumption));have q438 : x23_1 < (l0_1.length : Int):=of_decide_eq_true (by (with_reducible assumption));obtain ⟨ad438,e438,hx438_0,hx438_1⟩ := at_T45 HR0_1.out x23_1 p438 q438;cases e438;replace hx438_0:=(HB.out.cell (World.block_lt_of_cell? w _ hx438_0)).trans hx438_0;replace hx438_1:=(HB.out.cell (World.block_lt_of_cell? w _ hx438_1)).trans hx438_1;replace p438:=eq_true p438;replace q438:=eq_true q438
         go_wp2_with (first | ((with_reducible refine gate_dst (N:=8) rfl ?_);refine box_event ?hg (N:=8) ?hd (cs:=#[.int .i64 0, .int .i64 0]) (t:=45) ?hr ?_;(case hd => rfl);(case hg => rfl);(case hr => (go_simp;done));intro gb439 hg w23 hbox hb;have n0_:=am_ (Kd.R_below (by exact HO_5.out) hb);have n1_:=am_ (blk_below (by exact BK433.out) hb);have n2_:=am_ (below_step (by exact HB.out) hb);have n3_:=am_ hbox;have n4_:=am_ (ge_ hg (by exact HB.out));have n5_:=am_ (ge_ hg (by exact HB.out));have n6_:=am_ (nl_ hg (by exact BK433.out));have n7_:=am_ (ng_ hg (by exact BK433.out));clear HO_5;clear BK433;clear HB;have HO_5:=n0_;have BK433:=n1_;have HB:=n2_;have BK439:=n3_;have GW439:=n4_;have GE439:=n5_;have NB433_439:=n6_;have NB439_433:=n7_;clear n0_ n1_ n2_ n3_ n4_ n5_ n6_ n7_;clear hb hbox hg;have hnb24:=NB439_433.out;have hnc24:=NB433_439.out;have hcz25_0:=c2_0 BK439.out;have hcz25_1:=c2_1 BK439.out;have hfz25_0:=blk_frozen BK439.out 0;have hfz25_1:=blk_frozen BK439.out 1;have hcz26_0:=c3_0 BK433.out;have hcz26_1:=c3_1 BK433.out;have hcz26_2:=c3_2 BK433.out;have hfz26_0:=blk_frozen BK433.out 0;have hfz26_1:=blk_frozen BK433.out 1;have hfz26_2:=blk_frozen BK433.out 2) | ((with_reducible refine gate_builtin (b := .append) (xs:=#[.tmp 39, .tmp 41]) rfl ?_);at_builtin;refine Kd.R_append (Kd.int .i64) (w0:=w) w.heap.size rfl (.tmp 39) (.tmp 41) 64 3 (.int .i64 0) 8 rfl Tryz.underlying64 info3 rfl (by decide) (by omega) u5 x5_1 ji14 [.int .i64 ji14] (fun _ => True) (fun _ => False) rfl (by (go_simp;done)) ?aP (fun _ hk => hk.elim) ?aF ?aO ?aB ?aS ?aL ?_;(case aP => exact rfl);(case aB => exact (by repeat ((with_reducible first | exact HB.out | refine below_set ?_ GE439.out))));(case aF => exact (fun _ _ => trivial));(case aO => exact (by exact Kd.R_mono (rf2_ (Kd.R_types HO_5.out BK439.out (by decide)) (.int .i64 ((rd_T45 l0_1 x23_1).f0)) (.int .i64 ((rd_T45 l0_1 x23_1).f1))) (fun _ hk => trivial)));(case aS => exact (below_size (by repeat ((with_reducible first | exact HB.out | refine below_set ?_ GE439.out)))));(case aL => have:=LMc22.out;omega);intro v444 w27 ho hb hg hat;rw [← Ny443.out] at ho;have n0_:=am_ (blk_grown (g:=gb433) (o := .cells #[.int .i64 a0_0, .slice (some ad438) l0_1.length c0_1, .int .i64 a0_2] 26 (0,0)) (by refine blk_far ?_ NB433_439.out _;refine blk_far ?_ NB433_439.out _;exact BK433.out) hg (Kd.R_ne HO_5.out BK433.out (by decide)));have n1_:=am_ (blk_grown (g:=gb439) (o := .cells #[.int .i64 ((rd_T45 l0_1 x23_1).f0), .int .i64 ((rd_T45 l0_1 x23_1).f1)] 45 (0,0)) (by refine blk_put (cs:=#[.int .i64 ((rd_T45 l0_1 x23_1).f0), .int .i64 0]) ?_ 1 _ rfl;refine blk_put (cs:=#[.int .i64 0, .int .i64 0]) ?_ 0 _ rfl;exact BK439.out) hg (Kd.R_ne HO_5.out BK439.out (by decide)));have n2_:=am_ hb;have n3_:=am_ (ho);clear BK433;clear BK439;clear HB;clear HO_5;have BK433:=n0_;have BK439:=n1_;have HB:=n2_;have HO445:=n3_;clear n0_ n1_ n2_ n3_;clear ho hb hg hat))
         go_roundg k1
         case measure => have:=HK1.out;omega
         case rel => exact ⟨(y443),(wrap64 (x6_1 - (ji14))),(wrap64 (x23_1 + 1)),(by rfl),(by rfl),H',⟨by have:=HK1.out;omega⟩,⟨by exact HO445.out⟩,⟨by exact BK433.out⟩,⟨by exact HB.out⟩⟩
        ·rw [if_neg c22] at H
         exact absurd H (by simp)
      ·rw [if_neg c13] at H
       exact absurd H (by simp)
     ·rw [if_neg c12] at H
      exact absurd H (by simp)
    ·rw [if_neg c11] at H;have c11b0 : decide (x23_1 < (l0_1.length : Int)) = false:=decide_eq_false c11;clear c11;obtain rfl:=Option.some.inj H
     go_wp2
     go_ret
     exact ⟨_,by rfl,by exact HO_5.out,by exact HB.out⟩
 ·rw [if_neg c4] at H
  exact absurd H (by simp)

/-! ### impl_ceiling: function 55 -/
def impl_ceiling.f (a0 : Int) (a1 : Int) : Option (Int):=if a1 = 0 then (none) else (some (wrap64 (Int.tdiv (wrap64 ((wrap64 (a0 + a1)) - 1)) a1)))
set_option maxHeartbeats 8000000 in
set_option maxRecDepth 100000 in
theorem impl_ceiling.calls (a0 : Int) (a1 : Int) (r : Int) (w : World) (h : impl_ceiling.f a0 a1 = some r) :
  Calls Tryz.prog 55 #[.int .i64 a0, .int .i64 a1] w fun e w' => e = .returned (.int .i64 r) ∧ Drawn0 w w':=by
 have H : (if a1 = 0 then (none) else (some (wrap64 (Int.tdiv (wrap64 ((wrap64 (a0 + a1)) - 1)) a1)))) = some r:=h;clear h
 by_cases c3 : a1 = 0
 ·rw [if_pos c3] at H
  exact absurd H (by simp)
 ·rw [if_neg c3] at H;have c3b0 : (a1 == 0) = false:=beq_eq_false_iff_ne.mpr c3;have c3b1 : (a1 != 0) = true:=bne_iff_ne.mpr c3;obtain rfl:=Option.some.inj H
  go_enter Tryz.func55,Tryz.ntmps55
  go_wp2
  go_ret
  exact ⟨by rfl,by repeat (exact Drawn0.refl _)⟩

/-! ### impl_stayCharge: function 37 -/
def impl_stayCharge.l0 : Nat → Int → Int → List Int → Int → Int → Int → List (S45) → Int → Option (Int)
 | 0,_,_,_,_,_,_,_,_ => none
 | k + 1,x1,x7,x13,x14,x15,x447000,x447001,x447002 => if x15 < x14 then (if 0 ≤ x15 then (if x15 < (x13.length : Int) then (if x15 < (x447001.length : Int) then (impl_stayCharge.l0 k x1 (wrap64 (x7 + (wrap64 ((rd x13 x15) * ((rd_T45 x447001 x15).f1))))) x13 x14 (wrap64 (x15 + 1)) x447000 x447001 x447002) else (none)) else (none)) else (none)) else (if x1 = 2 then ((impl_ceiling.f (wrap64 (x7 * x447002)) 100).bind fun t456 => (some t456)) else (some x7))
def impl_stayCharge.f (k : Nat) (a0_0 : Int) (l0_1 : List (S45)) (a0_2 : Int) (a1 : Int) (a2 : Int) : Option (Int):=(impl_splitStay.f k a0_0 l0_1 a0_2 a2).bind fun t447 => (if 1 ≤ (t447.length : Int) then ((some (t447.drop 1 : List Int)).bind fun y450 => (impl_stayCharge.l0 k a1 0 y450 (y450.length : Int) 0 a0_0 l0_1 a0_2)) else (none))
theorem impl_stayCharge.mono_l : ∀ k,(∀ y0 y1 y2 y3 y4 y5 y6 y7,LeO (impl_stayCharge.l0 k y0 y1 y2 y3 y4 y5 y6 y7) (impl_stayCharge.l0 (k + 1) y0 y1 y2 y3 y4 y5 y6 y7))
 | 0 => fun _ _ _ _ _ _ _ _ r h => by simp [impl_stayCharge.l0] at h
 | k + 1 => by
  have ih0:=impl_stayCharge.mono_l k
  ·intro y0 y1 y2 y3 y4 y5 y6 y7
   unfold impl_stayCharge.l0
   repeat' first
   | (with_reducible exact ih0 _ _ _ _ _ _ _ _)
   | (with_reducible exact impl_splitStay.mono _ _ _ _ _)
   | (with_reducible exact LeO.refl _)
   | (with_reducible exact LeO.none _)
   | (with_reducible refine LeO.ite ?_ ?_)
   | (with_reducible refine LeO.bind ?_ (fun _ => ?_))
   | exact ih0 _ _ _ _ _ _ _ _
   | exact impl_splitStay.mono _ _ _ _ _
   | exact LeO.none _
   | refine LeO.ite ?_ ?_
   | refine LeO.bind ?_ (fun _ => ?_)
theorem impl_stayCharge.mono : ∀ a0 a1 a2 a3 a4 k,LeO (impl_stayCharge.f k a0 a1 a2 a3 a4) (impl_stayCharge.f (k + 1) a0 a1 a2 a3 a4):=by
 intro a0 a1 a2 a3 a4 k;have ih0:=impl_stayCharge.mono_l k
 unfold impl_stayCharge.f
 repeat' first
   | (with_reducible exact ih0 _ _ _ _ _ _ _ _)
   | (with_reducible exact impl_splitStay.mono _ _ _ _ _)
   | (with_reducible exact LeO.refl _)
   | (with_reducible exact LeO.none _)
   | (with_reducible refine LeO.ite ?_ ?_)
   | (with_reducible refine LeO.bind ?_ (fun _ => ?_))
   | exact ih0 _ _ _ _ _ _ _ _
   | exact impl_splitStay.mono _ _ _ _ _
   | exact LeO.none _
   | refine LeO.ite ?_ ?_
   | refine LeO.bind ?_ (fun _ => ?_)
set_option maxHeartbeats 8000000 in
set_option maxRecDepth 100000 in
theorem impl_stayCharge.calls (k : Nat) (a0_0 : Int) (A0_1 : Option Addr) (c0_1 : Nat) (l0_1 : List (S45)) (a0_2 : Int) (a1 : Int) (a2 : Int) (r : Int) (w : World) (hr0_1 : Kd.C k45 w A0_1 l0_1.length l0_1) (hc0_1 : l0_1.length ≤ c0_1) (h : impl_stayCharge.f k a0_0 l0_1 a0_2 a1 a2 = some r) :
  Calls Tryz.prog 37 #[.agg #[.int .i64 a0_0, .slice A0_1 l0_1.length c0_1, .int .i64 a0_2], .int .i64 a1, .int .i64 a2] w fun e w' => e = .returned (.int .i64 r) ∧ Below w.heap.size w w':=by
 have hu26:=Tryz.underlying26;have HR0_1:=am_ hr0_1;have HC0_1:=am_ hc0_1;clear hr0_1 hc0_1;have HB:=am_ (Below.refl w.heap.size w);have H : ((impl_splitStay.f k a0_0 l0_1 a0_2 a2).bind fun t447 => (if 1 ≤ (t447.length : Int) then ((some (t447.drop 1 : List Int)).bind fun y450 => (impl_stayCharge.l0 k a1 0 y450 (y450.length : Int) 0 a0_0 l0_1 a0_2)) else (none))) = some r:=h;clear h;replace H:=Option.bind_eq_some_iff.mp H;obtain ⟨t447,A40,H⟩ := H;replace H : (if 1 ≤ (t447.length : Int) then ((some (t447.drop 1 : List Int)).bind fun y450 => (impl_stayCharge.l0 k a1 0 y450 (y450.length : Int) 0 a0_0 l0_1 a0_2)) else (none)) = some r:=H;have A4:=am_ A40;clear A40
 by_cases c5 : 1 ≤ (t447.length : Int)
 ·rw [if_pos c5] at H;have c5b0:=eq_true c5;have c5b1 : decide (1 ≤ (t447.length : Int)) = true:=decide_eq_true c5;clear c5;obtain ⟨y450,hy450⟩ : ∃ y_ : List Int,y_ = (t447.drop 1):=⟨_,rfl⟩
  replace H : (impl_stayCharge.l0 k a1 0 y450 (y450.length : Int) 0 a0_0 l0_1 a0_2) = some r:=by (have H2_:=(Option.bind_some _ _).symm.trans H;rw [hy450];with_reducible exact H2_)
  have Ny450:=am_ hy450;clear hy450;have H':=am_ H;clear H
  go_enter Tryz.func37,Tryz.ntmps37
  go_wp2_with (first | ((with_reducible refine gate_dst (N:=3) rfl ?_);refine box_event ?hg (N:=3) ?hd (cs:=#[.int .i64 a0_0, .slice A0_1 l0_1.length c0_1, .int .i64 a0_2]) (t:=26) ?hr ?_;(case hd => rfl);(case hg => rfl);(case hr => (go_simp;done));intro gb446 hg w6 hbox hb;have n0_:=am_ (below_step (by exact HB.out) hb);have n1_:=am_ hbox;have n2_:=am_ (ge_ hg (by exact HB.out));have n3_:=am_ (ge_ hg (by exact HB.out));clear HB;have HB:=n0_;have BK446:=n1_;have GW446:=n2_;have GE446:=n3_;clear n0_ n1_ n2_ n3_;clear hb hbox hg;have hcz7_0:=c3_0 BK446.out;have hcz7_1:=c3_1 BK446.out;have hcz7_2:=c3_2 BK446.out;have hfz7_0:=blk_frozen BK446.out 0;have hfz7_1:=blk_frozen BK446.out 1;have hfz7_2:=blk_frozen BK446.out 2) | ((with_reducible refine gate_callee (f:=54) rfl ?_);refine goesL_ (some 12) rfl rfl Tryz.func54 (by kernel_rfl) rfl #[.agg #[.int .i64 a0_0, .slice A0_1 l0_1.length c0_1, .int .i64 a0_2], .int .i64 a2] rfl (by (try simp only [List.map_toArray,List.map_cons,List.map_nil]);rfl) ?_;(with_reducible refine (impl_splitStay.calls k a0_0 _ _ l0_1 a0_2 a2 t447 _ ?side1 ?side2 A4.out).mono ?_);(case side1 => repeat (exact (Kd.C_below HR0_1.out HB.out)));(case side2 => exact HC0_1.out);rintro e w8 ⟨v448,rfl,ho0,hb⟩;refine ⟨_,rfl, ?_⟩;have n0_:=am_ (Kd.R_lower ho0 (below_size (by exact HB.out)));have n1_:=am_ (blk_below (by exact BK446.out) hb);have n2_:=am_ (below_step (by exact HB.out) hb);clear BK446;clear HB;have HO449:=n0_;have BK446:=n1_;have HB:=n2_;clear n0_ n1_ n2_;(try clear hb);(try clear ho0);obtain ⟨Ao10,co10,eo10⟩ := Kd.R_slice HO449.out;subst eo10;have q9 : (1 : Int) ≤ ((t447.length : Int) : Int):=of_decide_eq_true (by (with_reducible assumption));obtain ⟨i09,hi09,_,hsz9,_⟩ := info_parts info3;have hroom9 : t447.length ≤ co10:=(Kd.R_reads' HO449.out).2.1;have hC9 : Kd.C (Kd.int .i64) _ Ao10 t447.length t447:=(Kd.R_reads' HO449.out).2.2;have hcut9:=cut_from (P:=Tryz.prog) 64 3 .i64 Tryz.underlying64 hi09 1 hsz9 Ao10 t447.length co10 1 (by omega) q9;have hr9:=Kd.C_drop (m:=(1 : Int).toNat) (c:=co10) hC9 (by omega) hroom9;obtain ⟨A9,hA9⟩ : ∃ A1,A1 = (if co10 = (1 : Int).toNat then Ao10 else (Ao10 : Option Addr).map (·.add ((1 : Int).toNat * 1))):=⟨_,rfl⟩;obtain ⟨c9,hc9⟩ : ∃ c1,c1 = co10 - (1 : Int).toNat:=⟨_,rfl⟩;have hy9 : y450.length = t447.length - (1 : Int).toNat:=(by rw [Ny450.out,List.length_drop] <;> omega);rw [show (t447).drop (1 : Int).toNat = y450 from Ny450.out.symm] at hr9;replace hr9 : Kd.C (Kd.int .i64) _ A9 y450.length y450:=(by rw [hA9];exact hr9);rw [← hy9,← hA9,← hc9] at hcut9;have HR453:=am_ hr9;have HC453:=am_ (show y450.length ≤ c9 from by rw [hy9,hc9];exact Nat.sub_le_sub_right hroom9 _);clear hr9 hC9 hroom9 hi09 hsz9 hc9;have KY9:=am_ hy9;have KA9:=am_ hA9;clear hy9 hA9;have KL9:=am_ (show 1 ≤ t447.length from by omega);replace q9:=eq_true q9))
  (skip)
  go_loopg [7,15] k (fun kq v7 v15 w' => ∃ (x7_1 : Int) (x15_1 : Int),v7 = .int .i64 x7_1 ∧ v15 = .int .i64 x15_1 ∧ Aside0 (impl_stayCharge.l0 kq a1 x7_1 y450 (y450.length : Int) x15_1 a0_0 l0_1 a0_2 = some r) ∧ Aside0 (kq ≤ k) ∧ Aside0 (w'.heap[gb446]? = some (.cells #[.int .i64 a0_0,(.slice A0_1 l0_1.length c0_1), .int .i64 a0_2] 26 (0,0))) ∧ Aside0 (Kd.C (Kd.int .i64) w' A9 y450.length y450) ∧ Aside0 (Below w.heap.size w w'))
  case atStart => exact ⟨(0),(0),(by rfl),(by rfl),H',⟨Nat.le_refl _⟩,⟨by exact BK446.out⟩,⟨by exact HR453.out⟩,⟨by exact HB.out⟩⟩
  case round =>
   clear H';(try clear c1);(try clear p2);(try clear c3);(try clear c5);(try clear c5b0);(try clear c5b1);(try clear c9);(try clear q9);(try clear hcz7_0);(try clear hcz7_1);(try clear hcz7_2);(try clear hfz7_0);(try clear hfz7_1);(try clear hfz7_2);(try clear q9);obtain ⟨x7_1,x15_1,rfl,rfl,HA,HK1,BK446,HR453,HB⟩ := hrel
   cases gk with
   | zero => exact absurd HA.out (by simp [impl_stayCharge.l0])
   | succ k1 =>
    have H:=HA.out;clear HA;simp only [impl_stayCharge.l0] at H
    by_cases c11 : x15_1 < (y450.length : Int)
    ·rw [if_pos c11] at H;have c11b0 : decide (x15_1 < (y450.length : Int)) = true:=decide_eq_true c11;clear c11
     by_cases c12 : 0 ≤ x15_1
     ·rw [if_pos c12] at H;have c12b0 : decide (0 ≤ x15_1) = true:=decide_eq_true c12;clear c12
      by_cases c13 : x15_1 < (y450.length : Int)
      ·rw [if_pos c13] at H;have c13b0 : decide (x15_1 < (y450.length : Int)) = true:=decide_eq_true c13;clear c13
       by_cases c14 : x15_1 < (l0_1.length : Int)
       ·rw [if_pos c14] at H;have c14b0 : decide (x15_1 < (l0_1.length : Int)) = true:=decide_eq_true c14;clear c14;have H':=am_ H;clear H;have p454 : 0 ≤ (x15_1 : Int):=of_decide_eq_true (by (with_reducible assumption));have q454 : x15_1 < (y450.length : Int):=of_decide_eq_true (by (with_reducible assumption));obtain ⟨ad454,e454,hx454_0⟩ := Kd.at_int HR453.out x15_1 p454 q454;cases e454
        try replace hx454_0:=(HB.out.cell (World.block_lt_of_cell? w _ hx454_0)).trans hx454_0
        replace p454:=eq_true p454;replace q454:=eq_true q454;have hcz15_0:=c3_0 BK446.out;have hcz15_1:=c3_1 BK446.out;have hcz15_2:=c3_2 BK446.out;have hfz15_0:=blk_frozen BK446.out 0;have hfz15_1:=blk_frozen BK446.out 1;have hfz15_2:=blk_frozen BK446.out 2;have p455 : 0 ≤ (x15_1 : Int):=of_decide_eq_true (by (with_reducible assumption));have q455 : x15_1 < (l0_1.length : Int):=of_decide_eq_true (by (with_reducible assumption));obtain ⟨ad455,e455,hx455_0,hx455_1⟩ := at_T45 HR0_1.out x15_1 p455 q455;cases e455;replace hx455_0:=(HB.out.cell (World.block_lt_of_cell? w _ hx455_0)).trans hx455_0;replace hx455_1:=(HB.out.cell (World.block_lt_of_cell? w _ hx455_1)).trans hx455_1;replace p455:=eq_true p455;replace q455:=eq_true q455
        go_wp2
        go_roundg k1
        case measure => have:=HK1.out;omega
        case rel => exact ⟨(wrap64 (x7_1 + (wrap64 ((rd y450 x15_1) * ((rd_T45 l0_1 x15_1).f1))))),(wrap64 (x15_1 + 1)),(by rfl),(by rfl),H',⟨by have:=HK1.out;omega⟩,⟨by exact BK446.out⟩,⟨by exact HR453.out⟩,⟨by exact HB.out⟩⟩
       ·rw [if_neg c14] at H
        exact absurd H (by simp)
      ·rw [if_neg c13] at H
       exact absurd H (by simp)
     ·rw [if_neg c12] at H
      exact absurd H (by simp)
    ·rw [if_neg c11] at H;have c11b0 : decide (x15_1 < (y450.length : Int)) = false:=decide_eq_false c11;clear c11
     by_cases c16 : a1 = 2
     ·rw [if_pos c16] at H;have c16b0 : (a1 == 2) = true:=beq_iff_eq.mpr c16;have c16b1 : (a1 != 2) = false:=bne_eq_false_iff_eq.mpr c16;clear c16;replace H:=Option.bind_eq_some_iff.mp H;obtain ⟨t456,A170,H⟩ := H;replace H : (some t456) = some r:=H;have A17:=am_ A170;clear A170;obtain rfl:=Option.some.inj H;have hcz18_0:=c3_0 BK446.out;have hcz18_1:=c3_1 BK446.out;have hcz18_2:=c3_2 BK446.out;have hfz18_0:=blk_frozen BK446.out 0;have hfz18_1:=blk_frozen BK446.out 1;have hfz18_2:=blk_frozen BK446.out 2
      go_wp2_with (((with_reducible refine gate_callee (f:=55) rfl ?_);refine goesL_ (some 37) rfl rfl Tryz.func55 (by kernel_rfl) rfl #[.int .i64 (wrap64 (x7_1 * a0_2)), .int .i64 100] rfl (by (try simp only [List.map_toArray,List.map_cons,List.map_nil]);rfl) ?_;(with_reducible refine (impl_ceiling.calls (wrap64 (x7_1 * a0_2)) 100 t456 _ A17.out).mono ?_);rintro e w' ⟨rfl,⟨nd,rfl⟩⟩;refine ⟨_,rfl, ?_⟩))
      go_ret
      exact ⟨by rfl,by repeat ((with_reducible first | exact HB.out | apply pw_below_drewN))⟩
     ·rw [if_neg c16] at H;have c16b0 : (a1 == 2) = false:=beq_eq_false_iff_ne.mpr c16;have c16b1 : (a1 != 2) = true:=bne_iff_ne.mpr c16;obtain rfl:=Option.some.inj H
      go_wp2
      go_ret
      exact ⟨by rfl,by exact HB.out⟩
 ·rw [if_neg c5] at H
  exact absurd H (by simp)

end Go.Proofs.YtciecfaeeogdoaaGreatDoor.PFnTariffs
