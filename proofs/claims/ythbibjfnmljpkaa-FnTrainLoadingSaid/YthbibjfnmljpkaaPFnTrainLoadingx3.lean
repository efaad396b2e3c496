-- Written by a program of this session, over the kit's print (wip/xprint.py)
import Derived.Test.YthbibjfnmljpkaaPFnTrainLoadingx0
import Derived.Test.YthbibjfnmljpkaaPFnTrainLoadingx1
import Derived.Test.YthbibjfnmljpkaaPFnTrainLoadingx2
namespace Go.Proofs.Ythbibjfnmljpkaa.PFnTrainLoading
open Go.RowKit Go.Proofs.YthbibjfnmljpkaaW.PrintWords Go.Proofs.YthbibjfnmljpkaaW.PrintLast Go.Proofs.YthbibjfnmljpkaaW.PrintMore
attribute [local go_sem] max2_int min2_int max_two min_two max_three min_three max_four min_four   -- for this text's walks alone
set_option linter.unusedVariables false
set_option linter.unusedSimpArgs false

/-! ### spec_MostContainers: function 7 -/
def spec_MostContainers.f (k : Nat) (l0 : List (S54)) (l1 : List (S64)) : Option (Int × Bool):=(spec_l19Train.f k l0).bind fun t148 => (if t148 = true then ((spec_l2List.f k l1).bind fun t149 => (if t149 = true then (if (l1.length : Int) > 7 then (some (0,false)) else (if (l0.length : Int) > 3 then (some (0,false)) else ((spec_l19Most.f k l0 l1 (([] : List Int)) 0).bind fun t153 => (some (t153,true))))) else (some (0,false)))) else (some (0,false)))
theorem spec_MostContainers.mono : ∀ a0 a1 k,LeO (spec_MostContainers.f k a0 a1) (spec_MostContainers.f (k + 1) a0 a1):=by
 intro a0 a1 k
 unfold spec_MostContainers.f
 repeat' first
   | (with_reducible exact spec_l19Most.mono _ _ _ _ _)
   | (with_reducible exact spec_l19Train.mono _ _)
   | (with_reducible exact spec_l2List.mono _ _)
   | (with_reducible exact LeO.refl _)
   | (with_reducible exact LeO.none _)
   | (with_reducible refine LeO.ite ?_ ?_)
   | (with_reducible refine LeO.bind ?_ (fun _ => ?_))
   | exact spec_l19Most.mono _ _ _ _ _
   | exact spec_l19Train.mono _ _
   | exact spec_l2List.mono _ _
   | exact LeO.none _
   | refine LeO.ite ?_ ?_
   | refine LeO.bind ?_ (fun _ => ?_)
set_option maxHeartbeats 8000000 in
set_option maxRecDepth 100000 in
theorem spec_MostContainers.calls (k : Nat) (A0 : Option Addr) (c0 : Nat) (l0 : List (S54)) (A1 : Option Addr) (c1 : Nat) (l1 : List (S64)) (r1 : Int) (r2 : Bool) (w : World) (hr0 : Kd.C k54 w A0 l0.length l0) (hc0 : l0.length ≤ c0) (hr1 : Kd.C k64 w A1 l1.length l1) (hc1 : l1.length ≤ c1) (h : spec_MostContainers.f k l0 l1 = some (r1,r2)) :
  Calls Try.prog 7 #[.slice A0 l0.length c0, .slice A1 l1.length c1] w fun e w' => e = .returned (.tuple #[.int .i64 r1, .bool r2]) ∧ Below w.heap.size w w':=by
 have HR0:=am_ hr0;have HC0:=am_ hc0;clear hr0 hc0;have HR1:=am_ hr1;have HC1:=am_ hc1;clear hr1 hc1;have HB:=am_ (Below.refl w.heap.size w);have H : ((spec_l19Train.f k l0).bind fun t148 => (if t148 = true then ((spec_l2List.f k l1).bind fun t149 => (if t149 = true then (if (l1.length : Int) > 7 then (some (0,false)) else (if (l0.length : Int) > 3 then (some (0,false)) else ((spec_l19Most.f k l0 l1 (([] : List Int)) 0).bind fun t153 => (some (t153,true))))) else (some (0,false)))) else (some (0,false)))) = some (r1,r2):=h;clear h;replace H:=Option.bind_eq_some_iff.mp H;obtain ⟨t148,A30,H⟩ := H;replace H : (if t148 = true then ((spec_l2List.f k l1).bind fun t149 => (if t149 = true then (if (l1.length : Int) > 7 then (some (0,false)) else (if (l0.length : Int) > 3 then (some (0,false)) else ((spec_l19Most.f k l0 l1 (([] : List Int)) 0).bind fun t153 => (some (t153,true))))) else (some (0,false)))) else (some (0,false))) = some (r1,r2):=H;have A3:=am_ A30;clear A30
 by_cases c4 : t148 = true
 ·subst c4
  have H1 : ((spec_l2List.f k l1).bind fun t149 => (if t149 = true then (if (l1.length : Int) > 7 then (some (0,false)) else (if (l0.length : Int) > 3 then (some (0,false)) else ((spec_l19Most.f k l0 l1 (([] : List Int)) 0).bind fun t153 => (some (t153,true))))) else (some (0,false)))) = some (r1,r2):=by rw [if_pos rfl] at H;exact H
  clear H;have H:=H1;clear H1;replace H:=Option.bind_eq_some_iff.mp H;obtain ⟨t149,A50,H⟩ := H;replace H : (if t149 = true then (if (l1.length : Int) > 7 then (some (0,false)) else (if (l0.length : Int) > 3 then (some (0,false)) else ((spec_l19Most.f k l0 l1 (([] : List Int)) 0).bind fun t153 => (some (t153,true))))) else (some (0,false))) = some (r1,r2):=H;have A5:=am_ A50;clear A50
  by_cases c6 : t149 = true
  ·subst c6
   have H1 : (if (l1.length : Int) > 7 then (some (0,false)) else (if (l0.length : Int) > 3 then (some (0,false)) else ((spec_l19Most.f k l0 l1 (([] : List Int)) 0).bind fun t153 => (some (t153,true))))) = some (r1,r2):=by rw [if_pos rfl] at H;exact H
   clear H;have H:=H1;clear H1
   by_cases c7 : (l1.length : Int) > 7
   ·rw [if_pos c7] at H;have c7b0 : decide (7 < (l1.length : Int)) = true:=decide_eq_true c7;have c7b1 : decide (7 < l1.length) = true:=decide_eq_true (by omega);clear c7;simp only [Option.some.injEq,Prod.mk.injEq] at H;obtain ⟨rfl,rfl⟩ := H
    go_enter Try.func7,Try.ntmps7
    go_wp2_with (first | ((with_reducible refine gate_callee (f:=31) rfl ?_);refine goesL_ (some 7) rfl rfl Try.func31 (by kernel_rfl) rfl #[.slice A0 l0.length c0] rfl (by (try simp only [List.map_toArray,List.map_cons,List.map_nil]);rfl) ?_;(with_reducible refine (spec_l19Train.calls k _ _ l0 true _ ?side1 ?side2 A3.out).mono ?_);(case side1 => repeat (exact HR0.out));(case side2 => exact HC0.out);rintro e w' ⟨rfl,⟨nd,rfl⟩⟩;refine ⟨_,rfl, ?_⟩) | (go_at_call 32;(with_reducible refine (spec_l2List.calls k _ _ l1 true _ ?side1 ?side2 A5.out).mono ?_);(case side1 => repeat (exact HR1.out));(case side2 => exact HC1.out);rintro e w8 ⟨rfl,hb⟩;have n0_:=am_ (below_step (by repeat ((with_reducible first | exact HB.out | apply pw_below_drewN))) hb);clear HB;have HB:=n0_;clear n0_;(try clear hb)))
    go_ret2
    exact ⟨by rfl,by exact HB.out⟩
   ·rw [if_neg c7] at H;have c7b0 : decide (7 < (l1.length : Int)) = false:=decide_eq_false c7;have c7b1 : decide (7 < l1.length) = false:=decide_eq_false (by omega);clear c7
    by_cases c9 : (l0.length : Int) > 3
    ·rw [if_pos c9] at H;have c9b0 : decide (3 < (l0.length : Int)) = true:=decide_eq_true c9;have c9b1 : decide (3 < l0.length) = true:=decide_eq_true (by omega);clear c9;simp only [Option.some.injEq,Prod.mk.injEq] at H;obtain ⟨rfl,rfl⟩ := H
     go_enter Try.func7,Try.ntmps7
     go_wp2_with (first | ((with_reducible refine gate_callee (f:=31) rfl ?_);refine goesL_ (some 7) rfl rfl Try.func31 (by kernel_rfl) rfl #[.slice A0 l0.length c0] rfl (by (try simp only [List.map_toArray,List.map_cons,List.map_nil]);rfl) ?_;(with_reducible refine (spec_l19Train.calls k _ _ l0 true _ ?side1 ?side2 A3.out).mono ?_);(case side1 => repeat (exact HR0.out));(case side2 => exact HC0.out);rintro e w' ⟨rfl,⟨nd,rfl⟩⟩;refine ⟨_,rfl, ?_⟩) | (go_at_call 32;(with_reducible refine (spec_l2List.calls k _ _ l1 true _ ?side1 ?side2 A5.out).mono ?_);(case side1 => repeat (exact HR1.out));(case side2 => exact HC1.out);rintro e w10 ⟨rfl,hb⟩;have n0_:=am_ (below_step (by repeat ((with_reducible first | exact HB.out | apply pw_below_drewN))) hb);clear HB;have HB:=n0_;clear n0_;(try clear hb)))
     go_ret2
     exact ⟨by rfl,by exact HB.out⟩
    ·rw [if_neg c9] at H;have c9b0 : decide (3 < (l0.length : Int)) = false:=decide_eq_false c9;have c9b1 : decide (3 < l0.length) = false:=decide_eq_false (by omega);clear c9;obtain ⟨y150,hy150⟩ : ∃ y_ : List Int,y_ = (([] : List Int)):=⟨_,rfl⟩
     replace H : ((spec_l19Most.f k l0 l1 y150 0).bind fun t153 => (some (t153,true))) = some (r1,r2):=by (rw [hy150];with_reducible exact H)
     have Ny150:=am_ hy150;clear hy150;replace H:=Option.bind_eq_some_iff.mp H;obtain ⟨t153,A110,H⟩ := H;replace H : (some (t153,true)) = some (r1,r2):=H;have A11:=am_ A110;clear A110;simp only [Option.some.injEq,Prod.mk.injEq] at H;obtain ⟨rfl,rfl⟩ := H
     go_enter Try.func7,Try.ntmps7
     go_wp2_with (first | ((with_reducible refine gate_callee (f:=31) rfl ?_);refine goesL_ (some 7) rfl rfl Try.func31 (by kernel_rfl) rfl #[.slice A0 l0.length c0] rfl (by (try simp only [List.map_toArray,List.map_cons,List.map_nil]);rfl) ?_;(with_reducible refine (spec_l19Train.calls k _ _ l0 true _ ?side1 ?side2 A3.out).mono ?_);(case side1 => repeat (exact HR0.out));(case side2 => exact HC0.out);rintro e w' ⟨rfl,⟨nd,rfl⟩⟩;refine ⟨_,rfl, ?_⟩) | (go_at_call 32;(with_reducible refine (spec_l2List.calls k _ _ l1 true _ ?side1 ?side2 A5.out).mono ?_);(case side1 => repeat (exact HR1.out));(case side2 => exact HC1.out);rintro e w12 ⟨rfl,hb⟩;have n0_:=am_ (below_step (by repeat ((with_reducible first | exact HB.out | apply pw_below_drewN))) hb);clear HB;have HB:=n0_;clear n0_;(try clear hb)) | ((with_reducible refine gate_dst (N:=26) rfl ?_);(try (refine gate_guard (by rfl) ?_;dsimp only));refine Kd.R_lit (Kd.int .i64) _ 3 ?hg (N:=26) ?hd (xs:=([] : List Int)) (inner := []) (ok:=fun _ => True) (okp:=fun _ => True) ?hr ?hp (fun _ hk => hk) trivial (Below.refl _ _) (Nat.le_refl _) (by simp) ?_;(case hd => rfl);(case hg => rfl);(case hr => (go_simp;done));(case hp => exact (Reps.none _ _));intro v151 w13 ho14 hb hg_ hnew_;clear hg_ hnew_;(rw [← Ny150.out] at ho14);have n0_:=am_ (Kd.R_lower ho14 (below_size (by exact HB.out)));have n1_:=am_ (below_step (by exact HB.out) hb);clear HB;have HO152:=n0_;have HB:=n1_;clear n0_ n1_;clear hb ho14;obtain ⟨Ao15,co15,eo15⟩ := Kd.R_slice HO152.out;subst eo15) | ((with_reducible refine gate_callee (f:=33) rfl ?_);refine goesL_ (some 27) rfl rfl Try.func33 (by kernel_rfl) rfl #[.slice A0 l0.length c0, .slice A1 l1.length c1, .slice Ao15 y150.length co15, .int .i64 0] rfl (by (try simp only [List.map_toArray,List.map_cons,List.map_nil]);rfl) ?_;(with_reducible refine (spec_l19Most.calls k _ _ l0 _ _ l1 _ _ y150 0 t153 _ ?side1 ?side2 ?side3 ?side4 ?side5 ?side6 A11.out).mono ?_);(case side1 => repeat (exact (Kd.C_below HR0.out HB.out)));(case side2 => exact HC0.out);(case side3 => repeat (exact (Kd.C_below HR1.out HB.out)));(case side4 => exact HC1.out);(case side5 => repeat (exact (Kd.R_reads' HO152.out).2.2));(case side6 => exact (Kd.R_reads' HO152.out).2.1);rintro e w16 ⟨rfl,hb⟩;refine ⟨_,rfl, ?_⟩;have n0_:=am_ (Kd.R_below (by exact HO152.out) hb);have n1_:=am_ (below_step (by exact HB.out) hb);clear HO152;clear HB;have HO152:=n0_;have HB:=n1_;clear n0_ n1_;(try clear hb)))
     go_ret2
     exact ⟨by rfl,by exact HB.out⟩
  ·replace c6:=Bool.eq_false_iff.mpr c6;subst c6
   have H1 : (some (0,false)) = some (r1,r2):=by rw [if_neg (show ¬ (false = true) by decide)] at H;exact H
   clear H;have H:=H1;clear H1;simp only [Option.some.injEq,Prod.mk.injEq] at H;obtain ⟨rfl,rfl⟩ := H
   go_enter Try.func7,Try.ntmps7
   go_wp2_with (first | ((with_reducible refine gate_callee (f:=31) rfl ?_);refine goesL_ (some 7) rfl rfl Try.func31 (by kernel_rfl) rfl #[.slice A0 l0.length c0] rfl (by (try simp only [List.map_toArray,List.map_cons,List.map_nil]);rfl) ?_;(with_reducible refine (spec_l19Train.calls k _ _ l0 true _ ?side1 ?side2 A3.out).mono ?_);(case side1 => repeat (exact HR0.out));(case side2 => exact HC0.out);rintro e w' ⟨rfl,⟨nd,rfl⟩⟩;refine ⟨_,rfl, ?_⟩) | (go_at_call 32;(with_reducible refine (spec_l2List.calls k _ _ l1 false _ ?side1 ?side2 A5.out).mono ?_);(case side1 => repeat (exact HR1.out));(case side2 => exact HC1.out);rintro e w17 ⟨rfl,hb⟩;have n0_:=am_ (below_step (by repeat ((with_reducible first | exact HB.out | apply pw_below_drewN))) hb);clear HB;have HB:=n0_;clear n0_;(try clear hb)))
   go_ret2
   exact ⟨by rfl,by exact HB.out⟩
 ·replace c4:=Bool.eq_false_iff.mpr c4;subst c4
  have H1 : (some (0,false)) = some (r1,r2):=by rw [if_neg (show ¬ (false = true) by decide)] at H;exact H
  clear H;have H:=H1;clear H1;simp only [Option.some.injEq,Prod.mk.injEq] at H;obtain ⟨rfl,rfl⟩ := H
  go_enter Try.func7,Try.ntmps7
  go_wp2_with (((with_reducible refine gate_callee (f:=31) rfl ?_);refine goesL_ (some 7) rfl rfl Try.func31 (by kernel_rfl) rfl #[.slice A0 l0.length c0] rfl (by (try simp only [List.map_toArray,List.map_cons,List.map_nil]);rfl) ?_;(with_reducible refine (spec_l19Train.calls k _ _ l0 false _ ?side1 ?side2 A3.out).mono ?_);(case side1 => repeat (exact HR0.out));(case side2 => exact HC0.out);rintro e w' ⟨rfl,⟨nd,rfl⟩⟩;refine ⟨_,rfl, ?_⟩))
  go_ret2
  exact ⟨by rfl,by repeat ((with_reducible first | exact HB.out | apply pw_below_drewN))⟩

/-! ### impl_within: function 50 -/
def impl_within.f (a0 : Int) (a1 : Int) (a2 : Int) : Option (Bool):=if a0 ≥ a1 then (some (decide (a0 ≤ a2))) else (some false)
set_option maxHeartbeats 8000000 in
set_option maxRecDepth 100000 in
theorem impl_within.calls (a0 : Int) (a1 : Int) (a2 : Int) (r : Bool) (w : World) (h : impl_within.f a0 a1 a2 = some r) :
  Calls Try.prog 50 #[.int .i64 a0, .int .i64 a1, .int .i64 a2] w fun e w' => e = .returned (.bool r) ∧ Drawn0 w w':=by
 have H : (if a0 ≥ a1 then (some (decide (a0 ≤ a2))) else (some false)) = some r:=h;clear h
 by_cases c4 : a0 ≥ a1
 ·rw [if_pos c4] at H;have c4b0 : decide (a1 ≤ a0) = true:=decide_eq_true c4;clear c4;obtain rfl:=Option.some.inj H
  go_enter Try.func50,Try.ntmps50
  go_wp2
  go_ret
  exact ⟨by rfl,by repeat (exact Drawn0.refl _)⟩
 ·rw [if_neg c4] at H;have c4b0 : decide (a1 ≤ a0) = false:=decide_eq_false c4;clear c4;obtain rfl:=Option.some.inj H
  go_enter Try.func50,Try.ntmps50
  go_wp2
  go_ret
  exact ⟨by rfl,by repeat (exact Drawn0.refl _)⟩

/-! ### impl_IsValidTrain_1: function 52 -/
def impl_IsValidTrain_1.f (a0_0 : Int) (a0_1 : Int) : Option (Bool):=(impl_within.f a0_0 1 3).bind fun t155 => (if t155 = true then ((impl_within.f a0_1 1 100000).bind fun t156 => (some (!t156))) else (some true))
set_option maxHeartbeats 8000000 in
set_option maxRecDepth 100000 in
theorem impl_IsValidTrain_1.calls (a0_0 : Int) (a0_1 : Int) (r : Bool) (w : World) (h : impl_IsValidTrain_1.f a0_0 a0_1 = some r) :
  Calls Try.prog 52 #[.agg #[.int .i64 a0_0, .int .i64 a0_1]] w fun e w' => e = .returned (.bool r) ∧ Below w.heap.size w w':=by
 have hu54:=Try.underlying54;have HB:=am_ (Below.refl w.heap.size w);have H : ((impl_within.f a0_0 1 3).bind fun t155 => (if t155 = true then ((impl_within.f a0_1 1 100000).bind fun t156 => (some (!t156))) else (some true))) = some r:=h;clear h;replace H:=Option.bind_eq_some_iff.mp H;obtain ⟨t155,A20,H⟩ := H;replace H : (if t155 = true then ((impl_within.f a0_1 1 100000).bind fun t156 => (some (!t156))) else (some true)) = some r:=H;have A2:=am_ A20;clear A20
 by_cases c3 : t155 = true
 ·subst c3
  have H1 : ((impl_within.f a0_1 1 100000).bind fun t156 => (some (!t156))) = some r:=by rw [if_pos rfl] at H;exact H
  clear H;have H:=H1;clear H1;replace H:=Option.bind_eq_some_iff.mp H;obtain ⟨t156,A40,H⟩ := H;replace H : (some (!t156)) = some r:=H;have A4:=am_ A40;clear A40;obtain rfl:=Option.some.inj H
  go_enter Try.func52,Try.ntmps52
  go_wp2_with (first | ((with_reducible refine gate_dst (N:=1) rfl ?_);refine box_event ?hg (N:=1) ?hd (cs:=#[.int .i64 a0_0, .int .i64 a0_1]) (t:=54) ?hr ?_;(case hd => rfl);(case hg => rfl);(case hr => (go_simp;done));intro gb154 hg w5 hbox hb;have n0_:=am_ (below_step (by exact HB.out) hb);have n1_:=am_ hbox;have n2_:=am_ (ge_ hg (by exact HB.out));have n3_:=am_ (ge_ hg (by exact HB.out));clear HB;have HB:=n0_;have BK154:=n1_;have GW154:=n2_;have GE154:=n3_;clear n0_ n1_ n2_ n3_;clear hb hbox hg;have hcz6_0:=c2_0 BK154.out;have hcz6_1:=c2_1 BK154.out;have hfz6_0:=blk_frozen BK154.out 0;have hfz6_1:=blk_frozen BK154.out 1) | ((with_reducible refine gate_callee (f:=50) rfl ?_);refine goesL_ (some 5) rfl rfl Try.func50 (by kernel_rfl) rfl #[.int .i64 a0_0, .int .i64 1, .int .i64 3] rfl (by (try simp only [List.map_toArray,List.map_cons,List.map_nil]);rfl) ?_;(with_reducible refine (impl_within.calls a0_0 1 3 true _ A2.out).mono ?_);rintro e w' ⟨rfl,⟨nd,rfl⟩⟩;refine ⟨_,rfl, ?_⟩) | (go_at_call 50;(with_reducible refine (impl_within.calls a0_1 1 100000 t156 _ A4.out).mono ?_);rintro e w' ⟨rfl,⟨nd,rfl⟩⟩))
  go_ret
  exact ⟨by rfl,by repeat ((with_reducible first | exact HB.out | apply pw_below_drewN))⟩
 ·replace c3:=Bool.eq_false_iff.mpr c3;subst c3
  have H1 : (some true) = some r:=by rw [if_neg (show ¬ (false = true) by decide)] at H;exact H
  clear H;have H:=H1;clear H1;obtain rfl:=Option.some.inj H
  go_enter Try.func52,Try.ntmps52
  go_wp2_with (first | ((with_reducible refine gate_dst (N:=1) rfl ?_);refine box_event ?hg (N:=1) ?hd (cs:=#[.int .i64 a0_0, .int .i64 a0_1]) (t:=54) ?hr ?_;(case hd => rfl);(case hg => rfl);(case hr => (go_simp;done));intro gb154 hg w7 hbox hb;have n0_:=am_ (below_step (by exact HB.out) hb);have n1_:=am_ hbox;have n2_:=am_ (ge_ hg (by exact HB.out));have n3_:=am_ (ge_ hg (by exact HB.out));clear HB;have HB:=n0_;have BK154:=n1_;have GW154:=n2_;have GE154:=n3_;clear n0_ n1_ n2_ n3_;clear hb hbox hg;have hcz8_0:=c2_0 BK154.out;have hcz8_1:=c2_1 BK154.out;have hfz8_0:=blk_frozen BK154.out 0;have hfz8_1:=blk_frozen BK154.out 1) | ((with_reducible refine gate_callee (f:=50) rfl ?_);refine goesL_ (some 5) rfl rfl Try.func50 (by kernel_rfl) rfl #[.int .i64 a0_0, .int .i64 1, .int .i64 3] rfl (by (try simp only [List.map_toArray,List.map_cons,List.map_nil]);rfl) ?_;(with_reducible refine (impl_within.calls a0_0 1 3 false _ A2.out).mono ?_);rintro e w' ⟨rfl,⟨nd,rfl⟩⟩;refine ⟨_,rfl, ?_⟩))
  go_ret
  exact ⟨by rfl,by repeat ((with_reducible first | exact HB.out | apply pw_below_drewN))⟩

/-! ### slices_IndexFunc_impl_Wagon: function 78 -/
def slices_IndexFunc_impl_Wagon.l0 : Nat → List (S54) → Int → Int → Option (Int)
 | 0,_,_,_ => none
 | k + 1,x0,x7,x8 => if x8 < x7 then (if 0 ≤ x8 then (if x8 < (x0.length : Int) then ((impl_IsValidTrain_1.f ((rd_T54 x0 x8).f0) ((rd_T54 x0 x8).f1)).bind fun t158 => (if t158 = true then (some x8) else (slices_IndexFunc_impl_Wagon.l0 k x0 x7 (wrap64 (x8 + 1))))) else (none)) else (none)) else (some (-1))
def slices_IndexFunc_impl_Wagon.f (k : Nat) (l0 : List (S54))  : Option (Int):=slices_IndexFunc_impl_Wagon.l0 k l0 (l0.length : Int) 0
theorem slices_IndexFunc_impl_Wagon.mono_l : ∀ k,(∀ y0 y1 y2,LeO (slices_IndexFunc_impl_Wagon.l0 k y0 y1 y2) (slices_IndexFunc_impl_Wagon.l0 (k + 1) y0 y1 y2))
 | 0 => fun _ _ _ r h => by simp [slices_IndexFunc_impl_Wagon.l0] at h
 | k + 1 => by
  have ih0:=slices_IndexFunc_impl_Wagon.mono_l k
  ·intro y0 y1 y2
   unfold slices_IndexFunc_impl_Wagon.l0
   repeat' first
   | (with_reducible exact ih0 _ _ _)
   | (with_reducible exact LeO.refl _)
   | (with_reducible exact LeO.none _)
   | (with_reducible refine LeO.ite ?_ ?_)
   | (with_reducible refine LeO.bind ?_ (fun _ => ?_))
   | exact ih0 _ _ _
   | exact LeO.none _
   | refine LeO.ite ?_ ?_
   | refine LeO.bind ?_ (fun _ => ?_)
theorem slices_IndexFunc_impl_Wagon.mono : ∀ a0 k,LeO (slices_IndexFunc_impl_Wagon.f k a0) (slices_IndexFunc_impl_Wagon.f (k + 1) a0):=by
 intro a0 k;have ih0:=slices_IndexFunc_impl_Wagon.mono_l k
 unfold slices_IndexFunc_impl_Wagon.f
 repeat' first
   | (with_reducible exact ih0 _ _ _)
   | (with_reducible exact LeO.refl _)
   | (with_reducible exact LeO.none _)
   | (with_reducible refine LeO.ite ?_ ?_)
   | (with_reducible refine LeO.bind ?_ (fun _ => ?_))
   | exact ih0 _ _ _
   | exact LeO.none _
   | refine LeO.ite ?_ ?_
   | refine LeO.bind ?_ (fun _ => ?_)
set_option maxHeartbeats 8000000 in
set_option maxRecDepth 100000 in
theorem slices_IndexFunc_impl_Wagon.calls (k : Nat) (A0 : Option Addr) (c0 : Nat) (l0 : List (S54))  (r : Int) (w : World) (hr0 : Kd.C k54 w A0 l0.length l0) (hc0 : l0.length ≤ c0) (h : slices_IndexFunc_impl_Wagon.f k l0 = some r) :
  Calls Try.prog 78 #[.slice A0 l0.length c0,(.func (.func 52) #[] #[])] w fun e w' => e = .returned (.int .i64 r) ∧ Below w.heap.size w w':=by
 have hu54:=Try.underlying54;have HR0:=am_ hr0;have HC0:=am_ hc0;clear hr0 hc0;have HB:=am_ (Below.refl w.heap.size w);have H : (slices_IndexFunc_impl_Wagon.l0 k l0 (l0.length : Int) 0) = some r:=h;clear h;have H':=am_ H;clear H
 go_enter Try.func78,Try.ntmps78
 go_wp2
 go_loopg [8] k (fun kq v8 w' => ∃ (x8_1 : Int),v8 = .int .i64 x8_1 ∧ Aside0 (slices_IndexFunc_impl_Wagon.l0 kq l0 (l0.length : Int) x8_1 = some r) ∧ Aside0 (kq ≤ k) ∧ Aside0 (Below w.heap.size w w'))
 case atStart => exact ⟨(0),(by rfl),H',⟨Nat.le_refl _⟩,⟨by exact HB.out⟩⟩
 case round =>
  clear H';(try clear p2);obtain ⟨x8_1,rfl,HA,HK1,HB⟩ := hrel
  cases gk with
  | zero => exact absurd HA.out (by simp [slices_IndexFunc_impl_Wagon.l0])
  | succ k1 =>
   have H:=HA.out;clear HA;simp only [slices_IndexFunc_impl_Wagon.l0] at H
   by_cases c3 : x8_1 < (l0.length : Int)
   ·rw [if_pos c3] at H;have c3b0 : decide (x8_1 < (l0.length : Int)) = true:=decide_eq_true c3;clear c3
    by_cases c4 : 0 ≤ x8_1
    ·rw [if_pos c4] at H;have c4b0 : decide (0 ≤ x8_1) = true:=decide_eq_true c4;clear c4
     by_cases c5 : x8_1 < (l0.length : Int)
     ·rw [if_pos c5] at H;have c5b0 : decide (x8_1 < (l0.length : Int)) = true:=decide_eq_true c5;clear c5;replace H:=Option.bind_eq_some_iff.mp H;obtain ⟨t158,A60,H⟩ := H;replace H : (if t158 = true then (some x8_1) else (slices_IndexFunc_impl_Wagon.l0 k1 l0 (l0.length : Int) (wrap64 (x8_1 + 1)))) = some r:=H;have A6:=am_ A60;clear A60
      by_cases c7 : t158 = true
      ·subst c7
       have H1 : (some x8_1) = some r:=by rw [if_pos rfl] at H;exact H
       clear H;have H:=H1;clear H1;obtain rfl:=Option.some.inj H;have p157 : 0 ≤ (x8_1 : Int):=of_decide_eq_true (by (with_reducible assumption));have q157 : x8_1 < (l0.length : Int):=of_decide_eq_true (by (with_reducible assumption));obtain ⟨ad157,e157,hx157_0,hx157_1⟩ := at_T54 HR0.out x8_1 p157 q157;cases e157;replace hx157_0:=(HB.out.cell (World.block_lt_of_cell? w _ hx157_0)).trans hx157_0;replace hx157_1:=(HB.out.cell (World.block_lt_of_cell? w _ hx157_1)).trans hx157_1;replace p157:=eq_true p157;replace q157:=eq_true q157
       go_wp2_with (((with_reducible refine gateV_ (x := .tmp 11) rfl ?_);refine goesV_ (some 16) rfl rfl Try.func52 (by kernel_rfl) rfl #[.agg #[.int .i64 ((rd_T54 l0 x8_1).f0), .int .i64 ((rd_T54 l0 x8_1).f1)]] rfl rfl (by (try simp only [List.map_toArray,List.map_cons,List.map_nil]);rfl) ?_;(with_reducible refine (impl_IsValidTrain_1.calls ((rd_T54 l0 x8_1).f0) ((rd_T54 l0 x8_1).f1) true _ A6.out).mono ?_);rintro e w8 ⟨rfl,hb⟩;refine ⟨_,rfl, ?_⟩;have n0_:=am_ (below_step (by exact HB.out) hb);clear HB;have HB:=n0_;clear n0_;(try clear hb)))
       go_ret
       exact ⟨by rfl,by exact HB.out⟩
      ·replace c7:=Bool.eq_false_iff.mpr c7;subst c7
       have H1 : (slices_IndexFunc_impl_Wagon.l0 k1 l0 (l0.length : Int) (wrap64 (x8_1 + 1))) = some r:=by rw [if_neg (show ¬ (false = true) by decide)] at H;exact H
       clear H;have H:=H1;clear H1;have H':=am_ H;clear H;have p157 : 0 ≤ (x8_1 : Int):=of_decide_eq_true (by (with_reducible assumption));have q157 : x8_1 < (l0.length : Int):=of_decide_eq_true (by (with_reducible assumption));obtain ⟨ad157,e157,hx157_0,hx157_1⟩ := at_T54 HR0.out x8_1 p157 q157;cases e157;replace hx157_0:=(HB.out.cell (World.block_lt_of_cell? w _ hx157_0)).trans hx157_0;replace hx157_1:=(HB.out.cell (World.block_lt_of_cell? w _ hx157_1)).trans hx157_1;replace p157:=eq_true p157;replace q157:=eq_true q157
       go_wp2_with (((with_reducible refine gateV_ (x := .tmp 11) rfl ?_);refine goesV_ (some 16) rfl rfl Try.func52 (by kernel_rfl) rfl #[.agg #[.int .i64 ((rd_T54 l0 x8_1).f0), .int .i64 ((rd_T54 l0 x8_1).f1)]] rfl rfl (by (try simp only [List.map_toArray,List.map_cons,List.map_nil]);rfl) ?_;(with_reducible refine (impl_IsValidTrain_1.calls ((rd_T54 l0 x8_1).f0) ((rd_T54 l0 x8_1).f1) false _ A6.out).mono ?_);rintro e w9 ⟨rfl,hb⟩;refine ⟨_,rfl, ?_⟩;have n0_:=am_ (below_step (by exact HB.out) hb);clear HB;have HB:=n0_;clear n0_;(try clear hb)))
       go_roundg k1
       case measure => have:=HK1.out;omega
       case rel => exact ⟨(wrap64 (x8_1 + 1)),(by rfl),H',⟨by have:=HK1.out;omega⟩,⟨by exact HB.out⟩⟩
     ·rw [if_neg c5] at H
      exact absurd H (by simp)
    ·rw [if_neg c4] at H
     exact absurd H (by simp)
   ·rw [if_neg c3] at H;have c3b0 : decide (x8_1 < (l0.length : Int)) = false:=decide_eq_false c3;clear c3;obtain rfl:=Option.some.inj H
    go_wp2
    go_ret
    exact ⟨by rfl,by exact HB.out⟩

/-! ### slices_ContainsFunc_impl_Wagon: function 51 -/
def slices_ContainsFunc_impl_Wagon.f (k : Nat) (l0 : List (S54))  : Option (Bool):=(slices_IndexFunc_impl_Wagon.f k l0).bind fun t159 => (some (decide (t159 ≥ 0)))
theorem slices_ContainsFunc_impl_Wagon.mono : ∀ a0 k,LeO (slices_ContainsFunc_impl_Wagon.f k a0) (slices_ContainsFunc_impl_Wagon.f (k + 1) a0):=by
 intro a0 k
 unfold slices_ContainsFunc_impl_Wagon.f
 repeat' first
   | (with_reducible exact slices_IndexFunc_impl_Wagon.mono _ _)
   | (with_reducible exact LeO.refl _)
   | (with_reducible exact LeO.none _)
   | (with_reducible refine LeO.ite ?_ ?_)
   | (with_reducible refine LeO.bind ?_ (fun _ => ?_))
   | exact slices_IndexFunc_impl_Wagon.mono _ _
   | exact LeO.none _
   | refine LeO.ite ?_ ?_
   | refine LeO.bind ?_ (fun _ => ?_)
set_option maxHeartbeats 8000000 in
set_option maxRecDepth 100000 in
theorem slices_ContainsFunc_impl_Wagon.calls (k : Nat) (A0 : Option Addr) (c0 : Nat) (l0 : List (S54))  (r : Bool) (w : World) (hr0 : Kd.C k54 w A0 l0.length l0) (hc0 : l0.length ≤ c0) (h : slices_ContainsFunc_impl_Wagon.f k l0 = some r) :
  Calls Try.prog 51 #[.slice A0 l0.length c0,(.func (.func 52) #[] #[])] w fun e w' => e = .returned (.bool r) ∧ Below w.heap.size w w':=by
 have HR0:=am_ hr0;have HC0:=am_ hc0;clear hr0 hc0;have HB:=am_ (Below.refl w.heap.size w);have H : ((slices_IndexFunc_impl_Wagon.f k l0).bind fun t159 => (some (decide (t159 ≥ 0)))) = some r:=h;clear h;replace H:=Option.bind_eq_some_iff.mp H;obtain ⟨t159,A30,H⟩ := H;replace H : (some (decide (t159 ≥ 0))) = some r:=H;have A3:=am_ A30;clear A30;obtain rfl:=Option.some.inj H
 go_enter Try.func51,Try.ntmps51
 go_wp2_with (((with_reducible refine gate_callee (f:=78) rfl ?_);refine goesL_ (some 7) rfl rfl Try.func78 (by kernel_rfl) rfl #[.slice A0 l0.length c0,(.func (.func 52) #[] #[])] rfl (by (try simp only [List.map_toArray,List.map_cons,List.map_nil]);rfl) ?_;(with_reducible refine (slices_IndexFunc_impl_Wagon.calls k _ _ l0  t159 _ ?side1 ?side2 A3.out).mono ?_);(case side1 => repeat (exact HR0.out));(case side2 => exact HC0.out);rintro e w4 ⟨rfl,hb⟩;refine ⟨_,rfl, ?_⟩;have n0_:=am_ (below_step (by exact HB.out) hb);clear HB;have HB:=n0_;clear n0_;(try clear hb)))
 go_ret
 exact ⟨by rfl,by exact HB.out⟩

/-! ### impl_IsValidTrain: function 20 -/
def impl_IsValidTrain.f (k : Nat) (l0 : List (S54)) : Option (Bool):=(impl_within.f (l0.length : Int) 1 8).bind fun t160 => (if t160 = true then ((slices_ContainsFunc_impl_Wagon.f k l0).bind fun t161 => (some (!t161))) else (some false))
theorem impl_IsValidTrain.mono : ∀ a0 k,LeO (impl_IsValidTrain.f k a0) (impl_IsValidTrain.f (k + 1) a0):=by
 intro a0 k
 unfold impl_IsValidTrain.f
 repeat' first
   | (with_reducible exact slices_ContainsFunc_impl_Wagon.mono _ _)
   | (with_reducible exact LeO.refl _)
   | (with_reducible exact LeO.none _)
   | (with_reducible refine LeO.ite ?_ ?_)
   | (with_reducible refine LeO.bind ?_ (fun _ => ?_))
   | exact slices_ContainsFunc_impl_Wagon.mono _ _
   | exact LeO.none _
   | refine LeO.ite ?_ ?_
   | refine LeO.bind ?_ (fun _ => ?_)
set_option maxHeartbeats 8000000 in
set_option maxRecDepth 100000 in
theorem impl_IsValidTrain.calls (k : Nat) (A0 : Option Addr) (c0 : Nat) (l0 : List (S54)) (r : Bool) (w : World) (hr0 : Kd.C k54 w A0 l0.length l0) (hc0 : l0.length ≤ c0) (h : impl_IsValidTrain.f k l0 = some r) :
  Calls Try.prog 20 #[.slice A0 l0.length c0] w fun e w' => e = .returned (.bool r) ∧ Below w.heap.size w w':=by
 have HR0:=am_ hr0;have HC0:=am_ hc0;clear hr0 hc0;have HB:=am_ (Below.refl w.heap.size w);have H : ((impl_within.f (l0.length : Int) 1 8).bind fun t160 => (if t160 = true then ((slices_ContainsFunc_impl_Wagon.f k l0).bind fun t161 => (some (!t161))) else (some false))) = some r:=h;clear h;replace H:=Option.bind_eq_some_iff.mp H;obtain ⟨t160,A20,H⟩ := H;replace H : (if t160 = true then ((slices_ContainsFunc_impl_Wagon.f k l0).bind fun t161 => (some (!t161))) else (some false)) = some r:=H;have A2:=am_ A20;clear A20
 by_cases c3 : t160 = true
 ·subst c3
  have H1 : ((slices_ContainsFunc_impl_Wagon.f k l0).bind fun t161 => (some (!t161))) = some r:=by rw [if_pos rfl] at H;exact H
  clear H;have H:=H1;clear H1;replace H:=Option.bind_eq_some_iff.mp H;obtain ⟨t161,A40,H⟩ := H;replace H : (some (!t161)) = some r:=H;have A4:=am_ A40;clear A40;obtain rfl:=Option.some.inj H
  go_enter Try.func20,Try.ntmps20
  go_wp2_with (first | ((with_reducible refine gate_callee (f:=50) rfl ?_);refine goesL_ (some 5) rfl rfl Try.func50 (by kernel_rfl) rfl #[.int .i64 (l0.length : Int), .int .i64 1, .int .i64 8] rfl (by (try simp only [List.map_toArray,List.map_cons,List.map_nil]);rfl) ?_;(with_reducible refine (impl_within.calls (l0.length : Int) 1 8 true _ A2.out).mono ?_);rintro e w' ⟨rfl,⟨nd,rfl⟩⟩;refine ⟨_,rfl, ?_⟩) | (go_at_call 51;(with_reducible refine (slices_ContainsFunc_impl_Wagon.calls k _ _ l0  t161 _ ?side1 ?side2 A4.out).mono ?_);(case side1 => repeat (exact HR0.out));(case side2 => exact HC0.out);rintro e w5 ⟨rfl,hb⟩;have n0_:=am_ (below_step (by repeat ((with_reducible first | exact HB.out | apply pw_below_drewN))) hb);clear HB;have HB:=n0_;clear n0_;(try clear hb)))
  go_ret
  exact ⟨by rfl,by exact HB.out⟩
 ·replace c3:=Bool.eq_false_iff.mpr c3;subst c3
  have H1 : (some false) = some r:=by rw [if_neg (show ¬ (false = true) by decide)] at H;exact H
  clear H;have H:=H1;clear H1;obtain rfl:=Option.some.inj H
  go_enter Try.func20,Try.ntmps20
  go_wp2_with (((with_reducible refine gate_callee (f:=50) rfl ?_);refine goesL_ (some 5) rfl rfl Try.func50 (by kernel_rfl) rfl #[.int .i64 (l0.length : Int), .int .i64 1, .int .i64 8] rfl (by (try simp only [List.map_toArray,List.map_cons,List.map_nil]);rfl) ?_;(with_reducible refine (impl_within.calls (l0.length : Int) 1 8 false _ A2.out).mono ?_);rintro e w' ⟨rfl,⟨nd,rfl⟩⟩;refine ⟨_,rfl, ?_⟩))
  go_ret
  exact ⟨by rfl,by repeat ((with_reducible first | exact HB.out | apply pw_below_drewN))⟩

/-! ### impl_checkLetter: function 89 -/
mutual
def impl_checkLetter.l0 : Nat → ByteArray → Int → Int → Int → Option (Int × Bool)
 | 0,_,_,_,_ => none
 | k + 1,x0,x4,x11,x12 => if x12 < x11 then (if 0 ≤ x12 then (if x12 < (x0.size : Int) then (if x12 < 3 then (if (bt x0 x12) ≥ 65 then (impl_checkLetter.j1 k x0 x4 x12 (bt x0 x12) x11 x12 (decide ((bt x0 x12) ≤ 90))) else (impl_checkLetter.j1 k x0 x4 x12 (bt x0 x12) x11 x12 false)) else (impl_checkLetter.j1 k x0 x4 x12 (bt x0 x12) x11 x12 false)) else (none)) else (none)) else (some ((wrap64 (65 + (Int.tmod x4 23))) % 256,true))
def impl_checkLetter.j1 : Nat → ByteArray → Int → Int → Int → Int → Int → Bool → Option (Int × Bool)
 | 0,_,_,_,_,_,_,_ => none
 | k + 1,x0,x4,x5,x6,x11,x12,x18 => if x18 = true then (impl_checkLetter.l0 k x0 (wrap64 (x4 + (wrap64 ((wrap64 (x5 + 2)) * (((x6 - 65) % 256) + 1))))) x11 (wrap64 (x12 + 1))) else (if x5 ≥ 3 then (if x6 ≥ 48 then (if x6 ≤ 57 then (impl_checkLetter.l0 k x0 (wrap64 (x4 + (wrap64 ((wrap64 (x5 + 2)) * ((x6 - 48) % 256))))) x11 (wrap64 (x12 + 1))) else (some (0,false))) else (some (0,false))) else (some (0,false)))
end
def impl_checkLetter.f (k : Nat) (a0 : ByteArray) : Option (Int × Bool):=if (a0.size : Int) = 7 then (impl_checkLetter.l0 k a0 0 (a0.size : Int) 0) else (some (0,false))
theorem impl_checkLetter.mono_l : ∀ k,(∀ y0 y1 y2 y3,LeO (impl_checkLetter.l0 k y0 y1 y2 y3) (impl_checkLetter.l0 (k + 1) y0 y1 y2 y3)) ∧ (∀ y0 y1 y2 y3 y4 y5 y6,LeO (impl_checkLetter.j1 k y0 y1 y2 y3 y4 y5 y6) (impl_checkLetter.j1 (k + 1) y0 y1 y2 y3 y4 y5 y6))
 | 0 => ⟨fun _ _ _ _ r h => by simp [impl_checkLetter.l0] at h,fun _ _ _ _ _ _ _ r h => by simp [impl_checkLetter.j1] at h⟩
 | k + 1 => by
  obtain ⟨ih0,ih1⟩ := impl_checkLetter.mono_l k;refine ⟨?_, ?_⟩
  ·intro y0 y1 y2 y3
   unfold impl_checkLetter.l0
   repeat' first
   | (with_reducible exact ih0 _ _ _ _)
   | (with_reducible exact ih1 _ _ _ _ _ _ _)
   | (with_reducible exact LeO.refl _)
   | (with_reducible exact LeO.none _)
   | (with_reducible refine LeO.ite ?_ ?_)
   | (with_reducible refine LeO.bind ?_ (fun _ => ?_))
   | exact ih0 _ _ _ _
   | exact ih1 _ _ _ _ _ _ _
   | exact LeO.none _
   | refine LeO.ite ?_ ?_
   | refine LeO.bind ?_ (fun _ => ?_)
  ·intro y0 y1 y2 y3 y4 y5 y6
   unfold impl_checkLetter.j1
   repeat' first
   | (with_reducible exact ih0 _ _ _ _)
   | (with_reducible exact ih1 _ _ _ _ _ _ _)
   | (with_reducible exact LeO.refl _)
   | (with_reducible exact LeO.none _)
   | (with_reducible refine LeO.ite ?_ ?_)
   | (with_reducible refine LeO.bind ?_ (fun _ => ?_))
   | exact ih0 _ _ _ _
   | exact ih1 _ _ _ _ _ _ _
   | exact LeO.none _
   | refine LeO.ite ?_ ?_
   | refine LeO.bind ?_ (fun _ => ?_)
theorem impl_checkLetter.mono : ∀ a0 k,LeO (impl_checkLetter.f k a0) (impl_checkLetter.f (k + 1) a0):=by
 intro a0 k;obtain ⟨ih0,ih1⟩ := impl_checkLetter.mono_l k
 unfold impl_checkLetter.f
 repeat' first
   | (with_reducible exact ih0 _ _ _ _)
   | (with_reducible exact ih1 _ _ _ _ _ _ _)
   | (with_reducible exact LeO.refl _)
   | (with_reducible exact LeO.none _)
   | (with_reducible refine LeO.ite ?_ ?_)
   | (with_reducible refine LeO.bind ?_ (fun _ => ?_))
   | exact ih0 _ _ _ _
   | exact ih1 _ _ _ _ _ _ _
   | exact LeO.none _
   | refine LeO.ite ?_ ?_
   | refine LeO.bind ?_ (fun _ => ?_)
set_option maxHeartbeats 8000000 in
set_option maxRecDepth 100000 in
theorem impl_checkLetter.calls (k : Nat) (a0 : ByteArray) (r1 : Int) (r2 : Bool) (w : World) (h : impl_checkLetter.f k a0 = some (r1,r2)) :
  Calls Try.prog 89 #[.string a0] w fun e w' => e = .returned (.tuple #[.int .u8 r1, .bool r2]) ∧ Drawn0 w w':=by
 have H : (if (a0.size : Int) = 7 then (impl_checkLetter.l0 k a0 0 (a0.size : Int) 0) else (some (0,false))) = some (r1,r2):=h;clear h
 by_cases c2 : (a0.size : Int) = 7
 ·rw [if_pos c2] at H;have c2b0 : ((a0.size : Int) == 7) = true:=beq_iff_eq.mpr c2;have c2b1 : ((a0.size : Int) != 7) = false:=bne_eq_false_iff_eq.mpr c2;clear c2;have H':=am_ H;clear H
  go_enter Try.func89,Try.ntmps89
  go_wp2
  (skip)
  go_loopg [4,12] k (fun kq v4 v12 w' => ∃ (x4_1 : Int) (x12_1 : Int),v4 = .int .i64 x4_1 ∧ v12 = .int .i64 x12_1 ∧ Aside0 (impl_checkLetter.l0 kq a0 x4_1 (a0.size : Int) x12_1 = some (r1,r2)) ∧ Aside0 (kq ≤ k) ∧ Drawn0 w w')
  case atStart => exact ⟨(0),(0),(by rfl),(by rfl),H',⟨Nat.le_refl _⟩,by repeat (exact Drawn0.refl _)⟩
  case round =>
   clear H';(try clear c2);(try clear c2b0);(try clear c2b1);(try clear p2);obtain ⟨x4_1,x12_1,rfl,rfl,HA,HK1,⟨m1,rfl⟩⟩ := hrel
   cases gk with
   | zero => exact absurd HA.out (by simp [impl_checkLetter.l0])
   | succ k1 =>
    have H:=HA.out;clear HA;simp only [impl_checkLetter.l0] at H
    by_cases c3 : x12_1 < (a0.size : Int)
    ·rw [if_pos c3] at H;have c3b0 : decide (x12_1 < (a0.size : Int)) = true:=decide_eq_true c3;clear c3
     by_cases c4 : 0 ≤ x12_1
     ·rw [if_pos c4] at H;have c4b0 : decide (0 ≤ x12_1) = true:=decide_eq_true c4;clear c4
      by_cases c5 : x12_1 < (a0.size : Int)
      ·rw [if_pos c5] at H;have c5b0 : decide (x12_1 < (a0.size : Int)) = true:=decide_eq_true c5;clear c5;have HC7:=am_ H;clear H;have p6 : 0 ≤ (x12_1 : Int):=of_decide_eq_true (by (with_reducible assumption));have q6 : x12_1 < (a0.size : Int):=of_decide_eq_true (by (with_reducible assumption));have hx6:=bt_at a0 x12_1;replace p6:=eq_true p6;replace q6:=eq_true q6
       go_upto_region 9 with (fail)
       go_cut [18] (fun v18 wc => ∃ (kq : Nat) (x18_6 : Bool),v18 = .bool x18_6 ∧ Aside0 (impl_checkLetter.j1 kq a0 x4_1 x12_1 (bt a0 x12_1) (a0.size : Int) x12_1 x18_6 = some (r1,r2)) ∧ Aside0 (kq ≤ k1) ∧ Drawn0 w wc)
       case first =>
        have H:=HC7.out;clear HC7
        by_cases c8 : x12_1 < 3
        ·rw [if_pos c8] at H;have c8b0 : decide (x12_1 < 3) = true:=decide_eq_true c8;clear c8
         (skip)
         by_cases c9 : (bt a0 x12_1) ≥ 65
         ·rw [if_pos c9] at H;have c9b0 : decide (65 ≤ (bt a0 x12_1)) = true:=decide_eq_true c9;clear c9;have H':=am_ H;clear H
          go_wp2
          go_meet
          case rel => exact ⟨_,(decide ((bt a0 x12_1) ≤ 90)),(by rfl),H',⟨by have:=HK1.out;omega⟩,by repeat (first | exact Drawn0.refl _ | apply Drawn0.step)⟩
         ·rw [if_neg c9] at H;have c9b0 : decide (65 ≤ (bt a0 x12_1)) = false:=decide_eq_false c9;clear c9;have H':=am_ H;clear H
          go_wp2
          go_meet
          case rel => exact ⟨_,(false),(by rfl),H',⟨by have:=HK1.out;omega⟩,by repeat (first | exact Drawn0.refl _ | apply Drawn0.step)⟩
        ·rw [if_neg c8] at H;have c8b0 : decide (x12_1 < 3) = false:=decide_eq_false c8;clear c8
         (skip)
         have H':=am_ H;clear H
         go_wp2
         go_meet
         case rel => exact ⟨_,(false),(by rfl),H',⟨by have:=HK1.out;omega⟩,by repeat (first | exact Drawn0.refl _ | apply Drawn0.step)⟩
       case rest =>
        clear HC7;(try clear c2);(try clear c2b0);(try clear c2b1);(try clear p2);(try clear c3);(try clear c3b0);(try clear c4);(try clear c4b0);(try clear c5);(try clear c5b0);(try clear p6);(try clear q6);(try clear hx6);(try clear c8);(try clear c8b0);(try clear c9);(try clear c9b0);(try clear p2);(try clear p6);(try clear q6);obtain ⟨kq,x18_6,rfl,HA,HJ6,⟨mc6,rfl⟩⟩ := hcut
        cases kq with
        | zero => exact absurd HA.out (by simp [impl_checkLetter.j1])
        | succ kj6 =>
         have H:=HA.out;clear HA;simp only [impl_checkLetter.j1] at H
         by_cases c10 : x18_6 = true
         ·subst c10
          have H1 : (impl_checkLetter.l0 kj6 a0 (wrap64 (x4_1 + (wrap64 ((wrap64 (x12_1 + 2)) * ((((bt a0 x12_1) - 65) % 256) + 1))))) (a0.size : Int) (wrap64 (x12_1 + 1))) = some (r1,r2):=by rw [if_pos rfl] at H;exact H
          clear H;have H:=H1;clear H1;have H':=am_ H;clear H
          go_wp2
          go_roundg kj6
          case measure => have:=HK1.out;have:=HJ6.out;omega
          case rel => exact ⟨(wrap64 (x4_1 + (wrap64 ((wrap64 (x12_1 + 2)) * ((((bt a0 x12_1) - 65) % 256) + 1))))),(wrap64 (x12_1 + 1)),(by rfl),(by rfl),H',⟨by have:=HK1.out;have:=HJ6.out;omega⟩,by repeat (first | exact Drawn0.refl _ | apply Drawn0.step)⟩
         ·replace c10:=Bool.eq_false_iff.mpr c10;subst c10
          have H1 : (if x12_1 ≥ 3 then (if (bt a0 x12_1) ≥ 48 then (if (bt a0 x12_1) ≤ 57 then (impl_checkLetter.l0 kj6 a0 (wrap64 (x4_1 + (wrap64 ((wrap64 (x12_1 + 2)) * (((bt a0 x12_1) - 48) % 256))))) (a0.size : Int) (wrap64 (x12_1 + 1))) else (some (0,false))) else (some (0,false))) else (some (0,false))) = some (r1,r2):=by rw [if_neg (show ¬ (false = true) by decide)] at H;exact H
          clear H;have H:=H1;clear H1
          by_cases c11 : x12_1 ≥ 3
          ·rw [if_pos c11] at H;have c11b0 : decide (3 ≤ x12_1) = true:=decide_eq_true c11;clear c11
           by_cases c12 : (bt a0 x12_1) ≥ 48
           ·rw [if_pos c12] at H;have c12b0 : decide (48 ≤ (bt a0 x12_1)) = true:=decide_eq_true c12;clear c12
            by_cases c13 : (bt a0 x12_1) ≤ 57
            ·rw [if_pos c13] at H;have c13b0 : decide ((bt a0 x12_1) ≤ 57) = true:=decide_eq_true c13;clear c13;have H':=am_ H;clear H
             go_wp2
             go_roundg kj6
             case measure => have:=HK1.out;have:=HJ6.out;omega
             case rel => exact ⟨(wrap64 (x4_1 + (wrap64 ((wrap64 (x12_1 + 2)) * (((bt a0 x12_1) - 48) % 256))))),(wrap64 (x12_1 + 1)),(by rfl),(by rfl),H',⟨by have:=HK1.out;have:=HJ6.out;omega⟩,by repeat (first | exact Drawn0.refl _ | apply Drawn0.step)⟩
            ·rw [if_neg c13] at H;have c13b0 : decide ((bt a0 x12_1) ≤ 57) = false:=decide_eq_false c13;clear c13;simp only [Option.some.injEq,Prod.mk.injEq] at H;obtain ⟨rfl,rfl⟩ := H
             go_wp2
             go_ret2
             exact ⟨by rfl,by repeat (first | exact Drawn0.refl _ | apply Drawn0.step)⟩
           ·rw [if_neg c12] at H;have c12b0 : decide (48 ≤ (bt a0 x12_1)) = false:=decide_eq_false c12;clear c12;simp only [Option.some.injEq,Prod.mk.injEq] at H;obtain ⟨rfl,rfl⟩ := H
            go_wp2
            go_ret2
            exact ⟨by rfl,by repeat (first | exact Drawn0.refl _ | apply Drawn0.step)⟩
          ·rw [if_neg c11] at H;have c11b0 : decide (3 ≤ x12_1) = false:=decide_eq_false c11;clear c11;simp only [Option.some.injEq,Prod.mk.injEq] at H;obtain ⟨rfl,rfl⟩ := H
           go_wp2
           go_ret2
           exact ⟨by rfl,by repeat (first | exact Drawn0.refl _ | apply Drawn0.step)⟩
      ·rw [if_neg c5] at H
       exact absurd H (by simp)
     ·rw [if_neg c4] at H
      exact absurd H (by simp)
    ·rw [if_neg c3] at H;have c3b0 : decide (x12_1 < (a0.size : Int)) = false:=decide_eq_false c3;clear c3;simp only [Option.some.injEq,Prod.mk.injEq] at H;obtain ⟨rfl,rfl⟩ := H
     go_wp2
     go_ret2
     exact ⟨by rfl,by repeat (first | exact Drawn0.refl _ | apply Drawn0.step)⟩
 ·rw [if_neg c2] at H;have c2b0 : ((a0.size : Int) == 7) = false:=beq_eq_false_iff_ne.mpr c2;have c2b1 : ((a0.size : Int) != 7) = true:=bne_iff_ne.mpr c2;simp only [Option.some.injEq,Prod.mk.injEq] at H;obtain ⟨rfl,rfl⟩ := H
  go_enter Try.func89,Try.ntmps89
  go_wp2
  go_ret2
  exact ⟨by rfl,by repeat (exact Drawn0.refl _)⟩

/-! ### impl_IsValidId: function 82 -/
def impl_IsValidId.f (k : Nat) (a0 : ByteArray) : Option (Bool):=if (a0.size : Int) = 8 then (if 0 ≤ 7 then (if 7 ≤ (a0.size : Int) then ((impl_checkLetter.f k (a0.extract 0 7)).bind fun bt162 => (if bt162.2 = true then (if 7 < (a0.size : Int) then (some ((bt a0 7) == bt162.1)) else (none)) else (some false))) else (none)) else (none)) else (some false)
theorem impl_IsValidId.mono : ∀ a0 k,LeO (impl_IsValidId.f k a0) (impl_IsValidId.f (k + 1) a0):=by
 intro a0 k
 unfold impl_IsValidId.f
 repeat' first
   | (with_reducible exact impl_checkLetter.mono _ _)
   | (with_reducible exact LeO.refl _)
   | (with_reducible exact LeO.none _)
   | (with_reducible refine LeO.ite ?_ ?_)
   | (with_reducible refine LeO.bind ?_ (fun _ => ?_))
   | exact impl_checkLetter.mono _ _
   | exact LeO.none _
   | refine LeO.ite ?_ ?_
   | refine LeO.bind ?_ (fun _ => ?_)
set_option maxHeartbeats 8000000 in
set_option maxRecDepth 100000 in
theorem impl_IsValidId.calls (k : Nat) (a0 : ByteArray) (r : Bool) (w : World) (h : impl_IsValidId.f k a0 = some r) :
  Calls Try.prog 82 #[.string a0] w fun e w' => e = .returned (.bool r) ∧ Drawn0 w w':=by
 have H : (if (a0.size : Int) = 8 then (if 0 ≤ 7 then (if 7 ≤ (a0.size : Int) then ((impl_checkLetter.f k (a0.extract 0 7)).bind fun bt162 => (if bt162.2 = true then (if 7 < (a0.size : Int) then (some ((bt a0 7) == bt162.1)) else (none)) else (some false))) else (none)) else (none)) else (some false)) = some r:=h;clear h
 by_cases c2 : (a0.size : Int) = 8
 ·rw [if_pos c2] at H;have c2b0 : ((a0.size : Int) == 8) = true:=beq_iff_eq.mpr c2;have c2b1 : ((a0.size : Int) != 8) = false:=bne_eq_false_iff_eq.mpr c2;clear c2
  by_cases c3 : 0 ≤ 7
  ·rw [if_pos c3] at H;have c3b0:=eq_true c3;have c3b1 : decide (0 ≤ 7) = true:=decide_eq_true c3;clear c3
   by_cases c4 : 7 ≤ (a0.size : Int)
   ·rw [if_pos c4] at H;have c4b0:=eq_true c4;have c4b1 : decide (7 ≤ (a0.size : Int)) = true:=decide_eq_true c4;clear c4;replace H:=Option.bind_eq_some_iff.mp H;obtain ⟨⟨t162,t163⟩,A50,H⟩ := H;replace H : (if t163 = true then (if 7 < (a0.size : Int) then (some ((bt a0 7) == t162)) else (none)) else (some false)) = some r:=H;have A5:=am_ A50;clear A50
    by_cases c6 : t163 = true
    ·subst c6
     have H1 : (if 7 < (a0.size : Int) then (some ((bt a0 7) == t162)) else (none)) = some r:=by rw [if_pos rfl] at H;exact H
     clear H;have H:=H1;clear H1
     by_cases c7 : 7 < (a0.size : Int)
     ·rw [if_pos c7] at H;have c7b0 : decide (7 < (a0.size : Int)) = true:=decide_eq_true c7;have c7b1 : decide (7 < a0.size) = true:=decide_eq_true (by omega);clear c7;obtain rfl:=Option.some.inj H
      go_enter Try.func82,Try.ntmps82
      go_wp2_with (((with_reducible refine gate_callee (f:=89) rfl ?_);refine goesL_ (some 11) rfl rfl Try.func89 (by kernel_rfl) rfl #[.string (a0.extract 0 7)] rfl (by (try simp only [List.map_toArray,List.map_cons,List.map_nil]);rfl) ?_;(with_reducible refine (impl_checkLetter.calls k (a0.extract 0 7) t162 true _ A5.out).mono ?_);rintro e w' ⟨rfl,⟨nd,rfl⟩⟩;refine ⟨_,rfl, ?_⟩;have p8 : 0 ≤ (7 : Int):=(by omega);have q8 : 7 < a0.size:=(by have : (7 : Int) < (a0.size : Int):=of_decide_eq_true (by (with_reducible assumption));omega);have hx8 : ∀ h : 7 < a0.size,((a0[7]'h).toNat : Int) = bt a0 7:=bt_at a0 7;clear p8;have qi8 : (7 < (a0.size : Int)) = True:=eq_true (of_decide_eq_true (by (with_reducible assumption)));replace q8:=eq_true q8))
      go_ret
      exact ⟨by rfl,by repeat (first | exact Drawn0.refl _ | apply Drawn0.step)⟩
     ·rw [if_neg c7] at H
      exact absurd H (by simp)
    ·replace c6:=Bool.eq_false_iff.mpr c6;subst c6
     have H1 : (some false) = some r:=by rw [if_neg (show ¬ (false = true) by decide)] at H;exact H
     clear H;have H:=H1;clear H1;obtain rfl:=Option.some.inj H
     go_enter Try.func82,Try.ntmps82
     go_wp2_with (((with_reducible refine gate_callee (f:=89) rfl ?_);refine goesL_ (some 11) rfl rfl Try.func89 (by kernel_rfl) rfl #[.string (a0.extract 0 7)] rfl (by (try simp only [List.map_toArray,List.map_cons,List.map_nil]);rfl) ?_;(with_reducible refine (impl_checkLetter.calls k (a0.extract 0 7) t162 false _ A5.out).mono ?_);rintro e w' ⟨rfl,⟨nd,rfl⟩⟩;refine ⟨_,rfl, ?_⟩))
     go_ret
     exact ⟨by rfl,by repeat (first | exact Drawn0.refl _ | apply Drawn0.step)⟩
   ·rw [if_neg c4] at H
    exact absurd H (by simp)
  ·rw [if_neg c3] at H
   exact absurd H (by simp)
 ·rw [if_neg c2] at H;have c2b0 : ((a0.size : Int) == 8) = false:=beq_eq_false_iff_ne.mpr c2;have c2b1 : ((a0.size : Int) != 8) = true:=bne_iff_ne.mpr c2;obtain rfl:=Option.some.inj H
  go_enter Try.func82,Try.ntmps82
  go_wp2
  go_ret
  exact ⟨by rfl,by repeat (exact Drawn0.refl _)⟩

/-! ### impl_IsValidContainer: function 69 -/
def impl_IsValidContainer.f (k : Nat) (a0_0 : ByteArray) (a0_1 : Int) (a0_2 : Int) (a0_3 : Int) (a0_4 : Int) : Option (Bool):=(impl_IsValidId.f k a0_0).bind fun t165 => (if t165 = true then ((impl_within.f a0_1 1 2).bind fun t166 => (if t166 = true then ((impl_within.f a0_3 1 3).bind fun t167 => (if t167 = true then ((impl_within.f a0_2 1 32000).bind fun t168 => (if t168 = true then ((impl_within.f a0_4 1 9).bind fun t169 => (some t169)) else (some false))) else (some false))) else (some false))) else (some false))
theorem impl_IsValidContainer.mono : ∀ a0 a1 a2 a3 a4 k,LeO (impl_IsValidContainer.f k a0 a1 a2 a3 a4) (impl_IsValidContainer.f (k + 1) a0 a1 a2 a3 a4):=by
 intro a0 a1 a2 a3 a4 k
 unfold impl_IsValidContainer.f
 repeat' first
   | (with_reducible exact impl_IsValidId.mono _ _)
   | (with_reducible exact LeO.refl _)
   | (with_reducible exact LeO.none _)
   | (with_reducible refine LeO.ite ?_ ?_)
   | (with_reducible refine LeO.bind ?_ (fun _ => ?_))
   | exact impl_IsValidId.mono _ _
   | exact LeO.none _
   | refine LeO.ite ?_ ?_
   | refine LeO.bind ?_ (fun _ => ?_)
set_option maxHeartbeats 8000000 in
set_option maxRecDepth 100000 in
theorem impl_IsValidContainer.calls (k : Nat) (a0_0 : ByteArray) (a0_1 : Int) (a0_2 : Int) (a0_3 : Int) (a0_4 : Int) (r : Bool) (w : World) (h : impl_IsValidContainer.f k a0_0 a0_1 a0_2 a0_3 a0_4 = some r) :
  Calls Try.prog 69 #[.agg #[.string a0_0, .int .i64 a0_1, .int .i64 a0_2, .int .i64 a0_3, .int .i64 a0_4]] w fun e w' => e = .returned (.bool r) ∧ Below w.heap.size w w':=by
 have hu64:=Try.underlying64;have HB:=am_ (Below.refl w.heap.size w);have H : ((impl_IsValidId.f k a0_0).bind fun t165 => (if t165 = true then ((impl_within.f a0_1 1 2).bind fun t166 => (if t166 = true then ((impl_within.f a0_3 1 3).bind fun t167 => (if t167 = true then ((impl_within.f a0_2 1 32000).bind fun t168 => (if t168 = true then ((impl_within.f a0_4 1 9).bind fun t169 => (some t169)) else (some false))) else (some false))) else (some false))) else (some false))) = some r:=h;clear h;replace H:=Option.bind_eq_some_iff.mp H;obtain ⟨t165,A20,H⟩ := H;replace H : (if t165 = true then ((impl_within.f a0_1 1 2).bind fun t166 => (if t166 = true then ((impl_within.f a0_3 1 3).bind fun t167 => (if t167 = true then ((impl_within.f a0_2 1 32000).bind fun t168 => (if t168 = true then ((impl_within.f a0_4 1 9).bind fun t169 => (some t169)) else (some false))) else (some false))) else (some false))) else (some false)) = some r:=H;have A2:=am_ A20;clear A20
 by_cases c3 : t165 = true
 ·subst c3
  have H1 : ((impl_within.f a0_1 1 2).bind fun t166 => (if t166 = true then ((impl_within.f a0_3 1 3).bind fun t167 => (if t167 = true then ((impl_within.f a0_2 1 32000).bind fun t168 => (if t168 = true then ((impl_within.f a0_4 1 9).bind fun t169 => (some t169)) else (some false))) else (some false))) else (some false))) = some r:=by rw [if_pos rfl] at H;exact H
  clear H;have H:=H1;clear H1;replace H:=Option.bind_eq_some_iff.mp H;obtain ⟨t166,A40,H⟩ := H;replace H : (if t166 = true then ((impl_within.f a0_3 1 3).bind fun t167 => (if t167 = true then ((impl_within.f a0_2 1 32000).bind fun t168 => (if t168 = true then ((impl_within.f a0_4 1 9).bind fun t169 => (some t169)) else (some false))) else (some false))) else (some false)) = some r:=H;have A4:=am_ A40;clear A40
  by_cases c5 : t166 = true
  ·subst c5
   have H1 : ((impl_within.f a0_3 1 3).bind fun t167 => (if t167 = true then ((impl_within.f a0_2 1 32000).bind fun t168 => (if t168 = true then ((impl_within.f a0_4 1 9).bind fun t169 => (some t169)) else (some false))) else (some false))) = some r:=by rw [if_pos rfl] at H;exact H
   clear H;have H:=H1;clear H1;replace H:=Option.bind_eq_some_iff.mp H;obtain ⟨t167,A60,H⟩ := H;replace H : (if t167 = true then ((impl_within.f a0_2 1 32000).bind fun t168 => (if t168 = true then ((impl_within.f a0_4 1 9).bind fun t169 => (some t169)) else (some false))) else (some false)) = some r:=H;have A6:=am_ A60;clear A60
   by_cases c7 : t167 = true
   ·subst c7
    have H1 : ((impl_within.f a0_2 1 32000).bind fun t168 => (if t168 = true then ((impl_within.f a0_4 1 9).bind fun t169 => (some t169)) else (some false))) = some r:=by rw [if_pos rfl] at H;exact H
    clear H;have H:=H1;clear H1;replace H:=Option.bind_eq_some_iff.mp H;obtain ⟨t168,A80,H⟩ := H;replace H : (if t168 = true then ((impl_within.f a0_4 1 9).bind fun t169 => (some t169)) else (some false)) = some r:=H;have A8:=am_ A80;clear A80
    by_cases c9 : t168 = true
    ·subst c9
     have H1 : ((impl_within.f a0_4 1 9).bind fun t169 => (some t169)) = some r:=by rw [if_pos rfl] at H;exact H
     clear H;have H:=H1;clear H1;replace H:=Option.bind_eq_some_iff.mp H;obtain ⟨t169,A100,H⟩ := H;replace H : (some t169) = some r:=H;have A10:=am_ A100;clear A100;obtain rfl:=Option.some.inj H
     go_enter Try.func69,Try.ntmps69
     go_wp2_with (first | ((with_reducible refine gate_dst (N:=1) rfl ?_);refine box_event ?hg (N:=1) ?hd (cs:=#[.string a0_0, .int .i64 a0_1, .int .i64 a0_2, .int .i64 a0_3, .int .i64 a0_4]) (t:=64) ?hr ?_;(case hd => rfl);(case hg => rfl);(case hr => (go_simp;done));intro gb164 hg w11 hbox hb;have n0_:=am_ (below_step (by exact HB.out) hb);have n1_:=am_ hbox;have n2_:=am_ (ge_ hg (by exact HB.out));have n3_:=am_ (ge_ hg (by exact HB.out));clear HB;have HB:=n0_;have BK164:=n1_;have GW164:=n2_;have GE164:=n3_;clear n0_ n1_ n2_ n3_;clear hb hbox hg;have hcz12_0 : w11.cell? ⟨gb164,0,none⟩ = some (.string a0_0):=(blk_cell BK164.out 0).trans rfl;have hcz12_1 : w11.cell? ⟨gb164,1,none⟩ = some (.int .i64 a0_1):=(blk_cell BK164.out 1).trans rfl;have hcz12_2 : w11.cell? ⟨gb164,2,none⟩ = some (.int .i64 a0_2):=(blk_cell BK164.out 2).trans rfl;have hcz12_3 : w11.cell? ⟨gb164,3,none⟩ = some (.int .i64 a0_3):=(blk_cell BK164.out 3).trans rfl;have hcz12_4 : w11.cell? ⟨gb164,4,none⟩ = some (.int .i64 a0_4):=(blk_cell BK164.out 4).trans rfl;have hfz12_0:=blk_frozen BK164.out 0;have hfz12_1:=blk_frozen BK164.out 1;have hfz12_2:=blk_frozen BK164.out 2;have hfz12_3:=blk_frozen BK164.out 3;have hfz12_4:=blk_frozen BK164.out 4) | ((with_reducible refine gate_callee (f:=82) rfl ?_);refine goesL_ (some 5) rfl rfl Try.func82 (by kernel_rfl) rfl #[.string a0_0] rfl (by (try simp only [List.map_toArray,List.map_cons,List.map_nil]);rfl) ?_;(with_reducible refine (impl_IsValidId.calls k a0_0 true _ A2.out).mono ?_);rintro e w' ⟨rfl,⟨nd,rfl⟩⟩;refine ⟨_,rfl, ?_⟩) | (go_at_call 50;(with_reducible refine (impl_within.calls a0_1 1 2 true _ A4.out).mono ?_);rintro e w' ⟨rfl,⟨nd,rfl⟩⟩) | (go_at_call 50;(with_reducible refine (impl_within.calls a0_3 1 3 true _ A6.out).mono ?_);rintro e w' ⟨rfl,⟨nd,rfl⟩⟩) | (go_at_call 50;(with_reducible refine (impl_within.calls a0_2 1 32000 true _ A8.out).mono ?_);rintro e w' ⟨rfl,⟨nd,rfl⟩⟩) | (go_at_call 50;(with_reducible refine (impl_within.calls a0_4 1 9 t169 _ A10.out).mono ?_);rintro e w' ⟨rfl,⟨nd,rfl⟩⟩))
     go_ret
     exact ⟨by rfl,by repeat ((with_reducible first | exact HB.out | apply pw_below_drewN))⟩
    ·replace c9:=Bool.eq_false_iff.mpr c9;subst c9
     have H1 : (some false) = some r:=by rw [if_neg (show ¬ (false = true) by decide)] at H;exact H
     clear H;have H:=H1;clear H1;obtain rfl:=Option.some.inj H
     go_enter Try.func69,Try.ntmps69
     go_wp2_with (first | ((with_reducible refine gate_dst (N:=1) rfl ?_);refine box_event ?hg (N:=1) ?hd (cs:=#[.string a0_0, .int .i64 a0_1, .int .i64 a0_2, .int .i64 a0_3, .int .i64 a0_4]) (t:=64) ?hr ?_;(case hd => rfl);(case hg => rfl);(case hr => (go_simp;done));intro gb164 hg w13 hbox hb;have n0_:=am_ (below_step (by exact HB.out) hb);have n1_:=am_ hbox;have n2_:=am_ (ge_ hg (by exact HB.out));have n3_:=am_ (ge_ hg (by exact HB.out));clear HB;have HB:=n0_;have BK164:=n1_;have GW164:=n2_;have GE164:=n3_;clear n0_ n1_ n2_ n3_;clear hb hbox hg;have hcz14_0 : w13.cell? ⟨gb164,0,none⟩ = some (.string a0_0):=(blk_cell BK164.out 0).trans rfl;have hcz14_1 : w13.cell? ⟨gb164,1,none⟩ = some (.int .i64 a0_1):=(blk_cell BK164.out 1).trans rfl;have hcz14_2 : w13.cell? ⟨gb164,2,none⟩ = some (.int .i64 a0_2):=(blk_cell BK164.out 2).trans rfl;have hcz14_3 : w13.cell? ⟨gb164,3,none⟩ = some (.int .i64 a0_3):=(blk_cell BK164.out 3).trans rfl;have hcz14_4 : w13.cell? ⟨gb164,4,none⟩ = some (.int .i64 a0_4):=(blk_cell BK164.out 4).trans rfl;have hfz14_0:=blk_frozen BK164.out 0;have hfz14_1:=blk_frozen BK164.out 1;have hfz14_2:=blk_frozen BK164.out 2;have hfz14_3:=blk_frozen BK164.out 3;have hfz14_4:=blk_frozen BK164.out 4) | ((with_reducible refine gate_callee (f:=82) rfl ?_);refine goesL_ (some 5) rfl rfl Try.func82 (by kernel_rfl) rfl #[.string a0_0] rfl (by (try simp only [List.map_toArray,List.map_cons,List.map_nil]);rfl) ?_;(with_reducible refine (impl_IsValidId.calls k a0_0 true _ A2.out).mono ?_);rintro e w' ⟨rfl,⟨nd,rfl⟩⟩;refine ⟨_,rfl, ?_⟩) | (go_at_call 50;(with_reducible refine (impl_within.calls a0_1 1 2 true _ A4.out).mono ?_);rintro e w' ⟨rfl,⟨nd,rfl⟩⟩) | (go_at_call 50;(with_reducible refine (impl_within.calls a0_3 1 3 true _ A6.out).mono ?_);rintro e w' ⟨rfl,⟨nd,rfl⟩⟩) | (go_at_call 50;(with_reducible refine (impl_within.calls a0_2 1 32000 false _ A8.out).mono ?_);rintro e w' ⟨rfl,⟨nd,rfl⟩⟩))
     go_ret
     exact ⟨by rfl,by repeat ((with_reducible first | exact HB.out | apply pw_below_drewN))⟩
   ·replace c7:=Bool.eq_false_iff.mpr c7;subst c7
    have H1 : (some false) = some r:=by rw [if_neg (show ¬ (false = true) by decide)] at H;exact H
    clear H;have H:=H1;clear H1;obtain rfl:=Option.some.inj H
    go_enter Try.func69,Try.ntmps69
    go_wp2_with (first | ((with_reducible refine gate_dst (N:=1) rfl ?_);refine box_event ?hg (N:=1) ?hd (cs:=#[.string a0_0, .int .i64 a0_1, .int .i64 a0_2, .int .i64 a0_3, .int .i64 a0_4]) (t:=64) ?hr ?_;(case hd => rfl);(case hg => rfl);(case hr => (go_simp;done));intro gb164 hg w15 hbox hb;have n0_:=am_ (below_step (by exact HB.out) hb);have n1_:=am_ hbox;have n2_:=am_ (ge_ hg (by exact HB.out));have n3_:=am_ (ge_ hg (by exact HB.out));clear HB;have HB:=n0_;have BK164:=n1_;have GW164:=n2_;have GE164:=n3_;clear n0_ n1_ n2_ n3_;clear hb hbox hg;have hcz16_0 : w15.cell? ⟨gb164,0,none⟩ = some (.string a0_0):=(blk_cell BK164.out 0).trans rfl;have hcz16_1 : w15.cell? ⟨gb164,1,none⟩ = some (.int .i64 a0_1):=(blk_cell BK164.out 1).trans rfl;have hcz16_2 : w15.cell? ⟨gb164,2,none⟩ = some (.int .i64 a0_2):=(blk_cell BK164.out 2).trans rfl;have hcz16_3 : w15.cell? ⟨gb164,3,none⟩ = some (.int .i64 a0_3):=(blk_cell BK164.out 3).trans rfl;have hcz16_4 : w15.cell? ⟨gb164,4,none⟩ = some (.int .i64 a0_4):=(blk_cell BK164.out 4).trans rfl;have hfz16_0:=blk_frozen BK164.out 0;have hfz16_1:=blk_frozen BK164.out 1;have hfz16_2:=blk_frozen BK164.out 2;have hfz16_3:=blk_frozen BK164.out 3;have hfz16_4:=blk_frozen BK164.out 4) | ((with_reducible refine gate_callee (f:=82) rfl ?_);refine goesL_ (some 5) rfl rfl Try.func82 (by kernel_rfl) rfl #[.string a0_0] rfl (by (try simp only [List.map_toArray,List.map_cons,List.map_nil]);rfl) ?_;(with_reducible refine (impl_IsValidId.calls k a0_0 true _ A2.out).mono ?_);rintro e w' ⟨rfl,⟨nd,rfl⟩⟩;refine ⟨_,rfl, ?_⟩) | (go_at_call 50;(with_reducible refine (impl_within.calls a0_1 1 2 true _ A4.out).mono ?_);rintro e w' ⟨rfl,⟨nd,rfl⟩⟩) | (go_at_call 50;(with_reducible refine (impl_within.calls a0_3 1 3 false _ A6.out).mono ?_);rintro e w' ⟨rfl,⟨nd,rfl⟩⟩))
    go_ret
    exact ⟨by rfl,by repeat ((with_reducible first | exact HB.out | apply pw_below_drewN))⟩
  ·replace c5:=Bool.eq_false_iff.mpr c5;subst c5
   have H1 : (some false) = some r:=by rw [if_neg (show ¬ (false = true) by decide)] at H;exact H
   clear H;have H:=H1;clear H1;obtain rfl:=Option.some.inj H
   go_enter Try.func69,Try.ntmps69
   go_wp2_with (first | ((with_reducible refine gate_dst (N:=1) rfl ?_);refine box_event ?hg (N:=1) ?hd (cs:=#[.string a0_0, .int .i64 a0_1, .int .i64 a0_2, .int .i64 a0_3, .int .i64 a0_4]) (t:=64) ?hr ?_;(case hd => rfl);(case hg => rfl);(case hr => (go_simp;done));intro gb164 hg w17 hbox hb;have n0_:=am_ (below_step (by exact HB.out) hb);have n1_:=am_ hbox;have n2_:=am_ (ge_ hg (by exact HB.out));have n3_:=am_ (ge_ hg (by exact HB.out));clear HB;have HB:=n0_;have BK164:=n1_;have GW164:=n2_;have GE164:=n3_;clear n0_ n1_ n2_ n3_;clear hb hbox hg;have hcz18_0 : w17.cell? ⟨gb164,0,none⟩ = some (.string a0_0):=(blk_cell BK164.out 0).trans rfl;have hcz18_1 : w17.cell? ⟨gb164,1,none⟩ = some (.int .i64 a0_1):=(blk_cell BK164.out 1).trans rfl;have hcz18_2 : w17.cell? ⟨gb164,2,none⟩ = some (.int .i64 a0_2):=(blk_cell BK164.out 2).trans rfl;have hcz18_3 : w17.cell? ⟨gb164,3,none⟩ = some (.int .i64 a0_3):=(blk_cell BK164.out 3).trans rfl;have hcz18_4 : w17.cell? ⟨gb164,4,none⟩ = some (.int .i64 a0_4):=(blk_cell BK164.out 4).trans rfl;have hfz18_0:=blk_frozen BK164.out 0;have hfz18_1:=blk_frozen BK164.out 1;have hfz18_2:=blk_frozen BK164.out 2;have hfz18_3:=blk_frozen BK164.out 3;have hfz18_4:=blk_frozen BK164.out 4) | ((with_reducible refine gate_callee (f:=82) rfl ?_);refine goesL_ (some 5) rfl rfl Try.func82 (by kernel_rfl) rfl #[.string a0_0] rfl (by (try simp only [List.map_toArray,List.map_cons,List.map_nil]);rfl) ?_;(with_reducible refine (impl_IsValidId.calls k a0_0 true _ A2.out).mono ?_);rintro e w' ⟨rfl,⟨nd,rfl⟩⟩;refine ⟨_,rfl, ?_⟩) | (go_at_call 50;(with_reducible refine (impl_within.calls a0_1 1 2 false _ A4.out).mono ?_);rintro e w' ⟨rfl,⟨nd,rfl⟩⟩))
   go_ret
   exact ⟨by rfl,by repeat ((with_reducible first | exact HB.out | apply pw_below_drewN))⟩
 ·replace c3:=Bool.eq_false_iff.mpr c3;subst c3
  have H1 : (some false) = some r:=by rw [if_neg (show ¬ (false = true) by decide)] at H;exact H
  clear H;have H:=H1;clear H1;obtain rfl:=Option.some.inj H
  go_enter Try.func69,Try.ntmps69
  go_wp2_with (first | ((with_reducible refine gate_dst (N:=1) rfl ?_);refine box_event ?hg (N:=1) ?hd (cs:=#[.string a0_0, .int .i64 a0_1, .int .i64 a0_2, .int .i64 a0_3, .int .i64 a0_4]) (t:=64) ?hr ?_;(case hd => rfl);(case hg => rfl);(case hr => (go_simp;done));intro gb164 hg w19 hbox hb;have n0_:=am_ (below_step (by exact HB.out) hb);have n1_:=am_ hbox;have n2_:=am_ (ge_ hg (by exact HB.out));have n3_:=am_ (ge_ hg (by exact HB.out));clear HB;have HB:=n0_;have BK164:=n1_;have GW164:=n2_;have GE164:=n3_;clear n0_ n1_ n2_ n3_;clear hb hbox hg;have hcz20_0 : w19.cell? ⟨gb164,0,none⟩ = some (.string a0_0):=(blk_cell BK164.out 0).trans rfl;have hcz20_1 : w19.cell? ⟨gb164,1,none⟩ = some (.int .i64 a0_1):=(blk_cell BK164.out 1).trans rfl;have hcz20_2 : w19.cell? ⟨gb164,2,none⟩ = some (.int .i64 a0_2):=(blk_cell BK164.out 2).trans rfl;have hcz20_3 : w19.cell? ⟨gb164,3,none⟩ = some (.int .i64 a0_3):=(blk_cell BK164.out 3).trans rfl;have hcz20_4 : w19.cell? ⟨gb164,4,none⟩ = some (.int .i64 a0_4):=(blk_cell BK164.out 4).trans rfl;have hfz20_0:=blk_frozen BK164.out 0;have hfz20_1:=blk_frozen BK164.out 1;have hfz20_2:=blk_frozen BK164.out 2;have hfz20_3:=blk_frozen BK164.out 3;have hfz20_4:=blk_frozen BK164.out 4) | ((with_reducible refine gate_callee (f:=82) rfl ?_);refine goesL_ (some 5) rfl rfl Try.func82 (by kernel_rfl) rfl #[.string a0_0] rfl (by (try simp only [List.map_toArray,List.map_cons,List.map_nil]);rfl) ?_;(with_reducible refine (impl_IsValidId.calls k a0_0 false _ A2.out).mono ?_);rintro e w' ⟨rfl,⟨nd,rfl⟩⟩;refine ⟨_,rfl, ?_⟩))
  go_ret
  exact ⟨by rfl,by repeat ((with_reducible first | exact HB.out | apply pw_below_drewN))⟩

/-! ### impl_indexOf_1: function 84 -/
def impl_indexOf_1.f (a0_0 : ByteArray) (a0_1 : Int) (a0_2 : Int) (a0_3 : Int) (a0_4 : Int) (a1 : ByteArray) : Option (Bool):=some (a0_0.toList == a1.toList)
set_option maxHeartbeats 8000000 in
set_option maxRecDepth 100000 in
theorem impl_indexOf_1.calls (a0_0 : ByteArray) (a0_1 : Int) (a0_2 : Int) (a0_3 : Int) (a0_4 : Int) (a1 : ByteArray) {G1 : Nat} (r : Bool) (w : World) (hg1 : w.cell? ⟨G1,0,none⟩ = some (.string a1)) (h : impl_indexOf_1.f a0_0 a0_1 a0_2 a0_3 a0_4 a1 = some r) :
  Calls Try.prog 84 #[.agg #[.string a0_0, .int .i64 a0_1, .int .i64 a0_2, .int .i64 a0_3, .int .i64 a0_4], .pointer (some ⟨G1,0,none⟩)] w fun e w' => e = .returned (.bool r) ∧ Below w.heap.size w w':=by
 have hu64:=Try.underlying64;have HB:=am_ (Below.refl w.heap.size w);have H : (some (a0_0.toList == a1.toList)) = some r:=h;clear h;obtain rfl:=Option.some.inj H
 go_enter Try.func84,Try.ntmps84
 go_wp2_with (((with_reducible refine gate_dst (N:=2) rfl ?_);refine box_event ?hg (N:=2) ?hd (cs:=#[.string a0_0, .int .i64 a0_1, .int .i64 a0_2, .int .i64 a0_3, .int .i64 a0_4]) (t:=64) ?hr ?_;(case hd => rfl);(case hg => rfl);(case hr => (go_simp;done));intro gb170 hg w3 hbox hb;have n0_:=am_ (below_step (by exact HB.out) hb);have n1_:=am_ hbox;have n2_:=am_ (ge_ hg (by exact HB.out));have n3_:=am_ (ge_ hg (by exact HB.out));clear HB;have HB:=n0_;have hq1_:=(HB.out.cell (World.block_lt_of_cell? w _ hg1)).trans hg1;have BK170:=n1_;have GW170:=n2_;have GE170:=n3_;clear n0_ n1_ n2_ n3_;clear hb hbox hg;have hcz4_0 : w3.cell? ⟨gb170,0,none⟩ = some (.string a0_0):=(blk_cell BK170.out 0).trans rfl;have hcz4_1 : w3.cell? ⟨gb170,1,none⟩ = some (.int .i64 a0_1):=(blk_cell BK170.out 1).trans rfl;have hcz4_2 : w3.cell? ⟨gb170,2,none⟩ = some (.int .i64 a0_2):=(blk_cell BK170.out 2).trans rfl;have hcz4_3 : w3.cell? ⟨gb170,3,none⟩ = some (.int .i64 a0_3):=(blk_cell BK170.out 3).trans rfl;have hcz4_4 : w3.cell? ⟨gb170,4,none⟩ = some (.int .i64 a0_4):=(blk_cell BK170.out 4).trans rfl;have hfz4_0:=blk_frozen BK170.out 0;have hfz4_1:=blk_frozen BK170.out 1;have hfz4_2:=blk_frozen BK170.out 2;have hfz4_3:=blk_frozen BK170.out 3;have hfz4_4:=blk_frozen BK170.out 4))
 go_ret
 exact ⟨by rfl,by exact HB.out⟩

end Go.Proofs.Ythbibjfnmljpkaa.PFnTrainLoading
