-- Written by a program of this session, over the kit's print (wip/xprint.py)
import Derived.Test.YthbibjfnmljpkaaPFnTrainLoadingx0
import Derived.Test.YthbibjfnmljpkaaPFnTrainLoadingx5
import Derived.Test.YthbibjfnmljpkaaPFnTrainLoadingx10
namespace Go.Proofs.Ythbibjfnmljpkaa.PFnTrainLoading
open Go.RowKit Go.Proofs.YthbibjfnmljpkaaW.PrintWords Go.Proofs.YthbibjfnmljpkaaW.PrintLast Go.Proofs.YthbibjfnmljpkaaW.PrintMore
attribute [local go_sem] max2_int min2_int max_two min_two max_three min_three max_four min_four   -- for this text's walks alone
set_option linter.unusedVariables false
set_option linter.unusedSimpArgs false

/-! ### impl_sumOf: function 55 -/
def impl_sumOf.l0 : Nat → Int → List Int → Int → Int → Option (Int)
 | 0,_,_,_,_ => none
 | k + 1,x3,x6,x7,x8 => if x8 < x7 then (if 0 ≤ x8 then (if x8 < (x6.length : Int) then (impl_sumOf.l0 k (wrap64 (x3 + (rd x6 x8))) x6 x7 (wrap64 (x8 + 1))) else (none)) else (none)) else (some x3)
def impl_sumOf.f (k : Nat) (l0 : List Int) : Option (Int):=impl_sumOf.l0 k 0 l0 (l0.length : Int) 0
theorem impl_sumOf.mono_l : ∀ k,(∀ y0 y1 y2 y3,LeO (impl_sumOf.l0 k y0 y1 y2 y3) (impl_sumOf.l0 (k + 1) y0 y1 y2 y3))
 | 0 => fun _ _ _ _ r h => by simp [impl_sumOf.l0] at h
 | k + 1 => by
  have ih0:=impl_sumOf.mono_l k
  ·intro y0 y1 y2 y3
   unfold impl_sumOf.l0
   repeat' first
   | (with_reducible exact ih0 _ _ _ _)
   | (with_reducible exact LeO.refl _)
   | (with_reducible exact LeO.none _)
   | (with_reducible refine LeO.ite ?_ ?_)
   | (with_reducible refine LeO.bind ?_ (fun _ => ?_))
   | exact ih0 _ _ _ _
   | exact LeO.none _
   | refine LeO.ite ?_ ?_
   | refine LeO.bind ?_ (fun _ => ?_)
theorem impl_sumOf.mono : ∀ a0 k,LeO (impl_sumOf.f k a0) (impl_sumOf.f (k + 1) a0):=by
 intro a0 k;have ih0:=impl_sumOf.mono_l k
 unfold impl_sumOf.f
 repeat' first
   | (with_reducible exact ih0 _ _ _ _)
   | (with_reducible exact LeO.refl _)
   | (with_reducible exact LeO.none _)
   | (with_reducible refine LeO.ite ?_ ?_)
   | (with_reducible refine LeO.bind ?_ (fun _ => ?_))
   | exact ih0 _ _ _ _
   | exact LeO.none _
   | refine LeO.ite ?_ ?_
   | refine LeO.bind ?_ (fun _ => ?_)
set_option maxHeartbeats 8000000 in
set_option maxRecDepth 100000 in
theorem impl_sumOf.calls (k : Nat) (A0 : Option Addr) (c0 : Nat) (l0 : List Int) (r : Int) (w : World) (hr0 : Kd.C (Kd.int .i64) w A0 l0.length l0) (hc0 : l0.length ≤ c0) (h : impl_sumOf.f k l0 = some r) :
  Calls Try.prog 55 #[.slice A0 l0.length c0] w fun e w' => e = .returned (.int .i64 r) ∧ Drawn0 w w':=by
 have HR0:=am_ hr0;have HC0:=am_ hc0;clear hr0 hc0;have H : (impl_sumOf.l0 k 0 l0 (l0.length : Int) 0) = some r:=h;clear h;have H':=am_ H;clear H
 go_enter Try.func55,Try.ntmps55
 go_wp2
 go_loopg [3,8] k (fun kq v3 v8 w' => ∃ (x3_1 : Int) (x8_1 : Int),v3 = .int .i64 x3_1 ∧ v8 = .int .i64 x8_1 ∧ Aside0 (impl_sumOf.l0 kq x3_1 l0 (l0.length : Int) x8_1 = some r) ∧ Aside0 (kq ≤ k) ∧ Drawn0 w w')
 case atStart => exact ⟨(0),(0),(by rfl),(by rfl),H',⟨Nat.le_refl _⟩,by repeat (exact Drawn0.refl _)⟩
 case round =>
  clear H';obtain ⟨x3_1,x8_1,rfl,rfl,HA,HK1,⟨m1,rfl⟩⟩ := hrel
  cases gk with
  | zero => exact absurd HA.out (by simp [impl_sumOf.l0])
  | succ k1 =>
   have H:=HA.out;clear HA;simp only [impl_sumOf.l0] at H
   by_cases c2 : x8_1 < (l0.length : Int)
   ·rw [if_pos c2] at H;have c2b0 : decide (x8_1 < (l0.length : Int)) = true:=decide_eq_true c2;clear c2
    by_cases c3 : 0 ≤ x8_1
    ·rw [if_pos c3] at H;have c3b0 : decide (0 ≤ x8_1) = true:=decide_eq_true c3;clear c3
     by_cases c4 : x8_1 < (l0.length : Int)
     ·rw [if_pos c4] at H;have c4b0 : decide (x8_1 < (l0.length : Int)) = true:=decide_eq_true c4;clear c4;have H':=am_ H;clear H;have p565 : 0 ≤ (x8_1 : Int):=of_decide_eq_true (by (with_reducible assumption));have q565 : x8_1 < (l0.length : Int):=of_decide_eq_true (by (with_reducible assumption));obtain ⟨ad565,e565,hx565_0⟩ := Kd.at_int HR0.out x8_1 p565 q565;cases e565;replace p565:=eq_true p565;replace q565:=eq_true q565
      go_wp2
      go_roundg k1
      case measure => have:=HK1.out;omega
      case rel => exact ⟨(wrap64 (x3_1 + (rd l0 x8_1))),(wrap64 (x8_1 + 1)),(by rfl),(by rfl),H',⟨by have:=HK1.out;omega⟩,by repeat (first | exact Drawn0.refl _ | apply Drawn0.step)⟩
     ·rw [if_neg c4] at H
      exact absurd H (by simp)
    ·rw [if_neg c3] at H
     exact absurd H (by simp)
   ·rw [if_neg c2] at H;have c2b0 : decide (x8_1 < (l0.length : Int)) = false:=decide_eq_false c2;clear c2;obtain rfl:=Option.some.inj H
    go_wp2
    go_ret
    exact ⟨by rfl,by repeat (first | exact Drawn0.refl _ | apply Drawn0.step)⟩

/-! ### impl_WagonWeights: function 23 -/
def impl_WagonWeights.f (k : Nat) (l0 : List (S54)) (l1 : List (S64)) (l2 : List Int) : Option (List Int × Int × Bool):=(impl_IsValidLoading.f k l0 l1 l2).bind fun t566 => (if t566 = true then ((impl_usage.f k l0 l1 l2).bind fun bt567 => ((impl_sumOf.f k bt567.2).bind fun t573 => (some (bt567.2,t573,true)))) else (some (([] : List Int),0,false)))
theorem impl_WagonWeights.mono : ∀ a0 a1 a2 k,LeO (impl_WagonWeights.f k a0 a1 a2) (impl_WagonWeights.f (k + 1) a0 a1 a2):=by
 intro a0 a1 a2 k
 unfold impl_WagonWeights.f
 repeat' first
   | (with_reducible exact impl_IsValidLoading.mono _ _ _ _)
   | (with_reducible exact impl_sumOf.mono _ _)
   | (with_reducible exact impl_usage.mono _ _ _ _)
   | (with_reducible exact LeO.refl _)
   | (with_reducible exact LeO.none _)
   | (with_reducible refine LeO.ite ?_ ?_)
   | (with_reducible refine LeO.bind ?_ (fun _ => ?_))
   | exact impl_IsValidLoading.mono _ _ _ _
   | exact impl_sumOf.mono _ _
   | exact impl_usage.mono _ _ _ _
   | exact LeO.none _
   | refine LeO.ite ?_ ?_
   | refine LeO.bind ?_ (fun _ => ?_)
set_option maxHeartbeats 8000000 in
set_option maxRecDepth 100000 in
theorem impl_WagonWeights.calls (k : Nat) (A0 : Option Addr) (c0 : Nat) (l0 : List (S54)) (A1 : Option Addr) (c1 : Nat) (l1 : List (S64)) (A2 : Option Addr) (c2 : Nat) (l2 : List Int) (r1 : List Int) (r2 : Int) (r3 : Bool) (w : World) (hr0 : Kd.C k54 w A0 l0.length l0) (hc0 : l0.length ≤ c0) (hr1 : Kd.C k64 w A1 l1.length l1) (hc1 : l1.length ≤ c1) (hr2 : Kd.C (Kd.int .i64) w A2 l2.length l2) (hc2 : l2.length ≤ c2) (h : impl_WagonWeights.f k l0 l1 l2 = some (r1,r2,r3)) :
  Calls Try.prog 23 #[.slice A0 l0.length c0, .slice A1 l1.length c1, .slice A2 l2.length c2] w fun e w' => ∃ v0_ : Value,e = .returned (.tuple #[v0_, .int .i64 r2, .bool r3]) ∧ Kd.R (Kd.int .i64) 3 w' w.heap.size (fun _ => True) v0_ r1 ∧ Below w.heap.size w w':=by
 have HR0:=am_ hr0;have HC0:=am_ hc0;clear hr0 hc0;have HR1:=am_ hr1;have HC1:=am_ hc1;clear hr1 hc1;have HR2:=am_ hr2;have HC2:=am_ hc2;clear hr2 hc2;have HB:=am_ (Below.refl w.heap.size w);have H : ((impl_IsValidLoading.f k l0 l1 l2).bind fun t566 => (if t566 = true then ((impl_usage.f k l0 l1 l2).bind fun bt567 => ((impl_sumOf.f k bt567.2).bind fun t573 => (some (bt567.2,t573,true)))) else (some (([] : List Int),0,false)))) = some (r1,r2,r3):=h;clear h;replace H:=Option.bind_eq_some_iff.mp H;obtain ⟨t566,A40,H⟩ := H;replace H : (if t566 = true then ((impl_usage.f k l0 l1 l2).bind fun bt567 => ((impl_sumOf.f k bt567.2).bind fun t573 => (some (bt567.2,t573,true)))) else (some (([] : List Int),0,false))) = some (r1,r2,r3):=H;have A4:=am_ A40;clear A40
 by_cases c5 : t566 = true
 ·subst c5
  have H1 : ((impl_usage.f k l0 l1 l2).bind fun bt567 => ((impl_sumOf.f k bt567.2).bind fun t573 => (some (bt567.2,t573,true)))) = some (r1,r2,r3):=by rw [if_pos rfl] at H;exact H
  clear H;have H:=H1;clear H1;replace H:=Option.bind_eq_some_iff.mp H;obtain ⟨⟨t567,t568⟩,A60,H⟩ := H;replace H : ((impl_sumOf.f k t568).bind fun t573 => (some (t568,t573,true))) = some (r1,r2,r3):=H;have A6:=am_ A60;clear A60;replace H:=Option.bind_eq_some_iff.mp H;obtain ⟨t573,A70,H⟩ := H;replace H : (some (t568,t573,true)) = some (r1,r2,r3):=H;have A7:=am_ A70;clear A70;simp only [Option.some.injEq,Prod.mk.injEq] at H;obtain ⟨rfl,rfl,rfl⟩ := H
  go_enter Try.func23,Try.ntmps23
  go_wp2_with (first | ((with_reducible refine gate_callee (f:=19) rfl ?_);refine goesL_ (some 14) rfl rfl Try.func19 (by kernel_rfl) rfl #[.slice A0 l0.length c0, .slice A1 l1.length c1, .slice A2 l2.length c2] rfl (by (try simp only [List.map_toArray,List.map_cons,List.map_nil]);rfl) ?_;(with_reducible refine (impl_IsValidLoading.calls k _ _ l0 _ _ l1 _ _ l2 true _ ?side1 ?side2 ?side3 ?side4 ?side5 ?side6 A4.out).mono ?_);(case side1 => repeat (exact HR0.out));(case side2 => exact HC0.out);(case side3 => repeat (exact HR1.out));(case side4 => exact HC1.out);(case side5 => repeat (exact HR2.out));(case side6 => exact HC2.out);rintro e w8 ⟨rfl,hb⟩;refine ⟨_,rfl, ?_⟩;have n0_:=am_ (below_step (by exact HB.out) hb);clear HB;have HB:=n0_;clear n0_;(try clear hb)) | ((with_reducible refine gate_callee (f:=54) rfl ?_);refine goesL_ (some 20) rfl rfl Try.func54 (by kernel_rfl) rfl #[.slice A0 l0.length c0, .slice A1 l1.length c1, .slice A2 l2.length c2] rfl (by (try simp only [List.map_toArray,List.map_cons,List.map_nil]);rfl) ?_;(with_reducible refine (impl_usage.calls k _ _ l0 _ _ l1 _ _ l2 t567 t568 _ ?side1 ?side2 ?side3 ?side4 ?side5 ?side6 A6.out).mono ?_);(case side1 => repeat (exact (Kd.C_below HR0.out HB.out)));(case side2 => exact HC0.out);(case side3 => repeat (exact (Kd.C_below HR1.out HB.out)));(case side4 => exact HC1.out);(case side5 => repeat (exact (Kd.C_below HR2.out HB.out)));(case side6 => exact HC2.out);rintro e w9 ⟨v569,v571,rfl,ho0,ho1,hb⟩;refine ⟨_,rfl, ?_⟩;have n0_:=am_ (Kd.R_lower ho0 (below_size (by exact HB.out)));have n1_:=am_ (Kd.R_lower ho1 (below_size (by exact HB.out)));have n2_:=am_ (below_step (by exact HB.out) hb);clear HB;have HO570:=n0_;have HO572:=n1_;have HB:=n2_;clear n0_ n1_ n2_;(try clear hb);(try clear ho0);(try clear ho1);obtain ⟨Ao10,co10,eo10⟩ := Kd.R_slice HO572.out;subst eo10) | ((with_reducible refine gate_callee (f:=55) rfl ?_);refine goesL_ (some 25) rfl rfl Try.func55 (by kernel_rfl) rfl #[.slice Ao10 t568.length co10] rfl (by (try simp only [List.map_toArray,List.map_cons,List.map_nil]);rfl) ?_;(with_reducible refine (impl_sumOf.calls k _ _ t568 t573 _ ?side1 ?side2 A7.out).mono ?_);(case side1 => repeat (exact (Kd.R_reads' HO572.out).2.2));(case side2 => exact (Kd.R_reads' HO572.out).2.1);rintro e w' ⟨rfl,⟨nd,rfl⟩⟩;refine ⟨_,rfl, ?_⟩))
  go_ret3
  exact ⟨_,by rfl,by (with_reducible repeat (apply Kd.R_drewN));exact Kd.R_mono HO572.out (fun _ hk => trivial),by repeat ((with_reducible first | exact HB.out | apply pw_below_drewN))⟩
 ·replace c5:=Bool.eq_false_iff.mpr c5;subst c5
  have H1 : (some (([] : List Int),0,false)) = some (r1,r2,r3):=by rw [if_neg (show ¬ (false = true) by decide)] at H;exact H
  clear H;have H:=H1;clear H1;simp only [Option.some.injEq,Prod.mk.injEq] at H;obtain ⟨rfl,rfl,rfl⟩ := H
  go_enter Try.func23,Try.ntmps23
  go_wp2_with (((with_reducible refine gate_callee (f:=19) rfl ?_);refine goesL_ (some 14) rfl rfl Try.func19 (by kernel_rfl) rfl #[.slice A0 l0.length c0, .slice A1 l1.length c1, .slice A2 l2.length c2] rfl (by (try simp only [List.map_toArray,List.map_cons,List.map_nil]);rfl) ?_;(with_reducible refine (impl_IsValidLoading.calls k _ _ l0 _ _ l1 _ _ l2 false _ ?side1 ?side2 ?side3 ?side4 ?side5 ?side6 A4.out).mono ?_);(case side1 => repeat (exact HR0.out));(case side2 => exact HC0.out);(case side3 => repeat (exact HR1.out));(case side4 => exact HC1.out);(case side5 => repeat (exact HR2.out));(case side6 => exact HC2.out);rintro e w11 ⟨rfl,hb⟩;refine ⟨_,rfl, ?_⟩;have n0_:=am_ (below_step (by exact HB.out) hb);clear HB;have HB:=n0_;clear n0_;(try clear hb)))
  go_ret3
  exact ⟨_,by rfl,by exact Kd.R_nil _ _ _ _ _,by exact HB.out⟩

/-! ### slices_Index_int: function 80 -/
def slices_Index_int.l0 : Nat → List Int → Int → Int → Int → Option (Int)
 | 0,_,_,_,_ => none
 | k + 1,x0,x1,x7,x8 => if x8 < x7 then (if 0 ≤ x8 then (if x8 < (x0.length : Int) then (if x1 = (rd x0 x8) then (some x8) else (slices_Index_int.l0 k x0 x1 x7 (wrap64 (x8 + 1)))) else (none)) else (none)) else (some (-1))
def slices_Index_int.f (k : Nat) (l0 : List Int) (a1 : Int) : Option (Int):=slices_Index_int.l0 k l0 a1 (l0.length : Int) 0
theorem slices_Index_int.mono_l : ∀ k,(∀ y0 y1 y2 y3,LeO (slices_Index_int.l0 k y0 y1 y2 y3) (slices_Index_int.l0 (k + 1) y0 y1 y2 y3))
 | 0 => fun _ _ _ _ r h => by simp [slices_Index_int.l0] at h
 | k + 1 => by
  have ih0:=slices_Index_int.mono_l k
  ·intro y0 y1 y2 y3
   unfold slices_Index_int.l0
   repeat' first
   | (with_reducible exact ih0 _ _ _ _)
   | (with_reducible exact LeO.refl _)
   | (with_reducible exact LeO.none _)
   | (with_reducible refine LeO.ite ?_ ?_)
   | (with_reducible refine LeO.bind ?_ (fun _ => ?_))
   | exact ih0 _ _ _ _
   | exact LeO.none _
   | refine LeO.ite ?_ ?_
   | refine LeO.bind ?_ (fun _ => ?_)
theorem slices_Index_int.mono : ∀ a0 a1 k,LeO (slices_Index_int.f k a0 a1) (slices_Index_int.f (k + 1) a0 a1):=by
 intro a0 a1 k;have ih0:=slices_Index_int.mono_l k
 unfold slices_Index_int.f
 repeat' first
   | (with_reducible exact ih0 _ _ _ _)
   | (with_reducible exact LeO.refl _)
   | (with_reducible exact LeO.none _)
   | (with_reducible refine LeO.ite ?_ ?_)
   | (with_reducible refine LeO.bind ?_ (fun _ => ?_))
   | exact ih0 _ _ _ _
   | exact LeO.none _
   | refine LeO.ite ?_ ?_
   | refine LeO.bind ?_ (fun _ => ?_)
set_option maxHeartbeats 8000000 in
set_option maxRecDepth 100000 in
theorem slices_Index_int.calls (k : Nat) (A0 : Option Addr) (c0 : Nat) (l0 : List Int) (a1 : Int) (r : Int) (w : World) (hr0 : Kd.C (Kd.int .i64) w A0 l0.length l0) (hc0 : l0.length ≤ c0) (h : slices_Index_int.f k l0 a1 = some r) :
  Calls Try.prog 80 #[.slice A0 l0.length c0, .int .i64 a1] w fun e w' => e = .returned (.int .i64 r) ∧ Drawn0 w w':=by
 have HR0:=am_ hr0;have HC0:=am_ hc0;clear hr0 hc0;have H : (slices_Index_int.l0 k l0 a1 (l0.length : Int) 0) = some r:=h;clear h;have H':=am_ H;clear H
 go_enter Try.func80,Try.ntmps80
 go_wp2
 go_loopg [8] k (fun kq v8 w' => ∃ (x8_1 : Int),v8 = .int .i64 x8_1 ∧ Aside0 (slices_Index_int.l0 kq l0 a1 (l0.length : Int) x8_1 = some r) ∧ Aside0 (kq ≤ k) ∧ Drawn0 w w')
 case atStart => exact ⟨(0),(by rfl),H',⟨Nat.le_refl _⟩,by repeat (exact Drawn0.refl _)⟩
 case round =>
  clear H';(try clear p2);obtain ⟨x8_1,rfl,HA,HK1,⟨m1,rfl⟩⟩ := hrel
  cases gk with
  | zero => exact absurd HA.out (by simp [slices_Index_int.l0])
  | succ k1 =>
   have H:=HA.out;clear HA;simp only [slices_Index_int.l0] at H
   by_cases c3 : x8_1 < (l0.length : Int)
   ·rw [if_pos c3] at H;have c3b0 : decide (x8_1 < (l0.length : Int)) = true:=decide_eq_true c3;clear c3
    by_cases c4 : 0 ≤ x8_1
    ·rw [if_pos c4] at H;have c4b0 : decide (0 ≤ x8_1) = true:=decide_eq_true c4;clear c4
     by_cases c5 : x8_1 < (l0.length : Int)
     ·rw [if_pos c5] at H;have c5b0 : decide (x8_1 < (l0.length : Int)) = true:=decide_eq_true c5;clear c5
      by_cases c6 : a1 = (rd l0 x8_1)
      ·rw [if_pos c6] at H;have c6b0 : (a1 == (rd l0 x8_1)) = true:=beq_iff_eq.mpr c6;have c6b1 : (a1 != (rd l0 x8_1)) = false:=bne_eq_false_iff_eq.mpr c6;clear c6;obtain rfl:=Option.some.inj H;have p574 : 0 ≤ (x8_1 : Int):=of_decide_eq_true (by (with_reducible assumption));have q574 : x8_1 < (l0.length : Int):=of_decide_eq_true (by (with_reducible assumption));obtain ⟨ad574,e574,hx574_0⟩ := Kd.at_int HR0.out x8_1 p574 q574;cases e574;replace p574:=eq_true p574;replace q574:=eq_true q574
       go_wp2
       go_ret
       exact ⟨by rfl,by repeat (first | exact Drawn0.refl _ | apply Drawn0.step)⟩
      ·rw [if_neg c6] at H;have c6b0 : (a1 == (rd l0 x8_1)) = false:=beq_eq_false_iff_ne.mpr c6;have c6b1 : (a1 != (rd l0 x8_1)) = true:=bne_iff_ne.mpr c6;have H':=am_ H;clear H;have p574 : 0 ≤ (x8_1 : Int):=of_decide_eq_true (by (with_reducible assumption));have q574 : x8_1 < (l0.length : Int):=of_decide_eq_true (by (with_reducible assumption));obtain ⟨ad574,e574,hx574_0⟩ := Kd.at_int HR0.out x8_1 p574 q574;cases e574;replace p574:=eq_true p574;replace q574:=eq_true q574
       go_wp2
       go_roundg k1
       case measure => have:=HK1.out;omega
       case rel => exact ⟨(wrap64 (x8_1 + 1)),(by rfl),H',⟨by have:=HK1.out;omega⟩,by repeat (first | exact Drawn0.refl _ | apply Drawn0.step)⟩
     ·rw [if_neg c5] at H
      exact absurd H (by simp)
    ·rw [if_neg c4] at H
     exact absurd H (by simp)
   ·rw [if_neg c3] at H;have c3b0 : decide (x8_1 < (l0.length : Int)) = false:=decide_eq_false c3;clear c3;obtain rfl:=Option.some.inj H
    go_wp2
    go_ret
    exact ⟨by rfl,by repeat (first | exact Drawn0.refl _ | apply Drawn0.step)⟩

/-! ### slices_Contains_int: function 59 -/
def slices_Contains_int.f (k : Nat) (l0 : List Int) (a1 : Int) : Option (Bool):=(slices_Index_int.f k l0 a1).bind fun t575 => (some (decide (t575 ≥ 0)))
theorem slices_Contains_int.mono : ∀ a0 a1 k,LeO (slices_Contains_int.f k a0 a1) (slices_Contains_int.f (k + 1) a0 a1):=by
 intro a0 a1 k
 unfold slices_Contains_int.f
 repeat' first
   | (with_reducible exact slices_Index_int.mono _ _ _)
   | (with_reducible exact LeO.refl _)
   | (with_reducible exact LeO.none _)
   | (with_reducible refine LeO.ite ?_ ?_)
   | (with_reducible refine LeO.bind ?_ (fun _ => ?_))
   | exact slices_Index_int.mono _ _ _
   | exact LeO.none _
   | refine LeO.ite ?_ ?_
   | refine LeO.bind ?_ (fun _ => ?_)
set_option maxHeartbeats 8000000 in
set_option maxRecDepth 100000 in
theorem slices_Contains_int.calls (k : Nat) (A0 : Option Addr) (c0 : Nat) (l0 : List Int) (a1 : Int) (r : Bool) (w : World) (hr0 : Kd.C (Kd.int .i64) w A0 l0.length l0) (hc0 : l0.length ≤ c0) (h : slices_Contains_int.f k l0 a1 = some r) :
  Calls Try.prog 59 #[.slice A0 l0.length c0, .int .i64 a1] w fun e w' => e = .returned (.bool r) ∧ Drawn0 w w':=by
 have HR0:=am_ hr0;have HC0:=am_ hc0;clear hr0 hc0;have H : ((slices_Index_int.f k l0 a1).bind fun t575 => (some (decide (t575 ≥ 0)))) = some r:=h;clear h;replace H:=Option.bind_eq_some_iff.mp H;obtain ⟨t575,A30,H⟩ := H;replace H : (some (decide (t575 ≥ 0))) = some r:=H;have A3:=am_ A30;clear A30;obtain rfl:=Option.some.inj H
 go_enter Try.func59,Try.ntmps59
 go_wp2_with (((with_reducible refine gate_callee (f:=80) rfl ?_);refine goesL_ (some 7) rfl rfl Try.func80 (by kernel_rfl) rfl #[.slice A0 l0.length c0, .int .i64 a1] rfl (by (try simp only [List.map_toArray,List.map_cons,List.map_nil]);rfl) ?_;(with_reducible refine (slices_Index_int.calls k _ _ l0 a1 t575 _ ?side1 ?side2 A3.out).mono ?_);(case side1 => repeat (exact HR0.out));(case side2 => exact HC0.out);rintro e w' ⟨rfl,⟨nd,rfl⟩⟩;refine ⟨_,rfl, ?_⟩))
 go_ret
 exact ⟨by rfl,by repeat (first | exact Drawn0.refl _ | apply Drawn0.step)⟩

/-! ### impl_EmptyWagons_1: function 58 -/
def impl_EmptyWagons_1.f (k : Nat) (a0 : Int) (l1 : List Int) : Option (Bool):=(slices_Contains_int.f k l1 a0).bind fun t576 => (some t576)
theorem impl_EmptyWagons_1.mono : ∀ a0 a1 k,LeO (impl_EmptyWagons_1.f k a0 a1) (impl_EmptyWagons_1.f (k + 1) a0 a1):=by
 intro a0 a1 k
 unfold impl_EmptyWagons_1.f
 repeat' first
   | (with_reducible exact slices_Contains_int.mono _ _ _)
   | (with_reducible exact LeO.refl _)
   | (with_reducible exact LeO.none _)
   | (with_reducible refine LeO.ite ?_ ?_)
   | (with_reducible refine LeO.bind ?_ (fun _ => ?_))
   | exact slices_Contains_int.mono _ _ _
   | exact LeO.none _
   | refine LeO.ite ?_ ?_
   | refine LeO.bind ?_ (fun _ => ?_)
set_option maxHeartbeats 8000000 in
set_option maxRecDepth 100000 in
theorem impl_EmptyWagons_1.calls (k : Nat) (a0 : Int) (A1 : Option Addr) (c1 : Nat) (l1 : List Int) {G1 : Nat} (r : Bool) (w : World) (hr1 : Kd.C (Kd.int .i64) w A1 l1.length l1) (hc1 : l1.length ≤ c1) (hg1 : w.cell? ⟨G1,0,none⟩ = some (.slice A1 l1.length c1)) (h : impl_EmptyWagons_1.f k a0 l1 = some r) :
  Calls Try.prog 58 #[.int .i64 a0, .pointer (some ⟨G1,0,none⟩)] w fun e w' => e = .returned (.bool r) ∧ Below w.heap.size w w':=by
 have HR1:=am_ hr1;have HC1:=am_ hc1;clear hr1 hc1;have HB:=am_ (Below.refl w.heap.size w);have H : ((slices_Contains_int.f k l1 a0).bind fun t576 => (some t576)) = some r:=h;clear h;replace H:=Option.bind_eq_some_iff.mp H;obtain ⟨t576,A30,H⟩ := H;replace H : (some t576) = some r:=H;have A3:=am_ A30;clear A30;obtain rfl:=Option.some.inj H
 go_enter Try.func58,Try.ntmps58
 go_wp2_with (((with_reducible refine gate_callee (f:=59) rfl ?_);refine goesL_ (some 6) rfl rfl Try.func59 (by kernel_rfl) rfl #[.slice A1 l1.length c1, .int .i64 a0] rfl (by (try simp only [List.map_toArray,List.map_cons,List.map_nil]);rfl) ?_;(with_reducible refine (slices_Contains_int.calls k _ _ l1 a0 t576 _ ?side1 ?side2 A3.out).mono ?_);(case side1 => repeat (exact HR1.out));(case side2 => exact HC1.out);rintro e w' ⟨rfl,⟨nd,rfl⟩⟩;refine ⟨_,rfl, ?_⟩))
 go_ret
 exact ⟨by rfl,by repeat ((with_reducible first | exact HB.out | apply pw_below_drewN))⟩

/-! ### slices_DeleteFunc_int: function 56 -/
open Go.Proofs.YthbibjfnmljpkaaW.Help
theorem DF_has (l : List Int) (hl : l.length ≤ 9223372036854775807) (a : Int) : Ev (fun k => slices_Contains_int.f k l a) (decide (a ∈ l)):=by
 unfold slices_Contains_int.f slices_Index_int.f
 have main : ∀ d i : Nat,i + d = l.length → ∃ t : Int,Ev (fun k => slices_Index_int.l0 k l a l.length i) t ∧ (decide (t ≥ 0) = decide (a ∈ l.drop i)):=by
  intro d
  induction d with
  | zero =>
   intro i hi
   exact ⟨-1,Ev.step (fun k => slices_Index_int.l0.eq_2 ..) (Ev.neg (by omega) (Ev.now _)),by simp [List.drop_of_length_le (show l.length ≤ i by omega)]⟩
  | succ d ih =>
   intro i hi
   have w1 : wrap64 ((i : Int) + 1) = ((i + 1 : Nat) : Int):=by rw [w64 (by omega) (by omega)];rfl
   have e : rd l (i : Int) = l[i]'(by omega):=by
    unfold rd
    rw [Int.toNat_natCast]
    exact getD_of (List.getElem?_eq_getElem (by omega))
   rw [List.drop_eq_getElem_cons (by omega)]
   by_cases c : a = l[i]'(by omega)
   ·refine ⟨i,Ev.step (fun k => slices_Index_int.l0.eq_2 ..) (Ev.pos (by omega) (Ev.pos (by omega) (Ev.pos (by omega) ?_))),by rw [decide_eq_true (show (i : Int) ≥ 0 by omega),decide_eq_true (List.mem_cons.2 (Or.inl c))]⟩;rw [e]
    exact Ev.pos c (Ev.now _)
   ·obtain ⟨t,t1,t2⟩ := ih (i + 1) (by omega);refine ⟨t,Ev.step (fun k => slices_Index_int.l0.eq_2 ..) (Ev.pos (by omega) (Ev.pos (by omega) (Ev.pos (by omega) ?_))),by rw [t2];exact decide_eq_decide.2 ⟨fun h => List.mem_cons_of_mem _ h,fun h => (List.mem_cons.1 h).resolve_left c⟩⟩;rw [e,w1]
    exact Ev.neg c t1
 obtain ⟨t,t1,t2⟩ := main l.length 0 (by omega);refine Ev.bind t1 (Ev.eq (Ev.now _) ?_);rw [t2]
 rfl
set_option maxHeartbeats 8000000 in
set_option maxRecDepth 100000 in
open Go.Shelf Go.Lib Go.Sort in
theorem DF_gives {A1 : Option Addr} {c1 : Nat} {l1 : List Int} {G : Nat} (x : Int) (W : World) (hr1 : Kd.C (Kd.int .i64) W A1 l1.length l1) (hc1 : l1.length ≤ c1) (hg1 : W.cell? ⟨G,0,none⟩ = some (.slice A1 l1.length c1)) :
  FnGives Try.prog 58 #[.pointer (some ⟨G,0,none⟩)] #[.int .i64 x] (.bool (decide (x ∈ l1))) W:=by
 show Calls Try.prog 58 #[.int .i64 x, .pointer (some ⟨G,0,none⟩)] W _
 obtain ⟨k,hk⟩ := Ev.rounds (DF_has l1 (Kd.C_max hr1) x);have HR:=am_ hr1;have HC:=am_ hc1;have HK:=am_ hk;clear hr1 hc1 hk
 go_enter Try.func58,Try.ntmps58
 go_wp2_with (((with_reducible refine gate_callee (f:=59) rfl ?_);refine goesL_ (some 6) rfl rfl Try.func59 (by kernel_rfl) rfl #[.slice A1 l1.length c1, .int .i64 x] rfl (by (try simp only [List.map_toArray,List.map_cons,List.map_nil]);rfl) ?_;(with_reducible refine (slices_Contains_int.calls k _ _ l1 x (decide (x ∈ l1)) _ ?side1 ?side2 HK.out).mono ?_);(case side1 => repeat (exact HR.out));(case side2 => exact HC.out);rintro e w' ⟨rfl,⟨nd,rfl⟩⟩;refine ⟨_,rfl, ?_⟩))
 go_ret
 exact ⟨rfl,_,rfl⟩
open Go.Shelf Go.Lib Go.Sort in
theorem DF_below {w0 w : World} {g n : Nat} {dk : Array Int} {os : Array Obj} (hb0 : Below w0.heap.size w0 w) (hg : w0.heap.size ≤ g) : Below w0.heap.size w0 (grow (putRow (Value.int .i64) (Sort.ahead w n) g 0 dk) os) :=
 hb0.trans ⟨rfl,rfl,rfl,by show w.heap.size ≤ (_ ++ os).size;rw [Array.size_append,size_putRow];show w.heap.size ≤ w.heap.size + _;omega,fun k hk => by
  have hk' : k < w.heap.size:=Nat.lt_of_lt_of_le hk hb0.size;rw [Sort.heap_grow_old _ os (by rw [size_putRow];exact hk')]
  show ((putRow (Value.int .i64) (Sort.ahead w n) g 0 dk).heap)[k]? = w.heap[k]?
  simp only [putRow,mapBlock,Array.getElem?_modify];rw [if_neg (by omega)]
  rfl⟩
set_option maxHeartbeats 8000000 in
set_option maxRecDepth 100000 in
def slices_DeleteFunc_int.f (l0 : List Int) (l1 : List Int) : Option (List Int):=if 0 < l0.length then some (l0.filter fun x => !decide (x ∈ l1)) else none
set_option maxHeartbeats 8000000 in
set_option maxRecDepth 100000 in
open Go.Shelf Go.Lib Go.Sort in
theorem slices_DeleteFunc_int.made {A1 : Option Addr} {c1 : Nat} {l1 : List Int} {G : Nat} {A0 : Option Addr} {c0 : Nat} {l0 : List Int} {ok : Nat → Prop} {r : List Int} {w0 w : World} (hO : Kd.R (Kd.int .i64) 3 w w0.heap.size ok (.slice A0 l0.length c0) l0)
  (hr1 : Kd.C (Kd.int .i64) w0 A1 l1.length l1) (hc1 : l1.length ≤ c1) (hbox : w.heap[G]? = some (.cells #[.slice A1 l1.length c1] 39 (0,0))) (hb0 : Below w0.heap.size w0 w) (h : slices_DeleteFunc_int.f l0 l1 = some r) :
  Calls Try.prog 56 #[.slice A0 l0.length c0, .func (.func 58) #[] #[.pointer (some ⟨G,0,none⟩)]] w fun e w' => ∃ v1 : Value,e = .returned v1 ∧ Kd.R (Kd.int .i64) 3 w' w0.heap.size (fun _ => True) v1 r ∧ Below w0.heap.size w0 w':=by
 unfold slices_DeleteFunc_int.f at h
 by_cases hl : 0 < l0.length
 ·rw [if_pos hl] at h;obtain rfl:=Option.some.inj h;have ho:=Kd.own_of_R hO;obtain ⟨hlen,hnil | ⟨g,cap,cur,hv,hbase,hg,hn,hcap,hsz,htk⟩⟩ := ho
  ·omega
  ·injection hv with hv1 _ hv3
   subst hv1;subst hv3;have hglt:=blk_lt hg;have hGlt:=blk_lt hbox
   have hne : G ≠ g:=by
    rintro rfl;rw [hg] at hbox;cases hbox
   have hcell : w.cell? ⟨G,0,none⟩ = some (.slice A1 l1.length c1):=(blk_cell hbox 0).trans rfl
   have hH : Holds (Value.int .i64) w g 0 l0.toArray:=fun j hj => by
    have hj' : j < l0.length:=hj;have:=Kd.R_cell (0 : Int) hO (j : Int) (by omega) (by omega);rw [Int.toNat_natCast] at this;rw [Nat.zero_add];refine ⟨this.1.trans ?_,this.2⟩
    unfold rdOf
    rw [Int.toNat_natCast,getElem!_pos l0.toArray j hj,List.getElem_toArray,List.getD_eq_getElem?_getD,List.getElem?_eq_getElem hj']
    rfl
   have eg : ∀ args w,(callFunc 58 args).run Try.prog w = .ok (.enter 58 args) w:=enters_of Try.func58 (by kernel_rfl) rfl
   have pa : PredAt Try.prog 58 #[.pointer (some ⟨G,0,none⟩)] (Value.int .i64) (fun x => decide (x ∈ l1)) w:=fun W x hb =>
    DF_gives x W (Kd.C_below hr1 (hb0.trans (hb.mono hb0.size))) hc1 ((hb.cell (p:=⟨G,0,none⟩) hGlt).trans hcell)
   have po : PredOver Try.prog 58 #[.pointer (some ⟨G,0,none⟩)] (Value.int .i64) (fun x => decide (x ∈ l1)) g 0 l0.toArray.size w:=fun n os dk x _ =>
    DF_gives x _ (Kd.C_below hr1 (DF_below hb0 hbase)) hc1 (by
     unfold sortWorld
     rw [cell?_grow _ _ _ (by show G < (putRow _ _ _ _ _).heap.size;rw [size_putRow];exact hGlt),cell?_putRow_other _ _ g 0 _ _ (Or.inl hne)]
     exact hcell)
   have con:=Try.slices_DeleteFunc (Value.int .i64) (fun _ => rfl) (fun x => decide (x ∈ l1)) 58 #[.pointer (some ⟨G,0,none⟩)] eg 0 Try.zeroValue3 g 0 c0 l0.toArray w pa po hH (by show l0.length ≤ _;have:=hcap;unfold maxLen at this;omega) hn;change Calls Try.prog 56 #[.slice (some ⟨g,0,none⟩) l0.length c0, .func (.func 58) #[] #[.pointer (some ⟨G,0,none⟩)]] w (fun e w' => e = .returned (.slice (some ⟨g,0,none⟩) (l0.filter fun x => !decide (x ∈ l1)).length c0) ∧ ∃ q,w' = putRow (Value.int .i64) (Sort.ahead w q) g 0 ((l0.filter fun x => !decide (x ∈ l1)) ++ List.replicate (l0.length - (l0.filter fun x => !decide (x ∈ l1)).length) 0).toArray) at con;have hfl : (l0.filter fun x => !decide (x ∈ l1)).length ≤ l0.length:=List.length_filter_le _ _;generalize (l0.filter fun x => !decide (x ∈ l1)) = fl at con hfl ⊢
   refine con.mono fun e w' ⟨he,q,hw⟩ => ⟨_,he, ?_, ?_⟩
   ·subst hw;refine Kd.R_of_own ?_ (fun _ _ => trivial);refine ⟨by simp [encs],Or.inr ⟨g,c0,putCells (Value.int .i64) 0 (fl ++ List.replicate (l0.length - fl.length) 0).toArray cur,rfl,hbase, ?_,by omega,hcap,by rw [← hsz];simp [putCells], ?_⟩⟩
    ·simp only [putRow,mapBlock,Array.getElem?_modify,if_true]
     show (w.heap[g]?).map _ = _
     rw [hg]
     rfl
    ·apply List.ext_getElem
     ·simp [putCells,encs]
      omega
     ·intro j h1 h2
      have hj : j < fl.length:=by simpa [encs] using h2
      simp [putCells,encs]
      rw [if_pos (by omega),List.getElem?_append_left hj,List.getElem?_eq_getElem hj]
      rfl
   ·subst hw;have:=DF_below (n:=q) (dk:=(fl ++ List.replicate (l0.length - fl.length) 0).toArray) (os:=#[]) hb0 hbase
    have e_ : ∀ X : World,grow X #[] = X:=fun X => by
     unfold grow
     rw [Array.append_empty]
    rw [e_] at this
    exact this
 ·rw [if_neg hl] at h;cases h

/-! ### impl_upTo: function 57 -/
def impl_upTo.l0 : Nat → List Int → Int → Int → Option (List Int)
 | 0,_,_,_ => none
 | k + 1,x3,x6,x7 => if x7 < x6 then (if x3.length < 17592186044416 then (impl_upTo.l0 k (x3 ++ [x7]) x6 (wrap64 (x7 + 1))) else (none)) else (some x3)
def impl_upTo.f (k : Nat) (a0 : Int) : Option (List Int):=impl_upTo.l0 k (([] : List Int)) a0 0
theorem impl_upTo.mono_l : ∀ k,(∀ y0 y1 y2,LeO (impl_upTo.l0 k y0 y1 y2) (impl_upTo.l0 (k + 1) y0 y1 y2))
 | 0 => fun _ _ _ r h => by simp [impl_upTo.l0] at h
 | k + 1 => by
  have ih0:=impl_upTo.mono_l k
  ·intro y0 y1 y2
   unfold impl_upTo.l0
   repeat' first
   | (with_reducible exact ih0 _ _ _)
   | (with_reducible exact LeO.refl _)
   | (with_reducible exact LeO.none _)
   | (with_reducible refine LeO.ite ?_ ?_)
   | (with_reducible refine LeO.bind ?_ (fun _ => ?_))
   | exact ih0 _ _ _
   | exact LeO.none _
   | refine LeO.ite ?_ ?_
   | refine LeO.bind ?_ (fun _ => ?_)
theorem impl_upTo.mono : ∀ a0 k,LeO (impl_upTo.f k a0) (impl_upTo.f (k + 1) a0):=by
 intro a0 k;have ih0:=impl_upTo.mono_l k
 unfold impl_upTo.f
 repeat' first
   | (with_reducible exact ih0 _ _ _)
   | (with_reducible exact LeO.refl _)
   | (with_reducible exact LeO.none _)
   | (with_reducible refine LeO.ite ?_ ?_)
   | (with_reducible refine LeO.bind ?_ (fun _ => ?_))
   | exact ih0 _ _ _
   | exact LeO.none _
   | refine LeO.ite ?_ ?_
   | refine LeO.bind ?_ (fun _ => ?_)
set_option maxHeartbeats 8000000 in
set_option maxRecDepth 100000 in
theorem impl_upTo.calls (k : Nat) (a0 : Int) (r : List Int) (w : World) (h : impl_upTo.f k a0 = some r) :
  Calls Try.prog 57 #[.int .i64 a0] w fun e w' => ∃ v0_ : Value,e = .returned (v0_) ∧ Kd.R (Kd.int .i64) 3 w' w.heap.size (fun _ => True) v0_ r ∧ Below w.heap.size w w':=by
 have HB:=am_ (Below.refl w.heap.size w);have H : (impl_upTo.l0 k (([] : List Int)) a0 0) = some r:=h;clear h;obtain ⟨y577,hy577⟩ : ∃ y_ : List Int,y_ = (([] : List Int)):=⟨_,rfl⟩
 replace H : (impl_upTo.l0 k y577 a0 0) = some r:=by (rw [hy577];with_reducible exact H)
 have Ny577:=am_ hy577;clear hy577;have H':=am_ H;clear H
 go_enter Try.func57,Try.ntmps57
 go_wp2_with (((with_reducible refine gate_dst (N:=5) rfl ?_);refine Kd.R_lit (Kd.int .i64) _ 3 ?hg (N:=5) ?hd (xs:=([] : List Int)) (inner := []) (ok:=fun _ => True) (okp:=fun _ => True) ?hr ?hp (fun _ hk => hk) trivial (Below.refl _ _) (Nat.le_refl _) (by simp) ?_;(case hd => rfl);(case hg => rfl);(case hr => (go_simp;done));(case hp => exact (Reps.none _ _));intro v578 w2 ho3 hb hg_ hnew_;clear hg_ hnew_;(rw [← Ny577.out] at ho3);have n0_:=am_ (Kd.R_lower ho3 (below_size (by exact HB.out)));have n1_:=am_ (below_step (by exact HB.out) hb);clear HB;have HO579:=n0_;have HB:=n1_;clear n0_ n1_;clear hb ho3))
 go_loopg [3,7] k (fun kq v3 v7 w' => ∃ (x3_1 : List Int) (x7_1 : Int),v7 = .int .i64 x7_1 ∧ Aside0 (impl_upTo.l0 kq x3_1 a0 x7_1 = some r) ∧ Aside0 (kq ≤ k) ∧ Aside0 (Kd.R (Kd.int .i64) 3 w' w.heap.size (fun _ => True) v3 x3_1) ∧ Aside0 (Below w.heap.size w w'))
 case atStart => exact ⟨(y577),(0),(by rfl),H',⟨Nat.le_refl _⟩,⟨by exact HO579.out⟩,⟨by exact HB.out⟩⟩
 case round =>
  clear H';(try clear p2);obtain ⟨x3_1,x7_1,rfl,HA,HK1,HO_3,HB⟩ := hrel
  cases gk with
  | zero => exact absurd HA.out (by simp [impl_upTo.l0])
  | succ k1 =>
   have H:=HA.out;clear HA;simp only [impl_upTo.l0] at H
   by_cases c4 : x7_1 < a0
   ·rw [if_pos c4] at H;have c4b0 : decide (x7_1 < a0) = true:=decide_eq_true c4;clear c4
    by_cases c5 : x3_1.length < 17592186044416
    ·rw [if_pos c5] at H;have LMc5:=am_ c5;clear c5;obtain ⟨y580,hy580⟩ : ∃ y_ : List Int,y_ = (x3_1 ++ [x7_1]):=⟨_,rfl⟩
     replace H : (impl_upTo.l0 k1 y580 a0 (wrap64 (x7_1 + 1))) = some r:=by (rw [hy580];with_reducible exact H)
     have Ny580:=am_ hy580;clear hy580;have H':=am_ H;clear H
     go_wp2_with (((with_reducible refine gate_builtin (b := .append) (xs:=#[.tmp 10, .tmp 12]) rfl ?_);at_builtin;refine Kd.R_append (Kd.int .i64) (w0:=w) w.heap.size rfl (.tmp 10) (.tmp 12) 39 3 (.int .i64 0) 8 rfl Try.underlying39 info3 rfl (by decide) (by omega) u3 x3_1 x7_1 [.int .i64 x7_1] (fun _ => True) (fun _ => False) rfl rfl ?aP (fun _ hk => hk.elim) ?aF ?aO ?aB ?aS ?aL ?_;(case aP => exact rfl);(case aB => exact (by exact HB.out));(case aF => exact (fun _ _ => trivial));(case aO => exact (by exact HO_3.out));(case aS => exact (below_size (by exact HB.out)));(case aL => have:=LMc5.out;omega);intro v581 w6 ho hb hg hat;rw [← Ny580.out] at ho;have n0_:=am_ hb;have n1_:=am_ (ho);clear HB;clear HO_3;have HB:=n0_;have HO582:=n1_;clear n0_ n1_;clear ho hb hg hat))
     go_roundg k1
     case measure => have:=HK1.out;omega
     case rel => exact ⟨(y580),(wrap64 (x7_1 + 1)),(by rfl),H',⟨by have:=HK1.out;omega⟩,⟨by exact HO582.out⟩,⟨by exact HB.out⟩⟩
    ·rw [if_neg c5] at H
     exact absurd H (by simp)
   ·rw [if_neg c4] at H;have c4b0 : decide (x7_1 < a0) = false:=decide_eq_false c4;clear c4;obtain rfl:=Option.some.inj H
    go_wp2
    go_ret
    exact ⟨_,by rfl,by exact HO_3.out,by exact HB.out⟩

/-! ### impl_EmptyWagons: function 24 -/
def impl_EmptyWagons.f (k : Nat) (l0 : List (S54)) (l1 : List (S64)) (l2 : List Int) : Option (List Int × Bool):=(impl_IsValidLoading.f k l0 l1 l2).bind fun t584 => (if t584 = true then ((impl_upTo.f k (l0.length : Int)).bind fun t585 => ((slices_DeleteFunc_int.f t585 l2).bind fun t588 => (some (t588,true)))) else (some (([] : List Int),false)))
theorem impl_EmptyWagons.mono : ∀ a0 a1 a2 k,LeO (impl_EmptyWagons.f k a0 a1 a2) (impl_EmptyWagons.f (k + 1) a0 a1 a2):=by
 intro a0 a1 a2 k
 unfold impl_EmptyWagons.f
 repeat' first
   | (with_reducible exact impl_IsValidLoading.mono _ _ _ _)
   | (with_reducible exact impl_upTo.mono _ _)
   | (with_reducible exact LeO.refl _)
   | (with_reducible exact LeO.none _)
   | (with_reducible refine LeO.ite ?_ ?_)
   | (with_reducible refine LeO.bind ?_ (fun _ => ?_))
   | exact impl_IsValidLoading.mono _ _ _ _
   | exact impl_upTo.mono _ _
   | exact LeO.none _
   | refine LeO.ite ?_ ?_
   | refine LeO.bind ?_ (fun _ => ?_)
set_option maxHeartbeats 8000000 in
set_option maxRecDepth 100000 in
theorem impl_EmptyWagons.calls (k : Nat) (A0 : Option Addr) (c0 : Nat) (l0 : List (S54)) (A1 : Option Addr) (c1 : Nat) (l1 : List (S64)) (A2 : Option Addr) (c2 : Nat) (l2 : List Int) (r1 : List Int) (r2 : Bool) (w : World) (hr0 : Kd.C k54 w A0 l0.length l0) (hc0 : l0.length ≤ c0) (hr1 : Kd.C k64 w A1 l1.length l1) (hc1 : l1.length ≤ c1) (hr2 : Kd.C (Kd.int .i64) w A2 l2.length l2) (hc2 : l2.length ≤ c2) (h : impl_EmptyWagons.f k l0 l1 l2 = some (r1,r2)) :
  Calls Try.prog 24 #[.slice A0 l0.length c0, .slice A1 l1.length c1, .slice A2 l2.length c2] w fun e w' => ∃ v0_ : Value,e = .returned (.tuple #[v0_, .bool r2]) ∧ Kd.R (Kd.int .i64) 3 w' w.heap.size (fun _ => True) v0_ r1 ∧ Below w.heap.size w w':=by
 have HR0:=am_ hr0;have HC0:=am_ hc0;clear hr0 hc0;have HR1:=am_ hr1;have HC1:=am_ hc1;clear hr1 hc1;have HR2:=am_ hr2;have HC2:=am_ hc2;clear hr2 hc2;have HB:=am_ (Below.refl w.heap.size w);have H : ((impl_IsValidLoading.f k l0 l1 l2).bind fun t584 => (if t584 = true then ((impl_upTo.f k (l0.length : Int)).bind fun t585 => ((slices_DeleteFunc_int.f t585 l2).bind fun t588 => (some (t588,true)))) else (some (([] : List Int),false)))) = some (r1,r2):=h;clear h;replace H:=Option.bind_eq_some_iff.mp H;obtain ⟨t584,A40,H⟩ := H;replace H : (if t584 = true then ((impl_upTo.f k (l0.length : Int)).bind fun t585 => ((slices_DeleteFunc_int.f t585 l2).bind fun t588 => (some (t588,true)))) else (some (([] : List Int),false))) = some (r1,r2):=H;have A4:=am_ A40;clear A40
 by_cases c5 : t584 = true
 ·subst c5
  have H1 : ((impl_upTo.f k (l0.length : Int)).bind fun t585 => ((slices_DeleteFunc_int.f t585 l2).bind fun t588 => (some (t588,true)))) = some (r1,r2):=by rw [if_pos rfl] at H;exact H
  clear H;have H:=H1;clear H1;replace H:=Option.bind_eq_some_iff.mp H;obtain ⟨t585,A60,H⟩ := H;replace H : ((slices_DeleteFunc_int.f t585 l2).bind fun t588 => (some (t588,true))) = some (r1,r2):=H;have A6:=am_ A60;clear A60;replace H:=Option.bind_eq_some_iff.mp H;obtain ⟨t588,A70,H⟩ := H;replace H : (some (t588,true)) = some (r1,r2):=H;have A7:=am_ A70;clear A70;simp only [Option.some.injEq,Prod.mk.injEq] at H;obtain ⟨rfl,rfl⟩ := H
  go_enter Try.func24,Try.ntmps24
  go_wp2_with (first | ((with_reducible refine gate_dst (N:=5) rfl ?_);refine box_event ?hg (N:=5) ?hd (cs:=#[.slice A2 l2.length c2]) (t:=39) ?hr ?_;(case hd => rfl);(case hg => rfl);(case hr => (go_simp;done));intro gb583 hg w8 hbox hb;have n0_:=am_ (below_step (by exact HB.out) hb);have n1_:=am_ hbox;have n2_:=am_ (ge_ hg (by exact HB.out));have n3_:=am_ (ge_ hg (by exact HB.out));clear HB;have HB:=n0_;have BK583:=n1_;have GW583:=n2_;have GE583:=n3_;clear n0_ n1_ n2_ n3_;clear hb hbox hg;have hcz9_0:=c1_0 BK583.out;have hfz9_0:=blk_frozen BK583.out 0) | ((with_reducible refine gate_callee (f:=19) rfl ?_);refine goesL_ (some 11) rfl rfl Try.func19 (by kernel_rfl) rfl #[.slice A0 l0.length c0, .slice A1 l1.length c1, .slice A2 l2.length c2] rfl (by (try simp only [List.map_toArray,List.map_cons,List.map_nil]);rfl) ?_;(with_reducible refine (impl_IsValidLoading.calls k _ _ l0 _ _ l1 _ _ l2 true _ ?side1 ?side2 ?side3 ?side4 ?side5 ?side6 A4.out).mono ?_);(case side1 => repeat (exact (Kd.C_below HR0.out HB.out)));(case side2 => exact HC0.out);(case side3 => repeat (exact (Kd.C_below HR1.out HB.out)));(case side4 => exact HC1.out);(case side5 => repeat (exact (Kd.C_below HR2.out HB.out)));(case side6 => exact HC2.out);rintro e w10 ⟨rfl,hb⟩;refine ⟨_,rfl, ?_⟩;have n0_:=am_ (blk_below (by exact BK583.out) hb);have n1_:=am_ (below_step (by exact HB.out) hb);clear BK583;clear HB;have BK583:=n0_;have HB:=n1_;clear n0_ n1_;(try clear hb)) | ((with_reducible refine gate_callee (f:=57) rfl ?_);refine goesL_ (some 15) rfl rfl Try.func57 (by kernel_rfl) rfl #[.int .i64 (l0.length : Int)] rfl (by (try simp only [List.map_toArray,List.map_cons,List.map_nil]);rfl) ?_;(with_reducible refine (impl_upTo.calls k (l0.length : Int) t585 _ A6.out).mono ?_);rintro e w11 ⟨v586,rfl,ho0,hb⟩;refine ⟨_,rfl, ?_⟩;have n0_:=am_ (Kd.R_lower ho0 (below_size (by exact HB.out)));have n1_:=am_ (blk_below (by exact BK583.out) hb);have n2_:=am_ (below_step (by exact HB.out) hb);clear BK583;clear HB;have HO587:=n0_;have BK583:=n1_;have HB:=n2_;clear n0_ n1_ n2_;(try clear hb);(try clear ho0);obtain ⟨Ao12,co12,eo12⟩ := Kd.R_slice HO587.out;subst eo12) | ((with_reducible refine gate_callee (f:=56) rfl ?_);refine goesL_ (some 17) rfl rfl Try.func56 (by kernel_rfl) rfl #[.slice Ao12 t585.length co12,(.func (.func 58) #[] #[.pointer (some ⟨gb583,0,none⟩)])] rfl (by (try simp only [List.map_toArray,List.map_cons,List.map_nil]);rfl) ?_;(refine (slices_DeleteFunc_int.made (w0:=w) (G:=gb583) (by exact HO587.out) HR2.out HC2.out (by exact BK583.out) (by exact HB.out) A7.out).mono ?_);rintro e w13 ⟨v589,rfl,ho0,hb⟩;refine ⟨_,rfl, ?_⟩;have n1_:=am_ ho0;have n3_:=am_ hb;clear HO587;clear BK583;clear HB;have HO590:=n1_;have HB:=n3_;clear n1_ n3_ hb ho0))
  go_ret2
  exact ⟨_,by rfl,by exact Kd.R_mono HO590.out (fun _ hk => trivial),by exact HB.out⟩
 ·replace c5:=Bool.eq_false_iff.mpr c5;subst c5
  have H1 : (some (([] : List Int),false)) = some (r1,r2):=by rw [if_neg (show ¬ (false = true) by decide)] at H;exact H
  clear H;have H:=H1;clear H1;simp only [Option.some.injEq,Prod.mk.injEq] at H;obtain ⟨rfl,rfl⟩ := H
  go_enter Try.func24,Try.ntmps24
  go_wp2_with (first | ((with_reducible refine gate_dst (N:=5) rfl ?_);refine box_event ?hg (N:=5) ?hd (cs:=#[.slice A2 l2.length c2]) (t:=39) ?hr ?_;(case hd => rfl);(case hg => rfl);(case hr => (go_simp;done));intro gb583 hg w14 hbox hb;have n0_:=am_ (below_step (by exact HB.out) hb);have n1_:=am_ hbox;have n2_:=am_ (ge_ hg (by exact HB.out));have n3_:=am_ (ge_ hg (by exact HB.out));clear HB;have HB:=n0_;have BK583:=n1_;have GW583:=n2_;have GE583:=n3_;clear n0_ n1_ n2_ n3_;clear hb hbox hg;have hcz15_0:=c1_0 BK583.out;have hfz15_0:=blk_frozen BK583.out 0) | ((with_reducible refine gate_callee (f:=19) rfl ?_);refine goesL_ (some 11) rfl rfl Try.func19 (by kernel_rfl) rfl #[.slice A0 l0.length c0, .slice A1 l1.length c1, .slice A2 l2.length c2] rfl (by (try simp only [List.map_toArray,List.map_cons,List.map_nil]);rfl) ?_;(with_reducible refine (impl_IsValidLoading.calls k _ _ l0 _ _ l1 _ _ l2 false _ ?side1 ?side2 ?side3 ?side4 ?side5 ?side6 A4.out).mono ?_);(case side1 => repeat (exact (Kd.C_below HR0.out HB.out)));(case side2 => exact HC0.out);(case side3 => repeat (exact (Kd.C_below HR1.out HB.out)));(case side4 => exact HC1.out);(case side5 => repeat (exact (Kd.C_below HR2.out HB.out)));(case side6 => exact HC2.out);rintro e w16 ⟨rfl,hb⟩;refine ⟨_,rfl, ?_⟩;have n0_:=am_ (blk_below (by exact BK583.out) hb);have n1_:=am_ (below_step (by exact HB.out) hb);clear BK583;clear HB;have BK583:=n0_;have HB:=n1_;clear n0_ n1_;(try clear hb)))
  go_ret2
  exact ⟨_,by rfl,by exact Kd.R_nil _ _ _ _ _,by exact HB.out⟩

end Go.Proofs.Ythbibjfnmljpkaa.PFnTrainLoading
