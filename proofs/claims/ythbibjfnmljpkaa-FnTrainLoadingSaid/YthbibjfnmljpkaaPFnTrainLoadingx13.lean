-- Written by a program of this session, over the kit's print (wip/xprint.py)
import Derived.Test.YthbibjfnmljpkaaPFnTrainLoadingx0
import Derived.Test.YthbibjfnmljpkaaPFnTrainLoadingx1
import Derived.Test.YthbibjfnmljpkaaPFnTrainLoadingx2
namespace Go.Proofs.Ythbibjfnmljpkaa.PFnTrainLoading
open Go.RowKit Go.Proofs.YthbibjfnmljpkaaW.PrintWords Go.Proofs.YthbibjfnmljpkaaW.PrintLast Go.Proofs.YthbibjfnmljpkaaW.PrintMore
attribute [local go_sem] max2_int min2_int max_two min_two max_three min_three max_four min_four   -- for this text's walks alone
set_option linter.unusedVariables false
set_option linter.unusedSimpArgs false

/-! ### spec_l19Good: function 60 -/
mutual
def spec_l19Good.j0 : Nat → List (S54) → List (S64) → List Int → Bool → Option (Bool)
 | 0,_,_,_,_ => none
 | k + 1,x0,x1,x2,x22 => if x22 = true then (some false) else (spec_l19Good.l0 k x0 x1 x2 0)
def spec_l19Good.l0 : Nat → List (S54) → List (S64) → List Int → Int → Option (Bool)
 | 0,_,_,_,_ => none
 | k + 1,x0,x1,x2,x7 => if x7 < (x2.length : Int) then (if 0 ≤ x7 then ((spec_l1In.f (rd x2 x7) (-1) (wrap64 ((x0.length : Int) - 1))).bind fun t594 => (if t594 = true then (spec_l19Good.l0 k x0 x1 x2 (wrap64 (x7 + 1))) else (some false))) else (none)) else ((spec_l19Fits.f k x0 x1 x2).bind fun t595 => (some t595))
end
def spec_l19Good.f (k : Nat) (l0 : List (S54)) (l1 : List (S64)) (l2 : List Int) : Option (Bool):=(spec_l19Train.f k l0).bind fun t591 => (if t591 = true then ((spec_l2List.f k l1).bind fun t592 => (if t592 = true then (spec_l19Good.j0 k l0 l1 l2 ((l2.length : Int) != (l1.length : Int))) else (spec_l19Good.j0 k l0 l1 l2 true))) else (spec_l19Good.j0 k l0 l1 l2 true))
theorem spec_l19Good.mono_l : ∀ k,(∀ y0 y1 y2 y3,LeO (spec_l19Good.j0 k y0 y1 y2 y3) (spec_l19Good.j0 (k + 1) y0 y1 y2 y3)) ∧ (∀ y0 y1 y2 y3,LeO (spec_l19Good.l0 k y0 y1 y2 y3) (spec_l19Good.l0 (k + 1) y0 y1 y2 y3))
 | 0 => ⟨fun _ _ _ _ r h => by simp [spec_l19Good.j0] at h,fun _ _ _ _ r h => by simp [spec_l19Good.l0] at h⟩
 | k + 1 => by
  obtain ⟨ih0,ih1⟩ := spec_l19Good.mono_l k;refine ⟨?_, ?_⟩
  ·intro y0 y1 y2 y3
   unfold spec_l19Good.j0
   repeat' first
   | (with_reducible exact ih0 _ _ _ _)
   | (with_reducible exact ih1 _ _ _ _)
   | (with_reducible exact spec_l19Fits.mono _ _ _ _)
   | (with_reducible exact spec_l19Train.mono _ _)
   | (with_reducible exact spec_l2List.mono _ _)
   | (with_reducible exact LeO.refl _)
   | (with_reducible exact LeO.none _)
   | (with_reducible refine LeO.ite ?_ ?_)
   | (with_reducible refine LeO.bind ?_ (fun _ => ?_))
   | exact ih0 _ _ _ _
   | exact ih1 _ _ _ _
   | exact spec_l19Fits.mono _ _ _ _
   | exact spec_l19Train.mono _ _
   | exact spec_l2List.mono _ _
   | exact LeO.none _
   | refine LeO.ite ?_ ?_
   | refine LeO.bind ?_ (fun _ => ?_)
  ·intro y0 y1 y2 y3
   unfold spec_l19Good.l0
   repeat' first
   | (with_reducible exact ih0 _ _ _ _)
   | (with_reducible exact ih1 _ _ _ _)
   | (with_reducible exact spec_l19Fits.mono _ _ _ _)
   | (with_reducible exact spec_l19Train.mono _ _)
   | (with_reducible exact spec_l2List.mono _ _)
   | (with_reducible exact LeO.refl _)
   | (with_reducible exact LeO.none _)
   | (with_reducible refine LeO.ite ?_ ?_)
   | (with_reducible refine LeO.bind ?_ (fun _ => ?_))
   | exact ih0 _ _ _ _
   | exact ih1 _ _ _ _
   | exact spec_l19Fits.mono _ _ _ _
   | exact spec_l19Train.mono _ _
   | exact spec_l2List.mono _ _
   | exact LeO.none _
   | refine LeO.ite ?_ ?_
   | refine LeO.bind ?_ (fun _ => ?_)
theorem spec_l19Good.mono : ∀ a0 a1 a2 k,LeO (spec_l19Good.f k a0 a1 a2) (spec_l19Good.f (k + 1) a0 a1 a2):=by
 intro a0 a1 a2 k;obtain ⟨ih0,ih1⟩ := spec_l19Good.mono_l k
 unfold spec_l19Good.f
 repeat' first
   | (with_reducible exact ih0 _ _ _ _)
   | (with_reducible exact ih1 _ _ _ _)
   | (with_reducible exact spec_l19Fits.mono _ _ _ _)
   | (with_reducible exact spec_l19Train.mono _ _)
   | (with_reducible exact spec_l2List.mono _ _)
   | (with_reducible exact LeO.refl _)
   | (with_reducible exact LeO.none _)
   | (with_reducible refine LeO.ite ?_ ?_)
   | (with_reducible refine LeO.bind ?_ (fun _ => ?_))
   | exact ih0 _ _ _ _
   | exact ih1 _ _ _ _
   | exact spec_l19Fits.mono _ _ _ _
   | exact spec_l19Train.mono _ _
   | exact spec_l2List.mono _ _
   | exact LeO.none _
   | refine LeO.ite ?_ ?_
   | refine LeO.bind ?_ (fun _ => ?_)
set_option maxHeartbeats 8000000 in
set_option maxRecDepth 100000 in
theorem spec_l19Good.calls (k : Nat) (A0 : Option Addr) (c0 : Nat) (l0 : List (S54)) (A1 : Option Addr) (c1 : Nat) (l1 : List (S64)) (A2 : Option Addr) (c2 : Nat) (l2 : List Int) (r : Bool) (w : World) (hr0 : Kd.C k54 w A0 l0.length l0) (hc0 : l0.length ≤ c0) (hr1 : Kd.C k64 w A1 l1.length l1) (hc1 : l1.length ≤ c1) (hr2 : Kd.C (Kd.int .i64) w A2 l2.length l2) (hc2 : l2.length ≤ c2) (h : spec_l19Good.f k l0 l1 l2 = some r) :
  Calls Try.prog 60 #[.slice A0 l0.length c0, .slice A1 l1.length c1, .slice A2 l2.length c2] w fun e w' => e = .returned (.bool r) ∧ Below w.heap.size w w':=by
 have HR0:=am_ hr0;have HC0:=am_ hc0;clear hr0 hc0;have HR1:=am_ hr1;have HC1:=am_ hc1;clear hr1 hc1;have HR2:=am_ hr2;have HC2:=am_ hc2;clear hr2 hc2;have HB:=am_ (Below.refl w.heap.size w);have H : ((spec_l19Train.f k l0).bind fun t591 => (if t591 = true then ((spec_l2List.f k l1).bind fun t592 => (if t592 = true then (spec_l19Good.j0 k l0 l1 l2 ((l2.length : Int) != (l1.length : Int))) else (spec_l19Good.j0 k l0 l1 l2 true))) else (spec_l19Good.j0 k l0 l1 l2 true))) = some r:=h;clear h;have HC4:=am_ H;clear H
 go_enter Try.func60,Try.ntmps60
 go_upto_region 1 with (fail)
 go_cut [22] (fun v22 wc => ∃ (kq : Nat) (x22_3 : Bool),v22 = .bool x22_3 ∧ Aside0 (spec_l19Good.j0 kq l0 l1 l2 x22_3 = some r) ∧ Aside0 (kq ≤ k) ∧ Aside0 (Below w.heap.size w wc))
 case first =>
  have H:=HC4.out;clear HC4;replace H:=Option.bind_eq_some_iff.mp H;obtain ⟨t591,A50,H⟩ := H;replace H : (if t591 = true then ((spec_l2List.f k l1).bind fun t592 => (if t592 = true then (spec_l19Good.j0 k l0 l1 l2 ((l2.length : Int) != (l1.length : Int))) else (spec_l19Good.j0 k l0 l1 l2 true))) else (spec_l19Good.j0 k l0 l1 l2 true)) = some r:=H;have A5:=am_ A50;clear A50
  by_cases c6 : t591 = true
  ·subst c6
   have H1 : ((spec_l2List.f k l1).bind fun t592 => (if t592 = true then (spec_l19Good.j0 k l0 l1 l2 ((l2.length : Int) != (l1.length : Int))) else (spec_l19Good.j0 k l0 l1 l2 true))) = some r:=by rw [if_pos rfl] at H;exact H
   clear H;have H:=H1;clear H1;replace H:=Option.bind_eq_some_iff.mp H;obtain ⟨t592,A70,H⟩ := H;replace H : (if t592 = true then (spec_l19Good.j0 k l0 l1 l2 ((l2.length : Int) != (l1.length : Int))) else (spec_l19Good.j0 k l0 l1 l2 true)) = some r:=H;have A7:=am_ A70;clear A70
   by_cases c8 : t592 = true
   ·subst c8
    have H1 : (spec_l19Good.j0 k l0 l1 l2 ((l2.length : Int) != (l1.length : Int))) = some r:=by rw [if_pos rfl] at H;exact H
    clear H;have H:=H1;clear H1;have H':=am_ H;clear H
    go_wp2_with (first | ((with_reducible refine gate_callee (f:=31) rfl ?_);refine goesL_ (some 9) rfl rfl Try.func31 (by kernel_rfl) rfl #[.slice A0 l0.length c0] rfl (by (try simp only [List.map_toArray,List.map_cons,List.map_nil]);rfl) ?_;(with_reducible refine (spec_l19Train.calls k _ _ l0 true _ ?side1 ?side2 A5.out).mono ?_);(case side1 => repeat (exact (Kd.C_below HR0.out HB.out)));(case side2 => exact HC0.out);rintro e w' ⟨rfl,⟨nd,rfl⟩⟩;refine ⟨_,rfl, ?_⟩) | (go_at_call 32;(with_reducible refine (spec_l2List.calls k _ _ l1 true _ ?side1 ?side2 A7.out).mono ?_);(case side1 => repeat (exact (Kd.C_below HR1.out (by repeat ((with_reducible first | exact HB.out | apply pw_below_drewN))))));(case side2 => exact HC1.out);rintro e w9 ⟨rfl,hb⟩;have n0_:=am_ (below_step (by repeat ((with_reducible first | exact HB.out | apply pw_below_drewN))) hb);clear HB;have HB:=n0_;clear n0_;(try clear hb)))
    go_meet
    case rel => exact ⟨_,(((l2.length : Int) != (l1.length : Int))),(by rfl),H',⟨by omega⟩,⟨by exact HB.out⟩⟩
   ·replace c8:=Bool.eq_false_iff.mpr c8;subst c8
    have H1 : (spec_l19Good.j0 k l0 l1 l2 true) = some r:=by rw [if_neg (show ¬ (false = true) by decide)] at H;exact H
    clear H;have H:=H1;clear H1;have H':=am_ H;clear H
    go_wp2_with (first | ((with_reducible refine gate_callee (f:=31) rfl ?_);refine goesL_ (some 9) rfl rfl Try.func31 (by kernel_rfl) rfl #[.slice A0 l0.length c0] rfl (by (try simp only [List.map_toArray,List.map_cons,List.map_nil]);rfl) ?_;(with_reducible refine (spec_l19Train.calls k _ _ l0 true _ ?side1 ?side2 A5.out).mono ?_);(case side1 => repeat (exact (Kd.C_below HR0.out HB.out)));(case side2 => exact HC0.out);rintro e w' ⟨rfl,⟨nd,rfl⟩⟩;refine ⟨_,rfl, ?_⟩) | (go_at_call 32;(with_reducible refine (spec_l2List.calls k _ _ l1 false _ ?side1 ?side2 A7.out).mono ?_);(case side1 => repeat (exact (Kd.C_below HR1.out (by repeat ((with_reducible first | exact HB.out | apply pw_below_drewN))))));(case side2 => exact HC1.out);rintro e w10 ⟨rfl,hb⟩;have n0_:=am_ (below_step (by repeat ((with_reducible first | exact HB.out | apply pw_below_drewN))) hb);clear HB;have HB:=n0_;clear n0_;(try clear hb)))
    go_meet
    case rel => exact ⟨_,(true),(by rfl),H',⟨by omega⟩,⟨by exact HB.out⟩⟩
  ·replace c6:=Bool.eq_false_iff.mpr c6;subst c6
   have H1 : (spec_l19Good.j0 k l0 l1 l2 true) = some r:=by rw [if_neg (show ¬ (false = true) by decide)] at H;exact H
   clear H;have H:=H1;clear H1;have H':=am_ H;clear H
   go_wp2_with (((with_reducible refine gate_callee (f:=31) rfl ?_);refine goesL_ (some 9) rfl rfl Try.func31 (by kernel_rfl) rfl #[.slice A0 l0.length c0] rfl (by (try simp only [List.map_toArray,List.map_cons,List.map_nil]);rfl) ?_;(with_reducible refine (spec_l19Train.calls k _ _ l0 false _ ?side1 ?side2 A5.out).mono ?_);(case side1 => repeat (exact (Kd.C_below HR0.out HB.out)));(case side2 => exact HC0.out);rintro e w' ⟨rfl,⟨nd,rfl⟩⟩;refine ⟨_,rfl, ?_⟩))
   go_meet
   case rel => exact ⟨_,(true),(by rfl),H',⟨by omega⟩,⟨by repeat ((with_reducible first | exact HB.out | apply pw_below_drewN))⟩⟩
 case rest =>
  clear HC4;(try clear c1);(try clear c2);(try clear p2);(try clear c3);(try clear c6);(try clear c8);obtain ⟨kq,x22_3,rfl,HA,HJ3,HB⟩ := hcut
  cases kq with
  | zero => exact absurd HA.out (by simp [spec_l19Good.j0])
  | succ kj3 =>
   have H:=HA.out;clear HA;simp only [spec_l19Good.j0] at H
   by_cases c11 : x22_3 = true
   ·subst c11
    have H1 : (some false) = some r:=by rw [if_pos rfl] at H;exact H
    clear H;have H:=H1;clear H1;obtain rfl:=Option.some.inj H
    go_wp2
    go_ret
    exact ⟨by rfl,by exact HB.out⟩
   ·replace c11:=Bool.eq_false_iff.mpr c11;subst c11
    have H1 : (spec_l19Good.l0 kj3 l0 l1 l2 0) = some r:=by rw [if_neg (show ¬ (false = true) by decide)] at H;exact H
    clear H;have H:=H1;clear H1;have H':=am_ H;clear H
    go_wp2
    (skip)
    go_loopg [7] kj3 (fun kq v7 w' => ∃ (x7_2 : Int),v7 = .int .i64 x7_2 ∧ Aside0 (spec_l19Good.l0 kq l0 l1 l2 x7_2 = some r) ∧ Aside0 (kq ≤ kj3) ∧ Aside0 (Below w.heap.size w w'))
    case atStart => exact ⟨(0),(by rfl),H',⟨Nat.le_refl _⟩,⟨by exact HB.out⟩⟩
    case round =>
     clear H';(try clear c1);(try clear c2);(try clear p2);(try clear c3);(try clear c6);(try clear c8);(try clear c11);(try clear p2);obtain ⟨x7_2,rfl,HA,HK2,HB⟩ := hrel
     cases gk with
     | zero => exact absurd HA.out (by simp [spec_l19Good.l0])
     | succ k2 =>
      have H:=HA.out;clear HA;simp only [spec_l19Good.l0] at H
      by_cases c12 : x7_2 < (l2.length : Int)
      ·rw [if_pos c12] at H;have c12b0 : decide (x7_2 < (l2.length : Int)) = true:=decide_eq_true c12;clear c12
       by_cases c13 : 0 ≤ x7_2
       ·rw [if_pos c13] at H;have c13b0 : decide (0 ≤ x7_2) = true:=decide_eq_true c13;clear c13;replace H:=Option.bind_eq_some_iff.mp H;obtain ⟨t594,A140,H⟩ := H;replace H : (if t594 = true then (spec_l19Good.l0 k2 l0 l1 l2 (wrap64 (x7_2 + 1))) else (some false)) = some r:=H;have A14:=am_ A140;clear A140
        by_cases c15 : t594 = true
        ·subst c15
         have H1 : (spec_l19Good.l0 k2 l0 l1 l2 (wrap64 (x7_2 + 1))) = some r:=by rw [if_pos rfl] at H;exact H
         clear H;have H:=H1;clear H1;have H':=am_ H;clear H;have p593 : 0 ≤ (x7_2 : Int):=of_decide_eq_true (by (with_reducible assumption));have q593 : x7_2 < (l2.length : Int):=of_decide_eq_true (by (with_reducible assumption));obtain ⟨ad593,e593,hx593_0⟩ := Kd.at_int HR2.out x7_2 p593 q593;cases e593;replace hx593_0:=(HB.out.cell (World.block_lt_of_cell? w _ hx593_0)).trans hx593_0;replace p593:=eq_true p593;replace q593:=eq_true q593
         go_wp2_with (((with_reducible refine gate_callee (f:=63) rfl ?_);refine goesL_ (some 36) rfl rfl Try.func63 (by kernel_rfl) rfl #[.int .i64 (rd l2 x7_2), .int .i64 (-1), .int .i64 (wrap64 ((l0.length : Int) - 1))] rfl (by (try simp only [List.map_toArray,List.map_cons,List.map_nil]);rfl) ?_;(with_reducible refine (spec_l1In.calls (rd l2 x7_2) (-1) (wrap64 ((l0.length : Int) - 1)) true _ A14.out).mono ?_);rintro e w' ⟨rfl,⟨nd,rfl⟩⟩;refine ⟨_,rfl, ?_⟩))
         go_roundg k2
         case measure => have:=HJ3.out;have:=HK2.out;omega
         case rel => exact ⟨(wrap64 (x7_2 + 1)),(by rfl),H',⟨by have:=HJ3.out;have:=HK2.out;omega⟩,⟨by repeat ((with_reducible first | exact HB.out | apply pw_below_drewN))⟩⟩
        ·replace c15:=Bool.eq_false_iff.mpr c15;subst c15
         have H1 : (some false) = some r:=by rw [if_neg (show ¬ (false = true) by decide)] at H;exact H
         clear H;have H:=H1;clear H1;obtain rfl:=Option.some.inj H;have p593 : 0 ≤ (x7_2 : Int):=of_decide_eq_true (by (with_reducible assumption));have q593 : x7_2 < (l2.length : Int):=of_decide_eq_true (by (with_reducible assumption));obtain ⟨ad593,e593,hx593_0⟩ := Kd.at_int HR2.out x7_2 p593 q593;cases e593;replace hx593_0:=(HB.out.cell (World.block_lt_of_cell? w _ hx593_0)).trans hx593_0;replace p593:=eq_true p593;replace q593:=eq_true q593
         go_wp2_with (((with_reducible refine gate_callee (f:=63) rfl ?_);refine goesL_ (some 36) rfl rfl Try.func63 (by kernel_rfl) rfl #[.int .i64 (rd l2 x7_2), .int .i64 (-1), .int .i64 (wrap64 ((l0.length : Int) - 1))] rfl (by (try simp only [List.map_toArray,List.map_cons,List.map_nil]);rfl) ?_;(with_reducible refine (spec_l1In.calls (rd l2 x7_2) (-1) (wrap64 ((l0.length : Int) - 1)) false _ A14.out).mono ?_);rintro e w' ⟨rfl,⟨nd,rfl⟩⟩;refine ⟨_,rfl, ?_⟩))
         go_ret
         exact ⟨by rfl,by repeat ((with_reducible first | exact HB.out | apply pw_below_drewN))⟩
       ·rw [if_neg c13] at H
        exact absurd H (by simp)
      ·rw [if_neg c12] at H;have c12b0 : decide (x7_2 < (l2.length : Int)) = false:=decide_eq_false c12;clear c12;replace H:=Option.bind_eq_some_iff.mp H;obtain ⟨t595,A160,H⟩ := H;replace H : (some t595) = some r:=H;have A16:=am_ A160;clear A160;obtain rfl:=Option.some.inj H
       go_wp2_with (((with_reducible refine gate_callee (f:=67) rfl ?_);refine goesL_ (some 41) rfl rfl Try.func67 (by kernel_rfl) rfl #[.slice A0 l0.length c0, .slice A1 l1.length c1, .slice A2 l2.length c2] rfl (by (try simp only [List.map_toArray,List.map_cons,List.map_nil]);rfl) ?_;(with_reducible refine (spec_l19Fits.calls k2 _ _ l0 _ _ l1 _ _ l2 t595 _ ?side1 ?side2 ?side3 ?side4 ?side5 ?side6 A16.out).mono ?_);(case side1 => repeat (exact (Kd.C_below HR0.out HB.out)));(case side2 => exact HC0.out);(case side3 => repeat (exact (Kd.C_below HR1.out HB.out)));(case side4 => exact HC1.out);(case side5 => repeat (exact (Kd.C_below HR2.out HB.out)));(case side6 => exact HC2.out);rintro e w' ⟨rfl,⟨nd,rfl⟩⟩;refine ⟨_,rfl, ?_⟩))
       go_ret
       exact ⟨by rfl,by repeat ((with_reducible first | exact HB.out | apply pw_below_drewN))⟩

/-! ### spec_FreeLengths: function 25 -/
def spec_FreeLengths.l0 : Nat → List (S54) → List (S64) → List Int → List Int → Int → Option (List Int × Bool)
 | 0,_,_,_,_,_ => none
 | k + 1,x0,x1,x2,x8,x9 => if x9 < (x0.length : Int) then ((spec_l19Sums.f k x1 x2 x9).bind fun bt600 => (if 0 ≤ x9 then (if x8.length < 17592186044416 then (spec_FreeLengths.l0 k x0 x1 x2 (x8 ++ [wrap64 (((rd_T54 x0 x9).f0) - bt600.1)]) (wrap64 (x9 + 1))) else (none)) else (none))) else (some (x8,true))
def spec_FreeLengths.f (k : Nat) (l0 : List (S54)) (l1 : List (S64)) (l2 : List Int) : Option (List Int × Bool):=(some (([] : List Int) : List Int)).bind fun y596 => ((spec_l19Good.f k l0 l1 l2).bind fun t599 => (if t599 = true then (spec_FreeLengths.l0 k l0 l1 l2 y596 0) else (some (y596,false))))
theorem spec_FreeLengths.mono_l : ∀ k,(∀ y0 y1 y2 y3 y4,LeO (spec_FreeLengths.l0 k y0 y1 y2 y3 y4) (spec_FreeLengths.l0 (k + 1) y0 y1 y2 y3 y4))
 | 0 => fun _ _ _ _ _ r h => by simp [spec_FreeLengths.l0] at h
 | k + 1 => by
  have ih0:=spec_FreeLengths.mono_l k
  ·intro y0 y1 y2 y3 y4
   unfold spec_FreeLengths.l0
   repeat' first
   | (with_reducible exact ih0 _ _ _ _ _)
   | (with_reducible exact spec_l19Good.mono _ _ _ _)
   | (with_reducible exact spec_l19Sums.mono _ _ _ _)
   | (with_reducible exact LeO.refl _)
   | (with_reducible exact LeO.none _)
   | (with_reducible refine LeO.ite ?_ ?_)
   | (with_reducible refine LeO.bind ?_ (fun _ => ?_))
   | exact ih0 _ _ _ _ _
   | exact spec_l19Good.mono _ _ _ _
   | exact spec_l19Sums.mono _ _ _ _
   | exact LeO.none _
   | refine LeO.ite ?_ ?_
   | refine LeO.bind ?_ (fun _ => ?_)
theorem spec_FreeLengths.mono : ∀ a0 a1 a2 k,LeO (spec_FreeLengths.f k a0 a1 a2) (spec_FreeLengths.f (k + 1) a0 a1 a2):=by
 intro a0 a1 a2 k;have ih0:=spec_FreeLengths.mono_l k
 unfold spec_FreeLengths.f
 repeat' first
   | (with_reducible exact ih0 _ _ _ _ _)
   | (with_reducible exact spec_l19Good.mono _ _ _ _)
   | (with_reducible exact spec_l19Sums.mono _ _ _ _)
   | (with_reducible exact LeO.refl _)
   | (with_reducible exact LeO.none _)
   | (with_reducible refine LeO.ite ?_ ?_)
   | (with_reducible refine LeO.bind ?_ (fun _ => ?_))
   | exact ih0 _ _ _ _ _
   | exact spec_l19Good.mono _ _ _ _
   | exact spec_l19Sums.mono _ _ _ _
   | exact LeO.none _
   | refine LeO.ite ?_ ?_
   | refine LeO.bind ?_ (fun _ => ?_)
set_option maxHeartbeats 8000000 in
set_option maxRecDepth 100000 in
theorem spec_FreeLengths.calls (k : Nat) (A0 : Option Addr) (c0 : Nat) (l0 : List (S54)) (A1 : Option Addr) (c1 : Nat) (l1 : List (S64)) (A2 : Option Addr) (c2 : Nat) (l2 : List Int) (r1 : List Int) (r2 : Bool) (w : World) (hr0 : Kd.C k54 w A0 l0.length l0) (hc0 : l0.length ≤ c0) (hr1 : Kd.C k64 w A1 l1.length l1) (hc1 : l1.length ≤ c1) (hr2 : Kd.C (Kd.int .i64) w A2 l2.length l2) (hc2 : l2.length ≤ c2) (h : spec_FreeLengths.f k l0 l1 l2 = some (r1,r2)) :
  Calls Try.prog 25 #[.slice A0 l0.length c0, .slice A1 l1.length c1, .slice A2 l2.length c2] w fun e w' => ∃ v0_ : Value,e = .returned (.tuple #[v0_, .bool r2]) ∧ Kd.R (Kd.int .i64) 3 w' w.heap.size (fun _ => True) v0_ r1 ∧ Below w.heap.size w w':=by
 have HR0:=am_ hr0;have HC0:=am_ hc0;clear hr0 hc0;have HR1:=am_ hr1;have HC1:=am_ hc1;clear hr1 hc1;have HR2:=am_ hr2;have HC2:=am_ hc2;clear hr2 hc2;have HB:=am_ (Below.refl w.heap.size w);have H : ((some (([] : List Int) : List Int)).bind fun y596 => ((spec_l19Good.f k l0 l1 l2).bind fun t599 => (if t599 = true then (spec_FreeLengths.l0 k l0 l1 l2 y596 0) else (some (y596,false))))) = some (r1,r2):=h;clear h;obtain ⟨y596,hy596⟩ : ∃ y_ : List Int,y_ = (([] : List Int)):=⟨_,rfl⟩
 replace H : ((spec_l19Good.f k l0 l1 l2).bind fun t599 => (if t599 = true then (spec_FreeLengths.l0 k l0 l1 l2 y596 0) else (some (y596,false)))) = some (r1,r2):=by (have H2_:=(Option.bind_some _ _).symm.trans H;rw [hy596];with_reducible exact H2_)
 have Ny596:=am_ hy596;clear hy596;replace H:=Option.bind_eq_some_iff.mp H;obtain ⟨t599,A40,H⟩ := H;replace H : (if t599 = true then (spec_FreeLengths.l0 k l0 l1 l2 y596 0) else (some (y596,false))) = some (r1,r2):=H;have A4:=am_ A40;clear A40
 by_cases c5 : t599 = true
 ·subst c5
  have H1 : (spec_FreeLengths.l0 k l0 l1 l2 y596 0) = some (r1,r2):=by rw [if_pos rfl] at H;exact H
  clear H;have H:=H1;clear H1;have H':=am_ H;clear H
  go_enter Try.func25,Try.ntmps25
  go_wp2_with (first | ((with_reducible refine gate_dst (N:=12) rfl ?_);refine Kd.R_lit (Kd.int .i64) _ 3 ?hg (N:=12) ?hd (xs:=([] : List Int)) (inner := []) (ok:=fun _ => True) (okp:=fun _ => True) ?hr ?hp (fun _ hk => hk) trivial (Below.refl _ _) (Nat.le_refl _) (by simp) ?_;(case hd => rfl);(case hg => rfl);(case hr => (go_simp;done));(case hp => exact (Reps.none _ _));intro v597 w6 ho7 hb hg_ hnew_;clear hg_ hnew_;(rw [← Ny596.out] at ho7);have n0_:=am_ (Kd.R_lower ho7 (below_size (by exact HB.out)));have n1_:=am_ (below_step (by exact HB.out) hb);clear HB;have HO598:=n0_;have HB:=n1_;clear n0_ n1_;clear hb ho7) | ((with_reducible refine gate_callee (f:=60) rfl ?_);refine goesL_ (some 16) rfl rfl Try.func60 (by kernel_rfl) rfl #[.slice A0 l0.length c0, .slice A1 l1.length c1, .slice A2 l2.length c2] rfl (by (try simp only [List.map_toArray,List.map_cons,List.map_nil]);rfl) ?_;(with_reducible refine (spec_l19Good.calls k _ _ l0 _ _ l1 _ _ l2 true _ ?side1 ?side2 ?side3 ?side4 ?side5 ?side6 A4.out).mono ?_);(case side1 => repeat (exact (Kd.C_below HR0.out HB.out)));(case side2 => exact HC0.out);(case side3 => repeat (exact (Kd.C_below HR1.out HB.out)));(case side4 => exact HC1.out);(case side5 => repeat (exact (Kd.C_below HR2.out HB.out)));(case side6 => exact HC2.out);rintro e w8 ⟨rfl,hb⟩;refine ⟨_,rfl, ?_⟩;have n0_:=am_ (Kd.R_below (by exact HO598.out) hb);have n1_:=am_ (below_step (by exact HB.out) hb);clear HO598;clear HB;have HO598:=n0_;have HB:=n1_;clear n0_ n1_;(try clear hb)))
  (skip)
  go_loopg [8,9] k (fun kq v8 v9 w' => ∃ (x8_1 : List Int) (x9_1 : Int),v9 = .int .i64 x9_1 ∧ Aside0 (spec_FreeLengths.l0 kq l0 l1 l2 x8_1 x9_1 = some (r1,r2)) ∧ Aside0 (kq ≤ k) ∧ Aside0 (Kd.R (Kd.int .i64) 3 w' w.heap.size (fun _ => True) v8 x8_1) ∧ Aside0 (Below w.heap.size w w'))
  case atStart => exact ⟨(y596),(0),(by rfl),H',⟨Nat.le_refl _⟩,⟨by exact HO598.out⟩,⟨by exact HB.out⟩⟩
  case round =>
   clear H';(try clear c1);(try clear c2);(try clear p2);(try clear c5);(try clear c6);obtain ⟨x8_1,x9_1,rfl,HA,HK1,HO_8,HB⟩ := hrel
   cases gk with
   | zero => exact absurd HA.out (by simp [spec_FreeLengths.l0])
   | succ k1 =>
    have H:=HA.out;clear HA;simp only [spec_FreeLengths.l0] at H
    by_cases c9 : x9_1 < (l0.length : Int)
    ·rw [if_pos c9] at H;have c9b0 : decide (x9_1 < (l0.length : Int)) = true:=decide_eq_true c9;clear c9;replace H:=Option.bind_eq_some_iff.mp H;obtain ⟨⟨t600,t601⟩,A100,H⟩ := H;replace H : (if 0 ≤ x9_1 then (if x8_1.length < 17592186044416 then (spec_FreeLengths.l0 k1 l0 l1 l2 (x8_1 ++ [wrap64 (((rd_T54 l0 x9_1).f0) - t600)]) (wrap64 (x9_1 + 1))) else (none)) else (none)) = some (r1,r2):=H;have A10:=am_ A100;clear A100
     by_cases c11 : 0 ≤ x9_1
     ·rw [if_pos c11] at H;have c11b0 : decide (0 ≤ x9_1) = true:=decide_eq_true c11;clear c11
      by_cases c12 : x8_1.length < 17592186044416
      ·rw [if_pos c12] at H;have LMc12:=am_ c12;clear c12;obtain ⟨y603,hy603⟩ : ∃ y_ : List Int,y_ = (x8_1 ++ [wrap64 (((rd_T54 l0 x9_1).f0) - t600)]):=⟨_,rfl⟩
       replace H : (spec_FreeLengths.l0 k1 l0 l1 l2 y603 (wrap64 (x9_1 + 1))) = some (r1,r2):=by (rw [hy603];with_reducible exact H)
       have Ny603:=am_ hy603;clear hy603;have H':=am_ H;clear H
       go_wp2_with (first | ((with_reducible refine gate_callee (f:=61) rfl ?_);refine goesL_ (some 29) rfl rfl Try.func61 (by kernel_rfl) rfl #[.slice A1 l1.length c1, .slice A2 l2.length c2, .int .i64 x9_1] rfl (by (try simp only [List.map_toArray,List.map_cons,List.map_nil]);rfl) ?_;(with_reducible refine (spec_l19Sums.calls k1 _ _ l1 _ _ l2 x9_1 t600 t601 _ ?side1 ?side2 ?side3 ?side4 A10.out).mono ?_);(case side1 => repeat (exact (Kd.C_below HR1.out HB.out)));(case side2 => exact HC1.out);(case side3 => repeat (exact (Kd.C_below HR2.out HB.out)));(case side4 => exact HC2.out);rintro e w' ⟨rfl,⟨nd,rfl⟩⟩;refine ⟨_,rfl, ?_⟩;have p602 : 0 ≤ (x9_1 : Int):=of_decide_eq_true (by (with_reducible assumption));have q602 : x9_1 < (l0.length : Int):=of_decide_eq_true (by (with_reducible assumption));obtain ⟨ad602,e602,hx602_0,hx602_1⟩ := at_T54 HR0.out x9_1 p602 q602;cases e602;replace hx602_0:=(HB.out.cell (World.block_lt_of_cell? w _ hx602_0)).trans hx602_0;replace hx602_1:=(HB.out.cell (World.block_lt_of_cell? w _ hx602_1)).trans hx602_1;replace p602:=eq_true p602;replace q602:=eq_true q602) | ((with_reducible refine gate_builtin (b := .append) (xs:=#[.tmp 32, .tmp 40]) rfl ?_);at_builtin;refine Kd.R_append (Kd.int .i64) (w0:=w) w.heap.size rfl (.tmp 32) (.tmp 40) 39 3 (.int .i64 0) 8 rfl Try.underlying39 info3 rfl (by decide) (by omega) u8 x8_1 (wrap64 (((rd_T54 l0 x9_1).f0) - t600)) [.int .i64 (wrap64 (((rd_T54 l0 x9_1).f0) - t600))] (fun _ => True) (fun _ => False) rfl rfl ?aP (fun _ hk => hk.elim) ?aF ?aO ?aB ?aS ?aL ?_;(case aP => exact rfl);(case aB => exact (by repeat ((with_reducible first | exact HB.out | apply pw_below_drewN))));(case aF => exact (fun _ _ => trivial));(case aO => exact (by (with_reducible repeat (apply Kd.R_drewN));exact HO_8.out));(case aS => exact (below_size (by repeat ((with_reducible first | exact HB.out | apply pw_below_drewN)))));(case aL => have:=LMc12.out;omega);intro v604 w13 ho hb hg hat;rw [← Ny603.out] at ho;have n0_:=am_ hb;have n1_:=am_ (ho);clear HB;clear HO_8;have HB:=n0_;have HO605:=n1_;clear n0_ n1_;clear ho hb hg hat))
       go_roundg k1
       case measure => have:=HK1.out;omega
       case rel => exact ⟨(y603),(wrap64 (x9_1 + 1)),(by rfl),H',⟨by have:=HK1.out;omega⟩,⟨by exact HO605.out⟩,⟨by exact HB.out⟩⟩
      ·rw [if_neg c12] at H
       exact absurd H (by simp)
     ·rw [if_neg c11] at H
      exact absurd H (by simp)
    ·rw [if_neg c9] at H;have c9b0 : decide (x9_1 < (l0.length : Int)) = false:=decide_eq_false c9;clear c9;simp only [Option.some.injEq,Prod.mk.injEq] at H;obtain ⟨rfl,rfl⟩ := H
     go_wp2
     go_ret2
     exact ⟨_,by rfl,by exact HO_8.out,by exact HB.out⟩
 ·replace c5:=Bool.eq_false_iff.mpr c5;subst c5
  have H1 : (some (y596,false)) = some (r1,r2):=by rw [if_neg (show ¬ (false = true) by decide)] at H;exact H
  clear H;have H:=H1;clear H1;simp only [Option.some.injEq,Prod.mk.injEq] at H;obtain ⟨rfl,rfl⟩ := H
  go_enter Try.func25,Try.ntmps25
  go_wp2_with (first | ((with_reducible refine gate_dst (N:=12) rfl ?_);refine Kd.R_lit (Kd.int .i64) _ 3 ?hg (N:=12) ?hd (xs:=([] : List Int)) (inner := []) (ok:=fun _ => True) (okp:=fun _ => True) ?hr ?hp (fun _ hk => hk) trivial (Below.refl _ _) (Nat.le_refl _) (by simp) ?_;(case hd => rfl);(case hg => rfl);(case hr => (go_simp;done));(case hp => exact (Reps.none _ _));intro v597 w14 ho15 hb hg_ hnew_;clear hg_ hnew_;(rw [← Ny596.out] at ho15);have n0_:=am_ (Kd.R_lower ho15 (below_size (by exact HB.out)));have n1_:=am_ (below_step (by exact HB.out) hb);clear HB;have HO598:=n0_;have HB:=n1_;clear n0_ n1_;clear hb ho15) | ((with_reducible refine gate_callee (f:=60) rfl ?_);refine goesL_ (some 16) rfl rfl Try.func60 (by kernel_rfl) rfl #[.slice A0 l0.length c0, .slice A1 l1.length c1, .slice A2 l2.length c2] rfl (by (try simp only [List.map_toArray,List.map_cons,List.map_nil]);rfl) ?_;(with_reducible refine (spec_l19Good.calls k _ _ l0 _ _ l1 _ _ l2 false _ ?side1 ?side2 ?side3 ?side4 ?side5 ?side6 A4.out).mono ?_);(case side1 => repeat (exact (Kd.C_below HR0.out HB.out)));(case side2 => exact HC0.out);(case side3 => repeat (exact (Kd.C_below HR1.out HB.out)));(case side4 => exact HC1.out);(case side5 => repeat (exact (Kd.C_below HR2.out HB.out)));(case side6 => exact HC2.out);rintro e w16 ⟨rfl,hb⟩;refine ⟨_,rfl, ?_⟩;have n0_:=am_ (Kd.R_below (by exact HO598.out) hb);have n1_:=am_ (below_step (by exact HB.out) hb);clear HO598;clear HB;have HO598:=n0_;have HB:=n1_;clear n0_ n1_;(try clear hb)))
  go_ret2
  exact ⟨_,by rfl,by exact HO598.out,by exact HB.out⟩

/-! ### spec_WagonWeights: function 26 -/
def spec_WagonWeights.l0 : Nat → List (S54) → List (S64) → List Int → List Int → Int → Int → Option (List Int × Int × Bool)
 | 0,_,_,_,_,_,_ => none
 | k + 1,x0,x1,x2,x9,x10,x11 => if x11 < (x0.length : Int) then ((spec_l19Sums.f k x1 x2 x11).bind fun bt610 => (if x9.length < 17592186044416 then (spec_WagonWeights.l0 k x0 x1 x2 (x9 ++ [bt610.2]) (wrap64 (x10 + bt610.2)) (wrap64 (x11 + 1))) else (none))) else (some (x9,x10,true))
def spec_WagonWeights.f (k : Nat) (l0 : List (S54)) (l1 : List (S64)) (l2 : List Int) : Option (List Int × Int × Bool):=(some (([] : List Int) : List Int)).bind fun y606 => ((spec_l19Good.f k l0 l1 l2).bind fun t609 => (if t609 = true then (spec_WagonWeights.l0 k l0 l1 l2 y606 0 0) else (some (y606,0,false))))
theorem spec_WagonWeights.mono_l : ∀ k,(∀ y0 y1 y2 y3 y4 y5,LeO (spec_WagonWeights.l0 k y0 y1 y2 y3 y4 y5) (spec_WagonWeights.l0 (k + 1) y0 y1 y2 y3 y4 y5))
 | 0 => fun _ _ _ _ _ _ r h => by simp [spec_WagonWeights.l0] at h
 | k + 1 => by
  have ih0:=spec_WagonWeights.mono_l k
  ·intro y0 y1 y2 y3 y4 y5
   unfold spec_WagonWeights.l0
   repeat' first
   | (with_reducible exact ih0 _ _ _ _ _ _)
   | (with_reducible exact spec_l19Good.mono _ _ _ _)
   | (with_reducible exact spec_l19Sums.mono _ _ _ _)
   | (with_reducible exact LeO.refl _)
   | (with_reducible exact LeO.none _)
   | (with_reducible refine LeO.ite ?_ ?_)
   | (with_reducible refine LeO.bind ?_ (fun _ => ?_))
   | exact ih0 _ _ _ _ _ _
   | exact spec_l19Good.mono _ _ _ _
   | exact spec_l19Sums.mono _ _ _ _
   | exact LeO.none _
   | refine LeO.ite ?_ ?_
   | refine LeO.bind ?_ (fun _ => ?_)
theorem spec_WagonWeights.mono : ∀ a0 a1 a2 k,LeO (spec_WagonWeights.f k a0 a1 a2) (spec_WagonWeights.f (k + 1) a0 a1 a2):=by
 intro a0 a1 a2 k;have ih0:=spec_WagonWeights.mono_l k
 unfold spec_WagonWeights.f
 repeat' first
   | (with_reducible exact ih0 _ _ _ _ _ _)
   | (with_reducible exact spec_l19Good.mono _ _ _ _)
   | (with_reducible exact spec_l19Sums.mono _ _ _ _)
   | (with_reducible exact LeO.refl _)
   | (with_reducible exact LeO.none _)
   | (with_reducible refine LeO.ite ?_ ?_)
   | (with_reducible refine LeO.bind ?_ (fun _ => ?_))
   | exact ih0 _ _ _ _ _ _
   | exact spec_l19Good.mono _ _ _ _
   | exact spec_l19Sums.mono _ _ _ _
   | exact LeO.none _
   | refine LeO.ite ?_ ?_
   | refine LeO.bind ?_ (fun _ => ?_)
set_option maxHeartbeats 8000000 in
set_option maxRecDepth 100000 in
theorem spec_WagonWeights.calls (k : Nat) (A0 : Option Addr) (c0 : Nat) (l0 : List (S54)) (A1 : Option Addr) (c1 : Nat) (l1 : List (S64)) (A2 : Option Addr) (c2 : Nat) (l2 : List Int) (r1 : List Int) (r2 : Int) (r3 : Bool) (w : World) (hr0 : Kd.C k54 w A0 l0.length l0) (hc0 : l0.length ≤ c0) (hr1 : Kd.C k64 w A1 l1.length l1) (hc1 : l1.length ≤ c1) (hr2 : Kd.C (Kd.int .i64) w A2 l2.length l2) (hc2 : l2.length ≤ c2) (h : spec_WagonWeights.f k l0 l1 l2 = some (r1,r2,r3)) :
  Calls Try.prog 26 #[.slice A0 l0.length c0, .slice A1 l1.length c1, .slice A2 l2.length c2] w fun e w' => ∃ v0_ : Value,e = .returned (.tuple #[v0_, .int .i64 r2, .bool r3]) ∧ Kd.R (Kd.int .i64) 3 w' w.heap.size (fun _ => True) v0_ r1 ∧ Below w.heap.size w w':=by
 have HR0:=am_ hr0;have HC0:=am_ hc0;clear hr0 hc0;have HR1:=am_ hr1;have HC1:=am_ hc1;clear hr1 hc1;have HR2:=am_ hr2;have HC2:=am_ hc2;clear hr2 hc2;have HB:=am_ (Below.refl w.heap.size w);have H : ((some (([] : List Int) : List Int)).bind fun y606 => ((spec_l19Good.f k l0 l1 l2).bind fun t609 => (if t609 = true then (spec_WagonWeights.l0 k l0 l1 l2 y606 0 0) else (some (y606,0,false))))) = some (r1,r2,r3):=h;clear h;obtain ⟨y606,hy606⟩ : ∃ y_ : List Int,y_ = (([] : List Int)):=⟨_,rfl⟩
 replace H : ((spec_l19Good.f k l0 l1 l2).bind fun t609 => (if t609 = true then (spec_WagonWeights.l0 k l0 l1 l2 y606 0 0) else (some (y606,0,false)))) = some (r1,r2,r3):=by (have H2_:=(Option.bind_some _ _).symm.trans H;rw [hy606];with_reducible exact H2_)
 have Ny606:=am_ hy606;clear hy606;replace H:=Option.bind_eq_some_iff.mp H;obtain ⟨t609,A40,H⟩ := H;replace H : (if t609 = true then (spec_WagonWeights.l0 k l0 l1 l2 y606 0 0) else (some (y606,0,false))) = some (r1,r2,r3):=H;have A4:=am_ A40;clear A40
 by_cases c5 : t609 = true
 ·subst c5
  have H1 : (spec_WagonWeights.l0 k l0 l1 l2 y606 0 0) = some (r1,r2,r3):=by rw [if_pos rfl] at H;exact H
  clear H;have H:=H1;clear H1;have H':=am_ H;clear H
  go_enter Try.func26,Try.ntmps26
  go_wp2_with (first | ((with_reducible refine gate_dst (N:=14) rfl ?_);refine Kd.R_lit (Kd.int .i64) _ 3 ?hg (N:=14) ?hd (xs:=([] : List Int)) (inner := []) (ok:=fun _ => True) (okp:=fun _ => True) ?hr ?hp (fun _ hk => hk) trivial (Below.refl _ _) (Nat.le_refl _) (by simp) ?_;(case hd => rfl);(case hg => rfl);(case hr => (go_simp;done));(case hp => exact (Reps.none _ _));intro v607 w6 ho7 hb hg_ hnew_;clear hg_ hnew_;(rw [← Ny606.out] at ho7);have n0_:=am_ (Kd.R_lower ho7 (below_size (by exact HB.out)));have n1_:=am_ (below_step (by exact HB.out) hb);clear HB;have HO608:=n0_;have HB:=n1_;clear n0_ n1_;clear hb ho7) | ((with_reducible refine gate_callee (f:=60) rfl ?_);refine goesL_ (some 18) rfl rfl Try.func60 (by kernel_rfl) rfl #[.slice A0 l0.length c0, .slice A1 l1.length c1, .slice A2 l2.length c2] rfl (by (try simp only [List.map_toArray,List.map_cons,List.map_nil]);rfl) ?_;(with_reducible refine (spec_l19Good.calls k _ _ l0 _ _ l1 _ _ l2 true _ ?side1 ?side2 ?side3 ?side4 ?side5 ?side6 A4.out).mono ?_);(case side1 => repeat (exact (Kd.C_below HR0.out HB.out)));(case side2 => exact HC0.out);(case side3 => repeat (exact (Kd.C_below HR1.out HB.out)));(case side4 => exact HC1.out);(case side5 => repeat (exact (Kd.C_below HR2.out HB.out)));(case side6 => exact HC2.out);rintro e w8 ⟨rfl,hb⟩;refine ⟨_,rfl, ?_⟩;have n0_:=am_ (Kd.R_below (by exact HO608.out) hb);have n1_:=am_ (below_step (by exact HB.out) hb);clear HO608;clear HB;have HO608:=n0_;have HB:=n1_;clear n0_ n1_;(try clear hb)))
  (skip)
  go_loopg [9,10,11] k (fun kq v9 v10 v11 w' => ∃ (x9_1 : List Int) (x10_1 : Int) (x11_1 : Int),v10 = .int .i64 x10_1 ∧ v11 = .int .i64 x11_1 ∧ Aside0 (spec_WagonWeights.l0 kq l0 l1 l2 x9_1 x10_1 x11_1 = some (r1,r2,r3)) ∧ Aside0 (kq ≤ k) ∧ Aside0 (Kd.R (Kd.int .i64) 3 w' w.heap.size (fun _ => True) v9 x9_1) ∧ Aside0 (Below w.heap.size w w'))
  case atStart => exact ⟨(y606),(0),(0),(by rfl),(by rfl),H',⟨Nat.le_refl _⟩,⟨by exact HO608.out⟩,⟨by exact HB.out⟩⟩
  case round =>
   clear H';(try clear c1);(try clear c2);(try clear p2);(try clear c5);(try clear c6);obtain ⟨x9_1,x10_1,x11_1,rfl,rfl,HA,HK1,HO_9,HB⟩ := hrel
   cases gk with
   | zero => exact absurd HA.out (by simp [spec_WagonWeights.l0])
   | succ k1 =>
    have H:=HA.out;clear HA;simp only [spec_WagonWeights.l0] at H
    by_cases c9 : x11_1 < (l0.length : Int)
    ·rw [if_pos c9] at H;have c9b0 : decide (x11_1 < (l0.length : Int)) = true:=decide_eq_true c9;clear c9;replace H:=Option.bind_eq_some_iff.mp H;obtain ⟨⟨t610,t611⟩,A100,H⟩ := H;replace H : (if x9_1.length < 17592186044416 then (spec_WagonWeights.l0 k1 l0 l1 l2 (x9_1 ++ [t611]) (wrap64 (x10_1 + t611)) (wrap64 (x11_1 + 1))) else (none)) = some (r1,r2,r3):=H;have A10:=am_ A100;clear A100
     by_cases c11 : x9_1.length < 17592186044416
     ·rw [if_pos c11] at H;have LMc11:=am_ c11;clear c11;obtain ⟨y612,hy612⟩ : ∃ y_ : List Int,y_ = (x9_1 ++ [t611]):=⟨_,rfl⟩
      replace H : (spec_WagonWeights.l0 k1 l0 l1 l2 y612 (wrap64 (x10_1 + t611)) (wrap64 (x11_1 + 1))) = some (r1,r2,r3):=by (rw [hy612];with_reducible exact H)
      have Ny612:=am_ hy612;clear hy612;have H':=am_ H;clear H
      go_wp2_with (first | ((with_reducible refine gate_callee (f:=61) rfl ?_);refine goesL_ (some 31) rfl rfl Try.func61 (by kernel_rfl) rfl #[.slice A1 l1.length c1, .slice A2 l2.length c2, .int .i64 x11_1] rfl (by (try simp only [List.map_toArray,List.map_cons,List.map_nil]);rfl) ?_;(with_reducible refine (spec_l19Sums.calls k1 _ _ l1 _ _ l2 x11_1 t610 t611 _ ?side1 ?side2 ?side3 ?side4 A10.out).mono ?_);(case side1 => repeat (exact (Kd.C_below HR1.out HB.out)));(case side2 => exact HC1.out);(case side3 => repeat (exact (Kd.C_below HR2.out HB.out)));(case side4 => exact HC2.out);rintro e w' ⟨rfl,⟨nd,rfl⟩⟩;refine ⟨_,rfl, ?_⟩) | ((with_reducible refine gate_builtin (b := .append) (xs:=#[.tmp 34, .tmp 36]) rfl ?_);at_builtin;refine Kd.R_append (Kd.int .i64) (w0:=w) w.heap.size rfl (.tmp 34) (.tmp 36) 39 3 (.int .i64 0) 8 rfl Try.underlying39 info3 rfl (by decide) (by omega) u9 x9_1 t611 [.int .i64 t611] (fun _ => True) (fun _ => False) rfl rfl ?aP (fun _ hk => hk.elim) ?aF ?aO ?aB ?aS ?aL ?_;(case aP => exact rfl);(case aB => exact (by repeat ((with_reducible first | exact HB.out | apply pw_below_drewN))));(case aF => exact (fun _ _ => trivial));(case aO => exact (by (with_reducible repeat (apply Kd.R_drewN));exact HO_9.out));(case aS => exact (below_size (by repeat ((with_reducible first | exact HB.out | apply pw_below_drewN)))));(case aL => have:=LMc11.out;omega);intro v613 w12 ho hb hg hat;rw [← Ny612.out] at ho;have n0_:=am_ hb;have n1_:=am_ (ho);clear HB;clear HO_9;have HB:=n0_;have HO614:=n1_;clear n0_ n1_;clear ho hb hg hat))
      go_roundg k1
      case measure => have:=HK1.out;omega
      case rel => exact ⟨(y612),(wrap64 (x10_1 + t611)),(wrap64 (x11_1 + 1)),(by rfl),(by rfl),H',⟨by have:=HK1.out;omega⟩,⟨by exact HO614.out⟩,⟨by exact HB.out⟩⟩
     ·rw [if_neg c11] at H
      exact absurd H (by simp)
    ·rw [if_neg c9] at H;have c9b0 : decide (x11_1 < (l0.length : Int)) = false:=decide_eq_false c9;clear c9;simp only [Option.some.injEq,Prod.mk.injEq] at H;obtain ⟨rfl,rfl,rfl⟩ := H
     go_wp2
     go_ret3
     exact ⟨_,by rfl,by exact HO_9.out,by exact HB.out⟩
 ·replace c5:=Bool.eq_false_iff.mpr c5;subst c5
  have H1 : (some (y606,0,false)) = some (r1,r2,r3):=by rw [if_neg (show ¬ (false = true) by decide)] at H;exact H
  clear H;have H:=H1;clear H1;simp only [Option.some.injEq,Prod.mk.injEq] at H;obtain ⟨rfl,rfl,rfl⟩ := H
  go_enter Try.func26,Try.ntmps26
  go_wp2_with (first | ((with_reducible refine gate_dst (N:=14) rfl ?_);refine Kd.R_lit (Kd.int .i64) _ 3 ?hg (N:=14) ?hd (xs:=([] : List Int)) (inner := []) (ok:=fun _ => True) (okp:=fun _ => True) ?hr ?hp (fun _ hk => hk) trivial (Below.refl _ _) (Nat.le_refl _) (by simp) ?_;(case hd => rfl);(case hg => rfl);(case hr => (go_simp;done));(case hp => exact (Reps.none _ _));intro v607 w13 ho14 hb hg_ hnew_;clear hg_ hnew_;(rw [← Ny606.out] at ho14);have n0_:=am_ (Kd.R_lower ho14 (below_size (by exact HB.out)));have n1_:=am_ (below_step (by exact HB.out) hb);clear HB;have HO608:=n0_;have HB:=n1_;clear n0_ n1_;clear hb ho14) | ((with_reducible refine gate_callee (f:=60) rfl ?_);refine goesL_ (some 18) rfl rfl Try.func60 (by kernel_rfl) rfl #[.slice A0 l0.length c0, .slice A1 l1.length c1, .slice A2 l2.length c2] rfl (by (try simp only [List.map_toArray,List.map_cons,List.map_nil]);rfl) ?_;(with_reducible refine (spec_l19Good.calls k _ _ l0 _ _ l1 _ _ l2 false _ ?side1 ?side2 ?side3 ?side4 ?side5 ?side6 A4.out).mono ?_);(case side1 => repeat (exact (Kd.C_below HR0.out HB.out)));(case side2 => exact HC0.out);(case side3 => repeat (exact (Kd.C_below HR1.out HB.out)));(case side4 => exact HC1.out);(case side5 => repeat (exact (Kd.C_below HR2.out HB.out)));(case side6 => exact HC2.out);rintro e w15 ⟨rfl,hb⟩;refine ⟨_,rfl, ?_⟩;have n0_:=am_ (Kd.R_below (by exact HO608.out) hb);have n1_:=am_ (below_step (by exact HB.out) hb);clear HO608;clear HB;have HO608:=n0_;have HB:=n1_;clear n0_ n1_;(try clear hb)))
  go_ret3
  exact ⟨_,by rfl,by exact HO608.out,by exact HB.out⟩

/-! ### spec_l1Has: function 62 -/
def spec_l1Has.l0 : Nat → List Int → Int → Int → Option (Bool)
 | 0,_,_,_ => none
 | k + 1,x0,x1,x5 => if x5 < (x0.length : Int) then (if 0 ≤ x5 then (if (rd x0 x5) = x1 then (some true) else (spec_l1Has.l0 k x0 x1 (wrap64 (x5 + 1)))) else (none)) else (some false)
def spec_l1Has.f (k : Nat) (l0 : List Int) (a1 : Int) : Option (Bool):=spec_l1Has.l0 k l0 a1 0
theorem spec_l1Has.mono_l : ∀ k,(∀ y0 y1 y2,LeO (spec_l1Has.l0 k y0 y1 y2) (spec_l1Has.l0 (k + 1) y0 y1 y2))
 | 0 => fun _ _ _ r h => by simp [spec_l1Has.l0] at h
 | k + 1 => by
  have ih0:=spec_l1Has.mono_l k
  ·intro y0 y1 y2
   unfold spec_l1Has.l0
   repeat' first
   | (with_reducible exact ih0 _ _ _)
   | (with_reducible exact LeO.refl _)
   | (with_reducible exact LeO.none _)
   | (with_reducible refine LeO.ite ?_ ?_)
   | (with_reducible refine LeO.bind ?_ (fun _ => ?_))
   | exact ih0 _ _ _
   | exact LeO.none _
   | refine LeO.ite ?_ ?_
   | refine LeO.bind ?_ (fun _ => ?_)
theorem spec_l1Has.mono : ∀ a0 a1 k,LeO (spec_l1Has.f k a0 a1) (spec_l1Has.f (k + 1) a0 a1):=by
 intro a0 a1 k;have ih0:=spec_l1Has.mono_l k
 unfold spec_l1Has.f
 repeat' first
   | (with_reducible exact ih0 _ _ _)
   | (with_reducible exact LeO.refl _)
   | (with_reducible exact LeO.none _)
   | (with_reducible refine LeO.ite ?_ ?_)
   | (with_reducible refine LeO.bind ?_ (fun _ => ?_))
   | exact ih0 _ _ _
   | exact LeO.none _
   | refine LeO.ite ?_ ?_
   | refine LeO.bind ?_ (fun _ => ?_)
set_option maxHeartbeats 8000000 in
set_option maxRecDepth 100000 in
theorem spec_l1Has.calls (k : Nat) (A0 : Option Addr) (c0 : Nat) (l0 : List Int) (a1 : Int) (r : Bool) (w : World) (hr0 : Kd.C (Kd.int .i64) w A0 l0.length l0) (hc0 : l0.length ≤ c0) (h : spec_l1Has.f k l0 a1 = some r) :
  Calls Try.prog 62 #[.slice A0 l0.length c0, .int .i64 a1] w fun e w' => e = .returned (.bool r) ∧ Drawn0 w w':=by
 have HR0:=am_ hr0;have HC0:=am_ hc0;clear hr0 hc0;have H : (spec_l1Has.l0 k l0 a1 0) = some r:=h;clear h;have H':=am_ H;clear H
 go_enter Try.func62,Try.ntmps62
 go_wp2
 go_loopg [5] k (fun kq v5 w' => ∃ (x5_1 : Int),v5 = .int .i64 x5_1 ∧ Aside0 (spec_l1Has.l0 kq l0 a1 x5_1 = some r) ∧ Aside0 (kq ≤ k) ∧ Drawn0 w w')
 case atStart => exact ⟨(0),(by rfl),H',⟨Nat.le_refl _⟩,by repeat (exact Drawn0.refl _)⟩
 case round =>
  clear H';(try clear p2);obtain ⟨x5_1,rfl,HA,HK1,⟨m1,rfl⟩⟩ := hrel
  cases gk with
  | zero => exact absurd HA.out (by simp [spec_l1Has.l0])
  | succ k1 =>
   have H:=HA.out;clear HA;simp only [spec_l1Has.l0] at H
   by_cases c3 : x5_1 < (l0.length : Int)
   ·rw [if_pos c3] at H;have c3b0 : decide (x5_1 < (l0.length : Int)) = true:=decide_eq_true c3;clear c3
    by_cases c4 : 0 ≤ x5_1
    ·rw [if_pos c4] at H;have c4b0 : decide (0 ≤ x5_1) = true:=decide_eq_true c4;clear c4
     by_cases c5 : (rd l0 x5_1) = a1
     ·rw [if_pos c5] at H;have c5b0 : ((rd l0 x5_1) == a1) = true:=beq_iff_eq.mpr c5;have c5b1 : ((rd l0 x5_1) != a1) = false:=bne_eq_false_iff_eq.mpr c5;clear c5;obtain rfl:=Option.some.inj H;have p615 : 0 ≤ (x5_1 : Int):=of_decide_eq_true (by (with_reducible assumption));have q615 : x5_1 < (l0.length : Int):=of_decide_eq_true (by (with_reducible assumption));obtain ⟨ad615,e615,hx615_0⟩ := Kd.at_int HR0.out x5_1 p615 q615;cases e615;replace p615:=eq_true p615;replace q615:=eq_true q615
      go_wp2
      go_ret
      exact ⟨by rfl,by repeat (first | exact Drawn0.refl _ | apply Drawn0.step)⟩
     ·rw [if_neg c5] at H;have c5b0 : ((rd l0 x5_1) == a1) = false:=beq_eq_false_iff_ne.mpr c5;have c5b1 : ((rd l0 x5_1) != a1) = true:=bne_iff_ne.mpr c5;have H':=am_ H;clear H;have p615 : 0 ≤ (x5_1 : Int):=of_decide_eq_true (by (with_reducible assumption));have q615 : x5_1 < (l0.length : Int):=of_decide_eq_true (by (with_reducible assumption));obtain ⟨ad615,e615,hx615_0⟩ := Kd.at_int HR0.out x5_1 p615 q615;cases e615;replace p615:=eq_true p615;replace q615:=eq_true q615
      go_wp2
      go_roundg k1
      case measure => have:=HK1.out;omega
      case rel => exact ⟨(wrap64 (x5_1 + 1)),(by rfl),H',⟨by have:=HK1.out;omega⟩,by repeat (first | exact Drawn0.refl _ | apply Drawn0.step)⟩
    ·rw [if_neg c4] at H
     exact absurd H (by simp)
   ·rw [if_neg c3] at H;have c3b0 : decide (x5_1 < (l0.length : Int)) = false:=decide_eq_false c3;clear c3;obtain rfl:=Option.some.inj H
    go_wp2
    go_ret
    exact ⟨by rfl,by repeat (first | exact Drawn0.refl _ | apply Drawn0.step)⟩

/-! ### spec_EmptyWagons: function 27 -/
def spec_EmptyWagons.l0 : Nat → List (S54) → List Int → List Int → Int → Option (List Int × Bool)
 | 0,_,_,_,_ => none
 | k + 1,x0,x2,x8,x9 => if x9 < (x0.length : Int) then ((spec_l1Has.f k x2 x9).bind fun t620 => (if t620 = true then (spec_EmptyWagons.l0 k x0 x2 x8 (wrap64 (x9 + 1))) else (if x8.length < 17592186044416 then (spec_EmptyWagons.l0 k x0 x2 (x8 ++ [x9]) (wrap64 (x9 + 1))) else (none)))) else (some (x8,true))
def spec_EmptyWagons.f (k : Nat) (l0 : List (S54)) (l1 : List (S64)) (l2 : List Int) : Option (List Int × Bool):=(some (([] : List Int) : List Int)).bind fun y616 => ((spec_l19Good.f k l0 l1 l2).bind fun t619 => (if t619 = true then (spec_EmptyWagons.l0 k l0 l2 y616 0) else (some (y616,false))))
theorem spec_EmptyWagons.mono_l : ∀ k,(∀ y0 y1 y2 y3,LeO (spec_EmptyWagons.l0 k y0 y1 y2 y3) (spec_EmptyWagons.l0 (k + 1) y0 y1 y2 y3))
 | 0 => fun _ _ _ _ r h => by simp [spec_EmptyWagons.l0] at h
 | k + 1 => by
  have ih0:=spec_EmptyWagons.mono_l k
  ·intro y0 y1 y2 y3
   unfold spec_EmptyWagons.l0
   repeat' first
   | (with_reducible exact ih0 _ _ _ _)
   | (with_reducible exact spec_l19Good.mono _ _ _ _)
   | (with_reducible exact spec_l1Has.mono _ _ _)
   | (with_reducible exact LeO.refl _)
   | (with_reducible exact LeO.none _)
   | (with_reducible refine LeO.ite ?_ ?_)
   | (with_reducible refine LeO.bind ?_ (fun _ => ?_))
   | exact ih0 _ _ _ _
   | exact spec_l19Good.mono _ _ _ _
   | exact spec_l1Has.mono _ _ _
   | exact LeO.none _
   | refine LeO.ite ?_ ?_
   | refine LeO.bind ?_ (fun _ => ?_)
theorem spec_EmptyWagons.mono : ∀ a0 a1 a2 k,LeO (spec_EmptyWagons.f k a0 a1 a2) (spec_EmptyWagons.f (k + 1) a0 a1 a2):=by
 intro a0 a1 a2 k;have ih0:=spec_EmptyWagons.mono_l k
 unfold spec_EmptyWagons.f
 repeat' first
   | (with_reducible exact ih0 _ _ _ _)
   | (with_reducible exact spec_l19Good.mono _ _ _ _)
   | (with_reducible exact spec_l1Has.mono _ _ _)
   | (with_reducible exact LeO.refl _)
   | (with_reducible exact LeO.none _)
   | (with_reducible refine LeO.ite ?_ ?_)
   | (with_reducible refine LeO.bind ?_ (fun _ => ?_))
   | exact ih0 _ _ _ _
   | exact spec_l19Good.mono _ _ _ _
   | exact spec_l1Has.mono _ _ _
   | exact LeO.none _
   | refine LeO.ite ?_ ?_
   | refine LeO.bind ?_ (fun _ => ?_)
set_option maxHeartbeats 8000000 in
set_option maxRecDepth 100000 in
theorem spec_EmptyWagons.calls (k : Nat) (A0 : Option Addr) (c0 : Nat) (l0 : List (S54)) (A1 : Option Addr) (c1 : Nat) (l1 : List (S64)) (A2 : Option Addr) (c2 : Nat) (l2 : List Int) (r1 : List Int) (r2 : Bool) (w : World) (hr0 : Kd.C k54 w A0 l0.length l0) (hc0 : l0.length ≤ c0) (hr1 : Kd.C k64 w A1 l1.length l1) (hc1 : l1.length ≤ c1) (hr2 : Kd.C (Kd.int .i64) w A2 l2.length l2) (hc2 : l2.length ≤ c2) (h : spec_EmptyWagons.f k l0 l1 l2 = some (r1,r2)) :
  Calls Try.prog 27 #[.slice A0 l0.length c0, .slice A1 l1.length c1, .slice A2 l2.length c2] w fun e w' => ∃ v0_ : Value,e = .returned (.tuple #[v0_, .bool r2]) ∧ Kd.R (Kd.int .i64) 3 w' w.heap.size (fun _ => True) v0_ r1 ∧ Below w.heap.size w w':=by
 have HR0:=am_ hr0;have HC0:=am_ hc0;clear hr0 hc0;have HR1:=am_ hr1;have HC1:=am_ hc1;clear hr1 hc1;have HR2:=am_ hr2;have HC2:=am_ hc2;clear hr2 hc2;have HB:=am_ (Below.refl w.heap.size w);have H : ((some (([] : List Int) : List Int)).bind fun y616 => ((spec_l19Good.f k l0 l1 l2).bind fun t619 => (if t619 = true then (spec_EmptyWagons.l0 k l0 l2 y616 0) else (some (y616,false))))) = some (r1,r2):=h;clear h;obtain ⟨y616,hy616⟩ : ∃ y_ : List Int,y_ = (([] : List Int)):=⟨_,rfl⟩
 replace H : ((spec_l19Good.f k l0 l1 l2).bind fun t619 => (if t619 = true then (spec_EmptyWagons.l0 k l0 l2 y616 0) else (some (y616,false)))) = some (r1,r2):=by (have H2_:=(Option.bind_some _ _).symm.trans H;rw [hy616];with_reducible exact H2_)
 have Ny616:=am_ hy616;clear hy616;replace H:=Option.bind_eq_some_iff.mp H;obtain ⟨t619,A40,H⟩ := H;replace H : (if t619 = true then (spec_EmptyWagons.l0 k l0 l2 y616 0) else (some (y616,false))) = some (r1,r2):=H;have A4:=am_ A40;clear A40
 by_cases c5 : t619 = true
 ·subst c5
  have H1 : (spec_EmptyWagons.l0 k l0 l2 y616 0) = some (r1,r2):=by rw [if_pos rfl] at H;exact H
  clear H;have H:=H1;clear H1;have H':=am_ H;clear H
  go_enter Try.func27,Try.ntmps27
  go_wp2_with (first | ((with_reducible refine gate_dst (N:=10) rfl ?_);refine Kd.R_lit (Kd.int .i64) _ 3 ?hg (N:=10) ?hd (xs:=([] : List Int)) (inner := []) (ok:=fun _ => True) (okp:=fun _ => True) ?hr ?hp (fun _ hk => hk) trivial (Below.refl _ _) (Nat.le_refl _) (by simp) ?_;(case hd => rfl);(case hg => rfl);(case hr => (go_simp;done));(case hp => exact (Reps.none _ _));intro v617 w6 ho7 hb hg_ hnew_;clear hg_ hnew_;(rw [← Ny616.out] at ho7);have n0_:=am_ (Kd.R_lower ho7 (below_size (by exact HB.out)));have n1_:=am_ (below_step (by exact HB.out) hb);clear HB;have HO618:=n0_;have HB:=n1_;clear n0_ n1_;clear hb ho7) | ((with_reducible refine gate_callee (f:=60) rfl ?_);refine goesL_ (some 14) rfl rfl Try.func60 (by kernel_rfl) rfl #[.slice A0 l0.length c0, .slice A1 l1.length c1, .slice A2 l2.length c2] rfl (by (try simp only [List.map_toArray,List.map_cons,List.map_nil]);rfl) ?_;(with_reducible refine (spec_l19Good.calls k _ _ l0 _ _ l1 _ _ l2 true _ ?side1 ?side2 ?side3 ?side4 ?side5 ?side6 A4.out).mono ?_);(case side1 => repeat (exact (Kd.C_below HR0.out HB.out)));(case side2 => exact HC0.out);(case side3 => repeat (exact (Kd.C_below HR1.out HB.out)));(case side4 => exact HC1.out);(case side5 => repeat (exact (Kd.C_below HR2.out HB.out)));(case side6 => exact HC2.out);rintro e w8 ⟨rfl,hb⟩;refine ⟨_,rfl, ?_⟩;have n0_:=am_ (Kd.R_below (by exact HO618.out) hb);have n1_:=am_ (below_step (by exact HB.out) hb);clear HO618;clear HB;have HO618:=n0_;have HB:=n1_;clear n0_ n1_;(try clear hb)))
  (skip)
  go_loopg [8,9] k (fun kq v8 v9 w' => ∃ (x8_1 : List Int) (x9_1 : Int),v9 = .int .i64 x9_1 ∧ Aside0 (spec_EmptyWagons.l0 kq l0 l2 x8_1 x9_1 = some (r1,r2)) ∧ Aside0 (kq ≤ k) ∧ Aside0 (Kd.R (Kd.int .i64) 3 w' w.heap.size (fun _ => True) v8 x8_1) ∧ Aside0 (Below w.heap.size w w'))
  case atStart => exact ⟨(y616),(0),(by rfl),H',⟨Nat.le_refl _⟩,⟨by exact HO618.out⟩,⟨by exact HB.out⟩⟩
  case round =>
   clear H';(try clear c1);(try clear c2);(try clear p2);(try clear c5);(try clear c6);obtain ⟨x8_1,x9_1,rfl,HA,HK1,HO_8,HB⟩ := hrel
   cases gk with
   | zero => exact absurd HA.out (by simp [spec_EmptyWagons.l0])
   | succ k1 =>
    have H:=HA.out;clear HA;simp only [spec_EmptyWagons.l0] at H
    by_cases c9 : x9_1 < (l0.length : Int)
    ·rw [if_pos c9] at H;have c9b0 : decide (x9_1 < (l0.length : Int)) = true:=decide_eq_true c9;clear c9;replace H:=Option.bind_eq_some_iff.mp H;obtain ⟨t620,A100,H⟩ := H;replace H : (if t620 = true then (spec_EmptyWagons.l0 k1 l0 l2 x8_1 (wrap64 (x9_1 + 1))) else (if x8_1.length < 17592186044416 then (spec_EmptyWagons.l0 k1 l0 l2 (x8_1 ++ [x9_1]) (wrap64 (x9_1 + 1))) else (none))) = some (r1,r2):=H;have A10:=am_ A100;clear A100
     by_cases c11 : t620 = true
     ·subst c11
      have H1 : (spec_EmptyWagons.l0 k1 l0 l2 x8_1 (wrap64 (x9_1 + 1))) = some (r1,r2):=by rw [if_pos rfl] at H;exact H
      clear H;have H:=H1;clear H1;have H':=am_ H;clear H
      go_wp2_with (((with_reducible refine gate_callee (f:=62) rfl ?_);refine goesL_ (some 25) rfl rfl Try.func62 (by kernel_rfl) rfl #[.slice A2 l2.length c2, .int .i64 x9_1] rfl (by (try simp only [List.map_toArray,List.map_cons,List.map_nil]);rfl) ?_;(with_reducible refine (spec_l1Has.calls k1 _ _ l2 x9_1 true _ ?side1 ?side2 A10.out).mono ?_);(case side1 => repeat (exact (Kd.C_below HR2.out HB.out)));(case side2 => exact HC2.out);rintro e w' ⟨rfl,⟨nd,rfl⟩⟩;refine ⟨_,rfl, ?_⟩))
      go_roundg k1
      case measure => have:=HK1.out;omega
      case rel => exact ⟨(x8_1),(wrap64 (x9_1 + 1)),(by rfl),H',⟨by have:=HK1.out;omega⟩,⟨by (with_reducible repeat (apply Kd.R_drewN));exact HO_8.out⟩,⟨by repeat ((with_reducible first | exact HB.out | apply pw_below_drewN))⟩⟩
     ·replace c11:=Bool.eq_false_iff.mpr c11;subst c11
      have H1 : (if x8_1.length < 17592186044416 then (spec_EmptyWagons.l0 k1 l0 l2 (x8_1 ++ [x9_1]) (wrap64 (x9_1 + 1))) else (none)) = some (r1,r2):=by rw [if_neg (show ¬ (false = true) by decide)] at H;exact H
      clear H;have H:=H1;clear H1
      by_cases c12 : x8_1.length < 17592186044416
      ·rw [if_pos c12] at H;have LMc12:=am_ c12;clear c12;obtain ⟨y621,hy621⟩ : ∃ y_ : List Int,y_ = (x8_1 ++ [x9_1]):=⟨_,rfl⟩
       replace H : (spec_EmptyWagons.l0 k1 l0 l2 y621 (wrap64 (x9_1 + 1))) = some (r1,r2):=by (rw [hy621];with_reducible exact H)
       have Ny621:=am_ hy621;clear hy621;have H':=am_ H;clear H
       go_wp2_with (first | ((with_reducible refine gate_callee (f:=62) rfl ?_);refine goesL_ (some 25) rfl rfl Try.func62 (by kernel_rfl) rfl #[.slice A2 l2.length c2, .int .i64 x9_1] rfl (by (try simp only [List.map_toArray,List.map_cons,List.map_nil]);rfl) ?_;(with_reducible refine (spec_l1Has.calls k1 _ _ l2 x9_1 false _ ?side1 ?side2 A10.out).mono ?_);(case side1 => repeat (exact (Kd.C_below HR2.out HB.out)));(case side2 => exact HC2.out);rintro e w' ⟨rfl,⟨nd,rfl⟩⟩;refine ⟨_,rfl, ?_⟩) | ((with_reducible refine gate_builtin (b := .append) (xs:=#[.tmp 27, .tmp 29]) rfl ?_);at_builtin;refine Kd.R_append (Kd.int .i64) (w0:=w) w.heap.size rfl (.tmp 27) (.tmp 29) 39 3 (.int .i64 0) 8 rfl Try.underlying39 info3 rfl (by decide) (by omega) u8 x8_1 x9_1 [.int .i64 x9_1] (fun _ => True) (fun _ => False) rfl rfl ?aP (fun _ hk => hk.elim) ?aF ?aO ?aB ?aS ?aL ?_;(case aP => exact rfl);(case aB => exact (by repeat ((with_reducible first | exact HB.out | apply pw_below_drewN))));(case aF => exact (fun _ _ => trivial));(case aO => exact (by (with_reducible repeat (apply Kd.R_drewN));exact HO_8.out));(case aS => exact (below_size (by repeat ((with_reducible first | exact HB.out | apply pw_below_drewN)))));(case aL => have:=LMc12.out;omega);intro v622 w13 ho hb hg hat;rw [← Ny621.out] at ho;have n0_:=am_ hb;have n1_:=am_ (ho);clear HB;clear HO_8;have HB:=n0_;have HO623:=n1_;clear n0_ n1_;clear ho hb hg hat))
       go_roundg k1
       case measure => have:=HK1.out;omega
       case rel => exact ⟨(y621),(wrap64 (x9_1 + 1)),(by rfl),H',⟨by have:=HK1.out;omega⟩,⟨by exact HO623.out⟩,⟨by exact HB.out⟩⟩
      ·rw [if_neg c12] at H
       exact absurd H (by simp)
    ·rw [if_neg c9] at H;have c9b0 : decide (x9_1 < (l0.length : Int)) = false:=decide_eq_false c9;clear c9;simp only [Option.some.injEq,Prod.mk.injEq] at H;obtain ⟨rfl,rfl⟩ := H
     go_wp2
     go_ret2
     exact ⟨_,by rfl,by exact HO_8.out,by exact HB.out⟩
 ·replace c5:=Bool.eq_false_iff.mpr c5;subst c5
  have H1 : (some (y616,false)) = some (r1,r2):=by rw [if_neg (show ¬ (false = true) by decide)] at H;exact H
  clear H;have H:=H1;clear H1;simp only [Option.some.injEq,Prod.mk.injEq] at H;obtain ⟨rfl,rfl⟩ := H
  go_enter Try.func27,Try.ntmps27
  go_wp2_with (first | ((with_reducible refine gate_dst (N:=10) rfl ?_);refine Kd.R_lit (Kd.int .i64) _ 3 ?hg (N:=10) ?hd (xs:=([] : List Int)) (inner := []) (ok:=fun _ => True) (okp:=fun _ => True) ?hr ?hp (fun _ hk => hk) trivial (Below.refl _ _) (Nat.le_refl _) (by simp) ?_;(case hd => rfl);(case hg => rfl);(case hr => (go_simp;done));(case hp => exact (Reps.none _ _));intro v617 w14 ho15 hb hg_ hnew_;clear hg_ hnew_;(rw [← Ny616.out] at ho15);have n0_:=am_ (Kd.R_lower ho15 (below_size (by exact HB.out)));have n1_:=am_ (below_step (by exact HB.out) hb);clear HB;have HO618:=n0_;have HB:=n1_;clear n0_ n1_;clear hb ho15) | ((with_reducible refine gate_callee (f:=60) rfl ?_);refine goesL_ (some 14) rfl rfl Try.func60 (by kernel_rfl) rfl #[.slice A0 l0.length c0, .slice A1 l1.length c1, .slice A2 l2.length c2] rfl (by (try simp only [List.map_toArray,List.map_cons,List.map_nil]);rfl) ?_;(with_reducible refine (spec_l19Good.calls k _ _ l0 _ _ l1 _ _ l2 false _ ?side1 ?side2 ?side3 ?side4 ?side5 ?side6 A4.out).mono ?_);(case side1 => repeat (exact (Kd.C_below HR0.out HB.out)));(case side2 => exact HC0.out);(case side3 => repeat (exact (Kd.C_below HR1.out HB.out)));(case side4 => exact HC1.out);(case side5 => repeat (exact (Kd.C_below HR2.out HB.out)));(case side6 => exact HC2.out);rintro e w16 ⟨rfl,hb⟩;refine ⟨_,rfl, ?_⟩;have n0_:=am_ (Kd.R_below (by exact HO618.out) hb);have n1_:=am_ (below_step (by exact HB.out) hb);clear HO618;clear HB;have HO618:=n0_;have HB:=n1_;clear n0_ n1_;(try clear hb)))
  go_ret2
  exact ⟨_,by rfl,by exact HO618.out,by exact HB.out⟩

end Go.Proofs.Ythbibjfnmljpkaa.PFnTrainLoading
