-- Written by a program of this session, over the kit's print (wip/xprint.py)
import Derived.Test.YtempmebpbbbkmaaPFnWagonsx0
import Derived.Test.YtempmebpbbbkmaaPFnWagonsx1
import Derived.Test.YtempmebpbbbkmaaPFnWagonsx3
import Derived.Test.YtempmebpbbbkmaaPFnWagonsx4
import Derived.Test.YtempmebpbbbkmaaPFnWagonsx8
import Derived.Test.YtempmebpbbbkmaaPFnWagonsx9
namespace Go.Proofs.Ytempmebpbbbkmaa.PFnWagons
open Go.RowKit Go.Proofs.YtempmebpbbbkmaaW.PrintWords Go.Proofs.YtempmebpbbbkmaaW.PrintLast Go.Proofs.YtempmebpbbbkmaaW.PrintMore
attribute [local go_sem] max2_int min2_int max_two min_two max_three min_three max_four min_four   -- for this text's walks alone
set_option linter.unusedVariables false
set_option linter.unusedSimpArgs false

/-! ### spec_l19Good: function 24 -/
mutual
def spec_l19Good.j0 : Nat → List (S60) → List (S33) → List Int → Bool → Option (Bool)
 | 0,_,_,_,_ => none
 | k + 1,x0,x1,x2,x22 => if x22 = true then (some false) else (spec_l19Good.l0 k x0 x1 x2 0)
def spec_l19Good.l0 : Nat → List (S60) → List (S33) → List Int → Int → Option (Bool)
 | 0,_,_,_,_ => none
 | k + 1,x0,x1,x2,x7 => if x7 < (x2.length : Int) then (if 0 ≤ x7 then ((spec_l1In.f (rd x2 x7) (-1) (wrap64 ((x0.length : Int) - 1))).bind fun t489 => (if t489 = true then (spec_l19Good.l0 k x0 x1 x2 (wrap64 (x7 + 1))) else (some false))) else (none)) else ((spec_l19Fits.f k x0 x1 x2).bind fun t490 => (some t490))
end
def spec_l19Good.f (k : Nat) (l0 : List (S60)) (l1 : List (S33)) (l2 : List Int) : Option (Bool):=(spec_l19Train.f k l0).bind fun t486 => (if t486 = true then ((spec_l2List.f k l1).bind fun t487 => (if t487 = true then (spec_l19Good.j0 k l0 l1 l2 ((l2.length : Int) != (l1.length : Int))) else (spec_l19Good.j0 k l0 l1 l2 true))) else (spec_l19Good.j0 k l0 l1 l2 true))
theorem spec_l19Good.mono_l : ∀ k,(∀ y0 y1 y2 y3,LeO (spec_l19Good.j0 k y0 y1 y2 y3) (spec_l19Good.j0 (k + 1) y0 y1 y2 y3)) ∧ (∀ y0 y1 y2 y3,LeO (spec_l19Good.l0 k y0 y1 y2 y3) (spec_l19Good.l0 (k + 1) y0 y1 y2 y3))
 | 0 => ⟨fun _ _ _ _ r h => by simp [spec_l19Good.j0] at h,fun _ _ _ _ r h => by simp [spec_l19Good.l0] at h⟩
 | k + 1 => by
  obtain ⟨ih0,ih1⟩ := spec_l19Good.mono_l k
  refine ⟨?_, ?_⟩
  ·intro y0 y1 y2 y3
   unfold spec_l19Good.j0
   repeat' first
   | (with_reducible exact ih0 _ _ _ _)
   | (with_reducible exact ih1 _ _ _ _)
   | (with_reducible exact spec_l19Fits.mono _ _ _ _)
   | (with_reducible exact spec_l19Train.mono _ _)
   | (with_reducible exact spec_l2List.mono _ _)
   | (with_reducible exact LeO.refl _)
   | (with_reducible exact LeO.none _)
   | (with_reducible refine LeO.ite ?_ ?_)
   | (with_reducible refine LeO.bind ?_ (fun _ => ?_))
   | exact ih0 _ _ _ _
   | exact ih1 _ _ _ _
   | exact spec_l19Fits.mono _ _ _ _
   | exact spec_l19Train.mono _ _
   | exact spec_l2List.mono _ _
   | exact LeO.none _
   | refine LeO.ite ?_ ?_
   | refine LeO.bind ?_ (fun _ => ?_)
  ·intro y0 y1 y2 y3
   unfold spec_l19Good.l0
   repeat' first
   | (with_reducible exact ih0 _ _ _ _)
   | (with_reducible exact ih1 _ _ _ _)
   | (with_reducible exact spec_l19Fits.mono _ _ _ _)
   | (with_reducible exact spec_l19Train.mono _ _)
   | (with_reducible exact spec_l2List.mono _ _)
   | (with_reducible exact LeO.refl _)
   | (with_reducible exact LeO.none _)
   | (with_reducible refine LeO.ite ?_ ?_)
   | (with_reducible refine LeO.bind ?_ (fun _ => ?_))
   | exact ih0 _ _ _ _
   | exact ih1 _ _ _ _
   | exact spec_l19Fits.mono _ _ _ _
   | exact spec_l19Train.mono _ _
   | exact spec_l2List.mono _ _
   | exact LeO.none _
   | refine LeO.ite ?_ ?_
   | refine LeO.bind ?_ (fun _ => ?_)
theorem spec_l19Good.mono : ∀ a0 a1 a2 k,LeO (spec_l19Good.f k a0 a1 a2) (spec_l19Good.f (k + 1) a0 a1 a2):=by
 intro a0 a1 a2 k
 obtain ⟨ih0,ih1⟩ := spec_l19Good.mono_l k
 unfold spec_l19Good.f
 repeat' first
   | (with_reducible exact ih0 _ _ _ _)
   | (with_reducible exact ih1 _ _ _ _)
   | (with_reducible exact spec_l19Fits.mono _ _ _ _)
   | (with_reducible exact spec_l19Train.mono _ _)
   | (with_reducible exact spec_l2List.mono _ _)
   | (with_reducible exact LeO.refl _)
   | (with_reducible exact LeO.none _)
   | (with_reducible refine LeO.ite ?_ ?_)
   | (with_reducible refine LeO.bind ?_ (fun _ => ?_))
   | exact ih0 _ _ _ _
   | exact ih1 _ _ _ _
   | exact spec_l19Fits.mono _ _ _ _
   | exact spec_l19Train.mono _ _
   | exact spec_l2List.mono _ _
   | exact LeO.none _
   | refine LeO.ite ?_ ?_
   | refine LeO.bind ?_ (fun _ => ?_)
set_option maxHeartbeats 8000000 in
set_option maxRecDepth 100000 in
theorem spec_l19Good.calls (k : Nat) (A0 : Option Addr) (c0 : Nat) (l0 : List (S60)) (A1 : Option Addr) (c1 : Nat) (l1 : List (S33)) (A2 : Option Addr) (c2 : Nat) (l2 : List Int) (r : Bool) (w : World) (hr0 : Kd.C k60 w A0 l0.length l0) (hc0 : l0.length ≤ c0) (hr1 : Kd.C k33 w A1 l1.length l1) (hc1 : l1.length ≤ c1) (hr2 : Kd.C (Kd.int .i64) w A2 l2.length l2) (hc2 : l2.length ≤ c2) (h : spec_l19Good.f k l0 l1 l2 = some r) :
  Calls Try.prog 24 #[.slice A0 l0.length c0, .slice A1 l1.length c1, .slice A2 l2.length c2] w fun e w' => e = .returned (.bool r) ∧ Below w.heap.size w w':=by
 have HR0:=Aside0.mk hr0
 have HC0:=Aside0.mk hc0
 clear hr0 hc0
 have HR1:=Aside0.mk hr1
 have HC1:=Aside0.mk hc1
 clear hr1 hc1
 have HR2:=Aside0.mk hr2
 have HC2:=Aside0.mk hc2
 clear hr2 hc2
 have HB:=Aside0.mk (Below.refl w.heap.size w)
 have H : ((spec_l19Train.f k l0).bind fun t486 => (if t486 = true then ((spec_l2List.f k l1).bind fun t487 => (if t487 = true then (spec_l19Good.j0 k l0 l1 l2 ((l2.length : Int) != (l1.length : Int))) else (spec_l19Good.j0 k l0 l1 l2 true))) else (spec_l19Good.j0 k l0 l1 l2 true))) = some r:=h
 clear h
 have HC4:=Aside0.mk H
 clear H
 go_enter Try.func24,Try.ntmps24
 go_upto_region 1 with (fail)
 go_cut [22] (fun v22 wc => ∃ (kq : Nat) (x22_3 : Bool),v22 = .bool x22_3 ∧ Aside0 (spec_l19Good.j0 kq l0 l1 l2 x22_3 = some r) ∧ Aside0 (kq ≤ k) ∧ Aside0 (Below w.heap.size w wc))
 case first =>
  have H:=HC4.out
  clear HC4
  replace H:=Option.bind_eq_some_iff.mp H
  obtain ⟨t486,A50,H⟩ := H
  replace H : (if t486 = true then ((spec_l2List.f k l1).bind fun t487 => (if t487 = true then (spec_l19Good.j0 k l0 l1 l2 ((l2.length : Int) != (l1.length : Int))) else (spec_l19Good.j0 k l0 l1 l2 true))) else (spec_l19Good.j0 k l0 l1 l2 true)) = some r:=H
  have A5:=Aside0.mk A50
  clear A50
  by_cases c6 : t486 = true
  ·subst c6
   have H1 : ((spec_l2List.f k l1).bind fun t487 => (if t487 = true then (spec_l19Good.j0 k l0 l1 l2 ((l2.length : Int) != (l1.length : Int))) else (spec_l19Good.j0 k l0 l1 l2 true))) = some r:=by rw [if_pos rfl] at H;exact H
   clear H
   have H:=H1
   clear H1
   replace H:=Option.bind_eq_some_iff.mp H
   obtain ⟨t487,A70,H⟩ := H
   replace H : (if t487 = true then (spec_l19Good.j0 k l0 l1 l2 ((l2.length : Int) != (l1.length : Int))) else (spec_l19Good.j0 k l0 l1 l2 true)) = some r:=H
   have A7:=Aside0.mk A70
   clear A70
   by_cases c8 : t487 = true
   ·subst c8
    have H1 : (spec_l19Good.j0 k l0 l1 l2 ((l2.length : Int) != (l1.length : Int))) = some r:=by rw [if_pos rfl] at H;exact H
    clear H
    have H:=H1
    clear H1
    have H':=Aside0.mk H
    clear H
    go_wp2_with (first | ((with_reducible refine gate_callee (f:=42) rfl ?_);refine goesL_ (some 9) rfl rfl Try.func42 (by kernel_rfl) rfl #[.slice A0 l0.length c0] rfl (by (try simp only [List.map_toArray,List.map_cons,List.map_nil]);rfl) ?_;(with_reducible refine (spec_l19Train.calls k _ _ l0 true _ ?side1 ?side2 A5.out).mono ?_);(case side1 => repeat (exact (Kd.C_below HR0.out HB.out)));(case side2 => exact HC0.out);rintro e w' ⟨rfl,⟨nd,rfl⟩⟩;refine ⟨_,rfl, ?_⟩) | (go_at_call 43;(with_reducible refine (spec_l2List.calls k _ _ l1 true _ ?side1 ?side2 A7.out).mono ?_);(case side1 => repeat (exact (Kd.C_below HR1.out (by repeat ((with_reducible first | exact HB.out | apply pw_below_drewN))))));(case side2 => exact HC1.out);rintro e w9 ⟨rfl,hb⟩;have n0_:=Aside0.mk (below_step (by repeat ((with_reducible first | exact HB.out | apply pw_below_drewN))) hb);clear HB;have HB:=n0_;clear n0_;(try clear hb)))
    go_meet
    case rel => exact ⟨_,(((l2.length : Int) != (l1.length : Int))),(by rfl),H',⟨by omega⟩,⟨by exact HB.out⟩⟩
   ·replace c8:=Bool.eq_false_iff.mpr c8
    subst c8
    have H1 : (spec_l19Good.j0 k l0 l1 l2 true) = some r:=by rw [if_neg (show ¬ (false = true) by decide)] at H;exact H
    clear H
    have H:=H1
    clear H1
    have H':=Aside0.mk H
    clear H
    go_wp2_with (first | ((with_reducible refine gate_callee (f:=42) rfl ?_);refine goesL_ (some 9) rfl rfl Try.func42 (by kernel_rfl) rfl #[.slice A0 l0.length c0] rfl (by (try simp only [List.map_toArray,List.map_cons,List.map_nil]);rfl) ?_;(with_reducible refine (spec_l19Train.calls k _ _ l0 true _ ?side1 ?side2 A5.out).mono ?_);(case side1 => repeat (exact (Kd.C_below HR0.out HB.out)));(case side2 => exact HC0.out);rintro e w' ⟨rfl,⟨nd,rfl⟩⟩;refine ⟨_,rfl, ?_⟩) | (go_at_call 43;(with_reducible refine (spec_l2List.calls k _ _ l1 false _ ?side1 ?side2 A7.out).mono ?_);(case side1 => repeat (exact (Kd.C_below HR1.out (by repeat ((with_reducible first | exact HB.out | apply pw_below_drewN))))));(case side2 => exact HC1.out);rintro e w10 ⟨rfl,hb⟩;have n0_:=Aside0.mk (below_step (by repeat ((with_reducible first | exact HB.out | apply pw_below_drewN))) hb);clear HB;have HB:=n0_;clear n0_;(try clear hb)))
    go_meet
    case rel => exact ⟨_,(true),(by rfl),H',⟨by omega⟩,⟨by exact HB.out⟩⟩
  ·replace c6:=Bool.eq_false_iff.mpr c6
   subst c6
   have H1 : (spec_l19Good.j0 k l0 l1 l2 true) = some r:=by rw [if_neg (show ¬ (false = true) by decide)] at H;exact H
   clear H
   have H:=H1
   clear H1
   have H':=Aside0.mk H
   clear H
   go_wp2_with (((with_reducible refine gate_callee (f:=42) rfl ?_);refine goesL_ (some 9) rfl rfl Try.func42 (by kernel_rfl) rfl #[.slice A0 l0.length c0] rfl (by (try simp only [List.map_toArray,List.map_cons,List.map_nil]);rfl) ?_;(with_reducible refine (spec_l19Train.calls k _ _ l0 false _ ?side1 ?side2 A5.out).mono ?_);(case side1 => repeat (exact (Kd.C_below HR0.out HB.out)));(case side2 => exact HC0.out);rintro e w' ⟨rfl,⟨nd,rfl⟩⟩;refine ⟨_,rfl, ?_⟩))
   go_meet
   case rel => exact ⟨_,(true),(by rfl),H',⟨by omega⟩,⟨by repeat ((with_reducible first | exact HB.out | apply pw_below_drewN))⟩⟩
 case rest =>
  clear HC4
  try clear c1
  try clear c2
  try clear p2
  try clear c4
  try clear c6
  try clear c8
  obtain ⟨kq,x22_3,rfl,HA,HJ3,HB⟩ := hcut
  cases kq with
  | zero => exact absurd HA.out (by simp [spec_l19Good.j0])
  | succ kj3 =>
   have H:=HA.out
   clear HA
   simp only [spec_l19Good.j0] at H
   by_cases c11 : x22_3 = true
   ·subst c11
    have H1 : (some false) = some r:=by rw [if_pos rfl] at H;exact H
    clear H
    have H:=H1
    clear H1
    obtain rfl:=Option.some.inj H
    go_wp2
    go_ret
    exact ⟨by rfl,by exact HB.out⟩
   ·replace c11:=Bool.eq_false_iff.mpr c11
    subst c11
    have H1 : (spec_l19Good.l0 kj3 l0 l1 l2 0) = some r:=by rw [if_neg (show ¬ (false = true) by decide)] at H;exact H
    clear H
    have H:=H1
    clear H1
    have H':=Aside0.mk H
    clear H
    go_wp2
    (skip)
    go_loopg [7] kj3 (fun kq v7 w' => ∃ (x7_2 : Int),v7 = .int .i64 x7_2 ∧ Aside0 (spec_l19Good.l0 kq l0 l1 l2 x7_2 = some r) ∧ Aside0 (kq ≤ kj3) ∧ Aside0 (Below w.heap.size w w'))
    case atStart => exact ⟨(0),(by rfl),H',⟨Nat.le_refl _⟩,⟨by exact HB.out⟩⟩
    case round =>
     clear H'
     try clear c1
     try clear c2
     try clear p2
     try clear c4
     try clear c6
     try clear c8
     try clear c11
     try clear p2
     obtain ⟨x7_2,rfl,HA,HK2,HB⟩ := hrel
     cases gk with
     | zero => exact absurd HA.out (by simp [spec_l19Good.l0])
     | succ k2 =>
      have H:=HA.out
      clear HA
      simp only [spec_l19Good.l0] at H
      by_cases c12 : x7_2 < (l2.length : Int)
      ·rw [if_pos c12] at H
       have c12b0 : decide (x7_2 < (l2.length : Int)) = true:=decide_eq_true c12
       clear c12
       by_cases c13 : 0 ≤ x7_2
       ·rw [if_pos c13] at H
        have c13b0 : decide (0 ≤ x7_2) = true:=decide_eq_true c13
        clear c13
        replace H:=Option.bind_eq_some_iff.mp H
        obtain ⟨t489,A140,H⟩ := H
        replace H : (if t489 = true then (spec_l19Good.l0 k2 l0 l1 l2 (wrap64 (x7_2 + 1))) else (some false)) = some r:=H
        have A14:=Aside0.mk A140
        clear A140
        by_cases c15 : t489 = true
        ·subst c15
         have H1 : (spec_l19Good.l0 k2 l0 l1 l2 (wrap64 (x7_2 + 1))) = some r:=by rw [if_pos rfl] at H;exact H
         clear H
         have H:=H1
         clear H1
         have H':=Aside0.mk H
         clear H
         have p488 : 0 ≤ (x7_2 : Int):=of_decide_eq_true (by (with_reducible assumption))
         have q488 : x7_2 < (l2.length : Int):=of_decide_eq_true (by (with_reducible assumption))
         obtain ⟨ad488,e488,hx488_0⟩ := Kd.at_int HR2.out x7_2 p488 q488
         cases e488
         replace hx488_0:=(HB.out.cell (World.block_lt_of_cell? w _ hx488_0)).trans hx488_0
         replace p488:=eq_true p488
         replace q488:=eq_true q488
         go_wp2_with (((with_reducible refine gate_callee (f:=44) rfl ?_);refine goesL_ (some 36) rfl rfl Try.func44 (by kernel_rfl) rfl #[.int .i64 (rd l2 x7_2), .int .i64 (-1), .int .i64 (wrap64 ((l0.length : Int) - 1))] rfl (by (try simp only [List.map_toArray,List.map_cons,List.map_nil]);rfl) ?_;(with_reducible refine (spec_l1In.calls (rd l2 x7_2) (-1) (wrap64 ((l0.length : Int) - 1)) true _ A14.out).mono ?_);rintro e w' ⟨rfl,⟨nd,rfl⟩⟩;refine ⟨_,rfl, ?_⟩))
         go_roundg k2
         case measure => have:=HJ3.out;have:=HK2.out;omega
         case rel => exact ⟨(wrap64 (x7_2 + 1)),(by rfl),H',⟨by have:=HJ3.out;have:=HK2.out;omega⟩,⟨by repeat ((with_reducible first | exact HB.out | apply pw_below_drewN))⟩⟩
        ·replace c15:=Bool.eq_false_iff.mpr c15
         subst c15
         have H1 : (some false) = some r:=by rw [if_neg (show ¬ (false = true) by decide)] at H;exact H
         clear H
         have H:=H1
         clear H1
         obtain rfl:=Option.some.inj H
         have p488 : 0 ≤ (x7_2 : Int):=of_decide_eq_true (by (with_reducible assumption))
         have q488 : x7_2 < (l2.length : Int):=of_decide_eq_true (by (with_reducible assumption))
         obtain ⟨ad488,e488,hx488_0⟩ := Kd.at_int HR2.out x7_2 p488 q488
         cases e488
         replace hx488_0:=(HB.out.cell (World.block_lt_of_cell? w _ hx488_0)).trans hx488_0
         replace p488:=eq_true p488
         replace q488:=eq_true q488
         go_wp2_with (((with_reducible refine gate_callee (f:=44) rfl ?_);refine goesL_ (some 36) rfl rfl Try.func44 (by kernel_rfl) rfl #[.int .i64 (rd l2 x7_2), .int .i64 (-1), .int .i64 (wrap64 ((l0.length : Int) - 1))] rfl (by (try simp only [List.map_toArray,List.map_cons,List.map_nil]);rfl) ?_;(with_reducible refine (spec_l1In.calls (rd l2 x7_2) (-1) (wrap64 ((l0.length : Int) - 1)) false _ A14.out).mono ?_);rintro e w' ⟨rfl,⟨nd,rfl⟩⟩;refine ⟨_,rfl, ?_⟩))
         go_ret
         exact ⟨by rfl,by repeat ((with_reducible first | exact HB.out | apply pw_below_drewN))⟩
       ·rw [if_neg c13] at H
        exact absurd H (by simp)
      ·rw [if_neg c12] at H
       have c12b0 : decide (x7_2 < (l2.length : Int)) = false:=decide_eq_false c12
       clear c12
       replace H:=Option.bind_eq_some_iff.mp H
       obtain ⟨t490,A160,H⟩ := H
       replace H : (some t490) = some r:=H
       have A16:=Aside0.mk A160
       clear A160
       obtain rfl:=Option.some.inj H
       go_wp2_with (((with_reducible refine gate_callee (f:=45) rfl ?_);refine goesL_ (some 41) rfl rfl Try.func45 (by kernel_rfl) rfl #[.slice A0 l0.length c0, .slice A1 l1.length c1, .slice A2 l2.length c2] rfl (by (try simp only [List.map_toArray,List.map_cons,List.map_nil]);rfl) ?_;(with_reducible refine (spec_l19Fits.calls k2 _ _ l0 _ _ l1 _ _ l2 t490 _ ?side1 ?side2 ?side3 ?side4 ?side5 ?side6 A16.out).mono ?_);(case side1 => repeat (exact (Kd.C_below HR0.out HB.out)));(case side2 => exact HC0.out);(case side3 => repeat (exact (Kd.C_below HR1.out HB.out)));(case side4 => exact HC1.out);(case side5 => repeat (exact (Kd.C_below HR2.out HB.out)));(case side6 => exact HC2.out);rintro e w' ⟨rfl,⟨nd,rfl⟩⟩;refine ⟨_,rfl, ?_⟩))
       go_ret
       exact ⟨by rfl,by repeat ((with_reducible first | exact HB.out | apply pw_below_drewN))⟩

/-! ### spec_MoveToWagon: function 7 -/
def spec_MoveToWagon.j0 : Nat → List (S60) → List (S33) → List Int → ByteArray → Int → Bool → Option (List Int × Bool)
 | 0,_,_,_,_,_,_ => none
 | k + 1,x0,x1,x2,x3,x4,x23 => if x23 = true then (some ((([] : List Int)),false)) else ((spec_l1Own.f x2).bind fun t496 => ((spec_l2Find.f k x1 x3).bind fun t499 => (if 0 ≤ t499 then (if t499 < (t496.length : Int) then ((some (t496.set (t499 : Int).toNat x4 : List Int)).bind fun y500 => ((spec_l19Good.f k x0 x1 y500).bind fun t501 => (if t501 = true then (some (y500,true)) else (some ((([] : List Int)),false))))) else (none)) else (none))))
def spec_MoveToWagon.f (k : Nat) (l0 : List (S60)) (l1 : List (S33)) (l2 : List Int) (a3 : ByteArray) (a4 : Int) : Option (List Int × Bool):=(spec_l19Good.f k l0 l1 l2).bind fun t491 => (if t491 = true then ((spec_l2Find.f k l1 a3).bind fun t492 => (spec_MoveToWagon.j0 k l0 l1 l2 a3 a4 (decide (t492 < 0)))) else (spec_MoveToWagon.j0 k l0 l1 l2 a3 a4 true))
theorem spec_MoveToWagon.mono_l : ∀ k,(∀ y0 y1 y2 y3 y4 y5,LeO (spec_MoveToWagon.j0 k y0 y1 y2 y3 y4 y5) (spec_MoveToWagon.j0 (k + 1) y0 y1 y2 y3 y4 y5))
 | 0 => fun _ _ _ _ _ _ r h => by simp [spec_MoveToWagon.j0] at h
 | k + 1 => by
  have ih0:=spec_MoveToWagon.mono_l k
  ·intro y0 y1 y2 y3 y4 y5
   unfold spec_MoveToWagon.j0
   repeat' first
   | (with_reducible exact ih0 _ _ _ _ _ _)
   | (with_reducible exact spec_l19Good.mono _ _ _ _)
   | (with_reducible exact spec_l2Find.mono _ _ _)
   | (with_reducible exact LeO.refl _)
   | (with_reducible exact LeO.none _)
   | (with_reducible refine LeO.ite ?_ ?_)
   | (with_reducible refine LeO.bind ?_ (fun _ => ?_))
   | exact ih0 _ _ _ _ _ _
   | exact spec_l19Good.mono _ _ _ _
   | exact spec_l2Find.mono _ _ _
   | exact LeO.none _
   | refine LeO.ite ?_ ?_
   | refine LeO.bind ?_ (fun _ => ?_)
theorem spec_MoveToWagon.mono : ∀ a0 a1 a2 a3 a4 k,LeO (spec_MoveToWagon.f k a0 a1 a2 a3 a4) (spec_MoveToWagon.f (k + 1) a0 a1 a2 a3 a4):=by
 intro a0 a1 a2 a3 a4 k
 have ih0:=spec_MoveToWagon.mono_l k
 unfold spec_MoveToWagon.f
 repeat' first
   | (with_reducible exact ih0 _ _ _ _ _ _)
   | (with_reducible exact spec_l19Good.mono _ _ _ _)
   | (with_reducible exact spec_l2Find.mono _ _ _)
   | (with_reducible exact LeO.refl _)
   | (with_reducible exact LeO.none _)
   | (with_reducible refine LeO.ite ?_ ?_)
   | (with_reducible refine LeO.bind ?_ (fun _ => ?_))
   | exact ih0 _ _ _ _ _ _
   | exact spec_l19Good.mono _ _ _ _
   | exact spec_l2Find.mono _ _ _
   | exact LeO.none _
   | refine LeO.ite ?_ ?_
   | refine LeO.bind ?_ (fun _ => ?_)
set_option maxHeartbeats 8000000 in
set_option maxRecDepth 100000 in
theorem spec_MoveToWagon.calls (k : Nat) (A0 : Option Addr) (c0 : Nat) (l0 : List (S60)) (A1 : Option Addr) (c1 : Nat) (l1 : List (S33)) (A2 : Option Addr) (c2 : Nat) (l2 : List Int) (a3 : ByteArray) (a4 : Int) (r1 : List Int) (r2 : Bool) (w : World) (hr0 : Kd.C k60 w A0 l0.length l0) (hc0 : l0.length ≤ c0) (hr1 : Kd.C k33 w A1 l1.length l1) (hc1 : l1.length ≤ c1) (hr2 : Kd.C (Kd.int .i64) w A2 l2.length l2) (hc2 : l2.length ≤ c2) (h : spec_MoveToWagon.f k l0 l1 l2 a3 a4 = some (r1,r2)) :
  Calls Try.prog 7 #[.slice A0 l0.length c0, .slice A1 l1.length c1, .slice A2 l2.length c2, .string a3, .int .i64 a4] w fun e w' => ∃ v0_ : Value,e = .returned (.tuple #[v0_, .bool r2]) ∧ Kd.R (Kd.int .i64) 3 w' w.heap.size (fun _ => True) v0_ r1 ∧ Below w.heap.size w w':=by
 have HR0:=Aside0.mk hr0
 have HC0:=Aside0.mk hc0
 clear hr0 hc0
 have HR1:=Aside0.mk hr1
 have HC1:=Aside0.mk hc1
 clear hr1 hc1
 have HR2:=Aside0.mk hr2
 have HC2:=Aside0.mk hc2
 clear hr2 hc2
 have HB:=Aside0.mk (Below.refl w.heap.size w)
 have H : ((spec_l19Good.f k l0 l1 l2).bind fun t491 => (if t491 = true then ((spec_l2Find.f k l1 a3).bind fun t492 => (spec_MoveToWagon.j0 k l0 l1 l2 a3 a4 (decide (t492 < 0)))) else (spec_MoveToWagon.j0 k l0 l1 l2 a3 a4 true))) = some (r1,r2):=h
 clear h
 have HC6:=Aside0.mk H
 clear H
 go_enter Try.func7,Try.ntmps7
 go_upto_region 1 with (fail)
 go_cut [23] (fun v23 wc => ∃ (kq : Nat) (x23_5 : Bool),v23 = .bool x23_5 ∧ Aside0 (spec_MoveToWagon.j0 kq l0 l1 l2 a3 a4 x23_5 = some (r1,r2)) ∧ Aside0 (kq ≤ k) ∧ Aside0 (Below w.heap.size w wc))
 case first =>
  have H:=HC6.out
  clear HC6
  replace H:=Option.bind_eq_some_iff.mp H
  obtain ⟨t491,A70,H⟩ := H
  replace H : (if t491 = true then ((spec_l2Find.f k l1 a3).bind fun t492 => (spec_MoveToWagon.j0 k l0 l1 l2 a3 a4 (decide (t492 < 0)))) else (spec_MoveToWagon.j0 k l0 l1 l2 a3 a4 true)) = some (r1,r2):=H
  have A7:=Aside0.mk A70
  clear A70
  by_cases c8 : t491 = true
  ·subst c8
   have H1 : ((spec_l2Find.f k l1 a3).bind fun t492 => (spec_MoveToWagon.j0 k l0 l1 l2 a3 a4 (decide (t492 < 0)))) = some (r1,r2):=by rw [if_pos rfl] at H;exact H
   clear H
   have H:=H1
   clear H1
   replace H:=Option.bind_eq_some_iff.mp H
   obtain ⟨t492,A90,H⟩ := H
   replace H : (spec_MoveToWagon.j0 k l0 l1 l2 a3 a4 (decide (t492 < 0))) = some (r1,r2):=H
   have A9:=Aside0.mk A90
   clear A90
   have H':=Aside0.mk H
   clear H
   go_wp2_with (first | ((with_reducible refine gate_callee (f:=24) rfl ?_);refine goesL_ (some 16) rfl rfl Try.func24 (by kernel_rfl) rfl #[.slice A0 l0.length c0, .slice A1 l1.length c1, .slice A2 l2.length c2] rfl (by (try simp only [List.map_toArray,List.map_cons,List.map_nil]);rfl) ?_;(with_reducible refine (spec_l19Good.calls k _ _ l0 _ _ l1 _ _ l2 true _ ?side1 ?side2 ?side3 ?side4 ?side5 ?side6 A7.out).mono ?_);(case side1 => repeat (exact (Kd.C_below HR0.out HB.out)));(case side2 => exact HC0.out);(case side3 => repeat (exact (Kd.C_below HR1.out HB.out)));(case side4 => exact HC1.out);(case side5 => repeat (exact (Kd.C_below HR2.out HB.out)));(case side6 => exact HC2.out);rintro e w10 ⟨rfl,hb⟩;refine ⟨_,rfl, ?_⟩;have n0_:=Aside0.mk (below_step (by exact HB.out) hb);clear HB;have HB:=n0_;clear n0_;(try clear hb)) | (go_at_call 25;(with_reducible refine (spec_l2Find.calls k _ _ l1 a3 t492 _ ?side1 ?side2 A9.out).mono ?_);(case side1 => repeat (exact (Kd.C_below HR1.out HB.out)));(case side2 => exact HC1.out);rintro e w' ⟨rfl,⟨nd,rfl⟩⟩))
   go_meet
   case rel => exact ⟨_,(decide (t492 < 0)),(by rfl),H',⟨by omega⟩,⟨by repeat ((with_reducible first | exact HB.out | apply pw_below_drewN))⟩⟩
  ·replace c8:=Bool.eq_false_iff.mpr c8
   subst c8
   have H1 : (spec_MoveToWagon.j0 k l0 l1 l2 a3 a4 true) = some (r1,r2):=by rw [if_neg (show ¬ (false = true) by decide)] at H;exact H
   clear H
   have H:=H1
   clear H1
   have H':=Aside0.mk H
   clear H
   go_wp2_with (((with_reducible refine gate_callee (f:=24) rfl ?_);refine goesL_ (some 16) rfl rfl Try.func24 (by kernel_rfl) rfl #[.slice A0 l0.length c0, .slice A1 l1.length c1, .slice A2 l2.length c2] rfl (by (try simp only [List.map_toArray,List.map_cons,List.map_nil]);rfl) ?_;(with_reducible refine (spec_l19Good.calls k _ _ l0 _ _ l1 _ _ l2 false _ ?side1 ?side2 ?side3 ?side4 ?side5 ?side6 A7.out).mono ?_);(case side1 => repeat (exact (Kd.C_below HR0.out HB.out)));(case side2 => exact HC0.out);(case side3 => repeat (exact (Kd.C_below HR1.out HB.out)));(case side4 => exact HC1.out);(case side5 => repeat (exact (Kd.C_below HR2.out HB.out)));(case side6 => exact HC2.out);rintro e w11 ⟨rfl,hb⟩;refine ⟨_,rfl, ?_⟩;have n0_:=Aside0.mk (below_step (by exact HB.out) hb);clear HB;have HB:=n0_;clear n0_;(try clear hb)))
   go_meet
   case rel => exact ⟨_,(true),(by rfl),H',⟨by omega⟩,⟨by exact HB.out⟩⟩
 case rest =>
  clear HC6
  try clear c1
  try clear c2
  try clear p2
  try clear c7
  try clear c8
  obtain ⟨kq,x23_5,rfl,HA,HJ5,HB⟩ := hcut
  cases kq with
  | zero => exact absurd HA.out (by simp [spec_MoveToWagon.j0])
  | succ kj5 =>
   have H:=HA.out
   clear HA
   simp only [spec_MoveToWagon.j0] at H
   by_cases c12 : x23_5 = true
   ·subst c12
    have H1 : (some ((([] : List Int)),false)) = some (r1,r2):=by rw [if_pos rfl] at H;exact H
    clear H
    have H:=H1
    clear H1
    obtain ⟨y493,hy493⟩ : ∃ y_ : List Int,y_ = (([] : List Int)):=⟨_,rfl⟩
    replace H : (some (y493,false)) = some (r1,r2):=by (rw [hy493];with_reducible exact H)
    have Ny493:=Aside0.mk hy493
    clear hy493
    simp only [Option.some.injEq,Prod.mk.injEq] at H
    obtain ⟨rfl,rfl⟩ := H
    go_wp2_with (((with_reducible refine gate_dst (N:=24) rfl ?_);refine Kd.R_lit (Kd.int .i64) _ 3 ?hg (N:=24) ?hd (xs:=([] : List Int)) (inner := []) (ok:=fun _ => True) (okp:=fun _ => True) ?hr ?hp (fun _ hk => hk) trivial (Below.refl _ _) (Nat.le_refl _) (by simp) ?_;(case hd => rfl);(case hg => rfl);(case hr => (go_simp;done));(case hp => exact (Reps.none _ _));intro v494 w13 ho14 hb hg_ hnew_;clear hg_ hnew_;(rw [← Ny493.out] at ho14);have n0_:=Aside0.mk (Kd.R_lower ho14 (below_size (by exact HB.out)));have n1_:=Aside0.mk (below_step (by exact HB.out) hb);clear HB;have HO495:=n0_;have HB:=n1_;clear n0_ n1_;clear hb ho14))
    go_ret2
    exact ⟨_,by rfl,by exact HO495.out,by exact HB.out⟩
   ·replace c12:=Bool.eq_false_iff.mpr c12
    subst c12
    have H1 : ((spec_l1Own.f l2).bind fun t496 => ((spec_l2Find.f kj5 l1 a3).bind fun t499 => (if 0 ≤ t499 then (if t499 < (t496.length : Int) then ((some (t496.set (t499 : Int).toNat a4 : List Int)).bind fun y500 => ((spec_l19Good.f kj5 l0 l1 y500).bind fun t501 => (if t501 = true then (some (y500,true)) else (some ((([] : List Int)),false))))) else (none)) else (none)))) = some (r1,r2):=by rw [if_neg (show ¬ (false = true) by decide)] at H;exact H
    clear H
    have H:=H1
    clear H1
    replace H:=Option.bind_eq_some_iff.mp H
    obtain ⟨t496,A150,H⟩ := H
    replace H : ((spec_l2Find.f kj5 l1 a3).bind fun t499 => (if 0 ≤ t499 then (if t499 < (t496.length : Int) then ((some (t496.set (t499 : Int).toNat a4 : List Int)).bind fun y500 => ((spec_l19Good.f kj5 l0 l1 y500).bind fun t501 => (if t501 = true then (some (y500,true)) else (some ((([] : List Int)),false))))) else (none)) else (none))) = some (r1,r2):=H
    have A15:=Aside0.mk A150
    clear A150
    replace H:=Option.bind_eq_some_iff.mp H
    obtain ⟨t499,A160,H⟩ := H
    replace H : (if 0 ≤ t499 then (if t499 < (t496.length : Int) then ((some (t496.set (t499 : Int).toNat a4 : List Int)).bind fun y500 => ((spec_l19Good.f kj5 l0 l1 y500).bind fun t501 => (if t501 = true then (some (y500,true)) else (some ((([] : List Int)),false))))) else (none)) else (none)) = some (r1,r2):=H
    have A16:=Aside0.mk A160
    clear A160
    by_cases c17 : 0 ≤ t499
    ·rw [if_pos c17] at H
     have c17b0 : decide (0 ≤ t499) = true:=decide_eq_true c17
     clear c17
     by_cases c18 : t499 < (t496.length : Int)
     ·rw [if_pos c18] at H
      have c18b0 : decide (t499 < (t496.length : Int)) = true:=decide_eq_true c18
      clear c18
      obtain ⟨y500,hy500⟩ : ∃ y_ : List Int,y_ = (t496.set (t499 : Int).toNat a4):=⟨_,rfl⟩
      replace H : ((spec_l19Good.f kj5 l0 l1 y500).bind fun t501 => (if t501 = true then (some (y500,true)) else (some ((([] : List Int)),false)))) = some (r1,r2):=by (have H2_:=(Option.bind_some _ _).symm.trans H;rw [hy500];with_reducible exact H2_)
      have Ny500:=Aside0.mk hy500
      clear hy500
      replace H:=Option.bind_eq_some_iff.mp H
      obtain ⟨t501,A200,H⟩ := H
      replace H : (if t501 = true then (some (y500,true)) else (some ((([] : List Int)),false))) = some (r1,r2):=H
      have A20:=Aside0.mk A200
      clear A200
      by_cases c21 : t501 = true
      ·subst c21
       have H1 : (some (y500,true)) = some (r1,r2):=by rw [if_pos rfl] at H;exact H
       clear H
       have H:=H1
       clear H1
       simp only [Option.some.injEq,Prod.mk.injEq] at H
       obtain ⟨rfl,rfl⟩ := H
       go_wp2_with (first | ((with_reducible refine gate_callee (f:=26) rfl ?_);refine goesL_ (some 26) rfl rfl Try.func26 (by kernel_rfl) rfl #[.slice A2 l2.length c2] rfl (by (try simp only [List.map_toArray,List.map_cons,List.map_nil]);rfl) ?_;(with_reducible refine (spec_l1Own.calls _ _ l2 t496 _ ?side1 ?side2 A15.out).mono ?_);(case side1 => repeat (exact (Kd.C_below HR2.out HB.out)));(case side2 => exact HC2.out);rintro e w22 ⟨v497,rfl,ho0,hb⟩;refine ⟨_,rfl, ?_⟩;have n0_:=Aside0.mk (Kd.R_lower ho0 (below_size (by exact HB.out)));have n1_:=Aside0.mk (below_step (by exact HB.out) hb);clear HB;have HO498:=n0_;have HB:=n1_;clear n0_ n1_;(try clear hb);(try clear ho0)) | ((with_reducible refine gate_callee (f:=25) rfl ?_);refine goesL_ (some 30) rfl rfl Try.func25 (by kernel_rfl) rfl #[.slice A1 l1.length c1, .string a3] rfl (by (try simp only [List.map_toArray,List.map_cons,List.map_nil]);rfl) ?_;(with_reducible refine (spec_l2Find.calls kj5 _ _ l1 a3 t499 _ ?side1 ?side2 A16.out).mono ?_);(case side1 => repeat (exact (Kd.C_below HR1.out HB.out)));(case side2 => exact HC1.out);rintro e w' ⟨rfl,⟨nd,rfl⟩⟩;refine ⟨_,rfl, ?_⟩;(try (rw [drewN_self w22];generalize hq_ : World.drewN w22 _ = w22;have n0_ : Aside0 (Kd.R (Kd.int .i64) 3 w22 w.heap.size (fun _ => True) v497 t496):=⟨by rw [← hq_];exact (by (with_reducible repeat (apply Kd.R_drewN));exact HO498.out)⟩;have n1_ : Aside0 (Below w.heap.size w w22):=⟨by rw [← hq_];exact (by repeat ((with_reducible first | exact HB.out | apply pw_below_drewN)))⟩;clear HO498 HB hq_;have HO498:=n0_;have HB:=n1_;clear n0_ n1_));have p19 : 0 ≤ (t499 : Int):=of_decide_eq_true (by (with_reducible assumption));have q19 : (t499 : Int) < ((t496.length : Int) : Int):=of_decide_eq_true (by (with_reducible assumption));obtain ⟨go19,co19,eo19,gb19,gl19,cl19,HG19⟩ := Kd.R_form HO498.out (by omega);(cases eo19);have GB19:=Aside0.mk gb19;have GG19:=Aside0.mk HG19;clear gb19 gl19 HG19;obtain ⟨hx19_0,hf19_0⟩ := Kd.R_celln 0 HO498.out (t499 : Int) p19 q19;replace p19:=eq_true p19;replace q19:=eq_true q19;obtain ⟨hy23_,hz23_⟩ := Kd.R_celln 0 HO498.out (t499 : Int) (of_decide_eq_true (by (with_reducible assumption))) (of_decide_eq_true (by (with_reducible assumption)));have HP23:=Kd.R_putg HO498.out (t499 : Int) a4) | ((with_reducible refine gate_store (t:=3) (p:=32) rfl ?_);refine store_event (t:=3) (p:=32) (v:=?vo_w24) (w1:=(w22.setCell ⟨go19,(t499 : Int).toNat,none⟩ (.int .i64 a4))) ?hg ?ho ?hn ?hr ?_;(case ho => rfl);(case hg => rfl);(case hn => rfl);(case hr => (go_simp;done));intro w24 hw;have hg : w22.grownBy w24 (some go19):=(by rw [hw];exact HP23.2);have hp_ : Kd.R (Kd.int .i64) 3 w24 w.heap.size (fun _ => True) (.slice (some ⟨go19,0,none⟩) t496.length co19) y500:=(by rw [hw,Ny500.out];exact HP23.1);clear HP23;have n0_:=Aside0.mk (hp_);have n1_:=Aside0.mk ((by rw [hw];exact below_set (HB.out) GB19.out : Below w.heap.size w w24));clear HO498;clear HB;have HO498:=n0_;have HB:=n1_;clear n0_ n1_;clear hg hw hp_) | ((with_reducible refine gate_callee (f:=24) rfl ?_);refine goesL_ (some 36) rfl rfl Try.func24 (by kernel_rfl) rfl #[.slice A0 l0.length c0, .slice A1 l1.length c1, .slice (some ⟨go19,0,none⟩) y500.length co19] rfl (by (try simp only [List.map_toArray,List.map_cons,List.map_nil]);(rw [show y500.length = t496.length from (Kd.R_reads' HO498.out).1.symm] <;> rfl)) ?_;(with_reducible refine (spec_l19Good.calls kj5 _ _ l0 _ _ l1 _ _ y500 true _ ?side1 ?side2 ?side3 ?side4 ?side5 ?side6 A20.out).mono ?_);(case side1 => repeat (exact (Kd.C_below HR0.out HB.out)));(case side2 => exact HC0.out);(case side3 => repeat (exact (Kd.C_below HR1.out HB.out)));(case side4 => exact HC1.out);(case side5 => repeat (exact (Kd.R_reads' HO498.out).2.2));(case side6 => rw [show y500.length = t496.length from (Kd.R_reads' HO498.out).1.symm];exact (Kd.R_reads' HO498.out).2.1);rintro e w25 ⟨rfl,hb⟩;refine ⟨_,rfl, ?_⟩;have n0_:=Aside0.mk (Kd.R_below (by exact HO498.out) hb);have n1_:=Aside0.mk (below_step (by exact HB.out) hb);clear HO498;clear HB;have HO498:=n0_;have HB:=n1_;clear n0_ n1_;(try clear hb)))
       go_ret2
       exact ⟨_,by rfl,by exact HO498.out,by exact HB.out⟩
      ·replace c21:=Bool.eq_false_iff.mpr c21
       subst c21
       have H1 : (some ((([] : List Int)),false)) = some (r1,r2):=by rw [if_neg (show ¬ (false = true) by decide)] at H;exact H
       clear H
       have H:=H1
       clear H1
       obtain ⟨y502,hy502⟩ : ∃ y_ : List Int,y_ = (([] : List Int)):=⟨_,rfl⟩
       replace H : (some (y502,false)) = some (r1,r2):=by (rw [hy502];with_reducible exact H)
       have Ny502:=Aside0.mk hy502
       clear hy502
       simp only [Option.some.injEq,Prod.mk.injEq] at H
       obtain ⟨rfl,rfl⟩ := H
       go_wp2_with (first | ((with_reducible refine gate_callee (f:=26) rfl ?_);refine goesL_ (some 26) rfl rfl Try.func26 (by kernel_rfl) rfl #[.slice A2 l2.length c2] rfl (by (try simp only [List.map_toArray,List.map_cons,List.map_nil]);rfl) ?_;(with_reducible refine (spec_l1Own.calls _ _ l2 t496 _ ?side1 ?side2 A15.out).mono ?_);(case side1 => repeat (exact (Kd.C_below HR2.out HB.out)));(case side2 => exact HC2.out);rintro e w26 ⟨v497,rfl,ho0,hb⟩;refine ⟨_,rfl, ?_⟩;have n0_:=Aside0.mk (Kd.R_lower ho0 (below_size (by exact HB.out)));have n1_:=Aside0.mk (below_step (by exact HB.out) hb);clear HB;have HO498:=n0_;have HB:=n1_;clear n0_ n1_;(try clear hb);(try clear ho0)) | ((with_reducible refine gate_callee (f:=25) rfl ?_);refine goesL_ (some 30) rfl rfl Try.func25 (by kernel_rfl) rfl #[.slice A1 l1.length c1, .string a3] rfl (by (try simp only [List.map_toArray,List.map_cons,List.map_nil]);rfl) ?_;(with_reducible refine (spec_l2Find.calls kj5 _ _ l1 a3 t499 _ ?side1 ?side2 A16.out).mono ?_);(case side1 => repeat (exact (Kd.C_below HR1.out HB.out)));(case side2 => exact HC1.out);rintro e w' ⟨rfl,⟨nd,rfl⟩⟩;refine ⟨_,rfl, ?_⟩;(try (rw [drewN_self w26];generalize hq_ : World.drewN w26 _ = w26;have n0_ : Aside0 (Kd.R (Kd.int .i64) 3 w26 w.heap.size (fun _ => True) v497 t496):=⟨by rw [← hq_];exact (by (with_reducible repeat (apply Kd.R_drewN));exact HO498.out)⟩;have n1_ : Aside0 (Below w.heap.size w w26):=⟨by rw [← hq_];exact (by repeat ((with_reducible first | exact HB.out | apply pw_below_drewN)))⟩;clear HO498 HB hq_;have HO498:=n0_;have HB:=n1_;clear n0_ n1_));have p19 : 0 ≤ (t499 : Int):=of_decide_eq_true (by (with_reducible assumption));have q19 : (t499 : Int) < ((t496.length : Int) : Int):=of_decide_eq_true (by (with_reducible assumption));obtain ⟨go19,co19,eo19,gb19,gl19,cl19,HG19⟩ := Kd.R_form HO498.out (by omega);(cases eo19);have GB19:=Aside0.mk gb19;have GG19:=Aside0.mk HG19;clear gb19 gl19 HG19;obtain ⟨hx19_0,hf19_0⟩ := Kd.R_celln 0 HO498.out (t499 : Int) p19 q19;replace p19:=eq_true p19;replace q19:=eq_true q19;obtain ⟨hy27_,hz27_⟩ := Kd.R_celln 0 HO498.out (t499 : Int) (of_decide_eq_true (by (with_reducible assumption))) (of_decide_eq_true (by (with_reducible assumption)));have HP27:=Kd.R_putg HO498.out (t499 : Int) a4) | ((with_reducible refine gate_store (t:=3) (p:=32) rfl ?_);refine store_event (t:=3) (p:=32) (v:=?vo_w28) (w1:=(w26.setCell ⟨go19,(t499 : Int).toNat,none⟩ (.int .i64 a4))) ?hg ?ho ?hn ?hr ?_;(case ho => rfl);(case hg => rfl);(case hn => rfl);(case hr => (go_simp;done));intro w28 hw;have hg : w26.grownBy w28 (some go19):=(by rw [hw];exact HP27.2);have hp_ : Kd.R (Kd.int .i64) 3 w28 w.heap.size (fun _ => True) (.slice (some ⟨go19,0,none⟩) t496.length co19) y500:=(by rw [hw,Ny500.out];exact HP27.1);clear HP27;have n0_:=Aside0.mk (hp_);have n1_:=Aside0.mk ((by rw [hw];exact below_set (HB.out) GB19.out : Below w.heap.size w w28));clear HO498;clear HB;have HO498:=n0_;have HB:=n1_;clear n0_ n1_;clear hg hw hp_) | ((with_reducible refine gate_callee (f:=24) rfl ?_);refine goesL_ (some 36) rfl rfl Try.func24 (by kernel_rfl) rfl #[.slice A0 l0.length c0, .slice A1 l1.length c1, .slice (some ⟨go19,0,none⟩) y500.length co19] rfl (by (try simp only [List.map_toArray,List.map_cons,List.map_nil]);(rw [show y500.length = t496.length from (Kd.R_reads' HO498.out).1.symm] <;> rfl)) ?_;(with_reducible refine (spec_l19Good.calls kj5 _ _ l0 _ _ l1 _ _ y500 false _ ?side1 ?side2 ?side3 ?side4 ?side5 ?side6 A20.out).mono ?_);(case side1 => repeat (exact (Kd.C_below HR0.out HB.out)));(case side2 => exact HC0.out);(case side3 => repeat (exact (Kd.C_below HR1.out HB.out)));(case side4 => exact HC1.out);(case side5 => repeat (exact (Kd.R_reads' HO498.out).2.2));(case side6 => rw [show y500.length = t496.length from (Kd.R_reads' HO498.out).1.symm];exact (Kd.R_reads' HO498.out).2.1);rintro e w29 ⟨rfl,hb⟩;refine ⟨_,rfl, ?_⟩;have n0_:=Aside0.mk (Kd.R_below (by exact HO498.out) hb);have n1_:=Aside0.mk (below_step (by exact HB.out) hb);clear HO498;clear HB;have HO498:=n0_;have HB:=n1_;clear n0_ n1_;(try clear hb)) | ((with_reducible refine gate_dst (N:=38) rfl ?_);refine Kd.R_lit (Kd.int .i64) _ 3 ?hg (N:=38) ?hd (xs:=([] : List Int)) (inner := []) (ok:=fun _ => True) (okp:=fun _ => True) ?hr ?hp (fun _ hk => hk) trivial (Below.refl _ _) (Nat.le_refl _) (by simp) ?_;(case hd => rfl);(case hg => rfl);(case hr => (go_simp;done));(case hp => exact (Reps.none _ _));intro v503 w30 ho31 hb hg_ hnew_;clear hg_ hnew_;(rw [← Ny502.out] at ho31);have n0_:=Aside0.mk (Kd.R_elder' (by exact HO498.out) (Kd.R_base ho31) hb);have n1_:=Aside0.mk (Kd.R_lower (Kd.R_new' ho31 (Kd.R_lt (by exact HO498.out))) (below_size (by exact HB.out)));have n2_:=Aside0.mk (below_step (by exact HB.out) hb);clear HO498;clear HB;have HO498:=n0_;have HO504:=n1_;have HB:=n2_;clear n0_ n1_ n2_;clear hb ho31))
       go_ret2
       exact ⟨_,by rfl,by exact Kd.R_mono HO504.out (fun _ hk => trivial),by exact HB.out⟩
     ·rw [if_neg c18] at H
      exact absurd H (by simp)
    ·rw [if_neg c17] at H
     exact absurd H (by simp)

/-! ### laws_rInts: function 8 -/
def laws_rInts.l0 : Nat → List Int → List Int → Int → Option (Bool)
 | 0,_,_,_ => none
 | k + 1,x0,x1,x5 => if x5 < (x0.length : Int) then (if 0 ≤ x5 then (if x5 < (x1.length : Int) then (if (rd x0 x5) = (rd x1 x5) then (laws_rInts.l0 k x0 x1 (wrap64 (x5 + 1))) else (some false)) else (none)) else (none)) else (some true)
def laws_rInts.f (k : Nat) (l0 : List Int) (l1 : List Int) : Option (Bool):=if (l0.length : Int) = (l1.length : Int) then (laws_rInts.l0 k l0 l1 0) else (some false)
theorem laws_rInts.mono_l : ∀ k,(∀ y0 y1 y2,LeO (laws_rInts.l0 k y0 y1 y2) (laws_rInts.l0 (k + 1) y0 y1 y2))
 | 0 => fun _ _ _ r h => by simp [laws_rInts.l0] at h
 | k + 1 => by
  have ih0:=laws_rInts.mono_l k
  ·intro y0 y1 y2
   unfold laws_rInts.l0
   repeat' first
   | (with_reducible exact ih0 _ _ _)
   | (with_reducible exact LeO.refl _)
   | (with_reducible exact LeO.none _)
   | (with_reducible refine LeO.ite ?_ ?_)
   | (with_reducible refine LeO.bind ?_ (fun _ => ?_))
   | exact ih0 _ _ _
   | exact LeO.none _
   | refine LeO.ite ?_ ?_
   | refine LeO.bind ?_ (fun _ => ?_)
theorem laws_rInts.mono : ∀ a0 a1 k,LeO (laws_rInts.f k a0 a1) (laws_rInts.f (k + 1) a0 a1):=by
 intro a0 a1 k
 have ih0:=laws_rInts.mono_l k
 unfold laws_rInts.f
 repeat' first
   | (with_reducible exact ih0 _ _ _)
   | (with_reducible exact LeO.refl _)
   | (with_reducible exact LeO.none _)
   | (with_reducible refine LeO.ite ?_ ?_)
   | (with_reducible refine LeO.bind ?_ (fun _ => ?_))
   | exact ih0 _ _ _
   | exact LeO.none _
   | refine LeO.ite ?_ ?_
   | refine LeO.bind ?_ (fun _ => ?_)
set_option maxHeartbeats 8000000 in
set_option maxRecDepth 100000 in
theorem laws_rInts.calls (k : Nat) (A0 : Option Addr) (c0 : Nat) (l0 : List Int) (A1 : Option Addr) (c1 : Nat) (l1 : List Int) (r : Bool) (w : World) (hr0 : Kd.C (Kd.int .i64) w A0 l0.length l0) (hc0 : l0.length ≤ c0) (hr1 : Kd.C (Kd.int .i64) w A1 l1.length l1) (hc1 : l1.length ≤ c1) (h : laws_rInts.f k l0 l1 = some r) :
  Calls Try.prog 8 #[.slice A0 l0.length c0, .slice A1 l1.length c1] w fun e w' => e = .returned (.bool r) ∧ Drawn0 w w':=by
 have HR0:=Aside0.mk hr0
 have HC0:=Aside0.mk hc0
 clear hr0 hc0
 have HR1:=Aside0.mk hr1
 have HC1:=Aside0.mk hc1
 clear hr1 hc1
 have H : (if (l0.length : Int) = (l1.length : Int) then (laws_rInts.l0 k l0 l1 0) else (some false)) = some r:=h
 clear h
 by_cases c3 : (l0.length : Int) = (l1.length : Int)
 ·rw [if_pos c3] at H
  have c3b0 : ((l0.length : Int) == (l1.length : Int)) = true:=beq_iff_eq.mpr c3
  have c3b1 : ((l0.length : Int) != (l1.length : Int)) = false:=bne_eq_false_iff_eq.mpr c3
  have c3b2 : (l0.length == l1.length) = true:=by (simp at c3 ⊢;omega)
  clear c3
  have H':=Aside0.mk H
  clear H
  go_enter Try.func8,Try.ntmps8
  go_wp2
  repeat (go_quiet (fail);try go_wp2)
  (skip)
  go_loopg [5] k (fun kq v5 w' => ∃ (x5_1 : Int),v5 = .int .i64 x5_1 ∧ Aside0 (laws_rInts.l0 kq l0 l1 x5_1 = some r) ∧ Aside0 (kq ≤ k) ∧ Drawn0 w w')
  case atStart => exact ⟨(0),(by rfl),H',⟨Nat.le_refl _⟩,by repeat (exact Drawn0.refl _)⟩
  case round =>
   clear H'
   try clear c1
   try clear p2
   try clear c3
   try clear c3b0
   try clear c3b1
   try clear c3b2
   obtain ⟨x5_1,rfl,HA,HK1,⟨m1,rfl⟩⟩ := hrel
   cases gk with
   | zero => exact absurd HA.out (by simp [laws_rInts.l0])
   | succ k1 =>
    have H:=HA.out
    clear HA
    simp only [laws_rInts.l0] at H
    by_cases c4 : x5_1 < (l0.length : Int)
    ·rw [if_pos c4] at H
     have c4b0 : decide (x5_1 < (l0.length : Int)) = true:=decide_eq_true c4
     clear c4
     by_cases c5 : 0 ≤ x5_1
     ·rw [if_pos c5] at H
      have c5b0 : decide (0 ≤ x5_1) = true:=decide_eq_true c5
      clear c5
      by_cases c6 : x5_1 < (l1.length : Int)
      ·rw [if_pos c6] at H
       have c6b0 : decide (x5_1 < (l1.length : Int)) = true:=decide_eq_true c6
       clear c6
       by_cases c7 : (rd l0 x5_1) = (rd l1 x5_1)
       ·rw [if_pos c7] at H
        have c7b0 : ((rd l0 x5_1) == (rd l1 x5_1)) = true:=beq_iff_eq.mpr c7
        have c7b1 : ((rd l0 x5_1) != (rd l1 x5_1)) = false:=bne_eq_false_iff_eq.mpr c7
        clear c7
        have H':=Aside0.mk H
        clear H
        have p505 : 0 ≤ (x5_1 : Int):=of_decide_eq_true (by (with_reducible assumption))
        have q505 : x5_1 < (l0.length : Int):=of_decide_eq_true (by (with_reducible assumption))
        obtain ⟨ad505,e505,hx505_0⟩ := Kd.at_int HR0.out x5_1 p505 q505
        cases e505
        replace p505:=eq_true p505
        replace q505:=eq_true q505
        have p506 : 0 ≤ (x5_1 : Int):=of_decide_eq_true (by (with_reducible assumption))
        have q506 : x5_1 < (l1.length : Int):=of_decide_eq_true (by (with_reducible assumption))
        obtain ⟨ad506,e506,hx506_0⟩ := Kd.at_int HR1.out x5_1 p506 q506
        cases e506
        replace p506:=eq_true p506
        replace q506:=eq_true q506
        go_wp2
        repeat (go_quiet (fail);try go_wp2)
        go_roundg k1
        case measure => have:=HK1.out;omega
        case rel => exact ⟨(wrap64 (x5_1 + 1)),(by rfl),H',⟨by have:=HK1.out;omega⟩,by repeat (first | exact Drawn0.refl _ | apply Drawn0.step)⟩
       ·rw [if_neg c7] at H
        have c7b0 : ((rd l0 x5_1) == (rd l1 x5_1)) = false:=beq_eq_false_iff_ne.mpr c7
        have c7b1 : ((rd l0 x5_1) != (rd l1 x5_1)) = true:=bne_iff_ne.mpr c7
        obtain rfl:=Option.some.inj H
        have p505 : 0 ≤ (x5_1 : Int):=of_decide_eq_true (by (with_reducible assumption))
        have q505 : x5_1 < (l0.length : Int):=of_decide_eq_true (by (with_reducible assumption))
        obtain ⟨ad505,e505,hx505_0⟩ := Kd.at_int HR0.out x5_1 p505 q505
        cases e505
        replace p505:=eq_true p505
        replace q505:=eq_true q505
        have p506 : 0 ≤ (x5_1 : Int):=of_decide_eq_true (by (with_reducible assumption))
        have q506 : x5_1 < (l1.length : Int):=of_decide_eq_true (by (with_reducible assumption))
        obtain ⟨ad506,e506,hx506_0⟩ := Kd.at_int HR1.out x5_1 p506 q506
        cases e506
        replace p506:=eq_true p506
        replace q506:=eq_true q506
        go_wp2
        repeat (go_quiet (fail);try go_wp2)
        go_ret
        exact ⟨by rfl,by repeat (first | exact Drawn0.refl _ | apply Drawn0.step)⟩
      ·rw [if_neg c6] at H
       exact absurd H (by simp)
     ·rw [if_neg c5] at H
      exact absurd H (by simp)
    ·rw [if_neg c4] at H
     have c4b0 : decide (x5_1 < (l0.length : Int)) = false:=decide_eq_false c4
     clear c4
     obtain rfl:=Option.some.inj H
     go_wp2
     repeat (go_quiet (fail);try go_wp2)
     go_ret
     exact ⟨by rfl,by repeat (first | exact Drawn0.refl _ | apply Drawn0.step)⟩
 ·rw [if_neg c3] at H
  have c3b0 : ((l0.length : Int) == (l1.length : Int)) = false:=beq_eq_false_iff_ne.mpr c3
  have c3b1 : ((l0.length : Int) != (l1.length : Int)) = true:=bne_iff_ne.mpr c3
  have c3b2 : (l0.length == l1.length) = false:=by (simp at c3 ⊢;omega)
  obtain rfl:=Option.some.inj H
  go_enter Try.func8,Try.ntmps8
  go_wp2
  repeat (go_quiet (fail);try go_wp2)
  go_ret
  exact ⟨by rfl,by repeat (exact Drawn0.refl _)⟩

/-! ### spec_DrawIsValidLoading: function 33 -/
def spec_DrawIsValidLoading.f (k : Nat) (l0 : List Int) : Option ((List (S60)) × (List (S33)) × List Int):=(spec_l1Cur_train.f k l0 0 0 4).bind fun bt508 => ((spec_l1Cur_containers.f k l0 bt508.2.1 bt508.2.2).bind fun bt513 => ((spec_l1Cur_loading.f k l0 bt513.2.1 bt513.2.2 bt508.1 bt513.1).bind fun bt518 => (some (bt508.1,bt513.1,bt518.1))))
theorem spec_DrawIsValidLoading.mono : ∀ a0 k,LeO (spec_DrawIsValidLoading.f k a0) (spec_DrawIsValidLoading.f (k + 1) a0):=by
 intro a0 k
 unfold spec_DrawIsValidLoading.f
 repeat' first
   | (with_reducible exact spec_l1Cur_containers.mono _ _ _ _)
   | (with_reducible exact spec_l1Cur_loading.mono _ _ _ _ _ _)
   | (with_reducible exact spec_l1Cur_train.mono _ _ _ _ _)
   | (with_reducible exact LeO.refl _)
   | (with_reducible exact LeO.none _)
   | (with_reducible refine LeO.ite ?_ ?_)
   | (with_reducible refine LeO.bind ?_ (fun _ => ?_))
   | exact spec_l1Cur_containers.mono _ _ _ _
   | exact spec_l1Cur_loading.mono _ _ _ _ _ _
   | exact spec_l1Cur_train.mono _ _ _ _ _
   | exact LeO.none _
   | refine LeO.ite ?_ ?_
   | refine LeO.bind ?_ (fun _ => ?_)
set_option maxHeartbeats 8000000 in
set_option maxRecDepth 100000 in
theorem spec_DrawIsValidLoading.calls (k : Nat) (A0 : Option Addr) (c0 : Nat) (l0 : List Int) (r1 : List (S60)) (r2 : List (S33)) (r3 : List Int) (w : World) (hr0 : Kd.C (Kd.int .u8) w A0 l0.length l0) (hc0 : l0.length ≤ c0) (h : spec_DrawIsValidLoading.f k l0 = some (r1,r2,r3)) :
  Calls Try.prog 33 #[.slice A0 l0.length c0] w fun e w' => ∃ v0_ v1_ v2_ : Value,e = .returned (.tuple #[v0_,v1_,v2_]) ∧ Kd.R k60 60 w' w.heap.size (fun _ => True) v0_ r1 ∧ Kd.R k33 33 w' w.heap.size (fun _ => True) v1_ r2 ∧ Kd.R (Kd.int .i64) 3 w' w.heap.size (fun _ => True) v2_ r3 ∧ Below w.heap.size w w':=by
 have hu46:=Try.underlying46
 have HR0:=Aside0.mk hr0
 have HC0:=Aside0.mk hc0
 clear hr0 hc0
 have HB:=Aside0.mk (Below.refl w.heap.size w)
 have H : ((spec_l1Cur_train.f k l0 0 0 4).bind fun bt508 => ((spec_l1Cur_containers.f k l0 bt508.2.1 bt508.2.2).bind fun bt513 => ((spec_l1Cur_loading.f k l0 bt513.2.1 bt513.2.2 bt508.1 bt513.1).bind fun bt518 => (some (bt508.1,bt513.1,bt518.1))))) = some (r1,r2,r3):=h
 clear h
 replace H:=Option.bind_eq_some_iff.mp H
 obtain ⟨⟨t508,t511,t512⟩,A20,H⟩ := H
 replace H : ((spec_l1Cur_containers.f k l0 t511 t512).bind fun bt513 => ((spec_l1Cur_loading.f k l0 bt513.2.1 bt513.2.2 t508 bt513.1).bind fun bt518 => (some (t508,bt513.1,bt518.1)))) = some (r1,r2,r3):=H
 have A2:=Aside0.mk A20
 clear A20
 replace H:=Option.bind_eq_some_iff.mp H
 obtain ⟨⟨t513,t516,t517⟩,A30,H⟩ := H
 replace H : ((spec_l1Cur_loading.f k l0 t516 t517 t508 t513).bind fun bt518 => (some (t508,t513,bt518.1))) = some (r1,r2,r3):=H
 have A3:=Aside0.mk A30
 clear A30
 replace H:=Option.bind_eq_some_iff.mp H
 obtain ⟨⟨t518,t521,t522⟩,A40,H⟩ := H
 replace H : (some (t508,t513,t518)) = some (r1,r2,r3):=H
 have A4:=Aside0.mk A40
 clear A40
 simp only [Option.some.injEq,Prod.mk.injEq] at H
 obtain ⟨rfl,rfl,rfl⟩ := H
 go_enter Try.func33,Try.ntmps33
 go_wp2_with (first | ((with_reducible refine gate_dst (N:=10) rfl ?_);refine box_event ?hg (N:=10) ?hd (cs:=#[.slice A0 l0.length c0, .int .i64 0, .int .u64 0]) (t:=46) ?hr ?_;(case hd => rfl);(case hg => rfl);(case hr => (go_simp;done));intro gb507 hg w5 hbox hb;have n0_:=Aside0.mk (below_step (by exact HB.out) hb);have n1_:=Aside0.mk ((show IsS46 w _ gb507 l0 0 0 from ⟨_,_,hbox,(by rw [hg];exact (below_size (by exact HB.out)) : w.heap.size ≤ gb507),HR0.out⟩));clear HB;have HB:=n0_;have HI507:=n1_;clear n0_ n1_;clear hb hbox hg) | ((with_reducible refine gate_callee (f:=17) rfl ?_);refine goesL_ (some 12) rfl rfl Try.func17 (by kernel_rfl) rfl #[.pointer (some ⟨gb507,0,none⟩), .int .i64 4] rfl (by (try simp only [List.map_toArray,List.map_cons,List.map_nil]);rfl) ?_;(with_reducible refine (spec_l1Cur_train.calls k gb507 l0 0 0 4 t508 t511 t512 w _ ?side1 ?side2 A2.out).mono ?_);(case side1 => exact HI507.out);(case side2 => exact HB.out);rintro e w6 ⟨v509,rfl,ho0,hi,hb,hk⟩;refine ⟨_,rfl, ?_⟩;have n0_:=Aside0.mk (Kd.R_lower ho0 (below_size (by exact HB.out)));have n1_:=Aside0.mk (hb);have n2_:=Aside0.mk (hi);clear HB;clear HI507;have HO510:=n0_;have HB:=n1_;have HI507:=n2_;clear n0_ n1_ n2_;(try clear hb);(try clear hk);(try clear hi);(try clear ho0)) | ((with_reducible refine gate_callee (f:=18) rfl ?_);refine goesL_ (some 14) rfl rfl Try.func18 (by kernel_rfl) rfl #[.pointer (some ⟨gb507,0,none⟩)] rfl (by (try simp only [List.map_toArray,List.map_cons,List.map_nil]);rfl) ?_;(with_reducible refine (spec_l1Cur_containers.calls k gb507 l0 t511 t512 t513 t516 t517 w _ ?side1 ?side2 A3.out).mono ?_);(case side1 => exact HI507.out);(case side2 => exact HB.out);rintro e w7 ⟨v514,rfl,ho0,hi,hb,hk⟩;refine ⟨_,rfl, ?_⟩;have n0_:=Aside0.mk (Kd.R_mono (Kd.R_keep (IsS46.apart (show IsS46 w _ gb507 l0 t511 t512 from by exact HI507.out) (by exact HO510.out) (by decide)) hk (fun _ h => h.2)) (fun _ h => h.1));have n1_:=Aside0.mk (Kd.R_lower ho0 (below_size (by exact HB.out)));have n2_:=Aside0.mk (hb);have n3_:=Aside0.mk (hi);clear HO510;clear HB;clear HI507;have HO510:=n0_;have HO515:=n1_;have HB:=n2_;have HI507:=n3_;clear n0_ n1_ n2_ n3_;(try clear hb);(try clear hk);(try clear hi);(try clear ho0);obtain ⟨Ao8,co8,eo8⟩ := Kd.R_slice HO510.out;subst eo8;obtain ⟨Ao9,co9,eo9⟩ := Kd.R_slice HO515.out;subst eo9) | ((with_reducible refine gate_callee (f:=19) rfl ?_);refine goesL_ (some 20) rfl rfl Try.func19 (by kernel_rfl) rfl #[.pointer (some ⟨gb507,0,none⟩), .slice Ao8 t508.length co8, .slice Ao9 t513.length co9] rfl (by (try simp only [List.map_toArray,List.map_cons,List.map_nil]);rfl) ?_;(with_reducible refine (spec_l1Cur_loading.calls k gb507 l0 t516 t517 _ _ t508 _ _ t513 t518 t521 t522 w _ ?side1 ?side2 ?side3 ?side4 ?side5 ?side6 A4.out).mono ?_);(case side1 => exact HI507.out);(case side2 => exact HB.out);(case side3 => exact Kd.C_foot_own (IsS46.apart (show IsS46 w _ gb507 l0 t516 t517 from by exact HI507.out) (by exact HO510.out) (by decide)) (fun _ h_ => h_.2));(case side4 => exact (Kd.R_reads' HO510.out).2.1);(case side5 => exact Kd.C_foot_own (IsS46.apart (show IsS46 w _ gb507 l0 t516 t517 from by exact HI507.out) (by exact HO515.out) (by decide)) (fun _ h_ => h_.2));(case side6 => exact (Kd.R_reads' HO515.out).2.1);rintro e w10 ⟨v519,rfl,ho0,hi,hb,hk⟩;refine ⟨_,rfl, ?_⟩;have n0_:=Aside0.mk (Kd.R_mono (Kd.R_keep (IsS46.apart (show IsS46 w _ gb507 l0 t516 t517 from by exact HI507.out) (by exact HO510.out) (by decide)) hk (fun _ h => h.2)) (fun _ h => h.1));have n1_:=Aside0.mk (Kd.R_mono (Kd.R_keep (IsS46.apart (show IsS46 w _ gb507 l0 t516 t517 from by exact HI507.out) (by exact HO515.out) (by decide)) hk (fun _ h => h.2)) (fun _ h => h.1));have n2_:=Aside0.mk (Kd.R_lower ho0 (below_size (by exact HB.out)));have n3_:=Aside0.mk (hb);have n4_:=Aside0.mk (hi);clear HO510;clear HO515;clear HB;clear HI507;have HO510:=n0_;have HO515:=n1_;have HO520:=n2_;have HB:=n3_;have HI507:=n4_;clear n0_ n1_ n2_ n3_ n4_;(try clear hb);(try clear hk);(try clear hi);(try clear ho0)))
 go_ret3
 exact ⟨_,_,_,by rfl,by exact HO510.out,by exact HO515.out,by exact HO520.out,by exact HB.out⟩

/-! ### spec_DrawByDestination: function 10 -/
def spec_DrawByDestination.f (k : Nat) (l0 : List Int) : Option ((List (S60)) × (List (S33)) × List Int):=(spec_DrawIsValidLoading.f k l0).bind fun bt523 => (some (bt523.1,bt523.2.1,bt523.2.2))
theorem spec_DrawByDestination.mono : ∀ a0 k,LeO (spec_DrawByDestination.f k a0) (spec_DrawByDestination.f (k + 1) a0):=by
 intro a0 k
 unfold spec_DrawByDestination.f
 repeat' first
   | (with_reducible exact spec_DrawIsValidLoading.mono _ _)
   | (with_reducible exact LeO.refl _)
   | (with_reducible exact LeO.none _)
   | (with_reducible refine LeO.ite ?_ ?_)
   | (with_reducible refine LeO.bind ?_ (fun _ => ?_))
   | exact spec_DrawIsValidLoading.mono _ _
   | exact LeO.none _
   | refine LeO.ite ?_ ?_
   | refine LeO.bind ?_ (fun _ => ?_)
set_option maxHeartbeats 8000000 in
set_option maxRecDepth 100000 in
theorem spec_DrawByDestination.calls (k : Nat) (A0 : Option Addr) (c0 : Nat) (l0 : List Int) (r1 : List (S60)) (r2 : List (S33)) (r3 : List Int) (w : World) (hr0 : Kd.C (Kd.int .u8) w A0 l0.length l0) (hc0 : l0.length ≤ c0) (h : spec_DrawByDestination.f k l0 = some (r1,r2,r3)) :
  Calls Try.prog 10 #[.slice A0 l0.length c0] w fun e w' => ∃ v0_ v1_ v2_ : Value,e = .returned (.tuple #[v0_,v1_,v2_]) ∧ Kd.R k60 60 w' w.heap.size (fun _ => True) v0_ r1 ∧ Kd.R k33 33 w' w.heap.size (fun _ => True) v1_ r2 ∧ Kd.R (Kd.int .i64) 3 w' w.heap.size (fun _ => True) v2_ r3 ∧ Below w.heap.size w w':=by
 have HR0:=Aside0.mk hr0
 have HC0:=Aside0.mk hc0
 clear hr0 hc0
 have HB:=Aside0.mk (Below.refl w.heap.size w)
 have H : ((spec_DrawIsValidLoading.f k l0).bind fun bt523 => (some (bt523.1,bt523.2.1,bt523.2.2))) = some (r1,r2,r3):=h
 clear h
 replace H:=Option.bind_eq_some_iff.mp H
 obtain ⟨⟨t523,t524,t525⟩,A20,H⟩ := H
 replace H : (some (t523,t524,t525)) = some (r1,r2,r3):=H
 have A2:=Aside0.mk A20
 clear A20
 simp only [Option.some.injEq,Prod.mk.injEq] at H
 obtain ⟨rfl,rfl,rfl⟩ := H
 go_enter Try.func10,Try.ntmps10
 go_wp2_with (((with_reducible refine gate_callee (f:=33) rfl ?_);refine goesL_ (some 6) rfl rfl Try.func33 (by kernel_rfl) rfl #[.slice A0 l0.length c0] rfl (by (try simp only [List.map_toArray,List.map_cons,List.map_nil]);rfl) ?_;(with_reducible refine (spec_DrawIsValidLoading.calls k _ _ l0 t523 t524 t525 _ ?side1 ?side2 A2.out).mono ?_);(case side1 => repeat (exact HR0.out));(case side2 => exact HC0.out);rintro e w3 ⟨v526,v528,v530,rfl,ho0,ho1,ho2,hb⟩;refine ⟨_,rfl, ?_⟩;have n0_:=Aside0.mk (Kd.R_lower ho0 (below_size (by exact HB.out)));have n1_:=Aside0.mk (Kd.R_lower ho1 (below_size (by exact HB.out)));have n2_:=Aside0.mk (Kd.R_lower ho2 (below_size (by exact HB.out)));have n3_:=Aside0.mk (below_step (by exact HB.out) hb);clear HB;have HO527:=n0_;have HO529:=n1_;have HO531:=n2_;have HB:=n3_;clear n0_ n1_ n2_ n3_;(try clear hb);(try clear ho0);(try clear ho1);(try clear ho2)))
 go_ret3
 exact ⟨_,_,_,by rfl,by exact HO527.out,by exact HO529.out,by exact HO531.out,by exact HB.out⟩

end Go.Proofs.Ytempmebpbbbkmaa.PFnWagons
