-- Written by a program of this session, over the kit's print (wip/xprint.py)
import Derived.Test.YtglfjaaaegfdnaaPFnGateSlotsx0
namespace Go.Proofs.Ytglfjaaaegfdnaa.PFnGateSlots
open Go.RowKit Go.Proofs.YtglfjaaaegfdnaaW.PrintWords Go.Proofs.YtglfjaaaegfdnaaW.PrintLast Go.Proofs.YtglfjaaaegfdnaaW.PrintMore
attribute [local go_sem] max2_int min2_int max_two min_two max_three min_three max_four min_four   -- for this text's walks alone
set_option linter.unusedVariables false
set_option linter.unusedSimpArgs false

/-! ### laws_rBig: function 6 -/
def laws_rBig.f (l0 : List Int) : Option (Bool):=some (decide ((l0.length : Int) > 65536))
set_option maxHeartbeats 8000000 in
set_option maxRecDepth 100000 in
theorem laws_rBig.calls (A0 : Option Addr) (c0 : Nat) (l0 : List Int) (r : Bool) (w : World) (hr0 : Kd.C (Kd.int .u8) w A0 l0.length l0) (hc0 : l0.length ≤ c0) (h : laws_rBig.f l0 = some r) :
  Calls Try.prog 6 #[.slice A0 l0.length c0] w fun e w' => e = .returned (.bool r) ∧ Drawn0 w w':=by
 have HR0:=am_ hr0;have HC0:=am_ hc0;clear hr0 hc0;have H : (some (decide ((l0.length : Int) > 65536))) = some r:=h;clear h;obtain rfl:=Option.some.inj H;go_enter Try.func6,Try.ntmps6;go_wp2;go_ret;exact ⟨by rfl,by repeat (exact Drawn0.refl _)⟩

/-! ### laws_rInts: function 25 -/
def laws_rInts.l0 : Nat → List Int → List Int → Int → Option (Bool)
 | 0,_,_,_ => none
 | k + 1,x0,x1,x5 => if x5 < (x0.length : Int) then (if 0 ≤ x5 then (if x5 < (x1.length : Int) then (if (rd x0 x5) = (rd x1 x5) then (laws_rInts.l0 k x0 x1 (wrap64 (x5 + 1))) else (some false)) else (none)) else (none)) else (some true)
def laws_rInts.f (k : Nat) (l0 : List Int) (l1 : List Int) : Option (Bool):=if (l0.length : Int) = (l1.length : Int) then (laws_rInts.l0 k l0 l1 0) else (some false)
theorem laws_rInts.mono_l : ∀ k,(∀ y0 y1 y2,LeO (laws_rInts.l0 k y0 y1 y2) (laws_rInts.l0 (k + 1) y0 y1 y2))
 | 0 => fun _ _ _ r h => by simp [laws_rInts.l0] at h
 | k + 1 => by
  have ih0:=laws_rInts.mono_l k
  ·intro y0 y1 y2
   unfold laws_rInts.l0
   repeat' first
   | (with_reducible exact ih0 _ _ _)
   | (with_reducible exact LeO.refl _)
   | (with_reducible exact LeO.none _)
   | (with_reducible refine LeO.ite ?_ ?_)
   | (with_reducible refine LeO.bind ?_ (fun _ => ?_))
   | exact ih0 _ _ _
   | exact LeO.none _
   | refine LeO.ite ?_ ?_
   | refine LeO.bind ?_ (fun _ => ?_)
theorem laws_rInts.mono : ∀ a0 a1 k,LeO (laws_rInts.f k a0 a1) (laws_rInts.f (k + 1) a0 a1):=by
 intro a0 a1 k;have ih0:=laws_rInts.mono_l k
 unfold laws_rInts.f
 repeat' first
   | (with_reducible exact ih0 _ _ _)
   | (with_reducible exact LeO.refl _)
   | (with_reducible exact LeO.none _)
   | (with_reducible refine LeO.ite ?_ ?_)
   | (with_reducible refine LeO.bind ?_ (fun _ => ?_))
   | exact ih0 _ _ _
   | exact LeO.none _
   | refine LeO.ite ?_ ?_
   | refine LeO.bind ?_ (fun _ => ?_)
set_option maxHeartbeats 8000000 in
set_option maxRecDepth 100000 in
theorem laws_rInts.calls (k : Nat) (A0 : Option Addr) (c0 : Nat) (l0 : List Int) (A1 : Option Addr) (c1 : Nat) (l1 : List Int) (r : Bool) (w : World) (hr0 : Kd.C (Kd.int .i64) w A0 l0.length l0) (hc0 : l0.length ≤ c0) (hr1 : Kd.C (Kd.int .i64) w A1 l1.length l1) (hc1 : l1.length ≤ c1) (h : laws_rInts.f k l0 l1 = some r) :
  Calls Try.prog 25 #[.slice A0 l0.length c0, .slice A1 l1.length c1] w fun e w' => e = .returned (.bool r) ∧ Drawn0 w w':=by
 have HR0:=am_ hr0;have HC0:=am_ hc0;clear hr0 hc0;have HR1:=am_ hr1;have HC1:=am_ hc1;clear hr1 hc1;have H : (if (l0.length : Int) = (l1.length : Int) then (laws_rInts.l0 k l0 l1 0) else (some false)) = some r:=h;clear h;replace H:=if_ H;obtain ⟨c3,H⟩|⟨c3,H⟩:=H
 ·have c3b0 : ((l0.length : Int) == (l1.length : Int)) = false:=beq_eq_false_iff_ne.mpr c3;have c3b1 : ((l0.length : Int) != (l1.length : Int)) = true:=bne_iff_ne.mpr c3;have c3b2 : (l0.length == l1.length) = false:=by (simp at c3 ⊢;omega)
  obtain rfl:=Option.some.inj H;go_enter Try.func25,Try.ntmps25;go_wp2;repeat (go_quiet (fail);try go_wp2)
  go_ret;exact ⟨by rfl,by repeat (exact Drawn0.refl _)⟩
 have c3b0 : ((l0.length : Int) == (l1.length : Int)) = true:=beq_iff_eq.mpr c3;have c3b1 : ((l0.length : Int) != (l1.length : Int)) = false:=bne_eq_false_iff_eq.mpr c3;have c3b2 : (l0.length == l1.length) = true:=by (simp at c3 ⊢;omega)
 clear c3;have H':=am_ H;clear H;go_enter Try.func25,Try.ntmps25;go_wp2;repeat (go_quiet (fail);try go_wp2)
 go_loopg [5] k (fun kq v5 w' => ∃ (x5_1 : Int),v5 = .int .i64 x5_1 ∧ Aside0 (laws_rInts.l0 kq l0 l1 x5_1 = some r) ∧ Aside0 (kq ≤ k) ∧ Drawn0 w w');case atStart =>exact ⟨(0),(by rfl),H',⟨Nat.le_refl _⟩,by repeat (exact Drawn0.refl _)⟩
 case round =>
 clear H';(try clear c1);(try clear c2);(try clear p2);(try clear c3);(try clear c3b0);(try clear c3b1);(try clear c3b2);obtain ⟨x5_1,rfl,HA,HK1,⟨m1,rfl⟩⟩ := hrel
 cases gk with
 | zero =>exact absurd HA.out (by simp [laws_rInts.l0])
 | succ k1 =>
 have H:=HA.out;clear HA;simp only [laws_rInts.l0] at H;replace H:=ie_ H;obtain ⟨c4b0,H⟩|⟨c4b0,H⟩:=H
 ·obtain rfl:=Option.some.inj H;go_wp2;repeat (go_quiet (fail);try go_wp2)
  go_ret;exact ⟨by rfl,by repeat (first | exact Drawn0.refl _ | apply Drawn0.step)⟩
 replace H:=iq_ H;obtain ⟨c5b0,H⟩:=H;replace H:=iq_ H;obtain ⟨c6b0,H⟩:=H;replace H:=if_ H;obtain ⟨c7,H⟩|⟨c7,H⟩:=H
 ·have c7b0 : ((rd l0 x5_1) == (rd l1 x5_1)) = false:=beq_eq_false_iff_ne.mpr c7;have c7b1 : ((rd l0 x5_1) != (rd l1 x5_1)) = true:=bne_iff_ne.mpr c7;obtain rfl:=Option.some.inj H;have p101 : 0 ≤ (x5_1 : Int):=of_decide_eq_true (by (with_reducible assumption));have q101 : x5_1 < (l0.length : Int):=of_decide_eq_true (by (with_reducible assumption));obtain ⟨ad101,e101,hx101_0⟩ := Kd.at_int HR0.out x5_1 p101 q101;cases e101;replace p101:=eq_true p101;replace q101:=eq_true q101;have p102 : 0 ≤ (x5_1 : Int):=of_decide_eq_true (by (with_reducible assumption));have q102 : x5_1 < (l1.length : Int):=of_decide_eq_true (by (with_reducible assumption));obtain ⟨ad102,e102,hx102_0⟩ := Kd.at_int HR1.out x5_1 p102 q102;cases e102;replace p102:=eq_true p102;replace q102:=eq_true q102;go_wp2;repeat (go_quiet (fail);try go_wp2)
  go_ret;exact ⟨by rfl,by repeat (first | exact Drawn0.refl _ | apply Drawn0.step)⟩
 have c7b0 : ((rd l0 x5_1) == (rd l1 x5_1)) = true:=beq_iff_eq.mpr c7;have c7b1 : ((rd l0 x5_1) != (rd l1 x5_1)) = false:=bne_eq_false_iff_eq.mpr c7;clear c7;have H':=am_ H;clear H;have p101 : 0 ≤ (x5_1 : Int):=of_decide_eq_true (by (with_reducible assumption));have q101 : x5_1 < (l0.length : Int):=of_decide_eq_true (by (with_reducible assumption));obtain ⟨ad101,e101,hx101_0⟩ := Kd.at_int HR0.out x5_1 p101 q101;cases e101;replace p101:=eq_true p101;replace q101:=eq_true q101;have p102 : 0 ≤ (x5_1 : Int):=of_decide_eq_true (by (with_reducible assumption));have q102 : x5_1 < (l1.length : Int):=of_decide_eq_true (by (with_reducible assumption));obtain ⟨ad102,e102,hx102_0⟩ := Kd.at_int HR1.out x5_1 p102 q102;cases e102;replace p102:=eq_true p102;replace q102:=eq_true q102;go_wp2;repeat (go_quiet (fail);try go_wp2)
 go_roundg k1;case measure =>have:=HK1.out;omega
 case rel =>exact ⟨(wrap64 (x5_1 + 1)),(by rfl),H',⟨by have:=HK1.out;omega⟩,by repeat (first | exact Drawn0.refl _ | apply Drawn0.step)⟩

/-! ### laws_rTable: function 50 -/
def laws_rTable.l0 : Nat → List (List Int) → List (List Int) → Int → Option (Bool)
 | 0,_,_,_ => none
 | k + 1,x0,x1,x5 => if x5 < (x0.length : Int) then (if 0 ≤ x5 then (if x5 < (x1.length : Int) then ((laws_rInts.f k (rd_L2 x0 x5) (rd_L2 x1 x5)).bind fun t105 => (if t105 = true then (laws_rTable.l0 k x0 x1 (wrap64 (x5 + 1))) else (some false))) else (none)) else (none)) else (some true)
def laws_rTable.f (k : Nat) (l0 : List (List Int)) (l1 : List (List Int)) : Option (Bool):=if (l0.length : Int) = (l1.length : Int) then (laws_rTable.l0 k l0 l1 0) else (some false)
theorem laws_rTable.mono_l : ∀ k,(∀ y0 y1 y2,LeO (laws_rTable.l0 k y0 y1 y2) (laws_rTable.l0 (k + 1) y0 y1 y2))
 | 0 => fun _ _ _ r h => by simp [laws_rTable.l0] at h
 | k + 1 => by
  have ih0:=laws_rTable.mono_l k
  ·intro y0 y1 y2
   unfold laws_rTable.l0
   repeat' first
   | (with_reducible exact ih0 _ _ _)
   | (with_reducible exact laws_rInts.mono _ _ _)
   | (with_reducible exact LeO.refl _)
   | (with_reducible exact LeO.none _)
   | (with_reducible refine LeO.ite ?_ ?_)
   | (with_reducible refine LeO.bind ?_ (fun _ => ?_))
   | exact ih0 _ _ _
   | exact laws_rInts.mono _ _ _
   | exact LeO.none _
   | refine LeO.ite ?_ ?_
   | refine LeO.bind ?_ (fun _ => ?_)
theorem laws_rTable.mono : ∀ a0 a1 k,LeO (laws_rTable.f k a0 a1) (laws_rTable.f (k + 1) a0 a1):=by
 intro a0 a1 k;have ih0:=laws_rTable.mono_l k
 unfold laws_rTable.f
 repeat' first
   | (with_reducible exact ih0 _ _ _)
   | (with_reducible exact laws_rInts.mono _ _ _)
   | (with_reducible exact LeO.refl _)
   | (with_reducible exact LeO.none _)
   | (with_reducible refine LeO.ite ?_ ?_)
   | (with_reducible refine LeO.bind ?_ (fun _ => ?_))
   | exact ih0 _ _ _
   | exact laws_rInts.mono _ _ _
   | exact LeO.none _
   | refine LeO.ite ?_ ?_
   | refine LeO.bind ?_ (fun _ => ?_)
set_option maxHeartbeats 8000000 in
set_option maxRecDepth 100000 in
theorem laws_rTable.calls (k : Nat) (A0 : Option Addr) (c0 : Nat) (l0 : List (List Int)) (A1 : Option Addr) (c1 : Nat) (l1 : List (List Int)) (r : Bool) (w : World) (hr0 : Kd.C (Kd.slice 3 (Kd.int .i64)) w A0 l0.length l0) (hc0 : l0.length ≤ c0) (hr1 : Kd.C (Kd.slice 3 (Kd.int .i64)) w A1 l1.length l1) (hc1 : l1.length ≤ c1) (h : laws_rTable.f k l0 l1 = some r) :
  Calls Try.prog 50 #[.slice A0 l0.length c0, .slice A1 l1.length c1] w fun e w' => e = .returned (.bool r) ∧ Drawn0 w w':=by
 have HR0:=am_ hr0;have HC0:=am_ hc0;clear hr0 hc0;have HR1:=am_ hr1;have HC1:=am_ hc1;clear hr1 hc1;have H : (if (l0.length : Int) = (l1.length : Int) then (laws_rTable.l0 k l0 l1 0) else (some false)) = some r:=h;clear h;replace H:=if_ H;obtain ⟨c3,H⟩|⟨c3,H⟩:=H
 ·have c3b0 : ((l0.length : Int) == (l1.length : Int)) = false:=beq_eq_false_iff_ne.mpr c3;have c3b1 : ((l0.length : Int) != (l1.length : Int)) = true:=bne_iff_ne.mpr c3;have c3b2 : (l0.length == l1.length) = false:=by (simp at c3 ⊢;omega)
  obtain rfl:=Option.some.inj H;go_enter Try.func50,Try.ntmps50;go_wp2;repeat (go_quiet (fail);try go_wp2)
  go_ret;exact ⟨by rfl,by repeat (exact Drawn0.refl _)⟩
 have c3b0 : ((l0.length : Int) == (l1.length : Int)) = true:=beq_iff_eq.mpr c3;have c3b1 : ((l0.length : Int) != (l1.length : Int)) = false:=bne_eq_false_iff_eq.mpr c3;have c3b2 : (l0.length == l1.length) = true:=by (simp at c3 ⊢;omega)
 clear c3;have H':=am_ H;clear H;go_enter Try.func50,Try.ntmps50;go_wp2;repeat (go_quiet (fail);try go_wp2)
 go_loopg [5] k (fun kq v5 w' => ∃ (x5_1 : Int),v5 = .int .i64 x5_1 ∧ Aside0 (laws_rTable.l0 kq l0 l1 x5_1 = some r) ∧ Aside0 (kq ≤ k) ∧ Drawn0 w w');case atStart =>exact ⟨(0),(by rfl),H',⟨Nat.le_refl _⟩,by repeat (exact Drawn0.refl _)⟩
 case round =>
 clear H';(try clear c1);(try clear p2);(try clear c3);(try clear c3b0);(try clear c3b1);(try clear c3b2);obtain ⟨x5_1,rfl,HA,HK1,⟨m1,rfl⟩⟩ := hrel
 cases gk with
 | zero =>exact absurd HA.out (by simp [laws_rTable.l0])
 | succ k1 =>
 have H:=HA.out;clear HA;simp only [laws_rTable.l0] at H;replace H:=ie_ H;obtain ⟨c4b0,H⟩|⟨c4b0,H⟩:=H
 ·obtain rfl:=Option.some.inj H;go_wp2;repeat (go_quiet (fail);try go_wp2)
  go_ret;exact ⟨by rfl,by repeat (first | exact Drawn0.refl _ | apply Drawn0.step)⟩
 replace H:=iq_ H;obtain ⟨c5b0,H⟩:=H;replace H:=iq_ H;obtain ⟨c6b0,H⟩:=H;replace H:=bn_ H;obtain ⟨t105,A7,H⟩:=H;replace H:=jb_ H;obtain ⟨rfl,H⟩|⟨rfl,H⟩:=H
 ·obtain rfl:=Option.some.inj H;have p103 : 0 ≤ (x5_1 : Int):=of_decide_eq_true (by (with_reducible assumption));have q103 : x5_1 < (l0.length : Int):=of_decide_eq_true (by (with_reducible assumption));obtain ⟨ad103,A103_0,c103_0,e103,hx103_0,hl103_0,hi103_0⟩ := at_L2 HR0.out x5_1 p103 q103;cases e103;have HR103_0:=am_ hi103_0;have HC103_0:=am_ hl103_0;clear hi103_0 hl103_0;replace p103:=eq_true p103;replace q103:=eq_true q103;have p104 : 0 ≤ (x5_1 : Int):=of_decide_eq_true (by (with_reducible assumption));have q104 : x5_1 < (l1.length : Int):=of_decide_eq_true (by (with_reducible assumption));obtain ⟨ad104,A104_0,c104_0,e104,hx104_0,hl104_0,hi104_0⟩ := at_L2 HR1.out x5_1 p104 q104;cases e104;have HR104_0:=am_ hi104_0;have HC104_0:=am_ hl104_0;clear hi104_0 hl104_0;replace p104:=eq_true p104;replace q104:=eq_true q104;go_wp2_with (fail);repeat (go_quiet ((go_at_call 25;(with_reducible refine (laws_rInts.calls k1 _ _ (rd_L2 l0 x5_1) _ _ (rd_L2 l1 x5_1) false _ ?side1 ?side2 ?side3 ?side4 A7.out).mono ?_);(case side1 => repeat (exact HR103_0.out));(case side2 => exact HC103_0.out);(case side3 => repeat (exact HR104_0.out));(case side4 => exact HC104_0.out);rintro e w' ⟨rfl,⟨nd,rfl⟩⟩;(try first | exact ⟨rfl,_,World.drewN_drewN _ _ _⟩ | exact ⟨rfl,_,Eq.trans (World.drewN_drewN _ _ _) (congrArg (World.drewN _) (Nat.add_assoc _ _ _))⟩)));try go_wp2_with (fail))
  go_ret;exact ⟨by rfl,by repeat (first | exact Drawn0.refl _ | apply Drawn0.step)⟩
 have H':=am_ H;clear H;have p103 : 0 ≤ (x5_1 : Int):=of_decide_eq_true (by (with_reducible assumption));have q103 : x5_1 < (l0.length : Int):=of_decide_eq_true (by (with_reducible assumption));obtain ⟨ad103,A103_0,c103_0,e103,hx103_0,hl103_0,hi103_0⟩ := at_L2 HR0.out x5_1 p103 q103;cases e103;have HR103_0:=am_ hi103_0;have HC103_0:=am_ hl103_0;clear hi103_0 hl103_0;replace p103:=eq_true p103;replace q103:=eq_true q103;have p104 : 0 ≤ (x5_1 : Int):=of_decide_eq_true (by (with_reducible assumption));have q104 : x5_1 < (l1.length : Int):=of_decide_eq_true (by (with_reducible assumption));obtain ⟨ad104,A104_0,c104_0,e104,hx104_0,hl104_0,hi104_0⟩ := at_L2 HR1.out x5_1 p104 q104;cases e104;have HR104_0:=am_ hi104_0;have HC104_0:=am_ hl104_0;clear hi104_0 hl104_0;replace p104:=eq_true p104;replace q104:=eq_true q104;go_wp2_with (fail);repeat (go_quiet ((go_at_call 25;(with_reducible refine (laws_rInts.calls k1 _ _ (rd_L2 l0 x5_1) _ _ (rd_L2 l1 x5_1) true _ ?side1 ?side2 ?side3 ?side4 A7.out).mono ?_);(case side1 => repeat (exact HR103_0.out));(case side2 => exact HC103_0.out);(case side3 => repeat (exact HR104_0.out));(case side4 => exact HC104_0.out);rintro e w' ⟨rfl,⟨nd,rfl⟩⟩;(try first | exact ⟨rfl,_,World.drewN_drewN _ _ _⟩ | exact ⟨rfl,_,Eq.trans (World.drewN_drewN _ _ _) (congrArg (World.drewN _) (Nat.add_assoc _ _ _))⟩)));try go_wp2_with (fail))
 go_roundg k1;case measure =>have:=HK1.out;omega
 case rel =>exact ⟨(wrap64 (x5_1 + 1)),(by rfl),H',⟨by have:=HK1.out;omega⟩,by repeat (first | exact Drawn0.refl _ | apply Drawn0.step)⟩

/-! ### laws_rGates: function 10 -/
def laws_rGates.f (k : Nat) (l0_0 : List Int) (l0_1 : List (List Int)) (l1_0 : List Int) (l1_1 : List (List Int)) : Option (Bool):=(laws_rInts.f k l0_0 l1_0).bind fun t108 => (if t108 = true then ((laws_rTable.f k l0_1 l1_1).bind fun t109 => (some t109)) else (some false))
theorem laws_rGates.mono : ∀ a0 a1 a2 a3 k,LeO (laws_rGates.f k a0 a1 a2 a3) (laws_rGates.f (k + 1) a0 a1 a2 a3):=by
 intro a0 a1 a2 a3 k
 unfold laws_rGates.f
 repeat' first
   | (with_reducible exact laws_rInts.mono _ _ _)
   | (with_reducible exact laws_rTable.mono _ _ _)
   | (with_reducible exact LeO.refl _)
   | (with_reducible exact LeO.none _)
   | (with_reducible refine LeO.ite ?_ ?_)
   | (with_reducible refine LeO.bind ?_ (fun _ => ?_))
   | exact laws_rInts.mono _ _ _
   | exact laws_rTable.mono _ _ _
   | exact LeO.none _
   | refine LeO.ite ?_ ?_
   | refine LeO.bind ?_ (fun _ => ?_)
set_option maxHeartbeats 8000000 in
set_option maxRecDepth 100000 in
theorem laws_rGates.calls (k : Nat) (A0_0 : Option Addr) (c0_0 : Nat) (l0_0 : List Int) (A0_1 : Option Addr) (c0_1 : Nat) (l0_1 : List (List Int)) (A1_0 : Option Addr) (c1_0 : Nat) (l1_0 : List Int) (A1_1 : Option Addr) (c1_1 : Nat) (l1_1 : List (List Int)) (r : Bool) (w : World) (hr0_0 : Kd.C (Kd.int .i64) w A0_0 l0_0.length l0_0) (hc0_0 : l0_0.length ≤ c0_0) (hr0_1 : Kd.C (Kd.slice 3 (Kd.int .i64)) w A0_1 l0_1.length l0_1) (hc0_1 : l0_1.length ≤ c0_1) (hr1_0 : Kd.C (Kd.int .i64) w A1_0 l1_0.length l1_0) (hc1_0 : l1_0.length ≤ c1_0) (hr1_1 : Kd.C (Kd.slice 3 (Kd.int .i64)) w A1_1 l1_1.length l1_1) (hc1_1 : l1_1.length ≤ c1_1) (h : laws_rGates.f k l0_0 l0_1 l1_0 l1_1 = some r) :
  Calls Try.prog 10 #[.agg #[.slice A0_0 l0_0.length c0_0, .slice A0_1 l0_1.length c0_1], .agg #[.slice A1_0 l1_0.length c1_0, .slice A1_1 l1_1.length c1_1]] w fun e w' => e = .returned (.bool r) ∧ Below w.heap.size w w':=by
 have hu27:=Try.underlying27;have HR0_0:=am_ hr0_0;have HC0_0:=am_ hc0_0;clear hr0_0 hc0_0;have HR0_1:=am_ hr0_1;have HC0_1:=am_ hc0_1;clear hr0_1 hc0_1;have HR1_0:=am_ hr1_0;have HC1_0:=am_ hc1_0;clear hr1_0 hc1_0;have HR1_1:=am_ hr1_1;have HC1_1:=am_ hc1_1;clear hr1_1 hc1_1;have HB:=am_ (Below.refl w.heap.size w);have H : ((laws_rInts.f k l0_0 l1_0).bind fun t108 => (if t108 = true then ((laws_rTable.f k l0_1 l1_1).bind fun t109 => (some t109)) else (some false))) = some r:=h;clear h;replace H:=bn_ H;obtain ⟨t108,A3,H⟩:=H;replace H:=jb_ H;obtain ⟨rfl,H⟩|⟨rfl,H⟩:=H
 ·obtain rfl:=Option.some.inj H;go_enter Try.func10,Try.ntmps10;go_wp2_with (first | ((with_reducible refine gate_dst (N:=2) rfl ?_);refine box_event ?hg (N:=2) ?hd (cs:=#[.slice A0_0 l0_0.length c0_0, .slice A0_1 l0_1.length c0_1]) (t:=27) ?hr ?_;(case hd => rfl);(case hg => rfl);(case hr => (go_simp;done));intro gb106 hg w11 hbox hb;have BK106:=am_ hbox;have GW106:=am_ (ge_ hg (by exact HB.out));have GE106:=am_ (ge_ hg (by exact HB.out));replace HB:=am_ (below_step (by exact HB.out) hb);clear hb hbox hg) | ((with_reducible refine gate_dst (N:=3) rfl ?_);refine box_event ?hg (N:=3) ?hd (cs:=#[.slice A1_0 l1_0.length c1_0, .slice A1_1 l1_1.length c1_1]) (t:=27) ?hr ?_;(case hd => rfl);(case hg => rfl);(case hr => (go_simp;done));intro gb107 hg w12 hbox hb;have BK107:=am_ hbox;have GW107:=am_ (ge_ hg (by exact HB.out));have GE107:=am_ (ge_ hg (by exact HB.out));replace HB:=am_ (below_step (by exact HB.out) hb);have NB106_107:=am_ (nl_ hg (by exact BK106.out));have NB107_106:=am_ (ng_ hg (by exact BK106.out));replace BK106:=am_ (blk_below (by exact BK106.out) hb);clear hb hbox hg;have hnb13:=NB106_107.out;have hnc13:=NB107_106.out;have hcz14_0:=c2_0 BK106.out;have hcz14_1:=c2_1 BK106.out;have hfz14_0:=blk_frozen BK106.out 0;have hfz14_1:=blk_frozen BK106.out 1;have hcz15_0:=c2_0 BK107.out;have hcz15_1:=c2_1 BK107.out;have hfz15_0:=blk_frozen BK107.out 0;have hfz15_1:=blk_frozen BK107.out 1) | ((with_reducible refine gate_callee (f:=25) rfl ?_);refine goesL_ (some 9) rfl rfl Try.func25 (by kernel_rfl) rfl #[.slice A0_0 l0_0.length c0_0, .slice A1_0 l1_0.length c1_0] rfl (by (try simp only [List.map_toArray,List.map_cons,List.map_nil]);rfl) ?_;(with_reducible refine (laws_rInts.calls k _ _ l0_0 _ _ l1_0 false _ ?side1 ?side2 ?side3 ?side4 A3.out).mono ?_);(case side1 => repeat (exact (Kd.C_below HR0_0.out HB.out)));(case side2 => exact HC0_0.out);(case side3 => repeat (exact (Kd.C_below HR1_0.out HB.out)));(case side4 => exact HC1_0.out);rintro e w' ⟨rfl,⟨nd,rfl⟩⟩;refine ⟨_,rfl, ?_⟩));go_ret;exact ⟨by rfl,by repeat ((with_reducible first | exact HB.out | apply pw_below_drewN))⟩
 replace H:=bn_ H;obtain ⟨t109,A5,H⟩:=H;obtain rfl:=Option.some.inj H;go_enter Try.func10,Try.ntmps10;go_wp2_with (first | ((with_reducible refine gate_dst (N:=2) rfl ?_);refine box_event ?hg (N:=2) ?hd (cs:=#[.slice A0_0 l0_0.length c0_0, .slice A0_1 l0_1.length c0_1]) (t:=27) ?hr ?_;(case hd => rfl);(case hg => rfl);(case hr => (go_simp;done));intro gb106 hg w6 hbox hb;have BK106:=am_ hbox;have GW106:=am_ (ge_ hg (by exact HB.out));have GE106:=am_ (ge_ hg (by exact HB.out));replace HB:=am_ (below_step (by exact HB.out) hb);clear hb hbox hg) | ((with_reducible refine gate_dst (N:=3) rfl ?_);refine box_event ?hg (N:=3) ?hd (cs:=#[.slice A1_0 l1_0.length c1_0, .slice A1_1 l1_1.length c1_1]) (t:=27) ?hr ?_;(case hd => rfl);(case hg => rfl);(case hr => (go_simp;done));intro gb107 hg w7 hbox hb;have BK107:=am_ hbox;have GW107:=am_ (ge_ hg (by exact HB.out));have GE107:=am_ (ge_ hg (by exact HB.out));replace HB:=am_ (below_step (by exact HB.out) hb);have NB106_107:=am_ (nl_ hg (by exact BK106.out));have NB107_106:=am_ (ng_ hg (by exact BK106.out));replace BK106:=am_ (blk_below (by exact BK106.out) hb);clear hb hbox hg;have hnb8:=NB106_107.out;have hnc8:=NB107_106.out;have hcz9_0:=c2_0 BK106.out;have hcz9_1:=c2_1 BK106.out;have hfz9_0:=blk_frozen BK106.out 0;have hfz9_1:=blk_frozen BK106.out 1;have hcz10_0:=c2_0 BK107.out;have hcz10_1:=c2_1 BK107.out;have hfz10_0:=blk_frozen BK107.out 0;have hfz10_1:=blk_frozen BK107.out 1) | ((with_reducible refine gate_callee (f:=25) rfl ?_);refine goesL_ (some 9) rfl rfl Try.func25 (by kernel_rfl) rfl #[.slice A0_0 l0_0.length c0_0, .slice A1_0 l1_0.length c1_0] rfl (by (try simp only [List.map_toArray,List.map_cons,List.map_nil]);rfl) ?_;(with_reducible refine (laws_rInts.calls k _ _ l0_0 _ _ l1_0 true _ ?side1 ?side2 ?side3 ?side4 A3.out).mono ?_);(case side1 => repeat (exact (Kd.C_below HR0_0.out HB.out)));(case side2 => exact HC0_0.out);(case side3 => repeat (exact (Kd.C_below HR1_0.out HB.out)));(case side4 => exact HC1_0.out);rintro e w' ⟨rfl,⟨nd,rfl⟩⟩;refine ⟨_,rfl, ?_⟩) | (go_at_call 50;(with_reducible refine (laws_rTable.calls k _ _ l0_1 _ _ l1_1 t109 _ ?side1 ?side2 ?side3 ?side4 A5.out).mono ?_);(case side1 => repeat (exact (Kd.C_below HR0_1.out (by repeat ((with_reducible first | exact HB.out | apply pw_below_drewN))))));(case side2 => exact HC0_1.out);(case side3 => repeat (exact (Kd.C_below HR1_1.out (by repeat ((with_reducible first | exact HB.out | apply pw_below_drewN))))));(case side4 => exact HC1_1.out);rintro e w' ⟨rfl,⟨nd,rfl⟩⟩));go_ret;exact ⟨by rfl,by repeat ((with_reducible first | exact HB.out | apply pw_below_drewN))⟩

/-! ### impl_within: function 53 -/
def impl_within.f (a0 : Int) (a1 : Int) (a2 : Int) : Option (Bool):=if a0 ≥ a1 then (some (decide (a0 ≤ a2))) else (some false)
set_option maxHeartbeats 8000000 in
set_option maxRecDepth 100000 in
theorem impl_within.calls (a0 : Int) (a1 : Int) (a2 : Int) (r : Bool) (w : World) (h : impl_within.f a0 a1 a2 = some r) :
  Calls Try.prog 53 #[.int .i64 a0, .int .i64 a1, .int .i64 a2] w fun e w' => e = .returned (.bool r) ∧ Drawn0 w w':=by
 have H : (if a0 ≥ a1 then (some (decide (a0 ≤ a2))) else (some false)) = some r:=h;clear h;replace H:=id_ H;obtain ⟨c4b0,H⟩|⟨c4b0,H⟩:=H
 ·obtain rfl:=Option.some.inj H;go_enter Try.func53,Try.ntmps53;go_wp2;go_ret;exact ⟨by rfl,by repeat (exact Drawn0.refl _)⟩
 obtain rfl:=Option.some.inj H;go_enter Try.func53,Try.ntmps53;go_wp2;go_ret;exact ⟨by rfl,by repeat (exact Drawn0.refl _)⟩

end Go.Proofs.Ytglfjaaaegfdnaa.PFnGateSlots
