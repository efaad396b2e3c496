-- Written by a program of this session, over the kit's print (wip/xprint.py)
import Derived.Test.YtpelcaijjdgnoaaDoorPFnReadingsx0
import Derived.Test.YtpelcaijjdgnoaaDoorPFnReadingsx2
import Derived.Test.YtpelcaijjdgnoaaDoorPFnReadingsx3
import Derived.Test.YtpelcaijjdgnoaaDoorPFnReadingsx4
namespace Go.Proofs.YtpelcaijjdgnoaaDoor.PFnReadings
open Go.RowKit Go.Proofs.YtpelcaijjdgnoaaDoorW.PrintWords Go.Proofs.YtpelcaijjdgnoaaDoorW.PrintLast Go.Proofs.YtpelcaijjdgnoaaDoorW.PrintMore
attribute [local go_sem] max2_int min2_int max_two min_two max_three min_three max_four min_four   -- for this text's walks alone
set_option linter.unusedVariables false
set_option linter.unusedSimpArgs false

/-! ### laws_rInts: function 16 -/
def laws_rInts.l0 : Nat → List Int → List Int → Int → Option (Bool)
 | 0,_,_,_ => none
 | k + 1,x0,x1,x5 => if x5 < (x0.length : Int) then (if 0 ≤ x5 then (if x5 < (x1.length : Int) then (if (rd x0 x5) = (rd x1 x5) then (laws_rInts.l0 k x0 x1 (wrap64 (x5 + 1))) else (some false)) else (none)) else (none)) else (some true)
def laws_rInts.f (k : Nat) (l0 : List Int) (l1 : List Int) : Option (Bool):=if (l0.length : Int) = (l1.length : Int) then (laws_rInts.l0 k l0 l1 0) else (some false)
theorem laws_rInts.mono_l : ∀ k,(∀ y0 y1 y2,LeO (laws_rInts.l0 k y0 y1 y2) (laws_rInts.l0 (k + 1) y0 y1 y2))
 | 0 => fun _ _ _ r h => by simp [laws_rInts.l0] at h
 | k + 1 => by
  have ih0:=laws_rInts.mono_l k
  ·intro y0 y1 y2
   unfold laws_rInts.l0
   repeat' first
   | (with_reducible exact ih0 _ _ _)
   | (with_reducible exact LeO.refl _)
   | (with_reducible exact LeO.none _)
   | (with_reducible refine LeO.ite ?_ ?_)
   | (with_reducible refine LeO.bind ?_ (fun _ => ?_))
   | exact ih0 _ _ _
   | exact LeO.none _
   | refine LeO.ite ?_ ?_
   | refine LeO.bind ?_ (fun _ => ?_)
theorem laws_rInts.mono : ∀ a0 a1 k,LeO (laws_rInts.f k a0 a1) (laws_rInts.f (k + 1) a0 a1):=by
 intro a0 a1 k
 have ih0:=laws_rInts.mono_l k
 unfold laws_rInts.f
 repeat' first
   | (with_reducible exact ih0 _ _ _)
   | (with_reducible exact LeO.refl _)
   | (with_reducible exact LeO.none _)
   | (with_reducible refine LeO.ite ?_ ?_)
   | (with_reducible refine LeO.bind ?_ (fun _ => ?_))
   | exact ih0 _ _ _
   | exact LeO.none _
   | refine LeO.ite ?_ ?_
   | refine LeO.bind ?_ (fun _ => ?_)
set_option maxHeartbeats 8000000 in
set_option maxRecDepth 100000 in
theorem laws_rInts.calls (k : Nat) (A0 : Option Addr) (c0 : Nat) (l0 : List Int) (A1 : Option Addr) (c1 : Nat) (l1 : List Int) (r : Bool) (w : World) (hr0 : Kd.C (Kd.int .i64) w A0 l0.length l0) (hc0 : l0.length ≤ c0) (hr1 : Kd.C (Kd.int .i64) w A1 l1.length l1) (hc1 : l1.length ≤ c1) (h : laws_rInts.f k l0 l1 = some r) :
  Calls Tryd.prog 16 #[.slice A0 l0.length c0, .slice A1 l1.length c1] w fun e w' => e = .returned (.bool r) ∧ Drawn0 w w':=by
 have HR0:=Aside0.mk hr0
 have HC0:=Aside0.mk hc0
 clear hr0 hc0
 have HR1:=Aside0.mk hr1
 have HC1:=Aside0.mk hc1
 clear hr1 hc1
 have H : (if (l0.length : Int) = (l1.length : Int) then (laws_rInts.l0 k l0 l1 0) else (some false)) = some r:=h
 clear h
 by_cases c3 : (l0.length : Int) = (l1.length : Int)
 ·rw [if_pos c3] at H
  have c3b0 : ((l0.length : Int) == (l1.length : Int)) = true:=beq_iff_eq.mpr c3
  have c3b1 : ((l0.length : Int) != (l1.length : Int)) = false:=bne_eq_false_iff_eq.mpr c3
  have c3b2 : (l0.length == l1.length) = true:=by (simp at c3 ⊢;omega)
  clear c3
  have H':=Aside0.mk H
  clear H
  go_enter Tryd.func16,Tryd.ntmps16
  go_wp2
  repeat (go_quiet (fail);try go_wp2)
  (skip)
  go_loopg [5] k (fun kq v5 w' => ∃ (x5_1 : Int),v5 = .int .i64 x5_1 ∧ Aside0 (laws_rInts.l0 kq l0 l1 x5_1 = some r) ∧ Aside0 (kq ≤ k) ∧ Drawn0 w w')
  case atStart => exact ⟨(0),(by rfl),H',⟨Nat.le_refl _⟩,by repeat (exact Drawn0.refl _)⟩
  case round =>
   clear H'
   try clear c1
   try clear p2
   try clear c3
   try clear c3b0
   try clear c3b1
   try clear c3b2
   obtain ⟨x5_1,rfl,HA,HK1,⟨m1,rfl⟩⟩ := hrel
   cases gk with
   | zero => exact absurd HA.out (by simp [laws_rInts.l0])
   | succ k1 =>
    have H:=HA.out
    clear HA
    simp only [laws_rInts.l0] at H
    by_cases c4 : x5_1 < (l0.length : Int)
    ·rw [if_pos c4] at H
     have c4b0 : decide (x5_1 < (l0.length : Int)) = true:=decide_eq_true c4
     clear c4
     by_cases c5 : 0 ≤ x5_1
     ·rw [if_pos c5] at H
      have c5b0 : decide (0 ≤ x5_1) = true:=decide_eq_true c5
      clear c5
      by_cases c6 : x5_1 < (l1.length : Int)
      ·rw [if_pos c6] at H
       have c6b0 : decide (x5_1 < (l1.length : Int)) = true:=decide_eq_true c6
       clear c6
       by_cases c7 : (rd l0 x5_1) = (rd l1 x5_1)
       ·rw [if_pos c7] at H
        have c7b0 : ((rd l0 x5_1) == (rd l1 x5_1)) = true:=beq_iff_eq.mpr c7
        have c7b1 : ((rd l0 x5_1) != (rd l1 x5_1)) = false:=bne_eq_false_iff_eq.mpr c7
        clear c7
        have H':=Aside0.mk H
        clear H
        have p293 : 0 ≤ (x5_1 : Int):=of_decide_eq_true (by (with_reducible assumption))
        have q293 : x5_1 < (l0.length : Int):=of_decide_eq_true (by (with_reducible assumption))
        obtain ⟨ad293,e293,hx293_0⟩ := Kd.at_int HR0.out x5_1 p293 q293
        cases e293
        replace p293:=eq_true p293
        replace q293:=eq_true q293
        have p294 : 0 ≤ (x5_1 : Int):=of_decide_eq_true (by (with_reducible assumption))
        have q294 : x5_1 < (l1.length : Int):=of_decide_eq_true (by (with_reducible assumption))
        obtain ⟨ad294,e294,hx294_0⟩ := Kd.at_int HR1.out x5_1 p294 q294
        cases e294
        replace p294:=eq_true p294
        replace q294:=eq_true q294
        go_wp2
        repeat (go_quiet (fail);try go_wp2)
        go_roundg k1
        case measure => have:=HK1.out;omega
        case rel => exact ⟨(wrap64 (x5_1 + 1)),(by rfl),H',⟨by have:=HK1.out;omega⟩,by repeat (first | exact Drawn0.refl _ | apply Drawn0.step)⟩
       ·rw [if_neg c7] at H
        have c7b0 : ((rd l0 x5_1) == (rd l1 x5_1)) = false:=beq_eq_false_iff_ne.mpr c7
        have c7b1 : ((rd l0 x5_1) != (rd l1 x5_1)) = true:=bne_iff_ne.mpr c7
        obtain rfl:=Option.some.inj H
        have p293 : 0 ≤ (x5_1 : Int):=of_decide_eq_true (by (with_reducible assumption))
        have q293 : x5_1 < (l0.length : Int):=of_decide_eq_true (by (with_reducible assumption))
        obtain ⟨ad293,e293,hx293_0⟩ := Kd.at_int HR0.out x5_1 p293 q293
        cases e293
        replace p293:=eq_true p293
        replace q293:=eq_true q293
        have p294 : 0 ≤ (x5_1 : Int):=of_decide_eq_true (by (with_reducible assumption))
        have q294 : x5_1 < (l1.length : Int):=of_decide_eq_true (by (with_reducible assumption))
        obtain ⟨ad294,e294,hx294_0⟩ := Kd.at_int HR1.out x5_1 p294 q294
        cases e294
        replace p294:=eq_true p294
        replace q294:=eq_true q294
        go_wp2
        repeat (go_quiet (fail);try go_wp2)
        go_ret
        exact ⟨by rfl,by repeat (first | exact Drawn0.refl _ | apply Drawn0.step)⟩
      ·rw [if_neg c6] at H
       exact absurd H (by simp)
     ·rw [if_neg c5] at H
      exact absurd H (by simp)
    ·rw [if_neg c4] at H
     have c4b0 : decide (x5_1 < (l0.length : Int)) = false:=decide_eq_false c4
     clear c4
     obtain rfl:=Option.some.inj H
     go_wp2
     repeat (go_quiet (fail);try go_wp2)
     go_ret
     exact ⟨by rfl,by repeat (first | exact Drawn0.refl _ | apply Drawn0.step)⟩
 ·rw [if_neg c3] at H
  have c3b0 : ((l0.length : Int) == (l1.length : Int)) = false:=beq_eq_false_iff_ne.mpr c3
  have c3b1 : ((l0.length : Int) != (l1.length : Int)) = true:=bne_iff_ne.mpr c3
  have c3b2 : (l0.length == l1.length) = false:=by (simp at c3 ⊢;omega)
  obtain rfl:=Option.some.inj H
  go_enter Tryd.func16,Tryd.ntmps16
  go_wp2
  repeat (go_quiet (fail);try go_wp2)
  go_ret
  exact ⟨by rfl,by repeat (exact Drawn0.refl _)⟩

/-! ### laws_rHas: function 17 -/
def laws_rHas.l0 : Nat → List Int → Int → Int → Option (Bool)
 | 0,_,_,_ => none
 | k + 1,x0,x1,x5 => if x5 < (x0.length : Int) then (if 0 ≤ x5 then (if (rd x0 x5) = x1 then (some true) else (laws_rHas.l0 k x0 x1 (wrap64 (x5 + 1)))) else (none)) else (some false)
def laws_rHas.f (k : Nat) (l0 : List Int) (a1 : Int) : Option (Bool):=laws_rHas.l0 k l0 a1 0
theorem laws_rHas.mono_l : ∀ k,(∀ y0 y1 y2,LeO (laws_rHas.l0 k y0 y1 y2) (laws_rHas.l0 (k + 1) y0 y1 y2))
 | 0 => fun _ _ _ r h => by simp [laws_rHas.l0] at h
 | k + 1 => by
  have ih0:=laws_rHas.mono_l k
  ·intro y0 y1 y2
   unfold laws_rHas.l0
   repeat' first
   | (with_reducible exact ih0 _ _ _)
   | (with_reducible exact LeO.refl _)
   | (with_reducible exact LeO.none _)
   | (with_reducible refine LeO.ite ?_ ?_)
   | (with_reducible refine LeO.bind ?_ (fun _ => ?_))
   | exact ih0 _ _ _
   | exact LeO.none _
   | refine LeO.ite ?_ ?_
   | refine LeO.bind ?_ (fun _ => ?_)
theorem laws_rHas.mono : ∀ a0 a1 k,LeO (laws_rHas.f k a0 a1) (laws_rHas.f (k + 1) a0 a1):=by
 intro a0 a1 k
 have ih0:=laws_rHas.mono_l k
 unfold laws_rHas.f
 repeat' first
   | (with_reducible exact ih0 _ _ _)
   | (with_reducible exact LeO.refl _)
   | (with_reducible exact LeO.none _)
   | (with_reducible refine LeO.ite ?_ ?_)
   | (with_reducible refine LeO.bind ?_ (fun _ => ?_))
   | exact ih0 _ _ _
   | exact LeO.none _
   | refine LeO.ite ?_ ?_
   | refine LeO.bind ?_ (fun _ => ?_)
set_option maxHeartbeats 8000000 in
set_option maxRecDepth 100000 in
theorem laws_rHas.calls (k : Nat) (A0 : Option Addr) (c0 : Nat) (l0 : List Int) (a1 : Int) (r : Bool) (w : World) (hr0 : Kd.C (Kd.int .i64) w A0 l0.length l0) (hc0 : l0.length ≤ c0) (h : laws_rHas.f k l0 a1 = some r) :
  Calls Tryd.prog 17 #[.slice A0 l0.length c0, .int .i64 a1] w fun e w' => e = .returned (.bool r) ∧ Drawn0 w w':=by
 have HR0:=Aside0.mk hr0
 have HC0:=Aside0.mk hc0
 clear hr0 hc0
 have H : (laws_rHas.l0 k l0 a1 0) = some r:=h
 clear h
 have H':=Aside0.mk H
 clear H
 go_enter Tryd.func17,Tryd.ntmps17
 go_wp2
 go_loopg [5] k (fun kq v5 w' => ∃ (x5_1 : Int),v5 = .int .i64 x5_1 ∧ Aside0 (laws_rHas.l0 kq l0 a1 x5_1 = some r) ∧ Aside0 (kq ≤ k) ∧ Drawn0 w w')
 case atStart => exact ⟨(0),(by rfl),H',⟨Nat.le_refl _⟩,by repeat (exact Drawn0.refl _)⟩
 case round =>
  clear H'
  try clear c1
  try clear p2
  obtain ⟨x5_1,rfl,HA,HK1,⟨m1,rfl⟩⟩ := hrel
  cases gk with
  | zero => exact absurd HA.out (by simp [laws_rHas.l0])
  | succ k1 =>
   have H:=HA.out
   clear HA
   simp only [laws_rHas.l0] at H
   by_cases c3 : x5_1 < (l0.length : Int)
   ·rw [if_pos c3] at H
    have c3b0 : decide (x5_1 < (l0.length : Int)) = true:=decide_eq_true c3
    clear c3
    by_cases c4 : 0 ≤ x5_1
    ·rw [if_pos c4] at H
     have c4b0 : decide (0 ≤ x5_1) = true:=decide_eq_true c4
     clear c4
     by_cases c5 : (rd l0 x5_1) = a1
     ·rw [if_pos c5] at H
      have c5b0 : ((rd l0 x5_1) == a1) = true:=beq_iff_eq.mpr c5
      have c5b1 : ((rd l0 x5_1) != a1) = false:=bne_eq_false_iff_eq.mpr c5
      clear c5
      obtain rfl:=Option.some.inj H
      have p295 : 0 ≤ (x5_1 : Int):=of_decide_eq_true (by (with_reducible assumption))
      have q295 : x5_1 < (l0.length : Int):=of_decide_eq_true (by (with_reducible assumption))
      obtain ⟨ad295,e295,hx295_0⟩ := Kd.at_int HR0.out x5_1 p295 q295
      cases e295
      replace p295:=eq_true p295
      replace q295:=eq_true q295
      go_wp2
      go_ret
      exact ⟨by rfl,by repeat (first | exact Drawn0.refl _ | apply Drawn0.step)⟩
     ·rw [if_neg c5] at H
      have c5b0 : ((rd l0 x5_1) == a1) = false:=beq_eq_false_iff_ne.mpr c5
      have c5b1 : ((rd l0 x5_1) != a1) = true:=bne_iff_ne.mpr c5
      have H':=Aside0.mk H
      clear H
      have p295 : 0 ≤ (x5_1 : Int):=of_decide_eq_true (by (with_reducible assumption))
      have q295 : x5_1 < (l0.length : Int):=of_decide_eq_true (by (with_reducible assumption))
      obtain ⟨ad295,e295,hx295_0⟩ := Kd.at_int HR0.out x5_1 p295 q295
      cases e295
      replace p295:=eq_true p295
      replace q295:=eq_true q295
      go_wp2
      go_roundg k1
      case measure => have:=HK1.out;omega
      case rel => exact ⟨(wrap64 (x5_1 + 1)),(by rfl),H',⟨by have:=HK1.out;omega⟩,by repeat (first | exact Drawn0.refl _ | apply Drawn0.step)⟩
    ·rw [if_neg c4] at H
     exact absurd H (by simp)
   ·rw [if_neg c3] at H
    have c3b0 : decide (x5_1 < (l0.length : Int)) = false:=decide_eq_false c3
    clear c3
    obtain rfl:=Option.some.inj H
    go_wp2
    go_ret
    exact ⟨by rfl,by repeat (first | exact Drawn0.refl _ | apply Drawn0.step)⟩

/-! ### spec_DrawAddReading: function 18 -/
def spec_DrawAddReading.f (k : Nat) (l0 : List Int) : Option ((List (S41)) × Int × Int × Bool):=(spec_l1Cur_readings.f k l0 0 0).bind fun bt298 => ((spec_l1Cur_among.f l0 bt298.2.1 bt298.2.2 (([0,3,4,7,12,20,240,241] : List Int))).bind fun bt306 => ((some (([(-180),400,401] : List Int) : List Int)).bind fun y309 => ((spec_l1Cur_pick.f l0 bt306.2.1 bt306.2.2 12).bind fun bt312 => (if 0 ≤ (wrap64 (2 + (wrap64 (Int.tdiv bt312.1 11)))) then (if (wrap64 (2 + (wrap64 (Int.tdiv bt312.1 11)))) ≤ (y309.length : Int) then ((spec_l1Cur_among.f l0 bt312.2.1 bt312.2.2 (y309.take ((wrap64 (2 + (wrap64 (Int.tdiv bt312.1 11)))) : Int).toNat)).bind fun bt319 => ((spec_l1Cur_one.f l0 bt319.2.1 bt319.2.2 2).bind fun bt322 => (some (bt298.1,bt306.1,bt319.1,bt322.1)))) else (none)) else (none)))))
theorem spec_DrawAddReading.mono : ∀ a0 k,LeO (spec_DrawAddReading.f k a0) (spec_DrawAddReading.f (k + 1) a0):=by
 intro a0 k
 unfold spec_DrawAddReading.f
 repeat' first
   | (with_reducible exact spec_l1Cur_readings.mono _ _ _ _)
   | (with_reducible exact LeO.refl _)
   | (with_reducible exact LeO.none _)
   | (with_reducible refine LeO.ite ?_ ?_)
   | (with_reducible refine LeO.bind ?_ (fun _ => ?_))
   | exact spec_l1Cur_readings.mono _ _ _ _
   | exact LeO.none _
   | refine LeO.ite ?_ ?_
   | refine LeO.bind ?_ (fun _ => ?_)
set_option maxHeartbeats 8000000 in
set_option maxRecDepth 100000 in
theorem spec_DrawAddReading.calls (k : Nat) (A0 : Option Addr) (c0 : Nat) (l0 : List Int) (r1 : List (S41)) (r2 : Int) (r3 : Int) (r4 : Bool) (w : World) (hr0 : Kd.C (Kd.int .u8) w A0 l0.length l0) (hc0 : l0.length ≤ c0) (h : spec_DrawAddReading.f k l0 = some (r1,r2,r3,r4)) :
  Calls Tryd.prog 18 #[.slice A0 l0.length c0] w fun e w' => ∃ v0_ : Value,e = .returned (.tuple #[v0_, .agg #[.int .i64 r2, .int .i64 r3, .bool r4]]) ∧ Kd.R k41 41 w' w.heap.size (fun _ => True) v0_ r1 ∧ Below w.heap.size w w':=by
 have hu41:=Tryd.underlying41
 have hu51:=Tryd.underlying51
 have HR0:=Aside0.mk hr0
 have HC0:=Aside0.mk hc0
 clear hr0 hc0
 have HB:=Aside0.mk (Below.refl w.heap.size w)
 have H : ((spec_l1Cur_readings.f k l0 0 0).bind fun bt298 => ((spec_l1Cur_among.f l0 bt298.2.1 bt298.2.2 (([0,3,4,7,12,20,240,241] : List Int))).bind fun bt306 => ((some (([(-180),400,401] : List Int) : List Int)).bind fun y309 => ((spec_l1Cur_pick.f l0 bt306.2.1 bt306.2.2 12).bind fun bt312 => (if 0 ≤ (wrap64 (2 + (wrap64 (Int.tdiv bt312.1 11)))) then (if (wrap64 (2 + (wrap64 (Int.tdiv bt312.1 11)))) ≤ (y309.length : Int) then ((spec_l1Cur_among.f l0 bt312.2.1 bt312.2.2 (y309.take ((wrap64 (2 + (wrap64 (Int.tdiv bt312.1 11)))) : Int).toNat)).bind fun bt319 => ((spec_l1Cur_one.f l0 bt319.2.1 bt319.2.2 2).bind fun bt322 => (some (bt298.1,bt306.1,bt319.1,bt322.1)))) else (none)) else (none)))))) = some (r1,r2,r3,r4):=h
 clear h
 replace H:=Option.bind_eq_some_iff.mp H
 obtain ⟨⟨t298,t301,t302⟩,A20,H⟩ := H
 replace H : ((spec_l1Cur_among.f l0 t301 t302 (([0,3,4,7,12,20,240,241] : List Int))).bind fun bt306 => ((some (([(-180),400,401] : List Int) : List Int)).bind fun y309 => ((spec_l1Cur_pick.f l0 bt306.2.1 bt306.2.2 12).bind fun bt312 => (if 0 ≤ (wrap64 (2 + (wrap64 (Int.tdiv bt312.1 11)))) then (if (wrap64 (2 + (wrap64 (Int.tdiv bt312.1 11)))) ≤ (y309.length : Int) then ((spec_l1Cur_among.f l0 bt312.2.1 bt312.2.2 (y309.take ((wrap64 (2 + (wrap64 (Int.tdiv bt312.1 11)))) : Int).toNat)).bind fun bt319 => ((spec_l1Cur_one.f l0 bt319.2.1 bt319.2.2 2).bind fun bt322 => (some (t298,bt306.1,bt319.1,bt322.1)))) else (none)) else (none))))) = some (r1,r2,r3,r4):=H
 have A2:=Aside0.mk A20
 clear A20
 obtain ⟨y303,hy303⟩ : ∃ y_ : List Int,y_ = (([0,3,4,7,12,20,240,241] : List Int)):=⟨_,rfl⟩
 replace H : ((spec_l1Cur_among.f l0 t301 t302 y303).bind fun bt306 => ((some (([(-180),400,401] : List Int) : List Int)).bind fun y309 => ((spec_l1Cur_pick.f l0 bt306.2.1 bt306.2.2 12).bind fun bt312 => (if 0 ≤ (wrap64 (2 + (wrap64 (Int.tdiv bt312.1 11)))) then (if (wrap64 (2 + (wrap64 (Int.tdiv bt312.1 11)))) ≤ (y309.length : Int) then ((spec_l1Cur_among.f l0 bt312.2.1 bt312.2.2 (y309.take ((wrap64 (2 + (wrap64 (Int.tdiv bt312.1 11)))) : Int).toNat)).bind fun bt319 => ((spec_l1Cur_one.f l0 bt319.2.1 bt319.2.2 2).bind fun bt322 => (some (t298,bt306.1,bt319.1,bt322.1)))) else (none)) else (none))))) = some (r1,r2,r3,r4):=by (rw [hy303];with_reducible exact H)
 have Ny303:=Aside0.mk hy303
 clear hy303
 replace H:=Option.bind_eq_some_iff.mp H
 obtain ⟨⟨t306,t307,t308⟩,A30,H⟩ := H
 replace H : ((some (([(-180),400,401] : List Int) : List Int)).bind fun y309 => ((spec_l1Cur_pick.f l0 t307 t308 12).bind fun bt312 => (if 0 ≤ (wrap64 (2 + (wrap64 (Int.tdiv bt312.1 11)))) then (if (wrap64 (2 + (wrap64 (Int.tdiv bt312.1 11)))) ≤ (y309.length : Int) then ((spec_l1Cur_among.f l0 bt312.2.1 bt312.2.2 (y309.take ((wrap64 (2 + (wrap64 (Int.tdiv bt312.1 11)))) : Int).toNat)).bind fun bt319 => ((spec_l1Cur_one.f l0 bt319.2.1 bt319.2.2 2).bind fun bt322 => (some (t298,t306,bt319.1,bt322.1)))) else (none)) else (none)))) = some (r1,r2,r3,r4):=H
 have A3:=Aside0.mk A30
 clear A30
 obtain ⟨y309,hy309⟩ : ∃ y_ : List Int,y_ = (([(-180),400,401] : List Int)):=⟨_,rfl⟩
 replace H : ((spec_l1Cur_pick.f l0 t307 t308 12).bind fun bt312 => (if 0 ≤ (wrap64 (2 + (wrap64 (Int.tdiv bt312.1 11)))) then (if (wrap64 (2 + (wrap64 (Int.tdiv bt312.1 11)))) ≤ (y309.length : Int) then ((spec_l1Cur_among.f l0 bt312.2.1 bt312.2.2 (y309.take ((wrap64 (2 + (wrap64 (Int.tdiv bt312.1 11)))) : Int).toNat)).bind fun bt319 => ((spec_l1Cur_one.f l0 bt319.2.1 bt319.2.2 2).bind fun bt322 => (some (t298,t306,bt319.1,bt322.1)))) else (none)) else (none))) = some (r1,r2,r3,r4):=by (have H2_:=(Option.bind_some _ _).symm.trans H;rw [hy309];with_reducible exact H2_)
 have Ny309:=Aside0.mk hy309
 clear hy309
 replace H:=Option.bind_eq_some_iff.mp H
 obtain ⟨⟨t312,t313,t314⟩,A40,H⟩ := H
 replace H : (if 0 ≤ (wrap64 (2 + (wrap64 (Int.tdiv t312 11)))) then (if (wrap64 (2 + (wrap64 (Int.tdiv t312 11)))) ≤ (y309.length : Int) then ((spec_l1Cur_among.f l0 t313 t314 (y309.take ((wrap64 (2 + (wrap64 (Int.tdiv t312 11)))) : Int).toNat)).bind fun bt319 => ((spec_l1Cur_one.f l0 bt319.2.1 bt319.2.2 2).bind fun bt322 => (some (t298,t306,bt319.1,bt322.1)))) else (none)) else (none)) = some (r1,r2,r3,r4):=H
 have A4:=Aside0.mk A40
 clear A40
 obtain ⟨ji5,hji5⟩ : ∃ j_ : Int,(wrap64 (2 + (wrap64 (Int.tdiv t312 11)))) = j_:=⟨_,rfl⟩
 replace H : (if 0 ≤ (ji5) then (if (ji5) ≤ (y309.length : Int) then ((spec_l1Cur_among.f l0 t313 t314 (y309.take ((ji5) : Int).toNat)).bind fun bt319 => ((spec_l1Cur_one.f l0 bt319.2.1 bt319.2.2 2).bind fun bt322 => (some (t298,t306,bt319.1,bt322.1)))) else (none)) else (none)) = some (r1,r2,r3,r4):=by (rw [hji5] at H;exact H)
 (skip)
 (skip)
 (skip)
 have hji5w : (IntKind.i64.wrap (2 + (wrap64 (Int.tdiv t312 11)))) = ji5:=(i64_w _).trans hji5
 by_cases c6 : 0 ≤ (ji5)
 ·rw [if_pos c6] at H
  have c6b0:=eq_true c6
  have c6b1 : decide (0 ≤ (ji5)) = true:=decide_eq_true c6
  clear c6
  by_cases c7 : (ji5) ≤ (y309.length : Int)
  ·rw [if_pos c7] at H
   have c7b0:=eq_true c7
   have c7b1 : decide ((ji5) ≤ (y309.length : Int)) = true:=decide_eq_true c7
   clear c7
   obtain ⟨y315,hy315⟩ : ∃ y_ : List Int,y_ = (y309.take ((ji5) : Int).toNat):=⟨_,rfl⟩
   replace H : ((spec_l1Cur_among.f l0 t313 t314 y315).bind fun bt319 => ((spec_l1Cur_one.f l0 bt319.2.1 bt319.2.2 2).bind fun bt322 => (some (t298,t306,bt319.1,bt322.1)))) = some (r1,r2,r3,r4):=by (rw [hy315];with_reducible exact H)
   have Ny315:=Aside0.mk hy315
   clear hy315
   replace H:=Option.bind_eq_some_iff.mp H
   obtain ⟨⟨t319,t320,t321⟩,A80,H⟩ := H
   replace H : ((spec_l1Cur_one.f l0 t320 t321 2).bind fun bt322 => (some (t298,t306,t319,bt322.1))) = some (r1,r2,r3,r4):=H
   have A8:=Aside0.mk A80
   clear A80
   replace H:=Option.bind_eq_some_iff.mp H
   obtain ⟨⟨t322,t323,t324⟩,A90,H⟩ := H
   replace H : (some (t298,t306,t319,t322)) = some (r1,r2,r3,r4):=H
   have A9:=Aside0.mk A90
   clear A90
   simp only [Option.some.injEq,Prod.mk.injEq] at H
   obtain ⟨rfl,rfl,rfl,rfl⟩ := H
   go_enter Tryd.func18,Tryd.ntmps18
   go_wp2_with (first | ((with_reducible refine gate_dst (N:=3) rfl ?_);refine box_event ?hg (N:=3) ?hd (cs:=#[.int .i64 0, .int .i64 0, .bool false]) (t:=41) ?hr ?_;(case hd => rfl);(case hg => rfl);(case hr => (go_simp;done));intro gb296 hg w10 hbox hb;have n0_:=Aside0.mk (below_step (by exact HB.out) hb);have n1_:=Aside0.mk (hbox);have n2_:=Aside0.mk ((by rw [hg];exact (below_size (by exact HB.out)) : w.heap.size ≤ gb296));have n3_:=Aside0.mk ((by rw [hg];exact (below_size (by exact HB.out)) : w.heap.size ≤ gb296));clear HB;have HB:=n0_;have BK296:=n1_;have GW296:=n2_;have GE296:=n3_;clear n0_ n1_ n2_ n3_;clear hb hbox hg) | ((with_reducible refine gate_dst (N:=8) rfl ?_);refine box_event ?hg (N:=8) ?hd (cs:=#[.slice A0 l0.length c0, .int .i64 0, .int .u64 0]) (t:=51) ?hr ?_;(case hd => rfl);(case hg => rfl);(case hr => (go_simp;done));intro gb297 hg w11 hbox hb;have n0_:=Aside0.mk (blk_below (g:=gb296) (o := .cells #[.int .i64 0, .int .i64 0, .bool false] 41 (0,0)) (by exact BK296.out) hb);have n1_:=Aside0.mk (below_step (by exact HB.out) hb);have n2_:=Aside0.mk ((by rw [hg];exact Nat.ne_of_lt (blk_lt (g:=gb296) (o := .cells #[.int .i64 0, .int .i64 0, .bool false] 41 (0,0)) (by exact BK296.out)) : gb296 ≠ gb297));have n3_:=Aside0.mk ((by rw [hg];exact Nat.ne_of_gt (blk_lt (g:=gb296) (o := .cells #[.int .i64 0, .int .i64 0, .bool false] 41 (0,0)) (by exact BK296.out)) : gb297 ≠ gb296));have n4_:=Aside0.mk ((show IsS51 w _ gb297 l0 0 0 from ⟨_,_,hbox,(by rw [hg];exact (below_size (by exact HB.out)) : w.heap.size ≤ gb297),HR0.out⟩));clear BK296;clear HB;have BK296:=n0_;have HB:=n1_;have NB296_297:=n2_;have NB297_296:=n3_;have HI297:=n4_;clear n0_ n1_ n2_ n3_ n4_;clear hb hbox hg) | ((with_reducible refine gate_callee (f:=36) rfl ?_);refine goesL_ (some 10) rfl rfl Tryd.func36 (by kernel_rfl) rfl #[.pointer (some ⟨gb297,0,none⟩)] rfl (by (try simp only [List.map_toArray,List.map_cons,List.map_nil]);rfl) ?_;(with_reducible refine (spec_l1Cur_readings.calls k gb297 l0 0 0 t298 t301 t302 w _ ?side1 ?side2 A2.out).mono ?_);(case side1 => exact HI297.out);(case side2 => exact HB.out);rintro e w12 ⟨v299,rfl,ho0,hi,hb,hk⟩;refine ⟨_,rfl, ?_⟩;have n0_:=Aside0.mk (KeepBut.blk hk (g':=gb296) (o := .cells #[.int .i64 0, .int .i64 0, .bool false] 41 (0,0)) (by exact BK296.out) NB296_297.out (by simp));have n1_:=Aside0.mk (Kd.R_lower (Kd.R_newB ho0 (g:=gb296) (o := .cells #[.int .i64 0, .int .i64 0, .bool false] 41 (0,0)) (by exact BK296.out)) (below_size (by exact HB.out)));have n2_:=Aside0.mk (hb);have n3_:=Aside0.mk (hi);clear BK296;clear HB;clear HI297;have BK296:=n0_;have HO300:=n1_;have HB:=n2_;have HI297:=n3_;clear n0_ n1_ n2_ n3_;(try clear hb);(try clear hk);(try clear hi);(try clear ho0)) | ((with_reducible refine gate_dst (N:=13) rfl ?_);refine Kd.R_lit (Kd.int .i64) _ 3 ?hg (N:=13) ?hd (xs:=([0,3,4,7,12,20,240,241] : List Int)) (inner := [.int .i64 0, .int .i64 3, .int .i64 4, .int .i64 7, .int .i64 12, .int .i64 20, .int .i64 240, .int .i64 241]) (ok:=fun _ => True) (okp:=fun _ => True) ?hr ?hp (fun _ hk => hk) trivial (Below.refl _ _) (Nat.le_refl _) (by simp) ?_;(case hd => rfl);(case hg => rfl);(case hr => (go_simp;done));(case hp => exact (Reps.one (show Kd.M (Kd.int .i64) _ _ _ 0 [.int .i64 0] from rfl) (Reps.one (show Kd.M (Kd.int .i64) _ _ _ 3 [.int .i64 3] from rfl) (Reps.one (show Kd.M (Kd.int .i64) _ _ _ 4 [.int .i64 4] from rfl) (Reps.one (show Kd.M (Kd.int .i64) _ _ _ 7 [.int .i64 7] from rfl) (Reps.one (show Kd.M (Kd.int .i64) _ _ _ 12 [.int .i64 12] from rfl) (Reps.one (show Kd.M (Kd.int .i64) _ _ _ 20 [.int .i64 20] from rfl) (Reps.one (show Kd.M (Kd.int .i64) _ _ _ 240 [.int .i64 240] from rfl) (Reps.one (show Kd.M (Kd.int .i64) _ _ _ 241 [.int .i64 241] from rfl) (Reps.none _ _))))))))));intro v304 w13 ho14 hb hg_ hnew_;clear hg_ hnew_;(rw [← Ny303.out] at ho14);have n0_:=Aside0.mk (Kd.R_below (by exact HO300.out) hb);have n1_:=Aside0.mk (Kd.R_lower ho14 (below_size (by exact HB.out)));have n2_:=Aside0.mk (blk_below (g:=gb296) (o := .cells #[.int .i64 0, .int .i64 0, .bool false] 41 (0,0)) (by exact BK296.out) hb);have n3_:=Aside0.mk (IsS51.below (by exact HI297.out) hb);have n4_:=Aside0.mk (below_step (by exact HB.out) hb);clear HO300;clear BK296;clear HI297;clear HB;have HO300:=n0_;have HO305:=n1_;have BK296:=n2_;have HI297:=n3_;have HB:=n4_;clear n0_ n1_ n2_ n3_ n4_;clear hb ho14;obtain ⟨Ao15,co15,eo15⟩ := Kd.R_slice HO305.out;subst eo15) | ((with_reducible refine gate_callee (f:=23) rfl ?_);refine goesL_ (some 14) rfl rfl Tryd.func23 (by kernel_rfl) rfl #[.pointer (some ⟨gb297,0,none⟩), .slice Ao15 y303.length co15] rfl (by (try simp only [List.map_toArray,List.map_cons,List.map_nil]);rfl) ?_;(with_reducible refine (spec_l1Cur_among.calls gb297 l0 t301 t302 _ _ y303 t306 t307 t308 w _ ?side1 ?side2 ?side3 ?side4 ?side5 A3.out).mono ?_);(case side1 => exact HI297.out);(case side2 => exact HB.out);(case side3 => repeat (exact (Kd.R_reads' HO305.out).2.2));(case side4 => exact (Kd.R_reads' HO305.out).2.1);(case side5 => exact far_slice (IsS51.own_ne HI297.out HO305.out (by decide)));rintro e w16 ⟨rfl,hi,hb,hk⟩;refine ⟨_,rfl, ?_⟩;have n0_:=Aside0.mk (KeepBut.blk hk (g':=gb296) (o := .cells #[.int .i64 0, .int .i64 0, .bool false] 41 (0,0)) (by exact BK296.out) NB296_297.out (by simp));have n1_:=Aside0.mk (Kd.R_mono (Kd.R_keep (IsS51.apart (show IsS51 w _ gb297 l0 t301 t302 from by exact HI297.out) (by exact HO300.out) (by decide)) hk (fun _ h => h.2)) (fun _ h => h.1));have n2_:=Aside0.mk (Kd.R_mono (Kd.R_keep (IsS51.apart (show IsS51 w _ gb297 l0 t301 t302 from by exact HI297.out) (by exact HO305.out) (by decide)) hk (fun _ h => h.2)) (fun _ h => h.1));have n3_:=Aside0.mk (hb);have n4_:=Aside0.mk (hi);clear BK296;clear HO300;clear HO305;clear HB;clear HI297;have BK296:=n0_;have HO300:=n1_;have HO305:=n2_;have HB:=n3_;have HI297:=n4_;clear n0_ n1_ n2_ n3_ n4_;(try clear hb);(try clear hk);(try clear hi)) | ((with_reducible refine gate_dst (N:=16) rfl ?_);refine Kd.R_lit (Kd.int .i64) _ 3 ?hg (N:=16) ?hd (xs:=([(-180),400,401] : List Int)) (inner := [.int .i64 (-180), .int .i64 400, .int .i64 401]) (ok:=fun _ => True) (okp:=fun _ => True) ?hr ?hp (fun _ hk => hk) trivial (Below.refl _ _) (Nat.le_refl _) (by simp) ?_;(case hd => rfl);(case hg => rfl);(case hr => (go_simp;done));(case hp => exact (Reps.one (show Kd.M (Kd.int .i64) _ _ _ (-180) [.int .i64 (-180)] from rfl) (Reps.one (show Kd.M (Kd.int .i64) _ _ _ 400 [.int .i64 400] from rfl) (Reps.one (show Kd.M (Kd.int .i64) _ _ _ 401 [.int .i64 401] from rfl) (Reps.none _ _)))));intro v310 w17 ho18 hb hg_ hnew_;clear hg_ hnew_;(rw [← Ny309.out] at ho18);have n0_:=Aside0.mk (Kd.R_below (by exact HO300.out) hb);have n1_:=Aside0.mk (Kd.R_elder' (by exact HO305.out) (Kd.R_base ho18) hb);have n2_:=Aside0.mk (Kd.R_lower (Kd.R_new' ho18 (Kd.R_lt (by exact HO305.out))) (below_size (by exact HB.out)));have n3_:=Aside0.mk (blk_below (g:=gb296) (o := .cells #[.int .i64 0, .int .i64 0, .bool false] 41 (0,0)) (by exact BK296.out) hb);have n4_:=Aside0.mk (IsS51.below (by exact HI297.out) hb);have n5_:=Aside0.mk (below_step (by exact HB.out) hb);clear HO300;clear HO305;clear BK296;clear HI297;clear HB;have HO300:=n0_;have HO305:=n1_;have HO311:=n2_;have BK296:=n3_;have HI297:=n4_;have HB:=n5_;clear n0_ n1_ n2_ n3_ n4_ n5_;clear hb ho18) | ((with_reducible refine gate_callee (f:=28) rfl ?_);refine goesL_ (some 18) rfl rfl Tryd.func28 (by kernel_rfl) rfl #[.pointer (some ⟨gb297,0,none⟩), .int .i64 12] rfl (by (try simp only [List.map_toArray,List.map_cons,List.map_nil]);rfl) ?_;(with_reducible refine (spec_l1Cur_pick.calls gb297 l0 t307 t308 12 t312 t313 t314 w _ ?side1 ?side2 A4.out).mono ?_);(case side1 => exact HI297.out);(case side2 => exact HB.out);rintro e w19 ⟨rfl,hi,hb,hk⟩;refine ⟨_,rfl, ?_⟩;have n0_:=Aside0.mk (KeepBut.blk hk (g':=gb296) (o := .cells #[.int .i64 0, .int .i64 0, .bool false] 41 (0,0)) (by exact BK296.out) NB296_297.out (by simp));have n1_:=Aside0.mk (Kd.R_mono (Kd.R_keep (IsS51.apart (show IsS51 w _ gb297 l0 t307 t308 from by exact HI297.out) (by exact HO300.out) (by decide)) hk (fun _ h => h.2)) (fun _ h => h.1));have n2_:=Aside0.mk (Kd.R_mono (Kd.R_keep (IsS51.apart (show IsS51 w _ gb297 l0 t307 t308 from by exact HI297.out) (by exact HO305.out) (by decide)) hk (fun _ h => h.2)) (fun _ h => h.1));have n3_:=Aside0.mk (Kd.R_mono (Kd.R_keep (IsS51.apart (show IsS51 w _ gb297 l0 t307 t308 from by exact HI297.out) (by exact HO311.out) (by decide)) hk (fun _ h => h.2)) (fun _ h => h.1));have n4_:=Aside0.mk (hb);have n5_:=Aside0.mk (hi);clear BK296;clear HO300;clear HO305;clear HO311;clear HB;clear HI297;have BK296:=n0_;have HO300:=n1_;have HO305:=n2_;have HO311:=n3_;have HB:=n4_;have HI297:=n5_;clear n0_ n1_ n2_ n3_ n4_ n5_;(try clear hb);(try clear hk);(try clear hi);obtain ⟨Ao21,co21,eo21⟩ := Kd.R_slice HO311.out;subst eo21;have q20 : ((ji5) : Int) ≤ ((y309.length : Int) : Int):=of_decide_eq_true (by (with_reducible assumption));obtain ⟨i020,hi020,_,hsz20,_⟩ := info_parts info3;have hroom20 : y309.length ≤ co21:=(Kd.R_reads' HO311.out).2.1;have hC20 : Kd.C (Kd.int .i64) _ Ao21 y309.length y309:=(Kd.R_reads' HO311.out).2.2;have hcut20:=cut_to (P:=Tryd.prog) 35 3 .i64 Tryd.underlying35 hi020 Ao21 y309.length co21 (ji5) (of_decide_eq_true (by (with_reducible assumption))) q20 hroom20;have hr20:=Kd.C_take (m:=((ji5) : Int).toNat) hC20 (by omega);have hy20 : y315.length = ((ji5) : Int).toNat:=(by rw [Ny315.out,List.length_take];omega);rw [← Ny315.out] at hr20;rw [← hy20] at hcut20;have HR318:=Aside0.mk hr20;have HC318:=Aside0.mk (show y315.length ≤ co21 from by omega);clear hr20 hC20 hroom20 hi020 hsz20;have KY20:=Aside0.mk hy20;clear hy20;have KL20:=Aside0.mk (show ((ji5) : Int).toNat ≤ y309.length from by omega);replace q20:=eq_true q20) | ((with_reducible refine gate_callee (f:=23) rfl ?_);refine goesL_ (some 22) rfl rfl Tryd.func23 (by kernel_rfl) rfl #[.pointer (some ⟨gb297,0,none⟩), .slice Ao21 y315.length co21] rfl (by (try simp only [List.map_toArray,List.map_cons,List.map_nil]);rfl) ?_;(with_reducible refine (spec_l1Cur_among.calls gb297 l0 t313 t314 _ _ y315 t319 t320 t321 w _ ?side1 ?side2 ?side3 ?side4 ?side5 A8.out).mono ?_);(case side1 => exact HI297.out);(case side2 => exact HB.out);(case side3 => repeat (exact (by exact HR318.out)));(case side4 => exact HC318.out);(case side5 => intro ad_ he_ hn_;exact far_slice (IsS51.own_ne HI297.out HO311.out (by decide)) ad_ he_ (by have h1_:=KL20.out;have h2_:=KY20.out;omega));rintro e w22 ⟨rfl,hi,hb,hk⟩;refine ⟨_,rfl, ?_⟩;have n0_:=Aside0.mk (KeepBut.blk hk (g':=gb296) (o := .cells #[.int .i64 0, .int .i64 0, .bool false] 41 (0,0)) (by exact BK296.out) NB296_297.out (by simp));have n1_:=Aside0.mk (Kd.R_mono (Kd.R_keep (IsS51.apart (show IsS51 w _ gb297 l0 t313 t314 from by exact HI297.out) (by exact HO300.out) (by decide)) hk (fun _ h => h.2)) (fun _ h => h.1));have n2_:=Aside0.mk (Kd.R_mono (Kd.R_keep (IsS51.apart (show IsS51 w _ gb297 l0 t313 t314 from by exact HI297.out) (by exact HO305.out) (by decide)) hk (fun _ h => h.2)) (fun _ h => h.1));have n3_:=Aside0.mk (Kd.R_mono (Kd.R_keep (IsS51.apart (show IsS51 w _ gb297 l0 t313 t314 from by exact HI297.out) (by exact HO311.out) (by decide)) hk (fun _ h => h.2)) (fun _ h => h.1));have n4_:=Aside0.mk (hb);have n5_:=Aside0.mk (hi);clear BK296;clear HO300;clear HO305;clear HO311;clear HB;clear HI297;have BK296:=n0_;have HO300:=n1_;have HO305:=n2_;have HO311:=n3_;have HB:=n4_;have HI297:=n5_;clear n0_ n1_ n2_ n3_ n4_ n5_;(try clear hb);(try clear hk);(try clear hi)) | ((with_reducible refine gate_callee (f:=29) rfl ?_);refine goesL_ (some 24) rfl rfl Tryd.func29 (by kernel_rfl) rfl #[.pointer (some ⟨gb297,0,none⟩), .int .i64 2] rfl (by (try simp only [List.map_toArray,List.map_cons,List.map_nil]);rfl) ?_;(with_reducible refine (spec_l1Cur_one.calls gb297 l0 t320 t321 2 t322 t323 t324 w _ ?side1 ?side2 A9.out).mono ?_);(case side1 => exact HI297.out);(case side2 => exact HB.out);rintro e w23 ⟨rfl,hi,hb,hk⟩;refine ⟨_,rfl, ?_⟩;have n0_:=Aside0.mk (KeepBut.blk hk (g':=gb296) (o := .cells #[.int .i64 0, .int .i64 0, .bool false] 41 (0,0)) (by exact BK296.out) NB296_297.out (by simp));have n1_:=Aside0.mk (Kd.R_mono (Kd.R_keep (IsS51.apart (show IsS51 w _ gb297 l0 t320 t321 from by exact HI297.out) (by exact HO300.out) (by decide)) hk (fun _ h => h.2)) (fun _ h => h.1));have n2_:=Aside0.mk (Kd.R_mono (Kd.R_keep (IsS51.apart (show IsS51 w _ gb297 l0 t320 t321 from by exact HI297.out) (by exact HO305.out) (by decide)) hk (fun _ h => h.2)) (fun _ h => h.1));have n3_:=Aside0.mk (Kd.R_mono (Kd.R_keep (IsS51.apart (show IsS51 w _ gb297 l0 t320 t321 from by exact HI297.out) (by exact HO311.out) (by decide)) hk (fun _ h => h.2)) (fun _ h => h.1));have n4_:=Aside0.mk (hb);have n5_:=Aside0.mk (hi);clear BK296;clear HO300;clear HO305;clear HO311;clear HB;clear HI297;have BK296:=n0_;have HO300:=n1_;have HO305:=n2_;have HO311:=n3_;have HB:=n4_;have HI297:=n5_;clear n0_ n1_ n2_ n3_ n4_ n5_;(try clear hb);(try clear hk);(try clear hi);have hnb24:=NB296_297.out;have hnc24:=NB297_296.out;have hcz25_0 : w23.cell? ⟨gb296,0,none⟩ = some (.int .i64 0):=(blk_cell BK296.out 0).trans rfl;have hcz25_1 : w23.cell? ⟨gb296,1,none⟩ = some (.int .i64 0):=(blk_cell BK296.out 1).trans rfl;have hcz25_2 : w23.cell? ⟨gb296,2,none⟩ = some (.bool false):=(blk_cell BK296.out 2).trans rfl;have hfz25_0:=blk_frozen BK296.out 0;have hfz25_1:=blk_frozen BK296.out 1;have hfz25_2:=blk_frozen BK296.out 2))
   refine bodyPost_ret (results_tc rfl _ _ gb296 41 #[.int .i64 t306, .int .i64 t319, .bool t322] (0,0) _ rfl (by refine blk_put (cs:=#[.int .i64 t306, .int .i64 t319, .bool false]) ?_ 2 _ rfl;refine blk_put (cs:=#[.int .i64 t306, .int .i64 0, .bool false]) ?_ 1 _ rfl;refine blk_put (cs:=#[.int .i64 0, .int .i64 0, .bool false]) ?_ 0 _ rfl;exact BK296.out) Tryd.underlying41 rfl (by kernel_rfl)) rfl ?_
   exact ⟨_,by rfl,by exact Kd.R_mono (Kd.R_far (p:=⟨gb296,2,none⟩) (Kd.R_far (p:=⟨gb296,1,none⟩) (Kd.R_far (p:=⟨gb296,0,none⟩) (Kd.R_mono HO300.out (fun k_ hk => (⟨hk,hk.2⟩ : _ ∧ k_ ≠ gb296))) (fun _ hk => hk.2) (.int .i64 t306)) (fun _ hk => hk.2) (.int .i64 t319)) (fun _ hk => hk.2) (.bool t322)) (fun _ hk => trivial),by repeat ((with_reducible first | exact HB.out | refine below_set ?_ GE296.out))⟩
  ·rw [if_neg c7] at H
   exact absurd H (by simp)
 ·rw [if_neg c6] at H
  exact absurd H (by simp)





/-! ### slices_Insert_impl_Reading: function 37 -/
theorem INS_kept {w w1 : World} {S : Nat → Prop} {row : Option Nat} (h : w.grownBy w1 row) (hs : ∀ k,row = some k → S k) : Kept w w1 S :=
 Kept.of_grown h (Kept.refl w S) (fun k hk => .inl (hs k hk))
set_option maxHeartbeats 4000000 in
set_option maxRecDepth 100000 in
theorem INS_end {P0_ : Nat → Prop} {A0 : Option Addr} {c0 : Nat} {l0 : List S41} {A2 : Option Addr} {c2 : Nat} {l2 : List S41} {w0 w : World} (hB : Below w0.heap.size w0 w) (ho0 : Kd.R k41 41 w w0.heap.size P0_ (.slice A0 l0.length c0) l0)
  (hr2 : Kd.C k41 w A2 1 l2) (h1 : l2.length = 1) (hl : l0.length < 1000000000) :
  Calls Tryd.prog 37 #[.slice A0 l0.length c0, .int .i64 l0.length, .slice A2 1 c2] w fun e w' => ∃ v1 : Value,e = .returned v1 ∧ Kd.R k41 41 w' w0.heap.size (fun k_ => (P0_ k_ ∨ w.heap.size ≤ k_)) v1 (l0 ++ l2) ∧ Below w0.heap.size w0 w' ∧ Kept w w' (fun k_ => P0_ k_):=by
 have HO:=Aside0.mk (show Kd.R k41 41 w w0.heap.size (fun k_ => (P0_ k_ ∨ w.heap.size ≤ k_)) (.slice A0 l0.length c0) l0 from Kd.R_mono ho0 (fun k_ hk => (.inl hk)))
 have HP:=Aside0.mk ho0.1
 have HR:=Aside0.mk hr2
 have HBB:=Aside0.mk hB
 have HL:=Aside0.mk hl
 have cap0:=Aside0.mk (Kd.R_reads' ho0).2.1
 clear ho0 hr2 hB hl
 have e1 : ¬ ((1 : Int) = 0):=by omega
 have q1 : (0 : Int) ≤ (l0.length : Int):=by omega
 go_enter Tryd.func37,Tryd.ntmps37
 go_wp2_with (((with_reducible refine gate_builtin (b := .append) (xs:=#[.tmp 23, .tmp 24]) rfl ?_);at_builtin;refine Kd.R_append_rows k41 (w0:=w0) w0.heap.size rfl (.tmp 23) (.tmp 24) 30 41 (.agg #[(.int .i64 0),(.int .i64 0),(.bool false)]) 24 rfl Tryd.underlying30 info41 rfl (by decide) (by omega) (.slice A0 l0.length c0) l0 l2 A2 1 c2 (fun k_ => (P0_ k_ ∨ w.heap.size ≤ k_)) (fun _ => False) rfl rfl HO.out HR.out (fun x cs hk => by obtain rfl:=k41_open hk;exact k41_mkM _ _ _ x) (fun _ hk => hk.elim) (fun k hk => .inr hk) HBB.out HBB.out.size (by have:=HL.out;omega) ?_;intro v1 w1 ho hb hg hat))
 all_goals
  go_ret
  exact ⟨_,rfl,ho,hb,INS_kept hg HP.out⟩
/-- 'copy' over elements of z cells into a row of memory. -/
theorem INS_copy (w : World) (dT sT ty elem : TypeId) (z : Nat) (g o dLen dCap : Nat) (a : Addr) (sLen sCap : Nat) (cur : Array Value) (t : TypeId) (cs : List Value) (hu : Tryd.prog.underlying dT = some (.slice elem)) (hs : (Tryd.prog.info? elem).map (·.size) = some z)
  (hg : w.heap[g]? = some (.cells cur t (0,0))) (hn : cs.length = Nat.min sLen dLen * z) (hsrc : ∀ j v,cs[j]? = some v → w.cell? (a.add j) = some v) (hfit : o + cs.length ≤ cur.size) (h1 : ∀ v ∈ cs,v.oneCell' = true) :
  (Builtin.copy_ #[dT,sT] ty #[.slice (some ⟨g,o,none⟩) dLen dCap, .slice (some a) sLen sCap]).run Tryd.prog w = .ok (goInt (Nat.min sLen dLen)) (w.setRow g (cur.toList.take o ++ cs ++ cur.toList.drop (o + cs.length)).toArray):=by
 have hl:=run_loadCells_list (P:=Tryd.prog) w a cs hsrc
 have hst:=run_storeCells_at Tryd.prog g o t cs 0 cur w hg (by simpa using hfit) h1
 rw [hn] at hl
 cases hq : Tryd.prog.info? elem with
 | none => simp [hq] at hs
 | some i =>
  have hi : i.size = z:=by simpa [hq] using hs
  simp [Builtin.copy_,run_underlying hu,Builtin.lenOf,Builtin.firstCells,sizeOf,typeInfo,hq,hi,hl,hst]
set_option maxHeartbeats 4000000 in
set_option maxRecDepth 100000 in
theorem INS_shift {g vb n c i vc : Nat} {cur vcur : Array Value} {w : World} (hi : i < n) (hroom : n + 1 ≤ c) (hc63 : c ≤ maxLen) (hg : w.heap[g]? = some (.cells cur 41 (0,0))) (hsz : cur.size = c * 3) (hv : w.heap[vb]? = some (.cells vcur 41 (0,0))) (hvz : vcur.size = vc * 3) (hvc : 1 ≤ vc) (hne : vb ≠ g)
  (h1c : ∀ v ∈ cur.toList.take (n * 3),v.oneCell' = true) (h1v : ∀ v ∈ vcur.toList.take 3,v.oneCell' = true) :
  Calls Tryd.prog 37 #[.slice (some ⟨g,0,none⟩) n c, .int .i64 i, .slice (some ⟨vb,0,none⟩) 1 vc] w fun e w' => e = .returned (.slice (some ⟨g,0,none⟩) (n + 1) c) ∧ ∃ cur2 : Array Value,cur2.size = c * 3 ∧ cur2.toList.take ((n + 1) * 3) = cur.toList.take (i * 3) ++ vcur.toList.take 3 ++ (cur.toList.take (n * 3)).drop (i * 3) ∧
   w'.heap[g]? = some (.cells cur2 41 (0,0)) ∧ (∀ k,k ≠ g → w'.heap[k]? = w.heap[k]?) ∧ w'.heap.size = w.heap.size ∧ ∀ b,b ≤ g → Below b w w':=by
 have e1 : ¬ ((1 : Int) = 0):=by omega
 have e2 : ¬ ((i : Int) = (n : Int)):=by omega
 have q1 : (0 : Int) ≤ (i : Int):=by omega
 have q2 : (i : Int) ≤ (n : Int):=by omega
 have q3 : ¬ ((c : Int) < (n : Int) + 1):=by omega
 have w1 : IntKind.i64.wrap ((n : Int) + 1) = (n : Int) + 1:=by unfold maxLen at hc63;rw [IntKind.wrap_i64];omega
 have w2 : IntKind.i64.wrap ((i : Int) + 1) = (i : Int) + 1:=by unfold maxLen at hc63;rw [IntKind.wrap_i64];omega
 have q4 : (0 : Int) ≤ (n : Int) + 1:=by omega
 have q5 : (n : Int) + 1 ≤ (c : Int):=by omega
 have q6 : (0 : Int) ≤ (i : Int) + 1:=by omega
 have q7 : (i : Int) + 1 ≤ (n : Int) + 1:=by omega
 have q8 : (i : Int) ≤ (n : Int) + 1:=by omega
 have hov : ∀ lb cb,(callFunc 43 #[.slice (some ⟨vb,0,none⟩) 1 vc, .slice (some ⟨g,(i + 1) * 3,none⟩) lb cb]).run Tryd.prog w = .ok (.value (.bool false)) w:=fun lb cb => by
  rw [run_callFunc_extern Tryd.func43 (by kernel_rfl) (by kernel_rfl) (by kernel_rfl) (e:=Extern.SlicesOverlaps.overlaps #[30,30] #[4]) (by kernel_rfl),
   Lib.run_overlaps_apart w 30 4 41 Tryd.underlying30 3 Tryd.sizeOf41 ⟨vb,0,none⟩ ⟨g,(i + 1) * 3,none⟩ 1 vc lb cb hne 41 41 (vc * 3) (c * 3) (by simp [World.shape?,hv,hvz]) (by simp [World.shape?,hg,hsz]) (by omega) (by simp [World.frozen?,hv]) (by simp [World.frozen?,hv])]
  rfl
 have hcl : ((cur.toList.take (n * 3)).drop (i * 3)).length = (n - i) * 3:=by rw [List.length_drop,List.length_take,Array.length_toList,hsz];omega
 obtain ⟨cs,hcs⟩ : ∃ cs,cs = (cur.toList.take (n * 3)).drop (i * 3):=⟨_,rfl⟩
 rw [← hcs] at hcl
 have hcsg : ∀ j v,cs[j]? = some v → cur[i * 3 + j]? = some v:=by
  intro j v hj
  rw [hcs,List.getElem?_drop,List.getElem?_take] at hj
  split at hj
  ·rw [← hj]
   exact (Array.getElem?_toList ..).symm
  ·cases hj
 have hcs1 : ∀ v ∈ cs,v.oneCell' = true:=fun v hv => by
  rw [hcs] at hv
  exact h1c v (List.mem_of_mem_drop hv)
 obtain ⟨C1,hC1⟩ : ∃ C1 : Array Value,C1 = (cur.toList.take ((i + 1) * 3) ++ cs ++ cur.toList.drop ((i + 1) * 3 + cs.length)).toArray:=⟨_,rfl⟩
 have hC1s : C1.size = c * 3:=by rw [hC1];simp [hsz,hcl];omega
 have hcp1 : ∀ ty dc sc,(Builtin.copy_ #[30,30] ty #[.slice (some ⟨g,(i + 1) * 3,none⟩) (n - i) dc, .slice (some ⟨g,i * 3,none⟩) (n + 1 - i) sc]).run Tryd.prog w.drew = .ok (goInt (Nat.min (n + 1 - i) (n - i))) (w.drew.setRow g C1):=fun ty dc sc => by
  rw [hC1]
  exact INS_copy w.drew 30 30 ty 41 3 g ((i + 1) * 3) (n - i) dc ⟨g,i * 3,none⟩ (n + 1 - i) sc cur 41 cs Tryd.underlying30 (by rfl) hg (by rw [hcl];simp only [Nat.min_def];split <;> omega) (fun j v hj => by
   have:=hcsg j v hj
   rw [Addr.add_lit]
   have hg' : w.drew.heap[g]? = some (.cells cur 41 (0,0)):=hg
   simp [World.cell?,hg',this]) (by rw [hcl,hsz];omega) hcs1
 have hC1l : C1.toList = cur.toList.take ((i + 1) * 3) ++ cs ++ cur.toList.drop ((i + 1) * 3 + cs.length):=by rw [hC1]
 obtain ⟨vs,hvs⟩ : ∃ vs,vs = vcur.toList.take 3:=⟨_,rfl⟩
 have hvl : vs.length = 3:=by rw [hvs,List.length_take,Array.length_toList,hvz];omega
 have hvg : ∀ (j : Nat) (v : Value),vs[j]? = some v → vcur[j]? = some v:=by
  intro j v hj
  rw [hvs,List.getElem?_take] at hj
  split at hj
  ·rw [← hj]
   exact (Array.getElem?_toList ..).symm
  ·cases hj
 have hvs1 : ∀ v ∈ vs,v.oneCell' = true:=fun v hv => by
  rw [hvs] at hv
  exact h1v v hv
 have hW1g : (w.drew.setRow g C1).heap[g]? = some (.cells C1 41 (0,0)):=setRow_heap w.drew g cur C1 41 (0,0) hg
 obtain ⟨C2,hC2⟩ : ∃ C2 : Array Value,C2 = (C1.toList.take (i * 3) ++ vs ++ C1.toList.drop (i * 3 + vs.length)).toArray:=⟨_,rfl⟩
 have hcp2 : ∀ ty dc sc,(Builtin.copy_ #[30,30] ty #[.slice (some ⟨g,i * 3,none⟩) (n + 1 - i) dc, .slice (some ⟨vb,0,none⟩) 1 sc]).run Tryd.prog (w.drew.setRow g C1) = .ok (goInt (Nat.min 1 (n + 1 - i))) ((w.drew.setRow g C1).setRow g C2):=fun ty dc sc => by
  rw [hC2]
  exact INS_copy (w.drew.setRow g C1) 30 30 ty 41 3 g (i * 3) (n + 1 - i) dc ⟨vb,0,none⟩ 1 sc C1 41 vs Tryd.underlying30 (by rfl) hW1g (by rw [hvl];simp only [Nat.min_def];split <;> omega) (fun j v hj => by
   have:=hvg j v hj
   rw [Addr.add_lit]
   have hv' : (w.drew.setRow g C1).heap[vb]? = some (.cells vcur 41 (0,0)):=(setRow_other w.drew g vb C1 hne).trans hv
   simp [World.cell?,hv',this]) (by rw [hvl,hC1s];omega) hvs1
 have hfin : C2.size = c * 3 ∧ C2.toList.take ((n + 1) * 3) = cur.toList.take (i * 3) ++ vs ++ cs:=by
  have a1 : C1.toList.take (i * 3) = cur.toList.take (i * 3):=by
   rw [hC1l,List.append_assoc,List.take_append_of_le_length (by rw [List.length_take,Array.length_toList,hsz];omega),List.take_take,Nat.min_eq_left (by omega)]
  have a2 : C1.toList.drop (i * 3 + vs.length) = cs ++ cur.toList.drop ((i + 1) * 3 + cs.length):=by
   rw [hC1l,hvl,List.append_assoc,List.drop_append_of_le_length (by rw [List.length_take,Array.length_toList,hsz];omega),List.drop_eq_nil_of_le (by rw [List.length_take,Array.length_toList,hsz];omega),List.nil_append]
  have a3 : C2.toList = cur.toList.take (i * 3) ++ vs ++ cs ++ cur.toList.drop ((i + 1) * 3 + cs.length):=by
   rw [hC2,a1,a2]
   simp
  have a4 : (cur.toList.take (i * 3) ++ vs ++ cs).length = (n + 1) * 3:=by
   rw [List.length_append,List.length_append,List.length_take,Array.length_toList,hsz,hvl,hcl]
   omega
  refine ⟨?_, ?_⟩
  ·rw [← Array.length_toList,a3,List.length_append,a4,List.length_drop,Array.length_toList,hsz,hcl]
   omega
  ·rw [a3,List.take_append_of_le_length (by omega),List.take_of_length_le (by omega)]
 have hW2g : ((w.drew.setRow g C1).setRow g C2).heap[g]? = some (.cells C2 41 (0,0)):=setRow_heap _ g C1 C2 41 (0,0) hW1g
 have hW2o : ∀ k,k ≠ g → ((w.drew.setRow g C1).setRow g C2).heap[k]? = w.heap[k]? := fun k hk => (setRow_other _ g k C2 hk).trans (setRow_other w.drew g k C1 hk)
 have hW2s : ((w.drew.setRow g C1).setRow g C2).heap.size = w.heap.size:=by rw [size_setRow,size_setRow];rfl
 rw [hcs,hvs] at hfin
 have FIN:=Aside0.mk hfin
 have G2:=Aside0.mk hW2g
 have O2:=Aside0.mk hW2o
 have S2:=Aside0.mk hW2s
 clear hfin hW2g hW2o hW2s hC1l hC1 hC2 hcs hvs hW1g hcsg hvg hcs1 hvs1 h1c h1v hg hv hC1s hcl hvl
 have mixed : Tryd.prog.follows Departure.mixedOrders = true:=by kernel_rfl
 have hb2 : ¬ (c = i + 1):=by omega
 have hb4 : ¬ (c = i):=by omega
 go_enter Tryd.func37,Tryd.ntmps37
 go_wp2_with (simp only [hov])
 go_region_law_o (refine step_copy_runI rfl _ _ 30 30 rfl _ _ (by simp [Act.eval,Act.put]) (by simp [Act.eval,Act.put]) (hcp1 _ _ _) ?_)
 go_wp2_with (at_builtin;refine wpList_copy_runI _ rfl _ _ 30 30 rfl _ _ rfl rfl (hcp2 _ _ _) ?_)
 go_ret
 exact ⟨rfl,C2,FIN.out.1,FIN.out.2,G2.out,O2.out,S2.out,fun b hb => ⟨rfl,rfl,rfl,Nat.le_of_eq S2.out.symm,fun k hk => O2.out k (by omega)⟩⟩
set_option maxHeartbeats 4000000 in
set_option maxRecDepth 100000 in
theorem INS_grow {g vb n c i vc : Nat} {cur vcur : Array Value} {w : World} (hi : i < n) (hnc : n ≤ c) (hroom : c < n + 1) (hbig : n < 1000000000) (hg : w.heap[g]? = some (.cells cur 41 (0,0))) (hsz : cur.size = c * 3) (hv : w.heap[vb]? = some (.cells vcur 41 (0,0))) (hvz : vcur.size = vc * 3) (hvc : 1 ≤ vc)
  (h1c : ∀ v ∈ cur.toList.take (n * 3),v.oneCell' = true) (h1v : ∀ v ∈ vcur.toList.take 3,v.oneCell' = true) :
  Calls Tryd.prog 37 #[.slice (some ⟨g,0,none⟩) n c, .int .i64 i, .slice (some ⟨vb,0,none⟩) 1 vc] w fun e w' => ∃ G,e = .returned (.slice (some ⟨w.heap.size,0,none⟩) (n + 1) G) ∧ n + 1 ≤ G ∧ G ≤ maxLen ∧ ∃ cur2 : Array Value,cur2.size = G * 3 ∧ cur2.toList.take ((n + 1) * 3) = cur.toList.take (i * 3) ++ vcur.toList.take 3 ++ (cur.toList.take (n * 3)).drop (i * 3) ∧
   w'.heap[w.heap.size]? = some (.cells cur2 41 (0,0)) ∧ Below w.heap.size w w':=by
 have e1 : ¬ ((1 : Int) = 0):=by omega
 have e2 : ¬ ((i : Int) = (n : Int)):=by omega
 have q1 : (0 : Int) ≤ (i : Int):=by omega
 have q2 : (i : Int) ≤ (n : Int):=by omega
 have q3 : (c : Int) < (n : Int) + 1:=by omega
 have w1 : IntKind.i64.wrap ((n : Int) + 1) = (n : Int) + 1:=by rw [IntKind.wrap_i64];omega
 have w2 : IntKind.i64.wrap ((i : Int) + 1) = (i : Int) + 1:=by rw [IntKind.wrap_i64];omega
 have w3 : IntKind.i64.wrap ((n : Int) + 1 - (i : Int)) = (n : Int) + 1 - (i : Int):=by rw [IntKind.wrap_i64];omega
 have q6 : (0 : Int) ≤ (i : Int) + 1:=by omega
 have q7 : (i : Int) + 1 ≤ (n : Int) + 1:=by omega
 have q8 : (i : Int) ≤ (n : Int) + 1:=by omega
 have q9 : (i : Int) ≤ (c : Int):=by omega
 have mixed : Tryd.prog.follows Departure.mixedOrders = true:=by kernel_rfl
 obtain ⟨i0,hi0,hz0,hzs,hzb⟩ := info_parts info41
 have hglt:=blk_lt hg
 have hvlt:=blk_lt hv
 have hcl : ((cur.toList.take (n * 3)).drop (i * 3)).length = (n - i) * 3:=by rw [List.length_drop,List.length_take,Array.length_toList,hsz];omega
 obtain ⟨cs,hcs⟩ : ∃ cs,cs = (cur.toList.take (n * 3)).drop (i * 3):=⟨_,rfl⟩
 rw [← hcs] at hcl
 have hcsg : ∀ (j : Nat) (v : Value),cs[j]? = some v → cur[i * 3 + j]? = some v:=by
  intro j v hj
  rw [hcs,List.getElem?_drop,List.getElem?_take] at hj
  split at hj
  ·rw [← hj]
   exact (Array.getElem?_toList ..).symm
  ·cases hj
 have hcs1 : ∀ v ∈ cs,v.oneCell' = true:=fun v hv => by
  rw [hcs] at hv
  exact h1c v (List.mem_of_mem_drop hv)
 obtain ⟨vs,hvs⟩ : ∃ vs,vs = vcur.toList.take 3:=⟨_,rfl⟩
 have hvl : vs.length = 3:=by rw [hvs,List.length_take,Array.length_toList,hvz];omega
 have hvg : ∀ (j : Nat) (v : Value),vs[j]? = some v → vcur[j]? = some v:=by
  intro j v hj
  rw [hvs,List.getElem?_take] at hj
  split at hj
  ·rw [← hj]
   exact (Array.getElem?_toList ..).symm
  ·cases hj
 have hvs1 : ∀ v ∈ vs,v.oneCell' = true:=fun v hv => by
  rw [hvs] at hv
  exact h1v v hv
 obtain ⟨os,hos⟩ : ∃ os,os = cur.toList.take (i * 3):=⟨_,rfl⟩
 have hol : os.length = i * 3:=by rw [hos,List.length_take,Array.length_toList,hsz];omega
 have hold : (Builtin.firstCells i0.size i (.slice (some ⟨g,0,none⟩) i c)).run Tryd.prog w.drew = .ok os.toArray w.drew:=by
  rw [hzs]
  refine run_firstCells_some w.drew 3 i ⟨g,0,none⟩ i c os hol (fun j v hj => ?_)
  rw [Addr.add_lit]
  have hg' : w.drew.heap[g]? = some (.cells cur 41 (0,0)):=hg
  have : cur[j]? = some v:=by
   rw [hos,List.getElem?_take] at hj
   split at hj
   ·rw [← hj]
    exact (Array.getElem?_toList ..).symm
   ·cases hj
  simp [World.cell?,hg',this]
 obtain ⟨G,hG⟩ : ∃ G,G = grownCap w (n + 1) c 41:=⟨_,rfl⟩
 have hGn : n + 1 ≤ G:=by rw [hG];exact grownCap_ge w _ _ _
 have hGm : G ≤ maxLen:=by
  rw [hG]
  exact grownCap_le_maxLen w (n + 1) c 41 (by unfold maxLen;omega)
 obtain ⟨ROW,hROW⟩ : ∃ ROW : Array Value,ROW = os.toArray ++ Builtin.zeroCells (Value.agg #[(.int .i64 0),(.int .i64 0),(.bool false)]).cells (n + 1 - i) ++ Builtin.zeroCells (Value.agg #[(.int .i64 0),(.int .i64 0),(.bool false)]).cells (G - (n + 1)):=⟨_,rfl⟩
 have hRs : ROW.size = G * 3:=by
  rw [hROW]
  simp [Builtin.zeroCells,Value.cells,hol]
  omega
 have hRo : ROW.toList.take (i * 3) = os:=by
  rw [hROW]
  simp [hol]
 have hrz : ∀ ty,(Builtin.append_ #[30,3] ty #[.slice (some ⟨g,0,none⟩) i c, .int .i64 ((n : Int) + 1 - (i : Int))]).run Tryd.prog w = .ok (.slice (some ⟨w.heap.size,0,none⟩) (n + 1) G) (w.drew.alloc (.cells ROW 41)):=fun ty => by
  have h:=Lib.run_append_grow_zeros w 30 3 ty 41 i0 _ .i64 .i64 Tryd.underlying30 Tryd.underlying3 hi0 hz0 (some ⟨g,0,none⟩) i c os hold (n + 1 - i) (by omega) (by omega) (by omega) (by omega) (by rw [hzb];omega) (by rw [hzb,show i + (n + 1 - i) = n + 1 by omega];exact growslice_fits hroom (by omega))
  rw [show i + (n + 1 - i) = n + 1 by omega,← hG,← hROW,show ((n + 1 - i : Nat) : Int) = (n : Int) + 1 - (i : Int) by omega] at h
  exact h
 obtain ⟨C1,hC1⟩ : ∃ C1 : Array Value,C1 = (ROW.toList.take (i * 3) ++ vs ++ ROW.toList.drop (i * 3 + vs.length)).toArray:=⟨_,rfl⟩
 have hC1l : C1.toList = os ++ vs ++ ROW.toList.drop (i * 3 + vs.length):=by rw [hC1,hRo]
 have hC1s : C1.size = G * 3:=by rw [← Array.length_toList,hC1l,List.length_append,List.length_append,hol,hvl,List.length_drop,Array.length_toList,hRs];omega
 obtain ⟨C2,hC2⟩ : ∃ C2 : Array Value,C2 = (C1.toList.take ((i + 1) * 3) ++ cs ++ C1.toList.drop ((i + 1) * 3 + cs.length)).toArray:=⟨_,rfl⟩
 have hcpA : ∀ W : World,W.heap = w.heap.push (.cells ROW 41 (0,0)) → ∀ ty dc sc,(Builtin.copy_ #[30,30] ty #[.slice (some ⟨w.heap.size,i * 3,none⟩) (n + 1 - i) dc, .slice (some ⟨vb,0,none⟩) 1 sc]).run Tryd.prog W = .ok (goInt (Nat.min 1 (n + 1 - i))) (W.setRow w.heap.size C1):=fun W hW ty dc sc => by
  rw [hC1]
  exact INS_copy W 30 30 ty 41 3 w.heap.size (i * 3) (n + 1 - i) dc ⟨vb,0,none⟩ 1 sc ROW 41 vs Tryd.underlying30 (by rfl) (by rw [hW];simp) (by rw [hvl];simp only [Nat.min_def];split <;> omega) (fun j v hj => by
   have:=hvg j v hj
   rw [Addr.add_lit]
   have hv' : W.heap[vb]? = some (.cells vcur 41 (0,0)):=by rw [hW,Array.getElem?_push,if_neg (by omega)];exact hv
   simp [World.cell?,hv',this]) (by rw [hvl,hRs];omega) hvs1
 have hcpB : ∀ W : World,W.heap[w.heap.size]? = some (.cells C1 41 (0,0)) → W.heap[g]? = some (.cells cur 41 (0,0)) → ∀ ty dc sc,(Builtin.copy_ #[30,30] ty #[.slice (some ⟨w.heap.size,(i + 1) * 3,none⟩) (n - i) dc, .slice (some ⟨g,i * 3,none⟩) (n - i) sc]).run Tryd.prog W = .ok (goInt (Nat.min (n - i) (n - i))) (W.setRow w.heap.size C2):=fun W hW hWg ty dc sc => by
  rw [hC2]
  exact INS_copy W 30 30 ty 41 3 w.heap.size ((i + 1) * 3) (n - i) dc ⟨g,i * 3,none⟩ (n - i) sc C1 41 cs Tryd.underlying30 (by rfl) hW (by rw [hcl];simp only [Nat.min_def];split <;> omega) (fun j v hj => by
   have:=hcsg j v hj
   rw [Addr.add_lit]
   simp [World.cell?,hWg,this]) (by rw [hcl,hC1s];omega) hcs1
 have hfin : C2.size = G * 3 ∧ C2.toList.take ((n + 1) * 3) = os ++ vs ++ cs:=by
  have a1 : C1.toList.take ((i + 1) * 3) = os ++ vs:=by
   rw [hC1l,List.take_append_of_le_length (by rw [List.length_append,hol,hvl];omega),List.take_of_length_le (by rw [List.length_append,hol,hvl];omega)]
  have a3 : C2.toList = os ++ vs ++ cs ++ C1.toList.drop ((i + 1) * 3 + cs.length):=by rw [hC2,a1]
  have a4 : (os ++ vs ++ cs).length = (n + 1) * 3:=by
   rw [List.length_append,List.length_append,hol,hvl,hcl]
   omega
  refine ⟨?_, ?_⟩
  ·rw [← Array.length_toList,a3,List.length_append,a4,List.length_drop,Array.length_toList,hC1s,hcl]
   omega
  ·rw [a3,List.take_append_of_le_length (by omega),List.take_of_length_le (by omega)]
 have hA1 : ∀ W : World,W.heap = w.heap.push (.cells ROW 41 (0,0)) → (W.setRow w.heap.size C1).heap[w.heap.size]? = some (.cells C1 41 (0,0)) ∧ (W.setRow w.heap.size C1).heap[g]? = some (.cells cur 41 (0,0)):=fun W hW =>
  ⟨setRow_heap W w.heap.size ROW C1 41 (0,0) (by rw [hW];simp),(setRow_other W w.heap.size g C1 (by omega)).trans (by rw [hW,Array.getElem?_push,if_neg (by omega)];exact hg)⟩
 have hA2 : ∀ W : World,W.heap = w.heap.push (.cells ROW 41 (0,0)) → ∀ W2 : World,W2.heap = (W.setRow w.heap.size C1).heap → (W2.setRow w.heap.size C2).heap[w.heap.size]? = some (.cells C2 41 (0,0)) ∧ (∀ k,k < w.heap.size → (W2.setRow w.heap.size C2).heap[k]? = w.heap[k]?) ∧ w.heap.size ≤ (W2.setRow w.heap.size C2).heap.size:=fun W hW W2 hW2 =>
  ⟨setRow_heap W2 w.heap.size C1 C2 41 (0,0) (by rw [hW2];exact (hA1 W hW).1),fun k hk => (setRow_other W2 w.heap.size k C2 (by omega)).trans (by rw [hW2,setRow_other W w.heap.size k C1 (by omega),hW,Array.getElem?_push,if_neg (by omega)]),by rw [size_setRow,hW2,size_setRow,hW,Array.size_push];omega⟩
 rw [hcs,hvs,hos] at hfin
 have FIN:=Aside0.mk hfin
 have A1:=Aside0.mk hA1
 have A2:=Aside0.mk hA2
 have hE : ((w.alloc (.cells ROW 41)).drew).heap = w.heap.push (.cells ROW 41 (0,0)):=rfl
 have hcpB':=hcpB (((w.alloc (.cells ROW 41)).drew.setRow w.heap.size C1).drew) (A1.out _ hE).1 (A1.out _ hE).2
 have hGi : ¬ (G = i):=by omega
 have hGim : ¬ (G = i + 1):=by omega
 have hci : ¬ (c = i):=by omega
 have hb1 : (i : Int) + 1 ≤ (G : Int):=by omega
 clear hfin hA1 hA2 hC1l hC1 hC2 hcs hvs hos hcsg hvg hcs1 hvs1 h1c h1v hg hv hC1s hcl hvl hold hROW hRs hRo hol hG
 go_enter Tryd.func37,Tryd.ntmps37
 go_wp2_with (first
  | (at_builtin;refine Lib.wpList_append_run _ rfl _ _ _ _ rfl _ _ rfl rfl _ _ (hrz _) ?_)
  | (at_builtin;refine wpList_copy_runI _ rfl _ _ 30 30 rfl _ _ rfl rfl (hcpA _ hE _ _ _) ?_))
 go_region_law_o (refine step_copy_runI rfl _ _ 30 30 rfl _ _ (by simp [Act.eval,Act.put]) (by simp [Act.eval,Act.put]) (hcpB' _ _ _) ?_)
 go_wp2
 go_ret
 exact ⟨G,rfl,hGn,hGm,C2,FIN.out.1,FIN.out.2,(A2.out _ hE _ rfl).1,⟨rfl,rfl,rfl,(A2.out _ hE _ rfl).2.2,(A2.out _ hE _ rfl).2.1⟩⟩
theorem INS_reps {w w1 : World} {b b1 : Nat} {o o1 : Nat → Prop} {xs : List S41} {cs : List Value} (h : Reps (k41.M w b o) k41.sz xs cs) : Reps (k41.M w1 b1 o1) 3 xs cs :=
 Reps.imp_ h (fun p c hm => by obtain rfl:=k41_openM hm;exact k41_mkM _ _ _ p)
def slices_Insert_impl_Reading.f (l0 : List S41) (a1 : Int) (l2 : List S41) : Option (List S41):=if 0 ≤ a1 then (if a1 ≤ (l0.length : Int) then (if l2.length = 1 then (if l0.length < 1000000000 then some (l0.take a1.toNat ++ l2 ++ l0.drop a1.toNat) else none) else none) else none) else none
set_option maxHeartbeats 4000000 in
set_option maxRecDepth 100000 in
theorem slices_Insert_impl_Reading.calls (P0_ : Nat → Prop) (u9000_ : Value) (l0 : List S41) (a1 : Int) (P2_ : Nat → Prop) (u9001_ : Value) (l2 : List S41) (r : List S41) (w0 w : World) (hB : Below w0.heap.size w0 w) (ho0 : Kd.R k41 41 w w0.heap.size P0_ u9000_ l0) (hd0 : ∀ k_,P0_ k_ → ¬ P2_ k_)
  (ho2 : Kd.R k41 41 w w0.heap.size P2_ u9001_ l2) (hd2 : ∀ k_,P2_ k_ → ¬ P0_ k_) (h : slices_Insert_impl_Reading.f l0 a1 l2 = some r) :
  Calls Tryd.prog 37 #[u9000_, .int .i64 a1,u9001_] w fun e w' => ∃ v1 : Value,e = .returned v1 ∧ Kd.R k41 41 w' w0.heap.size (fun k_ => ((P0_ k_ ∨ P2_ k_) ∨ w.heap.size ≤ k_)) v1 r ∧ Below w0.heap.size w0 w' ∧ Kept w w' (fun k_ => (P0_ k_ ∨ P2_ k_)):=by
 unfold slices_Insert_impl_Reading.f at h
 by_cases c1 : 0 ≤ a1
 ·rw [if_pos c1] at h
  by_cases c2 : a1 ≤ (l0.length : Int)
  ·rw [if_pos c2] at h
   by_cases c3 : l2.length = 1
   ·rw [if_pos c3] at h
    by_cases c4 : l0.length < 1000000000
    ·rw [if_pos c4] at h
     obtain rfl:=Option.some.inj h
     obtain ⟨i,rfl⟩ : ∃ i : Nat,a1 = (i : Int):=⟨a1.toNat,by omega⟩
     rw [Int.toNat_natCast]
     have ho2':=ho2
     obtain ⟨hok2,inner2,hown2,hr2⟩ := ho2'
     obtain ⟨hl2,hnil2 | ⟨vb,vc,vcur,hv2,hvbase,hv,hvn,hvcap,hvsz,hvtk⟩⟩ := hown2
     ·omega
     ·subst hv2
      rw [c3] at hvtk hvn
      by_cases e : i = l0.length
      ·subst e
       obtain ⟨A0,c0,rfl⟩ := Kd.R_slice ho0
       have rd2:=(Kd.R_reads' ho2).2.2
       rw [c3] at rd2
       rw [c3]
       refine (INS_end hB ho0 rd2 c3 c4).mono fun ee w' ⟨v1,he,hR,hb,hk⟩ => ⟨v1,he, ?_,hb,hk.mono (fun k q => .inl q)⟩
       rw [List.take_length,List.drop_length,List.append_nil]
       exact Kd.R_mono hR (fun k q => q.elim (fun q => .inl (.inl q)) .inr)
      ·have hi : i < l0.length:=by omega
       have ho0':=ho0
       obtain ⟨hok0,inner,hown,hr⟩ := ho0'
       obtain ⟨hl0,hnil | ⟨g,c,cur,hv0,hgbase,hg,hn,hcap,hsz,htk⟩⟩ := hown
       ·omega
       ·subst hv0
        have pg : P0_ g:=hok0 g rfl
        have pv : P2_ vb:=hok2 vb rfl
        have hne : vb ≠ g:=fun q => hd0 g pg (q ▸ pv)
        have sz3 : k41.sz = 3:=rfl
        rw [sz3] at hl2 hvsz hvtk hl0 hsz htk
        rw [Nat.one_mul] at hvtk
        have o1 : ∀ v ∈ cur.toList.take (l0.length * 3),v.oneCell' = true:=by
         rw [htk]
         exact Kd.reps_one hr (by decide) (fun p c hm => k41.K_one (k41.K_of_M hm))
        have o2 : ∀ v ∈ vcur.toList.take 3,v.oneCell' = true:=by
         rw [hvtk]
         exact Kd.reps_one hr2 (by decide) (fun p c hm => k41.K_one (k41.K_of_M hm))
        have rlen : (l0.take i ++ l2 ++ l0.drop i).length = l0.length + 1:=by
         rw [List.length_append,List.length_append,List.length_take,List.length_drop,c3]
         omega
        have seg : cur.toList.take (i * 3) = inner.take (i * 3):=by rw [← htk,List.take_take,Nat.min_eq_left (by omega)]
        have mk : ∀ (w' : World) (b : Nat) (o : Nat → Prop),Reps (k41.M w' b o) 3 (l0.take i ++ l2 ++ l0.drop i) (inner.take (i * 3) ++ inner2 ++ inner.drop (i * 3)):=fun w' b o => Kd.reps_append (Kd.reps_append (Kd.reps_take (INS_reps hr) (by omega)) (INS_reps hr2)) (Kd.reps_drop (INS_reps hr))
        have ilen : (inner.take (i * 3) ++ inner2 ++ inner.drop (i * 3)).length = (l0.length + 1) * 3:=by
         rw [List.length_append,List.length_append,List.length_take,List.length_drop,hl0,hl2,c3]
         omega
        rw [c3]
        by_cases hroom : l0.length + 1 ≤ c
        ·refine (INS_shift hi hroom hcap hg hsz hv hvsz hvn hne o1 o2).mono fun ee w' ⟨he,cur2,z1,z2,z3,z4,z5,z6⟩ => ⟨_,he, ?_,hB.trans (z6 _ hgbase),⟨Nat.le_of_eq z5.symm,fun k hk hns => z4 k (fun q => hns (by rw [q];exact .inl pg))⟩⟩
         rw [htk,hvtk,seg] at z2
         refine ⟨fun k hk => by injection hk with hk;subst hk;exact .inl (.inl pg),_,⟨by rw [ilen,rlen];rfl,Or.inr ⟨g,c,cur2,by rw [rlen],hgbase,z3,by rw [rlen];exact hroom,hcap,z1,by rw [rlen];exact z2⟩⟩,mk _ _ _⟩
        ·refine (INS_grow hi hn (by omega) c4 hg hsz hv hvsz hvn o1 o2).mono fun ee w' ⟨G,he,g1,g2,cur2,z1,z2,z3,z4⟩ => ⟨_,he, ?_,hB.trans (z4.mono hB.size),Kept.of_below z4 _⟩
         rw [htk,hvtk,seg] at z2
         refine ⟨fun k hk => by injection hk with hk;subst hk;exact .inr (Nat.le_refl _),_,⟨by rw [ilen,rlen];rfl,Or.inr ⟨w.heap.size,G,cur2,by rw [rlen],hB.size,z3,by rw [rlen];exact g1,g2,z1,by rw [rlen];exact z2⟩⟩,mk _ _ _⟩
    ·rw [if_neg c4] at h
     cases h
   ·rw [if_neg c3] at h
    cases h
  ·rw [if_neg c2] at h
   cases h
 ·rw [if_neg c1] at h
  cases h

/-! ### slices_Clone_impl_Reading: function 38 -/
def slices_Clone_impl_Reading.f (l0 : List (S41)) : Option ((List (S41))):=(some (([] : List (S41)) : List (S41))).bind fun y325 => (if y325.length + l0.length < 5864062014805 then (some (y325 ++ l0)) else (none))
set_option maxHeartbeats 8000000 in
set_option maxRecDepth 100000 in
theorem slices_Clone_impl_Reading.calls (A0 : Option Addr) (c0 : Nat) (l0 : List (S41)) (r : List (S41)) (w : World) (hr0 : Kd.C k41 w A0 l0.length l0) (hc0 : l0.length ≤ c0) (h : slices_Clone_impl_Reading.f l0 = some r) :
  Calls Tryd.prog 38 #[.slice A0 l0.length c0] w fun e w' => ∃ v0_ : Value,e = .returned (v0_) ∧ Kd.R k41 41 w' w.heap.size (fun _ => True) v0_ r ∧ Below w.heap.size w w':=by
 have HR0:=Aside0.mk hr0
 have HC0:=Aside0.mk hc0
 clear hr0 hc0
 have HB:=Aside0.mk (Below.refl w.heap.size w)
 have H : ((some (([] : List (S41)) : List (S41))).bind fun y325 => (if y325.length + l0.length < 5864062014805 then (some (y325 ++ l0)) else (none))) = some r:=h
 clear h
 obtain ⟨y325,hy325⟩ : ∃ y_ : List (S41),y_ = (([] : List (S41))):=⟨_,rfl⟩
 replace H : (if y325.length + l0.length < 5864062014805 then (some (y325 ++ l0)) else (none)) = some r:=by (have H2_:=(Option.bind_some _ _).symm.trans H;rw [hy325];with_reducible exact H2_)
 have Ny325:=Aside0.mk hy325
 clear hy325
 by_cases c2 : y325.length + l0.length < 5864062014805
 ·rw [if_pos c2] at H
  have LMc2:=Aside0.mk c2
  clear c2
  obtain ⟨y328,hy328⟩ : ∃ y_ : List (S41),y_ = (y325 ++ l0):=⟨_,rfl⟩
  replace H : (some y328) = some r:=by (rw [hy328];with_reducible exact H)
  have Ny328:=Aside0.mk hy328
  clear hy328
  obtain rfl:=Option.some.inj H
  have hnil_:=fun (w_ : World) (a_ : Option Addr) (n_ c_ : Nat) => Lib.run_eql_slice_nil (P:=Tryd.prog) w_ 30 41 a_ n_ c_ 0 0 Tryd.underlying30
  rcases A0 with _ | ad0_
  ·have l0nil : l0 = []:=by
    rcases l0 with _ | ⟨x_,l_⟩
    ·rfl
    ·obtain ⟨ad_,e_,_⟩ := HR0.out.2.2 (by simp)
     cases e_
   have rnil : y328 = []:=by rw [Ny328.out,Ny325.out,l0nil];rfl
   subst rnil
   subst l0nil
   go_enter Tryd.func38,Tryd.ntmps38
   go_wp2
   go_ret
   exact ⟨_,rfl,Kd.R_nil _ _ _ _ _,Below.refl _ _⟩
  ·go_enter Tryd.func38,Tryd.ntmps38
   go_wp2_with (first | ((with_reducible refine gate_dst (N:=5) rfl ?_);refine Kd.R_lit k41 _ 41 ?hg (N:=5) ?hd (xs:=([] : List (S41))) (inner := []) (ok:=fun _ => True) (okp:=fun _ => True) ?hr ?hp (fun _ hk => hk) trivial (Below.refl _ _) (Nat.le_refl _) (by simp) ?_;(case hd => rfl);(case hg => rfl);(case hr => (go_simp;done));(case hp => exact (Reps.none _ _));intro v326 w3 ho4 hb hg_ hnew_;clear hg_ hnew_;(rw [← Ny325.out] at ho4);have n0_:=Aside0.mk (Kd.R_lower ho4 (below_size (by exact HB.out)));have n1_:=Aside0.mk (below_step (by exact HB.out) hb);clear HB;have HO327:=n0_;have HB:=n1_;clear n0_ n1_;clear hb ho4) | ((with_reducible refine gate_builtin (b := .append) (xs:=#[.tmp 5, .tmp 6]) rfl ?_);at_builtin;refine Kd.R_append_rows k41 (w0:=w) w.heap.size rfl (.tmp 5) (.tmp 6) 30 41 (.agg #[(.int .i64 0),(.int .i64 0),(.bool false)]) 24 rfl Tryd.underlying30 info41 rfl (by decide) (by omega) v326 y325 l0 _ _ _ (fun _ => True) (fun _ => False) rfl rfl ?aO ?aR (fun _ _ h => h) (fun _ h => h.elim) ?aF ?aB ?aS ?aL ?_;(case aR => repeat (exact (Kd.C_below HR0.out HB.out)));(case aB => exact (by exact HB.out));(case aF => exact (fun _ _ => trivial));(case aO => exact (by exact HO327.out));(case aS => exact (below_size (by exact HB.out)));(case aL => have:=LMc2.out;omega);intro v329 w5 ho hb hg hat;rw [← Ny328.out] at ho;have n0_:=Aside0.mk (hb);have n1_:=Aside0.mk (ho);clear HB;clear HO327;have HB:=n0_;have HO330:=n1_;clear n0_ n1_;clear ho hb hg hat))
   go_ret
   exact ⟨_,by rfl,by exact HO330.out,by exact HB.out⟩
 ·rw [if_neg c2] at H
  exact absurd H (by simp)

end Go.Proofs.YtpelcaijjdgnoaaDoor.PFnReadings
